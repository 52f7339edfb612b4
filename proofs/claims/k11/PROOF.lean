import PyProof.Rows.All
import Wide.All
import OpenK.AllK
import Wide.FinOn
import PyProof.EqAt
import PyProof.EqKinds
import PyProof.TupleCall
import HandS.ForMost
import HandS.Exc
import HandS.TryOnly
import HandS.ExcOwn
import HandS.WordsExc
import HandS.More
import HandS.Deep
import HandS.IsInst
import HandS.Wide
import HandS.Style
import HandS.Codes
import PySem.Challenge.RW_cardwhole_k11_records
set_option Elab.async false
set_option linter.all false
set_option maxRecDepth 100000
set_option maxHeartbeats 2000000
/-! Cw, part A: data that stands still (S), a ledger of what may change (L), names by data; the judgements. -/
namespace Cw
open PySem PySem.Spec PyProof.Rows L2

/-! ### paired lists -/
section
variable {α β : Type} {F G : α → β → Prop}
theorem pget : ∀ {xs : List α} {ys : List β} {i : Nat} {y : β}, Paired F xs ys → ys[i]? = some y → ∃ x, xs[i]? = some x ∧ F x y
  | _, _, _, _, .nil, h => by simp at h
  | _, _, 0, _, .cons r _, h => ⟨_, rfl, by have e := Option.some.inj h; subst e; exact r⟩
  | _, _, i + 1, y, .cons _ t, h => by
    obtain ⟨x, h1, h2⟩ := pget (i := i) (y := y) t (by simpa using h)
    exact ⟨x, by simpa using h1, h2⟩
theorem pgetL : ∀ {xs : List α} {ys : List β} {i : Nat} {x : α}, Paired F xs ys → xs[i]? = some x → ∃ y, ys[i]? = some y ∧ F x y
  | _, _, _, _, .nil, h => by simp at h
  | _, _, 0, _, .cons r _, h => ⟨_, rfl, by have e := Option.some.inj h; subst e; exact r⟩
  | _, _, i + 1, x, .cons _ t, h => by
    obtain ⟨y, h1, h2⟩ := pgetL (i := i) (x := x) t (by simpa using h)
    exact ⟨y, by simpa using h1, h2⟩
theorem papp : ∀ {xs xs' : List α} {ys ys' : List β}, Paired F xs ys → Paired F xs' ys' → Paired F (xs ++ xs') (ys ++ ys')
  | _, _, _, _, .nil, s => s
  | _, _, _, _, .cons r t, s => .cons r (papp t s)
theorem ptake : ∀ {xs : List α} {ys : List β} (n : Nat), Paired F xs ys → Paired F (xs.take n) (ys.take n)
  | _, _, 0, _ => .nil
  | _, _, _ + 1, .nil => .nil
  | _, _, n + 1, .cons r t => .cons r (ptake n t)
theorem pdrop : ∀ {xs : List α} {ys : List β} (n : Nat), Paired F xs ys → Paired F (xs.drop n) (ys.drop n)
  | _, _, 0, r => r
  | _, _, _ + 1, .nil => .nil
  | _, _, n + 1, .cons _ t => pdrop n t
theorem pset {x : α} {y : β} (r : F x y) : ∀ {xs : List α} {ys : List β} (i : Nat), Paired F xs ys → Paired F (xs.set i x) (ys.set i y)
  | _, _, _, .nil => .nil
  | _, _, 0, .cons _ t => .cons r t
  | _, _, i + 1, .cons q t => .cons q (pset r i t)
theorem prev : ∀ {xs : List α} {ys : List β}, Paired F xs ys → Paired F xs.reverse ys.reverse
  | _, _, .nil => .nil
  | _, _, .cons r t => by
    rw [List.reverse_cons, List.reverse_cons]
    exact papp (prev t) (.cons r .nil)
theorem pflat : ∀ {xss : List α} {ys : List β}, Paired F xss ys → (∀ a b, F a b → G a b) → Paired G xss ys
  | _, _, .nil, _ => .nil
  | _, _, .cons r t, f => .cons (f _ _ r) (pflat t f)
theorem pmap {γ δ : Type} {R : γ → δ → Prop} {f : α → γ} {g : β → δ} (h : ∀ a b, F a b → R (f a) (g b)) : ∀ {xs : List α} {ys : List β}, Paired F xs ys → Paired R (xs.map f) (ys.map g)
  | _, _, .nil => .nil
  | _, _, .cons r t => .cons (h _ _ r) (pmap h t)
end

/-! ### what stands still -/
def Sub (H H' : Hp) : Prop := ∀ a o, H a = some o → H' a = some o
theorem Sub.refl (H : Hp) : Sub H H := fun _ _ h => h
theorem Sub.trans {H H1 H2 : Hp} (a : Sub H H1) (b : Sub H1 H2) : Sub H H2 := fun c o h => b c o (a c o h)
theorem Sub.new {H : Hp} {p : Addr} {o : HO} (h : H p = none) : Sub H (upd H p o) := fun b u e => by
  rw [upd_ne (ne_of_none e h)]
  exact e
theorem Sub.both {S H : Hp} {p : Addr} {o : HO} (h : Sub S H) : Sub (upd S p o) (upd H p o) := fun b u e => by
  by_cases hb : b = p
  · subst hb
    rw [upd_same] at e ⊢
    exact e
  · rw [upd_ne hb] at e ⊢
    exact h b u e
theorem Sub.none {S H : Hp} {p : Addr} (h : Sub S H) (hp : H p = none) : S p = none := by
  cases q : S p with
  | none => rfl
  | some o =>
    rw [h p o q] at hp
    cases hp
/-- H changes where S has nothing -/
theorem Sub.mut {S H : Hp} {p : Addr} {o : HO} (h : Sub S H) (hp : S p = Option.none) : Sub S (upd H p o) := fun b u e => by
  rw [upd_ne (ne_of_none e hp)]
  exact h b u e

mutual
/-- v is the data d, all of whose parts stand in S -/
inductive Da (S : Hp) : V → PyData → Prop
  | non : Da S .non .none
  | bl (b : Bool) : Da S (.bl b) (.bool b)
  | int (i : Int) : Da S (.int i) (.int i)
  | str (x : Str) : Da S (.str x) (.str x)
  | lst {a : Addr} {xs : List V} {ds : List PyData} : S a = some (.lst xs) → DaAll S xs ds → Da S (.ref a) (.list ds)
  | tup {a : Addr} {xs : List V} {ds : List PyData} : S a = some (.tup xs) → DaAll S xs ds → Da S (.ref a) (.tuple ds)
inductive DaAll (S : Hp) : List V → List PyData → Prop
  | nil : DaAll S [] []
  | cons {v : V} {vs : List V} {d : PyData} {ds : List PyData} : Da S v d → DaAll S vs ds → DaAll S (v :: vs) (d :: ds)
end
section
variable {S S' : Hp} {K : PySem.W.Frag}
theorem DaAll.pd : ∀ {xs : List V} {ds : List PyData}, DaAll S xs ds → Paired (Da S) xs ds
  | _, _, .nil => .nil
  | _, _, .cons h t => .cons h t.pd
theorem DaAll.of : ∀ {xs : List V} {ds : List PyData}, Paired (Da S) xs ds → DaAll S xs ds
  | _, _, .nil => .nil
  | _, _, .cons h t => .cons h (DaAll.of t)
mutual
theorem Da.mono (h : Sub S S') : ∀ {v : V} {d : PyData}, Da S v d → Da S' v d
  | _, _, .non => .non
  | _, _, .bl b => .bl b
  | _, _, .int i => .int i
  | _, _, .str x => .str x
  | _, _, .lst e t => .lst (h _ _ e) (DaAll.mono h t)
  | _, _, .tup e t => .tup (h _ _ e) (DaAll.mono h t)
theorem DaAll.mono (h : Sub S S') : ∀ {xs : List V} {ds : List PyData}, DaAll S xs ds → DaAll S' xs ds
  | _, _, .nil => .nil
  | _, _, .cons a t => .cons (Da.mono h a) (DaAll.mono h t)
end
mutual
theorem Da.dp : ∀ {v : V} {d : PyData}, Da S v d → Dp K S v d
  | _, _, .non => .non
  | _, _, .bl b => .bl b
  | _, _, .int i => .int i
  | _, _, .str x => .str x
  | _, _, .lst e t => .lst (SqL.of e) (DaAll.dp t)
  | _, _, .tup e t => .tup (SqT.of e) (DaAll.dp t)
theorem DaAll.dp : ∀ {xs : List V} {ds : List PyData}, DaAll S xs ds → DpAll K S xs ds
  | _, _, .nil => .nil
  | _, _, .cons a t => .cons (Da.dp a) (DaAll.dp t)
end
end

/-! ### results, objects that may change -/
/-- a value: data, or the very value (a handle) -/
inductive Rv where
  | dt (x : PyData) | vl (x : V)
def Rv.is (S : Hp) : Rv → V → Prop
  | .dt x, u => Da S u x
  | .vl x, u => u = x
theorem Rv.is.mono {S S' : Hp} (h : Sub S S') : ∀ {r : Rv} {v : V}, r.is S v → r.is S' v
  | .dt _, _, a => Da.mono h a
  | .vl _, _, a => a
abbrev Rvs (S : Hp) (rs : List Rv) (vs : List V) : Prop := Paired (fun r v => Rv.is S r v) rs vs
theorem Rvs.mono {S S' : Hp} (h : Sub S S') {rs : List Rv} {vs : List V} (a : Rvs S rs vs) : Rvs S' rs vs := pflat a fun _ _ => Rv.is.mono h
theorem Rvs.data {S : Hp} : ∀ {ds : List PyData} {vs : List V}, Rvs S (ds.map Rv.dt) vs → DaAll S vs ds
  | [], _, .nil => .nil
  | _ :: _, _, .cons a t => .cons a (Rvs.data t)
theorem Rvs.of {S : Hp} : ∀ {ds : List PyData} {vs : List V}, DaAll S vs ds → Rvs S (ds.map Rv.dt) vs
  | _, _, .nil => .nil
  | _, _, .cons a t => .cons a (Rvs.of t)
inductive MO where
  | lst (rs : List Rv)
  | ins (C : Addr) (fs : List (Str × Rv))
  | dK (kvs : List (Key × Rv))
  | dT (kvs : List (List Key × Rv))
  /-- a list that is read alone: the script -/
  | frz (rs : List Rv)
abbrev RF (S : Hp) {κ : Type} (fs : List (κ × Rv)) (gs : List (κ × V)) : Prop := Paired (fun p q => p.1 = q.1 ∧ Rv.is S p.2 q.2) fs gs
theorem RF.mono {S S' : Hp} {κ : Type} (h : Sub S S') {rs : List (κ × Rv)} {vs : List (κ × V)} (a : RF S rs vs) : RF S' rs vs := pflat a fun _ _ r => ⟨r.1, r.2.mono h⟩
def MO.is (S : Hp) : MO → HO → Prop
  | .lst rs, o => ∃ xs, o = .lst xs ∧ Rvs S rs xs
  | .ins C fs, o => ∃ dx gs, o = .ins C dx gs ∧ RF S fs gs
  | .dK kvs, o => ∃ gs, o = .dK gs ∧ RF S kvs gs
  | .dT kvs, o => ∃ gs, o = .dT gs ∧ RF S kvs gs
  | .frz rs, o => ∃ ob xs, o = .frz ob (.lst xs) ∧ Rvs S rs xs
theorem MO.is.mono {S S' : Hp} (h : Sub S S') : ∀ {m : MO} {o : HO}, m.is S o → m.is S' o
  | .lst _, _, ⟨xs, e, r⟩ => ⟨xs, e, r.mono h⟩
  | .ins _ _, _, ⟨dx, gs, e, r⟩ => ⟨dx, gs, e, RF.mono h r⟩
  | .dK _, _, ⟨gs, e, r⟩ => ⟨gs, e, RF.mono h r⟩
  | .dT _, _, ⟨gs, e, r⟩ => ⟨gs, e, RF.mono h r⟩
  | .frz _, _, ⟨ob, xs, e, r⟩ => ⟨ob, xs, e, r.mono h⟩
abbrev Led := Addr → Option MO
def updL (L : Led) (a : Addr) (m : MO) : Led := fun b => if b = a then some m else L b
theorem updL_same {L : Led} {a : Addr} {m : MO} : updL L a m a = some m := by unfold updL; rw [if_pos rfl]
theorem updL_ne {L : Led} {a b : Addr} {m : MO} (h : b ≠ a) : updL L a m b = L b := by unfold updL; rw [if_neg h]
theorem updL_updL {L : Led} {a : Addr} {m n : MO} : updL (updL L a m) a n = updL L a n := by
  funext b; unfold updL; split <;> rfl
theorem updL_comm {L : Led} {a b : Addr} {m n : MO} (h : a ≠ b) : updL (updL L a m) b n = updL (updL L b n) a m := by
  funext c
  unfold updL
  by_cases h1 : c = a
  · subst h1
    rw [if_neg h, if_pos rfl, if_pos rfl]
  · by_cases h2 : c = b
    · subst h2
      rw [if_pos rfl, if_neg h1, if_pos rfl]
    · rw [if_neg h2, if_neg h1, if_neg h1, if_neg h2]
theorem updL_eta {L : Led} {a : Addr} {m : MO} (h : L a = some m) : updL L a m = L := by
  funext b
  unfold updL
  split
  · rename_i e
    subst e
    exact h.symm
  · rfl
def delL (L : Led) (a : Addr) : Led := fun b => if b = a then none else L b
def Le (L L' : Led) : Prop := ∀ a m, L a = some m → L' a = some m
theorem Le.refl (L : Led) : Le L L := fun _ _ h => h
theorem Le.trans {L L1 L2 : Led} (a : Le L L1) (b : Le L1 L2) : Le L L2 := fun c o h => b c o (a c o h)

structure Ok (S H : Hp) (L : Led) : Prop where
  sub : Sub S H
  led : ∀ a m, L a = some m → S a = none ∧ ∃ o, H a = some o ∧ m.is S o
section
variable {S H : Hp} {L L' : Led} {p : Addr} {o o' : HO} {m : MO}
theorem Ok.le (k : Ok S H L) (h : Le L' L) : Ok S H L' := ⟨k.sub, fun a m e => k.led a m (h a m e)⟩
theorem Ok.free (k : Ok S H L) (h : H p = none) : L p = none := by
  cases q : L p with
  | none => rfl
  | some m =>
    obtain ⟨_, o, e, _⟩ := k.led p m q
    rw [h] at e
    cases e
/-- a new object, for good -/
theorem Ok.still (k : Ok S H L) (h : H p = none) : Ok (upd S p o) (upd H p o) L := ⟨k.sub.both, fun a m e => by
  obtain ⟨s, o', e', i⟩ := k.led a m e
  have ne : a ≠ p := ne_of_none e' h
  exact ⟨by rw [upd_ne ne]; exact s, o', by rw [upd_ne ne]; exact e', i.mono (Sub.new (k.sub.none h))⟩⟩
/-- a new object that may change -/
theorem Ok.new (k : Ok S H L) (h : H p = none) (i : m.is S o) : Ok S (upd H p o) (updL L p m) := ⟨k.sub.mut (k.sub.none h), fun a m' e => by
  by_cases ha : a = p
  · subst ha
    rw [updL_same] at e
    cases e
    exact ⟨k.sub.none h, o, upd_same, i⟩
  · rw [updL_ne ha] at e
    obtain ⟨s, o', e', i'⟩ := k.led a m' e
    exact ⟨s, o', by rw [upd_ne ha]; exact e', i'⟩⟩
/-- a new object that nobody asks after -/
theorem Ok.dust (k : Ok S H L) (h : H p = none) : Ok S (upd H p o) L := ⟨k.sub.mut (k.sub.none h), fun a m' e => by
  obtain ⟨s, o', e', i'⟩ := k.led a m' e
  exact ⟨s, o', by rw [upd_ne (ne_of_none e' h)]; exact e', i'⟩⟩
/-- an object of the ledger changes -/
theorem Ok.write {m0 : MO} (k : Ok S H L) (h : L p = some m0) (i : m.is S o) : Ok S (upd H p o) (updL L p m) := by
  have sp := (k.led p m0 h).1
  exact ⟨k.sub.mut sp, fun a m' e => by
    by_cases ha : a = p
    · subst ha
      rw [updL_same] at e
      cases e
      exact ⟨sp, o, upd_same, i⟩
    · rw [updL_ne ha] at e
      obtain ⟨s, o', e', i'⟩ := k.led a m' e
      exact ⟨s, o', by rw [upd_ne ha]; exact e', i'⟩⟩
/-- a list of the ledger is data from now on -/
theorem Ok.settle {ds : List PyData} (k : Ok S H L) (h : L p = some (.lst (ds.map Rv.dt))) : ∃ S', Sub S S' ∧ Ok S' H (delL L p) ∧ Da S' (.ref p) (.list ds) ∧ ∀ a o, S' a = some o → S a = none → a = p := by
  obtain ⟨sp, o, e, xs, rfl, i⟩ := k.led p _ h
  have sub : Sub S (upd S p (.lst xs)) := Sub.new sp
  refine ⟨upd S p (.lst xs), sub, ⟨fun b u eb => ?_, fun a m' ea => ?_⟩, .lst upd_same ((Rvs.data i).mono sub), fun a o e n => ?_⟩
  · by_cases hb : b = p
    · subst hb
      rw [upd_same] at eb
      cases eb
      exact e
    · rw [upd_ne hb] at eb
      exact k.sub b u eb
  · unfold delL at ea
    split at ea
    · cases ea
    · rename_i ne
      obtain ⟨s, o', e', i'⟩ := k.led a m' ea
      exact ⟨by rw [upd_ne ne]; exact s, o', e', i'.mono sub⟩
  · by_cases ha : a = p
    · exact ha
    · rw [upd_ne ha, n] at e
      cases e
end

/-! ### steps -/
/-- from (S, H, L) to (S', H', L'): what stands stands; what no ledger knew is as it was; what is new in the ledger was nothing -/
structure Step (S H : Hp) (L : Led) (S' H' : Hp) (L' : Led) : Prop where
  sub : Sub S S'
  ok : Ok S' H' L'
  fr : ∀ a o, H a = some o → L a = none → H' a = some o
  nw : ∀ a m, L' a = some m → L a = none → H a = none
  ns : ∀ a o, S' a = some o → S a = none → L a = none → H a = none
section
variable {S H S1 H1 S2 H2 : Hp} {L L' La Lb : Led} {p : Addr} {o : HO} {m m0 : MO}
theorem Step.refl (k : Ok S H L) : Step S H L S H L := ⟨Sub.refl S, k, fun _ _ e _ => e, (fun _ _ e n => by rw [e] at n; cases n), fun _ _ e n _ => by rw [e] at n; cases n⟩
theorem Step.trans (a : Step S H L S1 H1 La) (b : Step S1 H1 La S2 H2 Lb) : Step S H L S2 H2 Lb := ⟨a.sub.trans b.sub, b.ok, fun c o e n => b.fr c o (a.fr c o e n) (by
  cases q : La c with
  | none => rfl
  | some m =>
    have z := a.nw c m q n
    rw [e] at z
    cases z), (fun c m e n => by
  cases q : La c with
  | some m' => exact a.nw c m' q n
  | none =>
    have z := b.nw c m e q
    cases r : H c with
    | none => rfl
    | some o =>
      rw [a.fr c o r n] at z
      cases z), fun c o e n nl => by
  cases q : S1 c with
  | some o' => exact a.ns c o' q n nl
  | none =>
    cases q2 : La c with
    | some m' => exact a.nw c m' q2 nl
    | none =>
      have z := b.ns c o e q q2
      cases r : H c with
      | none => rfl
      | some o =>
        rw [a.fr c o r nl] at z
        cases z⟩
theorem Step.still (k : Ok S H L) (h : H p = none) : Step S H L (upd S p o) (upd H p o) L := ⟨Sub.new (k.sub.none h), k.still h, fun a u e _ => Sub.new h a u e, (fun _ _ e n => by rw [e] at n; cases n), fun a u e n _ => by
  by_cases ha : a = p
  · subst ha
    exact h
  · rw [upd_ne ha, n] at e
    cases e⟩
theorem Step.new (k : Ok S H L) (h : H p = none) (i : m.is S o) : Step S H L S (upd H p o) (updL L p m) := ⟨Sub.refl S, k.new h i, fun a u e _ => Sub.new h a u e, (fun a m' e n => by
  by_cases ha : a = p
  · subst ha
    exact h
  · rw [updL_ne ha, n] at e
    cases e), fun _ _ e n _ => by rw [e] at n; cases n⟩
theorem Step.dust (k : Ok S H L) (h : H p = none) : Step S H L S (upd H p o) L := ⟨Sub.refl S, k.dust h, fun a u e _ => Sub.new h a u e, (fun _ _ e n => by rw [e] at n; cases n), fun _ _ e n _ => by rw [e] at n; cases n⟩
theorem Step.write (k : Ok S H L) (h : L p = some m0) (i : m.is S o) : Step S H L S (upd H p o) (updL L p m) := ⟨Sub.refl S, k.write h i, (fun a u e n => by
  have ne : a ≠ p := fun z => by rw [z, h] at n; cases n
  rw [upd_ne ne]
  exact e), (fun a m' e n => by
  have ne : a ≠ p := fun z => by rw [z, h] at n; cases n
  rw [updL_ne ne, n] at e
  cases e), fun _ _ e n _ => by rw [e] at n; cases n⟩
theorem Step.le (t : Step S H L S1 H1 La) (h : Le Lb La) : Step S H L S1 H1 Lb := ⟨t.sub, t.ok.le h, t.fr, fun a m e n => t.nw a m (h a m e) n, t.ns⟩
/-- the ledger ahead may be forgotten -/
theorem Step.pre (t : Step S H L S1 H1 La) (h : Le L L') (k : Ok S H L') : Step S H L' S1 H1 La := ⟨t.sub, t.ok, fun a o e n => t.fr a o e (by
  cases q : L a with
  | none => rfl
  | some m => rw [h a m q] at n; cases n), (fun a m e n => t.nw a m e (by
  cases q : L a with
  | none => rfl
  | some m => rw [h a m q] at n; cases n)), fun a o e n nl => t.ns a o e n (by
  cases q : L a with
  | none => rfl
  | some m => rw [h a m q] at nl; cases nl)⟩
theorem Step.settle {ds : List PyData} (k : Ok S H L) (h : L p = some (.lst (ds.map Rv.dt))) : ∃ S', Step S H L S' H (delL L p) ∧ Da S' (.ref p) (.list ds) := by
  obtain ⟨S', a, b, c, d⟩ := k.settle h
  exact ⟨S', ⟨a, b, fun _ _ e _ => e, (fun x m e n => by
    unfold delL at e
    split at e
    · cases e
    · rw [e] at n
      cases n), fun x o e n nl => by
    have z := d x o e n
    rw [z, h] at nl
    cases nl⟩, c⟩
end

/-! ### names -/
abbrev Slots := List (Option V)
abbrev Rho := List (Option Rv)
structure Es (S : Hp) (σ : Slots) (ρ : Rho) : Prop where
  len : σ.length = ρ.length
  at_ : ∀ (i : Nat) (r : Rv), ρ[i]? = some (some r) → ∃ v, σ[i]? = some (some v) ∧ r.is S v
section
variable {S S' : Hp} {σ : Slots} {ρ : Rho}
theorem Es.mono (h : Sub S S') (e : Es S σ ρ) : Es S' σ ρ := ⟨e.len, fun i r q => by
  obtain ⟨v, a, b⟩ := e.at_ i r q
  exact ⟨v, a, b.mono h⟩⟩
theorem Es.set {i : Nat} {r : Rv} {v : V} (e : Es S σ ρ) (q : r.is S v) : Es S (σ.set i (some v)) (ρ.set i (some r)) := ⟨by rw [List.length_set, List.length_set]; exact e.len, fun j r' h => by
  by_cases hj : i = j
  · subst hj
    have hl : i < ρ.length := by
      have := (List.getElem?_eq_some_iff.mp h).1
      rwa [List.length_set] at this
    rw [List.getElem?_set_self hl] at h
    cases h
    exact ⟨v, List.getElem?_set_self (by rw [e.len]; exact hl), q⟩
  · rw [List.getElem?_set_ne hj] at h ⊢
    exact e.at_ j r' h⟩
/-- slots forgotten -/
def Fg (ρ ρ' : Rho) : Prop := ρ.length = ρ'.length ∧ ∀ (i : Nat) (r : Rv), ρ[i]? = some (some r) → ρ'[i]? = some (some r)
theorem Es.fg {ρ' : Rho} (e : Es S σ ρ') (h : Fg ρ ρ') : Es S σ ρ := ⟨e.len.trans h.1.symm, fun i r q => e.at_ i r (h.2 i r q)⟩
theorem Es.wipe (e : Es S σ ρ) : ∀ (vs : List Nat), Es S (L2.wipe σ vs) (vs.foldr (fun v ρ => ρ.set v none) ρ)
  | [] => e
  | v :: vs => by
    have q := Es.wipe e vs
    refine ⟨?_, fun j r h => ?_⟩
    · show ((L2.wipe σ vs).set v none).length = ((vs.foldr (fun v ρ => ρ.set v none) ρ).set v none).length
      rw [List.length_set, List.length_set]
      exact q.len
    · have h' : ((vs.foldr (fun v ρ => ρ.set v none) ρ).set v none)[j]? = some (some r) := h
      show ∃ w, ((L2.wipe σ vs).set v none)[j]? = some (some w) ∧ _
      by_cases hj : v = j
      · subst hj
        by_cases hl : v < (vs.foldr (fun v ρ => ρ.set v none) ρ).length
        · rw [List.getElem?_set_self hl] at h'
          cases h'
        · rw [List.getElem?_eq_none (by rw [List.length_set]; omega)] at h'
          cases h'
      · rw [List.getElem?_set_ne hj] at h' ⊢
        exact q.at_ j r h'
end

/-! ### the judgements -/
structure Cm where
  X : Cx
  W : WX
  xc : Value → Rho → Led → Prop
  tk : Takes X W
  po : PassesOwn (model X.prog X.w) X.A X.env X.xe
structure At (Y : Cm) (ρ : Rho) (L : Led) (S : Hp) (σ : Slots) (H : Hp) : Prop where
  ok : Ok S H L
  es : Es S σ ρ
  lx : ∀ c ρ' L' S' H' σ', Y.xc c ρ' L' → Step S H L S' H' L' → Es S' σ' ρ' → Y.W c none σ' H'
theorem At.next {Y : Cm} {ρ : Rho} {L L' : Led} {S S' : Hp} {σ : Slots} {H H' : Hp} (a : At Y ρ L S σ H) (t : Step S H L S' H' L') : At Y ρ L' S' σ H' :=
  ⟨t.ok, a.es.mono t.sub, fun c ρ2 L2 S2 H2 σ2 x s => a.lx c ρ2 L2 S2 H2 σ2 x (t.trans s)⟩
theorem At.env {Y : Cm} {ρ ρ' : Rho} {L : Led} {S : Hp} {σ σ' : Slots} {H : Hp} (a : At Y ρ L S σ H) (e : Es S σ' ρ') : At Y ρ' L S σ' H := ⟨a.ok, e, a.lx⟩

def wE (X : Cx) (e : Expr) : TE := fun σ H Q => ∀ pins s, Inv X pins σ H s → wpAny (model X.prog X.w) X.A (eval e X.env) (EP X pins σ Q) X.xe s
def wT (X : Cx) (e : Expr) : TT := fun σ H Q => ∀ pins s, Inv X pins σ H s → wpAny (model X.prog X.w) X.A (isTrue e X.env (eval e X.env)) (TP X pins σ Q) X.xe s
def wW (X : Cx) (e : Expr) : TT := fun σ H Q => ∀ whole pins s, Inv X pins σ H s → wpAny (model X.prog X.w) X.A (isTrue e X.env whole) (TP X pins σ Q) X.xe s
def wA (X : Cx) (es : List Expr) : TA := fun σ H Q => ∀ pos pins s, Inv X pins σ H s → wpAny (model X.prog X.w) X.A (spliced (backTo pos (starEach es X.env))) (AP X pins σ Q) X.xe s
def wS (X : Cx) (st : Stmt) : TS := fun D σ H => ∀ pins s, Inv X pins σ H s → wpAny (model X.prog X.w) X.A (exec st X.env) (SP X pins D) X.xe s
def wSs (X : Cx) (st : List Stmt) : TS := fun D σ H => ∀ pins s, Inv X pins σ H s → wpAny (model X.prog X.w) X.A (execs st X.env) (SP X pins D) X.xe s
def wI (X : Cx) (tg iter : Expr) : TI := fun σ H R => ∀ pins s, Inv X pins σ H s → wpAny (model X.prog X.w) X.A (eval iter X.env) (fun v s1 => wpAny (model X.prog X.w) X.A (pyIter v) (PIE X pins σ tg R) X.xe s1) X.xe s
section
variable {X : Cx} {e : Expr} {es : List Expr} {st : Stmt} {sts : List Stmt}
theorem wE.pe : PE X e (wE X e) := ⟨fun pins s _ _ _ I h => h pins s I⟩
theorem wT.pt : PT X e (wT X e) := ⟨fun pins s _ _ _ I h => h pins s I⟩
theorem wW.pw : PW X e (wW X e) := ⟨fun wh pins s _ _ _ I h => h wh pins s I⟩
theorem wA.pa : PA X es (wA X es) := ⟨fun pos pins s _ _ _ I h => h pos pins s I⟩
theorem wS.ps : PS X st (wS X st) := ⟨fun pins s _ _ _ I h => h pins s I⟩
theorem wSs.ps : PSs X sts (wSs X sts) := ⟨fun pins s _ _ _ I h => h pins s I⟩
theorem wI.pi {tg : Expr} : PI X tg e (wI X tg e) := ⟨fun pins s _ _ _ I h => h pins s I⟩
theorem wE.of {t : TE} (h : PE X e t) {σ : Slots} {H : Hp} {Q : VK} (q : t σ H Q) : wE X e σ H Q := fun pins s I => h.run pins s σ H Q I q
theorem wT.of {t : TT} (h : PT X e t) {σ : Slots} {H : Hp} {Q : Bool → Hp → Prop} (q : t σ H Q) : wT X e σ H Q := fun pins s I => h.run pins s σ H Q I q
theorem wW.of {t : TT} (h : PW X e t) {σ : Slots} {H : Hp} {Q : Bool → Hp → Prop} (q : t σ H Q) : wW X e σ H Q := fun wh pins s I => h.run wh pins s σ H Q I q
theorem wA.of {t : TA} (h : PA X es t) {σ : Slots} {H : Hp} {Q : List V → Hp → Prop} (q : t σ H Q) : wA X es σ H Q := fun pos pins s I => h.run pos pins s σ H Q I q
theorem wS.of {t : TS} (h : PS X st t) {σ : Slots} {H : Hp} {D : Ends} (q : t D σ H) : wS X st D σ H := fun pins s I => h.run pins s σ H D I q
theorem wSs.of {t : TS} (h : PSs X sts t) {σ : Slots} {H : Hp} {D : Ends} (q : t D σ H) : wSs X sts D σ H := fun pins s I => h.run pins s σ H D I q
theorem wI.of {tg : Expr} {t : TI} (h : PI X tg e t) {σ : Slots} {H : Hp} {R : It → Hp → Prop} (q : t σ H R) : wI X tg e σ H R := fun pins s I => h.run pins s σ H R I q
end

/-- e, from (ρ, L), gives a value and a ledger that K holds of -/
structure ME (Y : Cm) (e : Expr) (ρ : Rho) (L : Led) (K : Rv → Led → Prop) : Prop where
  run : ∀ S σ H, At Y ρ L S σ H → ∀ Q : VK, (∀ r L' S' H' v, K r L' → Step S H L S' H' L' → r.is S' v → Q v H') → wE Y.X e σ H Q
structure MT (Y : Cm) (e : Expr) (ρ : Rho) (L : Led) (K : Bool → Led → Prop) : Prop where
  run : ∀ S σ H, At Y ρ L S σ H → ∀ Q : Bool → Hp → Prop, (∀ b L' S' H', K b L' → Step S H L S' H' L' → Q b H') → wT Y.X e σ H Q
structure MW (Y : Cm) (e : Expr) (ρ : Rho) (L : Led) (K : Bool → Led → Prop) : Prop where
  run : ∀ S σ H, At Y ρ L S σ H → ∀ Q : Bool → Hp → Prop, (∀ b L' S' H', K b L' → Step S H L S' H' L' → Q b H') → wW Y.X e σ H Q
structure MA (Y : Cm) (es : List Expr) (ρ : Rho) (L : Led) (K : List Rv → Led → Prop) : Prop where
  run : ∀ S σ H, At Y ρ L S σ H → ∀ Q : List V → Hp → Prop, (∀ rs L' S' H' vs, K rs L' → Step S H L S' H' L' → Rvs S' rs vs → Q vs H') → wA Y.X es σ H Q
/-- .. exactly r and L' -/
abbrev EX (Y : Cm) (e : Expr) (ρ : Rho) (L : Led) (r : Rv) (L' : Led) : Prop := ME Y e ρ L fun r1 L1 => r1 = r ∧ L1 = L'
abbrev TX (Y : Cm) (e : Expr) (ρ : Rho) (L : Led) (b : Bool) (L' : Led) : Prop := MT Y e ρ L fun r1 L1 => r1 = b ∧ L1 = L'
abbrev WX' (Y : Cm) (e : Expr) (ρ : Rho) (L : Led) (b : Bool) (L' : Led) : Prop := MW Y e ρ L fun r1 L1 => r1 = b ∧ L1 = L'
abbrev AX (Y : Cm) (es : List Expr) (ρ : Rho) (L : Led) (rs : List Rv) (L' : Led) : Prop := MA Y es ρ L fun r1 L1 => r1 = rs ∧ L1 = L'
theorem ME.imp {Y : Cm} {e : Expr} {ρ : Rho} {L : Led} {K K' : Rv → Led → Prop} (h : ME Y e ρ L K) (i : ∀ r L', K r L' → K' r L') : ME Y e ρ L K' := ⟨fun S σ H a Q q => h.run S σ H a Q fun r L' S' H' v k => q r L' S' H' v (i r L' k)⟩
theorem MT.imp {Y : Cm} {e : Expr} {ρ : Rho} {L : Led} {K K' : Bool → Led → Prop} (h : MT Y e ρ L K) (i : ∀ r L', K r L' → K' r L') : MT Y e ρ L K' := ⟨fun S σ H a Q q => h.run S σ H a Q fun r L' S' H' k => q r L' S' H' (i r L' k)⟩
theorem EX.to {Y : Cm} {e : Expr} {ρ : Rho} {L L' : Led} {r : Rv} {K : Rv → Led → Prop} (h : EX Y e ρ L r L') (k : K r L') : ME Y e ρ L K := ME.imp h fun _ _ ⟨a, b⟩ => by subst a; subst b; exact k
theorem EX.eq {Y : Cm} {e : Expr} {ρ : Rho} {L L' : Led} {r r' : Rv} (h : EX Y e ρ L r L') (k : r = r') : EX Y e ρ L r' L' := by subst k; exact h
theorem TX.eq {Y : Cm} {e : Expr} {ρ : Rho} {L L' : Led} {r r' : Bool} (h : TX Y e ρ L r L') (k : r = r') : TX Y e ρ L r' L' := by subst k; exact h

/-- what is wanted behind a statement that does not go on -/
structure Nd where
  rt : Rv → Led → Prop
  bk : Rho → Led → Prop := fun _ _ => False
  ct : Rho → Led → Prop := fun _ _ => False
structure Lift (S H : Hp) (L : Led) (N : Rho → Led → Prop) (D : Nd) (De : Ends) : Prop where
  nx : ∀ ρ L' S' H' σ, N ρ L' → Step S H L S' H' L' → Es S' σ ρ → De.nx σ H'
  rt : ∀ r L' S' H' v, D.rt r L' → Step S H L S' H' L' → r.is S' v → De.rt v H'
  bk : ∀ ρ L' S' H' σ, D.bk ρ L' → Step S H L S' H' L' → Es S' σ ρ → De.bk σ H'
  ct : ∀ ρ L' S' H' σ, D.ct ρ L' → Step S H L S' H' L' → Es S' σ ρ → De.ct σ H'
theorem Lift.mono {S S' H H' : Hp} {L L' : Led} {N : Rho → Led → Prop} {D : Nd} {De : Ends} (l : Lift S H L N D De) (t : Step S H L S' H' L') : Lift S' H' L' N D De :=
  ⟨fun ρ L S2 H σ k s => l.nx ρ L S2 H σ k (t.trans s), fun r L S2 H v k s => l.rt r L S2 H v k (t.trans s), fun ρ L S2 H σ k s => l.bk ρ L S2 H σ k (t.trans s), fun ρ L S2 H σ k s => l.ct ρ L S2 H σ k (t.trans s)⟩
structure MS (Y : Cm) (st : Stmt) (N : Rho → Led → Prop) (D : Nd) (ρ : Rho) (L : Led) : Prop where
  run : ∀ S σ H, At Y ρ L S σ H → ∀ De, Lift S H L N D De → wS Y.X st De σ H
structure MSs (Y : Cm) (sts : List Stmt) (N : Rho → Led → Prop) (D : Nd) (ρ : Rho) (L : Led) : Prop where
  run : ∀ S σ H, At Y ρ L S σ H → ∀ De, Lift S H L N D De → wSs Y.X sts De σ H
end Cw

set_option Elab.async false
set_option linter.all false
set_option maxRecDepth 100000
set_option maxHeartbeats 2000000
/-! Cw, part B: expressions. -/
namespace Cw
open PySem PySem.Spec PyProof.Rows L2

/-! ### what a list or a tuple is, by data or as a handle -/
/-- r is a list of rs: data, or an object of the ledger -/
def LR (L : Led) (r : Rv) (rs : List Rv) : Prop := (∃ ds, r = .dt (.list ds) ∧ rs = ds.map Rv.dt) ∨ ∃ p, r = .vl (.ref p) ∧ L p = some (.lst rs)
abbrev LL (L : Led) (r : Rv) (ds : List PyData) : Prop := LR L r (ds.map Rv.dt)
theorem LR.at_ {S H : Hp} {L : Led} {r : Rv} {rs : List Rv} {x : V} (h : LR L r rs) (k : Ok S H L) (i : r.is S x) : ∃ a xs, x = .ref a ∧ H a = some (.lst xs) ∧ Rvs S rs xs := by
  rcases h with ⟨ds, rfl, rfl⟩ | ⟨p, rfl, e⟩
  · cases i with
    | lst e t => exact ⟨_, _, rfl, k.sub _ _ e, Rvs.of t⟩
  · obtain ⟨_, o, e2, xs, rfl, t⟩ := k.led p _ e
    exact ⟨p, xs, i, e2, t⟩
theorem LL.at_ {S H : Hp} {L : Led} {r : Rv} {ds : List PyData} {x : V} (h : LL L r ds) (k : Ok S H L) (i : r.is S x) : ∃ a xs, x = .ref a ∧ H a = some (.lst xs) ∧ DaAll S xs ds := by
  obtain ⟨a, xs, e, e2, t⟩ := LR.at_ h k i
  exact ⟨a, xs, e, e2, Rvs.data t⟩
theorem LL.dt {L : Led} {ds : List PyData} : LL L (.dt (.list ds)) ds := .inl ⟨ds, rfl, rfl⟩
theorem LR.h {L : Led} {p : Addr} {rs : List Rv} (h : L p = some (.lst rs)) : LR L (.vl (.ref p)) rs := .inr ⟨p, rfl, h⟩
theorem LL.h {L : Led} {p : Addr} {ds : List PyData} (h : L p = some (.lst (ds.map Rv.dt))) : LL L (.vl (.ref p)) ds := .inr ⟨p, rfl, h⟩
theorem Da.tupAt {S H : Hp} {L : Led} {ds : List PyData} {x : V} (k : Ok S H L) (i : Rv.is S (.dt (.tuple ds)) x) : ∃ a xs, x = .ref a ∧ S a = some (.tup xs) ∧ H a = some (.tup xs) ∧ DaAll S xs ds := by
  cases i with
  | tup e t => exact ⟨_, _, rfl, e, k.sub _ _ e, t⟩
theorem Da.intAt {S : Hp} {n : Int} {x : V} (i : Rv.is S (.dt (.int n)) x) : x = .int n := by cases i; rfl
theorem Da.strAt {S : Hp} {z : Str} {x : V} (i : Rv.is S (.dt (.str z)) x) : x = .str z := by cases i; rfl
theorem Da.blAt {S : Hp} {z : Bool} {x : V} (i : Rv.is S (.dt (.bool z)) x) : x = .bl z := by cases i; rfl
theorem Da.nonAt {S : Hp} {x : V} (i : Rv.is S (.dt .none) x) : x = .non := by cases i; rfl
theorem DaAll.len {S : Hp} {xs : List V} {ds : List PyData} (h : DaAll S xs ds) : xs.length = ds.length := h.pd.length
theorem Rvs.len {S : Hp} {rs : List Rv} {xs : List V} (h : Rvs S rs xs) : rs.length = xs.length := Paired.length h

mutual
/-- r reads as the data d: data, or lists of the ledger all the way down -/
inductive DD (L : Led) : Rv → PyData → Prop
  | dt {d : PyData} : DD L (.dt d) d
  | lst {p : Addr} {rs : List Rv} {ds : List PyData} : L p = some (.lst rs) → DDs L rs ds → DD L (.vl (.ref p)) (.list ds)
inductive DDs (L : Led) : List Rv → List PyData → Prop
  | nil : DDs L [] []
  | cons {r : Rv} {rs : List Rv} {d : PyData} {ds : List PyData} : DD L r d → DDs L rs ds → DDs L (r :: rs) (d :: ds)
end
theorem DDs.pd {L : Led} : ∀ {rs : List Rv} {ds : List PyData}, DDs L rs ds → Paired (DD L) rs ds
  | _, _, .nil => .nil
  | _, _, .cons a t => .cons a t.pd
theorem DDs.of {L : Led} : ∀ {rs : List Rv} {ds : List PyData}, Paired (DD L) rs ds → DDs L rs ds
  | _, _, .nil => .nil
  | _, _, .cons a t => .cons a (DDs.of t)
theorem DDs.data {L : Led} : ∀ (ds : List PyData), DDs L (ds.map Rv.dt) ds
  | [] => .nil
  | _ :: ds => .cons .dt (DDs.data ds)
theorem DD.lists {L : Led} {r : Rv} {ds : List PyData} (h : DD L r (.list ds)) : ∃ rs, LR L r rs ∧ Paired (DD L) rs ds := by
  cases h with
  | dt => exact ⟨_, LL.dt, (DDs.data ds).pd⟩
  | lst e t => exact ⟨_, LR.h e, t.pd⟩
theorem DD.ofLL {L : Led} {p : Addr} {ds : List PyData} (h : L p = some (.lst (ds.map Rv.dt))) : DD L (.vl (.ref p)) (.list ds) := .lst h (DDs.data ds)
mutual
theorem DD.at_ {K : PySem.W.Frag} {S H : Hp} {L : Led} (k : Ok S H L) : ∀ {r : Rv} {d : PyData} {x : V}, DD L r d → r.is S x → Dp K H x d
  | _, _, _, .dt, i => (Da.mono k.sub i).dp
  | _, _, x, .lst (p := p) e t, i => by
    obtain ⟨_, o, e2, xs, rfl, rv⟩ := k.led p _ e
    have ex : x = .ref p := i
    subst ex
    exact .lst (SqL.of e2) (DDs.at_ k t rv)
theorem DDs.at_ {K : PySem.W.Frag} {S H : Hp} {L : Led} (k : Ok S H L) : ∀ {rs : List Rv} {ds : List PyData} {xs : List V}, DDs L rs ds → Rvs S rs xs → DpAll K H xs ds
  | _, _, _, .nil, .nil => .nil
  | _, _, _, .cons a t, .cons i is => .cons (DD.at_ k a i) (DDs.at_ k t is)
end
mutual
theorem DD.mono {L L' : Led} (h : ∀ a rs, L a = some (.lst rs) → L' a = some (.lst rs)) : ∀ {r : Rv} {d : PyData}, DD L r d → DD L' r d
  | _, _, .dt => .dt
  | _, _, .lst e t => .lst (h _ _ e) (DDs.mono h t)
theorem DDs.mono {L L' : Led} (h : ∀ a rs, L a = some (.lst rs) → L' a = some (.lst rs)) : ∀ {rs : List Rv} {ds : List PyData}, DDs L rs ds → DDs L' rs ds
  | _, _, .nil => .nil
  | _, _, .cons a t => .cons (DD.mono h a) (DDs.mono h t)
end

section
variable {Y : Cm} {ρ : Rho} {L L1 L2 L3 : Led} {r ra rb rc : Rv} {e a b c : Expr} {es : List Expr} {pos : Pos}

/-! ### names, constants -/
theorem ex_var (i : Nat) {x : Str} (h : ρ[i]? = some (some r)) (hN : Y.X.N[i]? = some x) (hv : Vis Y.X.env.scope x) (hd : (x == ("__debug__" : Str)) = false := by decide) (hcd : (x == ("__classdict__" : Str)) = false := by decide) : EX Y (.Name x pos) ρ L r L :=
  ⟨fun S σ H A Q q => wE.of (pe_var hN hv hd hcd) (by
    obtain ⟨v, e, k⟩ := A.es.at_ i r h
    exact ⟨v, e, q r L S H v ⟨rfl, rfl⟩ (Step.refl A.ok) k⟩)⟩
theorem ex_pe {v : V} (h : PE Y.X e (tC v)) (hr : ∀ S, r.is S v) : EX Y e ρ L r L := ⟨fun S σ H A Q q => wE.of h (q r L S H v ⟨rfl, rfl⟩ (Step.refl A.ok) (hr S))⟩
theorem ex_int {i : Int} {j} : EX Y (.Constant (.int i) j pos) ρ L (.dt (.int i)) L := ex_pe pe_int fun _ => .int i
theorem ex_bl {i : Bool} {j} : EX Y (.Constant (.bool i) j pos) ρ L (.dt (.bool i)) L := ex_pe pe_bl fun _ => .bl i
theorem ex_non {j} : EX Y (.Constant .none j pos) ρ L (.dt .none) L := ex_pe pe_non fun _ => .non
theorem ex_str {i : Str} {j} : EX Y (.Constant (.str i) j pos) ρ L (.dt (.str i)) L := ex_pe pe_str fun _ => .str i
theorem ex_gint {x : Str} {i : Int} {u : Value} (hg : Gl Y.X x) (hm : Y.X.mg x = some u) (hr : RelV (.int i) u) (hd : (x == ("__debug__" : Str)) = false := by decide) : EX Y (.Name x pos) ρ L (.dt (.int i)) L := ex_pe (pe_glob hg hm hr hd) fun _ => .int i
theorem ex_gstr {x : Str} {i : Str} {u : Value} (hg : Gl Y.X x) (hm : Y.X.mg x = some u) (hr : RelV (.str i) u) (hd : (x == ("__debug__" : Str)) = false := by decide) : EX Y (.Name x pos) ρ L (.dt (.str i)) L := ex_pe (pe_glob hg hm hr hd) fun _ => .str i
/-- a built-in type as a value -/
theorem ex_type {x : Str} {T : String} (hg : Gl Y.X x) (hm : Y.X.mg x = none) (hv : bootBuiltins x = some (.type T)) (hn : x ≠ "__name__" := by decide) (hd : (x == ("__debug__" : Str)) = false := by decide) : EX Y (.Name x pos) ρ L (.vl (.ty T)) L := ex_pe (pe_bltn (v := .ty T) hg hm hv rfl hn hd) fun _ => rfl

/-! ### arguments, displays -/
theorem ax_nil : AX Y [] ρ L [] L := ⟨fun S σ H A Q q => wA.of pa_nil (q [] L S H [] ⟨rfl, rfl⟩ (Step.refl A.ok) .nil)⟩
theorem ma_cons {K1 : Rv → Led → Prop} {K : List Rv → Led → Prop} (h : ME Y e ρ L K1) (t : ∀ r L1, K1 r L1 → MA Y es ρ L1 fun rs L2 => K (r :: rs) L2) (hs : starEach (e :: es) Y.X.env = (false, eval e Y.X.env) :: starEach es Y.X.env := by rfl) : MA Y (e :: es) ρ L K :=
  ⟨fun S σ H A Q q => wA.of (pa_cons wE.pe wA.pa hs) (h.run S σ H A _ fun r L1 S1 H1 v k t1 i => (t r L1 k).run S1 σ H1 (A.next t1) _ fun rs L2 S2 H2 vs kk t2 is => q (r :: rs) L2 S2 H2 (v :: vs) kk (t1.trans t2) (.cons (i.mono t2.sub) is))⟩
theorem MA.imp {K K' : List Rv → Led → Prop} (h : MA Y es ρ L K) (i : ∀ rs L', K rs L' → K' rs L') : MA Y es ρ L K' := ⟨fun S σ H a Q q => h.run S σ H a Q fun r L' S' H' v k => q r L' S' H' v (i r L' k)⟩
theorem ax_cons {rs : List Rv} (h : EX Y e ρ L r L1) (t : AX Y es ρ L1 rs L2) (hs : starEach (e :: es) Y.X.env = (false, eval e Y.X.env) :: starEach es Y.X.env := by rfl) : AX Y (e :: es) ρ L (r :: rs) L2 :=
  ma_cons h (fun r' L' ⟨e1, e2⟩ => by
    subst e1 e2
    exact t.imp fun rs' L3 ⟨e3, e4⟩ => by
      subst e3 e4
      exact ⟨rfl, rfl⟩) hs
theorem me_tup {k} {ds : List PyData} {K : Rv → Led → Prop} (h : MA Y es ρ L fun rs L' => ∃ ds : List PyData, rs = ds.map Rv.dt ∧ ds.length ≤ sizeLine ∧ K (.dt (.tuple ds)) L') : ME Y (.Tuple es k pos) ρ L K := ⟨fun S σ H A Q q => wE.of (pe_tup wA.pa) (h.run S σ H A _ fun rs L' S1 H1 vs ⟨ds, e, z, kk⟩ t1 is => by
  subst e
  have hd := Rvs.data is
  exact ⟨by rw [hd.len]; exact z, fun p hp => q _ L' (upd S1 p (.tup vs)) _ _ kk (t1.trans (Step.still t1.ok hp)) (.tup upd_same (hd.mono (Sub.new (t1.ok.sub.none hp))))⟩)⟩
theorem ex_tup {k} {ds : List PyData} (h : AX Y es ρ L (ds.map Rv.dt) L1) (hz : ds.length ≤ sizeLine) : EX Y (.Tuple es k pos) ρ L (.dt (.tuple ds)) L1 := me_tup (ds := ds) (MA.imp h fun _ _ ⟨a, b⟩ => ⟨ds, a, hz, rfl, b⟩)
theorem me_lst {K : Rv → Led → Prop} (h : MA Y es ρ L fun rs L' => rs.length ≤ sizeLine ∧ ∀ p, L' p = none → K (.vl (.ref p)) (updL L' p (.lst rs))) : ME Y (.List es pos) ρ L K := ⟨fun S σ H A Q q => wE.of (pe_lst wA.pa) (h.run S σ H A _ fun rs L' S1 H1 vs ⟨z, kk⟩ t1 is =>
  ⟨by rw [← Rvs.len is]; exact z, fun p hp => q _ _ S1 _ _ (kk p (t1.ok.free hp)) (t1.trans (Step.new t1.ok hp ⟨vs, rfl, is⟩)) rfl⟩)⟩
theorem ex_lst {ds : List PyData} (h : AX Y es ρ L (ds.map Rv.dt) L1) (hz : ds.length ≤ sizeLine) : EX Y (.List es pos) ρ L (.dt (.list ds)) L1 := ⟨fun S σ H A Q q => wE.of (pe_lst wA.pa) (h.run S σ H A _ fun rs L' S1 H1 vs ⟨e, e2⟩ t1 is => by
  subst e e2
  have hd := Rvs.data is
  exact ⟨by rw [hd.len]; exact hz, fun p hp => q _ _ (upd S1 p (.lst vs)) _ _ ⟨rfl, rfl⟩ (t1.trans (Step.still t1.ok hp)) (.lst upd_same (hd.mono (Sub.new (t1.ok.sub.none hp))))⟩)⟩

/-! ### operators by what they give on data -/
/-- a rule r of two values gives c from a and b -/
def RM (r : R2) (a b : Rv) (L : Led) (c : Rv) : Prop := ∀ S H x y, Ok S H L → a.is S x → b.is S y → ∀ Q : VK, (∀ S' H' v, Step S H L S' H' L → c.is S' v → Q v H') → r x y H Q
/-- f is binaryOp op, inplaceOp op or compareOp op -/
def Op2 (X : Cx) (f : Value → Value → Sem Value) (a b : Rv) (L : Led) (c : Rv) : Prop := ∃ r, OpR X f r ∧ RM r a b L c
theorem ex_bin {op : Operator} (ha : EX Y a ρ L ra L1) (hb : EX Y b ρ L1 rb L2) (h : Op2 Y.X (binaryOp op) ra rb L2 rc) : EX Y (.BinOp a op b pos) ρ L rc L2 := ⟨fun S σ H A Q q => by
  obtain ⟨r, ho, hr⟩ := h
  refine wE.of (pe_op ho wE.pe wE.pe) (ha.run S σ H A _ fun r1 L1' S1 H1 x ⟨e1, e2⟩ t1 i1 => ?_)
  subst e1 e2
  refine hb.run S1 σ H1 (A.next t1) _ fun r2 L2' S2 H2 y ⟨e1, e2⟩ t2 i2 => ?_
  subst e1 e2
  exact hr S2 H2 x y t2.ok (i1.mono t2.sub) i2 Q fun S' H' v t3 i3 => q _ _ S' H' v ⟨rfl, rfl⟩ ((t1.trans t2).trans t3) i3⟩
theorem ex_cmp {op : CmpOp} (ha : EX Y a ρ L ra L1) (hb : EX Y b ρ L1 rb L2) (h : Op2 Y.X (compareOp op) ra rb L2 rc) (hm : behindInMarks op b = false) : EX Y (.Compare a [op] [b] pos) ρ L rc L2 := ⟨fun S σ H A Q q => by
  obtain ⟨r, ho, hr⟩ := h
  refine wE.of (pe_cmpR ho wE.pe wE.pe hm) (ha.run S σ H A _ fun r1 L1' S1 H1 x ⟨e1, e2⟩ t1 i1 => ?_)
  subst e1 e2
  refine hb.run S1 σ H1 (A.next t1) _ fun r2 L2' S2 H2 y ⟨e1, e2⟩ t2 i2 => ?_
  subst e1 e2
  exact hr S2 H2 x y t2.ok (i1.mono t2.sub) i2 Q fun S' H' v t3 i3 => q _ _ S' H' v ⟨rfl, rfl⟩ ((t1.trans t2).trans t3) i3⟩
theorem tx_cmp {op : CmpOp} {k : Bool} (ha : EX Y a ρ L ra L1) (hb : EX Y b ρ L1 rb L2) (h : Op2 Y.X (compareOp op) ra rb L2 (.dt (.bool k))) (hm : behindInMarks op b = false) : TX Y (.Compare a [op] [b] pos) ρ L k L2 := ⟨fun S σ H A Q q => by
  obtain ⟨r, ho, hr⟩ := h
  refine wT.of (pt_cmpR ho wE.pe wE.pe hm) (ha.run S σ H A _ fun r1 L1' S1 H1 x ⟨e1, e2⟩ t1 i1 => ?_)
  subst e1 e2
  refine hb.run S1 σ H1 (A.next t1) _ fun r2 L2' S2 H2 y ⟨e1, e2⟩ t2 i2 => ?_
  subst e1 e2
  exact hr S2 H2 x y t2.ok (i1.mono t2.sub) i2 _ fun S' H' v t3 i3 => ⟨k, Da.blAt i3, q _ _ S' H' ⟨rfl, rfl⟩ ((t1.trans t2).trans t3)⟩⟩

theorem rm_I0 {g : Int → Int → V} {i j : Int} (h : ∀ S, rc.is S (g i j)) : RM (rI0 g) (.dt (.int i)) (.dt (.int j)) L rc := fun S H x y k hx hy Q q => ⟨i, j, Da.intAt hx, Da.intAt hy, q S H _ (Step.refl k) (h S)⟩
theorem rm_I {C : Int → Int → Prop} {g : Int → Int → V} {i j : Int} (hc : C i j) (h : ∀ S, rc.is S (g i j)) : RM (rI C g) (.dt (.int i)) (.dt (.int j)) L rc := fun S H x y k hx hy Q q => ⟨i, j, Da.intAt hx, Da.intAt hy, hc, q S H _ (Step.refl k) (h S)⟩
section
variable {X : Cx} {i j : Int}
theorem o_add : Op2 X (binaryOp .Add) (.dt (.int i)) (.dt (.int j)) L (.dt (.int (i + j))) := ⟨_, op_add, rm_I0 fun _ => .int _⟩
theorem o_sub : Op2 X (binaryOp .Sub) (.dt (.int i)) (.dt (.int j)) L (.dt (.int (i - j))) := ⟨_, op_sub, rm_I0 fun _ => .int _⟩
theorem o_mul (h : CMul i j) : Op2 X (binaryOp .Mult) (.dt (.int i)) (.dt (.int j)) L (.dt (.int (i * j))) := ⟨_, op_mul, rm_I h fun _ => .int _⟩
theorem o_mulW (h : CMulW i j) : Op2 X (binaryOp .Mult) (.dt (.int i)) (.dt (.int j)) L (.dt (.int (i * j))) := ⟨_, op_mulW, rm_I h fun _ => .int _⟩
theorem o_mod (h : 0 < j) : Op2 X (binaryOp .Mod) (.dt (.int i)) (.dt (.int j)) L (.dt (.int (i % j))) := ⟨_, op_mod, rm_I h fun _ => .int _⟩
theorem o_div (h : CDiv i j) : Op2 X (binaryOp .FloorDiv) (.dt (.int i)) (.dt (.int j)) L (.dt (.int (i / j))) := ⟨_, op_fdiv, rm_I h fun _ => .int _⟩
theorem o_divW (h : CDivW i j) : Op2 X (binaryOp .FloorDiv) (.dt (.int i)) (.dt (.int j)) L (.dt (.int (i / j))) := ⟨_, op_fdivW, rm_I h fun _ => .int _⟩
theorem o_pow (h : CPow i j) : Op2 X (binaryOp .Pow) (.dt (.int i)) (.dt (.int j)) L (.dt (.int (i ^ j.toNat))) := ⟨_, op_pow, rm_I h fun _ => .int _⟩
theorem o_lt : Op2 X (compareOp .Lt) (.dt (.int i)) (.dt (.int j)) L (.dt (.bool (decide (i < j)))) := ⟨_, op_lt, rm_I0 fun _ => .bl _⟩
theorem o_le : Op2 X (compareOp .LtE) (.dt (.int i)) (.dt (.int j)) L (.dt (.bool (decide (i ≤ j)))) := ⟨_, op_le, rm_I0 fun _ => .bl _⟩
theorem o_gt : Op2 X (compareOp .Gt) (.dt (.int i)) (.dt (.int j)) L (.dt (.bool (decide (j < i)))) := ⟨_, op_gt, rm_I0 fun _ => .bl _⟩
theorem o_ge : Op2 X (compareOp .GtE) (.dt (.int i)) (.dt (.int j)) L (.dt (.bool (decide (j ≤ i)))) := ⟨_, op_ge, rm_I0 fun _ => .bl _⟩
theorem o_iadd : Op2 X (inplaceOp .Add) (.dt (.int i)) (.dt (.int j)) L (.dt (.int (i + j))) := ⟨_, iop_add, rm_I0 fun _ => .int _⟩
theorem o_isub : Op2 X (inplaceOp .Sub) (.dt (.int i)) (.dt (.int j)) L (.dt (.int (i - j))) := ⟨_, iop_sub, rm_I0 fun _ => .int _⟩
end
/-- scalars, as == sees them -/
theorem rm_eq {d d' : PyData} {k : Bool} (h : ∀ S x y, Da S x d → Da S y d' → scal x y = true ∧ decide (x = y) = k) : RM rEq (.dt d) (.dt d') L (.dt (.bool k)) := fun S H x y ok hx hy Q q => by
  obtain ⟨h1, h2⟩ := h S x y hx hy
  exact ⟨h1, q S H _ (Step.refl ok) (h2 ▸ .bl _)⟩
theorem rm_ne {d d' : PyData} {k : Bool} (h : ∀ S x y, Da S x d → Da S y d' → scal x y = true ∧ (!decide (x = y)) = k) : RM rNe (.dt d) (.dt d') L (.dt (.bool k)) := fun S H x y ok hx hy Q q => by
  obtain ⟨h1, h2⟩ := h S x y hx hy
  exact ⟨h1, q S H _ (Step.refl ok) (h2 ▸ .bl _)⟩
section
variable {X : Cx}
theorem dec_v {i j : Int} : decide (V.int i = V.int j) = decide (i = j) := decide_eq_decide.mpr ⟨V.int.inj, congrArg _⟩
theorem dec_b {i j : Bool} : decide (V.bl i = V.bl j) = decide (i = j) := decide_eq_decide.mpr ⟨V.bl.inj, congrArg _⟩
theorem dec_s {i j : Str} : decide (V.str i = V.str j) = decide (i = j) := decide_eq_decide.mpr ⟨V.str.inj, congrArg _⟩
theorem o_eqI {i j : Int} : Op2 X (compareOp .Eq) (.dt (.int i)) (.dt (.int j)) L (.dt (.bool (decide (i = j)))) := ⟨_, op_eq, rm_eq fun S x y hx hy => by cases hx; cases hy; exact ⟨rfl, dec_v⟩⟩
theorem o_neI {i j : Int} : Op2 X (compareOp .NotEq) (.dt (.int i)) (.dt (.int j)) L (.dt (.bool (!decide (i = j)))) := ⟨_, op_ne, rm_ne fun S x y hx hy => by cases hx; cases hy; exact ⟨rfl, congrArg _ dec_v⟩⟩
theorem o_eqB {i j : Bool} : Op2 X (compareOp .Eq) (.dt (.bool i)) (.dt (.bool j)) L (.dt (.bool (decide (i = j)))) := ⟨_, op_eq, rm_eq fun S x y hx hy => by cases hx; cases hy; exact ⟨rfl, dec_b⟩⟩
theorem o_neB {i j : Bool} : Op2 X (compareOp .NotEq) (.dt (.bool i)) (.dt (.bool j)) L (.dt (.bool (!decide (i = j)))) := ⟨_, op_ne, rm_ne fun S x y hx hy => by cases hx; cases hy; exact ⟨rfl, congrArg _ dec_b⟩⟩
theorem o_eqS {i j : Str} : Op2 X (compareOp .Eq) (.dt (.str i)) (.dt (.str j)) L (.dt (.bool (decide (i = j)))) := ⟨_, op_eq, rm_eq fun S x y hx hy => by cases hx; cases hy; exact ⟨rfl, dec_s⟩⟩
theorem o_neS {i j : Str} : Op2 X (compareOp .NotEq) (.dt (.str i)) (.dt (.str j)) L (.dt (.bool (!decide (i = j)))) := ⟨_, op_ne, rm_ne fun S x y hx hy => by cases hx; cases hy; exact ⟨rfl, congrArg _ dec_s⟩⟩
/-- data of any depth -/
theorem o_eqD {d d' : PyData} (hu : X.A.units + 64 < cLine) (h1 : SeqAt.shaped d = true) (h2 : SeqAt.shaped d' = true) : Op2 X (compareOp .Eq) (.dt d) (.dt d') L (.dt (.bool (PyData.eqv d d'))) :=
  ⟨_, op_eqD hu, fun S H x y k hx hy Q q => ⟨d, d', (Da.mono k.sub hx).dp, (Da.mono k.sub hy).dp, h1, h2, q S H _ (Step.refl k) (.bl _)⟩⟩
theorem o_neD {d d' : PyData} (hu : X.A.units + 64 < cLine) (h1 : SeqAt.shaped d = true) (h2 : SeqAt.shaped d' = true) : Op2 X (compareOp .NotEq) (.dt d) (.dt d') L (.dt (.bool (!PyData.eqv d d'))) :=
  ⟨_, op_neD hu, fun S H x y k hx hy Q q => ⟨d, d', (Da.mono k.sub hx).dp, (Da.mono k.sub hy).dp, h1, h2, q S H _ (Step.refl k) (.bl _)⟩⟩
theorem o_eqR {r r' : Rv} {d d' : PyData} (hu : X.A.units + 64 < cLine) (a : DD L r d) (b : DD L r' d') (h1 : SeqAt.shaped d = true) (h2 : SeqAt.shaped d' = true) : Op2 X (compareOp .Eq) r r' L (.dt (.bool (PyData.eqv d d'))) :=
  ⟨_, op_eqD hu, fun S H x y k hx hy Q q => ⟨d, d', DD.at_ k a hx, DD.at_ k b hy, h1, h2, q S H _ (Step.refl k) (.bl _)⟩⟩
theorem o_neR {r r' : Rv} {d d' : PyData} (hu : X.A.units + 64 < cLine) (a : DD L r d) (b : DD L r' d') (h1 : SeqAt.shaped d = true) (h2 : SeqAt.shaped d' = true) : Op2 X (compareOp .NotEq) r r' L (.dt (.bool (!PyData.eqv d d'))) :=
  ⟨_, op_neD hu, fun S H x y k hx hy Q q => ⟨d, d', DD.at_ k a hx, DD.at_ k b hy, h1, h2, q S H _ (Step.refl k) (.bl _)⟩⟩
/-- x in l, items of any depth -/
theorem o_inR {r r' : Rv} {d : PyData} {ds : List PyData} (hu : X.A.units + 65 < cLine) (a : DD L r d) (b : DD L r' (.list ds)) (h1 : SeqAt.shaped d = true) (h2 : SeqAt.shaped (.list ds) = true) : Op2 X (compareOp .In) r r' L (.dt (.bool (ds.any fun z => PyData.eqv z d))) :=
  ⟨_, op_inD hu, fun S H x y k hx hy Q q => ⟨d, ds, DD.at_ k a hx, DD.at_ k b hy, h1, h2, q S H _ (Step.refl k) (.bl _)⟩⟩
theorem o_notInR {r r' : Rv} {d : PyData} {ds : List PyData} (hu : X.A.units + 65 < cLine) (a : DD L r d) (b : DD L r' (.list ds)) (h1 : SeqAt.shaped d = true) (h2 : SeqAt.shaped (.list ds) = true) : Op2 X (compareOp .NotIn) r r' L (.dt (.bool (!ds.any fun z => PyData.eqv z d))) :=
  ⟨_, op_notInD hu, fun S H x y k hx hy Q q => ⟨d, ds, DD.at_ k a hx, DD.at_ k b hy, h1, h2, q S H _ (Step.refl k) (.bl _)⟩⟩
/-- is None -/
def isNone : Rv → Bool
  | .dt .none => true
  | .vl .non => true
  | _ => false
theorem isNone_at {S : Hp} {x : V} (h : r.is S x) : decide (x = .non) = isNone r := by
  cases r with
  | vl y => cases (show x = y from h); cases x <;> rfl
  | dt d => cases h <;> rfl
theorem o_isN : Op2 X (compareOp .Is) r (.dt .none) L (.dt (.bool (isNone r))) := ⟨_, op_isN, fun S H x y k hx hy Q q => ⟨Da.nonAt hy, q S H _ (Step.refl k) (by rw [isNone_at hx]; exact .bl _)⟩⟩
theorem o_notN : Op2 X (compareOp .IsNot) r (.dt .none) L (.dt (.bool (!isNone r))) := ⟨_, op_notN, fun S H x y k hx hy Q q => ⟨Da.nonAt hy, q S H _ (Step.refl k) (by rw [isNone_at hx]; exact .bl _)⟩⟩
/-- texts -/
theorem o_addS {i j : Str} (h : i.length + j.length ≤ sizeLine) : Op2 X (binaryOp .Add) (.dt (.str i)) (.dt (.str j)) L (.dt (.str (i ++ j))) := ⟨_, op_add_str, fun S H x y k hx hy Q q => ⟨i, j, Da.strAt hx, Da.strAt hy, h, q S H _ (Step.refl k) (.str _)⟩⟩
/-- lists glued: a new list that nobody changes -/
theorem o_cat {r r' : Rv} {ds es : List PyData} (a : LL L r ds) (b : LL L r' es) (hz : ds.length + es.length ≤ sizeLine) : Op2 X (binaryOp .Add) r r' L (.dt (.list (ds ++ es))) := ⟨_, op_cat, fun S H x y k hx hy Q q => by
  obtain ⟨p, xs, rfl, e1, t1⟩ := LL.at_ a k hx
  obtain ⟨p', ys, rfl, e2, t2⟩ := LL.at_ b k hy
  refine ⟨p, p', xs, ys, rfl, rfl, e1, e2, by rw [t1.len, t2.len]; exact hz, fun n hn => ?_⟩
  have sn := Sub.new (o := HO.lst (xs ++ ys)) (k.sub.none hn)
  exact q (upd S n (.lst (xs ++ ys))) _ _ (Step.still k hn) (.lst upd_same (.of (papp (t1.mono sn).pd (t2.mono sn).pd)))⟩
theorem o_rep {r : Rv} {ds : List PyData} {n : Int} (a : LL L r ds) (h0 : -(2 ^ 63) ≤ n) (h1 : n < 2 ^ 63) (hz : ds.length * n.toNat ≤ sizeLine) : Op2 X (binaryOp .Mult) r (.dt (.int n)) L (.dt (.list (List.replicate n.toNat ds).flatten)) := ⟨_, op_rep, fun S H x y k hx hy Q q => by
  obtain ⟨p, xs, rfl, e1, t1⟩ := LL.at_ a k hx
  have ey := Da.intAt hy
  subst ey
  refine ⟨p, n, xs, rfl, rfl, e1, h0, h1, by rw [t1.len]; exact hz, fun m hm => ?_⟩
  have sn := fun o => Sub.new (o := o) (k.sub.none hm)
  have go : ∀ (T : Hp), Paired (Da T) xs ds → ∀ w : Nat, Paired (Da T) (List.replicate w xs).flatten (List.replicate w ds).flatten := fun T tt w => by
    induction w with
    | zero => exact .nil
    | succ w ih =>
      rw [List.replicate_succ, List.replicate_succ, List.flatten_cons, List.flatten_cons]
      exact papp tt ih
  exact q (upd S m _) _ _ (Step.still k hm) (.lst upd_same (.of (go _ (t1.mono (sn _)).pd _)))⟩
/-- tuples glued, the left one not empty, the right one not either -/
theorem o_catT {ds es : List PyData} (h : ds ≠ []) (h' : es ≠ []) (hz : ds.length + es.length ≤ sizeLine) : Op2 X (binaryOp .Add) (.dt (.tuple ds)) (.dt (.tuple es)) L (.dt (.tuple (ds ++ es))) := ⟨_, op_catT, fun S H x y k hx hy Q q => by
  obtain ⟨p, xs, rfl, _, e1, t1⟩ := Da.tupAt k hx
  obtain ⟨p', ys, rfl, _, e2, t2⟩ := Da.tupAt k hy
  have n1 : xs ≠ [] := fun z => h (List.eq_nil_of_length_eq_zero (by rw [← t1.len, z] <;> rfl))
  have n2 : ys ≠ [] := fun z => h' (List.eq_nil_of_length_eq_zero (by rw [← t2.len, z] <;> rfl))
  refine ⟨p, p', xs, ys, rfl, rfl, SqT.of e1, SqT.of e2, n1, by rw [t1.len, t2.len]; exact hz, fun z => absurd z n2, fun _ n hn => ?_⟩
  have sn := Sub.new (o := HO.tup (xs ++ ys)) (k.sub.none hn)
  exact q (upd S n (.tup (xs ++ ys))) _ _ (Step.still k hn) (.tup upd_same (.of (papp (t1.mono sn).pd (t2.mono sn).pd)))⟩
end
end
end Cw

set_option Elab.async false
set_option linter.all false
set_option maxRecDepth 100000
set_option maxHeartbeats 2000000
/-! Cw, part C: subscripts, slices, calls of built-ins, methods of lists, tests. -/
namespace Cw
open PySem PySem.Spec PyProof.Rows L2

theorem patI {α β : Type} {F : α → β → Prop} {xs : List α} {ys : List β} {i : Int} {x : α} (h : Paired F xs ys) (e : atI xs i = some x) : ∃ y, atI ys i = some y ∧ F x y := by
  have hl := Paired.length h
  unfold atI at e ⊢
  rw [← hl]
  cases q : ixN xs.length i with
  | none =>
    rw [q] at e
    cases e
  | some j =>
    rw [q] at e
    exact pgetL h e
theorem patI' {α β : Type} {F : α → β → Prop} {xs : List α} {ys : List β} {i : Int} {y : β} (h : Paired F xs ys) (e : atI ys i = some y) : ∃ x, atI xs i = some x ∧ F x y := by
  have hl := Paired.length h
  unfold atI at e ⊢
  rw [hl]
  cases q : ixN ys.length i with
  | none =>
    rw [q] at e
    cases e
  | some j =>
    rw [q] at e
    exact pget h e
def cut {α : Type} (xs : List α) (lo hi : Option Int) : List α := (xs.drop (HT.sIx xs.length 0 lo)).take (HT.sIx xs.length xs.length hi - HT.sIx xs.length 0 lo)
theorem pcut {α β : Type} {F : α → β → Prop} {xs : List α} {ys : List β} {lo hi : Option Int} (h : Paired F xs ys) : Paired F (cut xs lo hi) (cut ys lo hi) := by
  unfold cut
  rw [Paired.length h]
  exact ptake _ (pdrop _ h)

section
variable {Y : Cm} {ρ : Rho} {L L1 L2 L3 : Led} {r ra rb rc : Rv} {e a b c : Expr} {es : List Expr} {pos : Pos} {X : Cx}

/-! ### a[i] -/
def OpIx (X : Cx) (a b : Rv) (L : Led) (c : Rv) : Prop := ∃ r, IxR X r ∧ RM r a b L c
theorem ex_ix (ha : EX Y a ρ L ra L1) (hb : EX Y b ρ L1 rb L2) (h : OpIx Y.X ra rb L2 rc) (hs : PlainIx b) : EX Y (.Subscript a b pos) ρ L rc L2 := ⟨fun S σ H A Q q => by
  obtain ⟨r, ho, hr⟩ := h
  refine wE.of (pe_ix ho wE.pe wE.pe hs) (ha.run S σ H A _ fun r1 L1' S1 H1 x ⟨e1, e2⟩ t1 i1 => ?_)
  subst e1 e2
  refine hb.run S1 σ H1 (A.next t1) _ fun r2 L2' S2 H2 y ⟨e1, e2⟩ t2 i2 => ?_
  subst e1 e2
  exact hr S2 H2 x y t2.ok (i1.mono t2.sub) i2 Q fun S' H' v t3 i3 => q _ _ S' H' v ⟨rfl, rfl⟩ ((t1.trans t2).trans t3) i3⟩
theorem i_lstR {rs : List Rv} {i : Int} (a : LR L r rs) (h : atI rs i = some rc) : OpIx X r (.dt (.int i)) L rc := ⟨_, ix_list, fun S H x y k hx hy Q q => by
  obtain ⟨p, xs, rfl, e1, t1⟩ := LR.at_ a k hx
  obtain ⟨v, e2, i2⟩ := patI t1 h
  exact ⟨p, xs, i, v, rfl, Da.intAt hy, SqL.of e1, e2, q S H v (Step.refl k) i2⟩⟩
theorem i_lst {ds : List PyData} {d : PyData} {i : Int} (a : LL L r ds) (h : atI ds i = some d) : OpIx X r (.dt (.int i)) L (.dt d) := ⟨_, ix_list, fun S H x y k hx hy Q q => by
  obtain ⟨p, xs, rfl, e1, t1⟩ := LL.at_ a k hx
  obtain ⟨v, e2, i2⟩ := patI' t1.pd h
  exact ⟨p, xs, i, v, rfl, Da.intAt hy, SqL.of e1, e2, q S H v (Step.refl k) i2⟩⟩
theorem i_tup {ds : List PyData} {d : PyData} {i : Int} (h : atI ds i = some d) : OpIx X (.dt (.tuple ds)) (.dt (.int i)) L (.dt d) := ⟨_, ix_tup, fun S H x y k hx hy Q q => by
  obtain ⟨p, xs, rfl, _, e1, t1⟩ := Da.tupAt k hx
  obtain ⟨v, e2, i2⟩ := patI' t1.pd h
  exact ⟨p, xs, i, v, rfl, Da.intAt hy, SqT.of e1, e2, q S H v (Step.refl k) i2⟩⟩
theorem i_str {z : Str} {i : Int} {c : Nat} (hz : z.length ≤ sizeLine) (h : atI z.cps.toList i = some c) : OpIx X (.dt (.str z)) (.dt (.int i)) L (.dt (.str ⟨#[c]⟩)) := ⟨_, ix_str, fun S H x y k hx hy Q q =>
  ⟨z, i, c, Da.strAt hx, Da.intAt hy, hz, h, q S H _ (Step.refl k) (.str _)⟩⟩

/-! ### a[lo:hi] -/
def wP (X : Cx) (e : Option Expr) : TO := fun σ H Q => ∀ pins s, Inv X pins σ H s → wpAny (model X.prog X.w) X.A (evalPart e X.env) (fun u s' => ∃ o H', Inv X pins σ H' s' ∧ IsPart u o ∧ Q o H') X.xe s
theorem wP.po {o : Option Expr} : PO X o (wP X o) := ⟨fun pins s _ _ _ I h => h pins s I⟩
theorem wP.of {o : Option Expr} {t : TO} (h : PO X o t) {σ : Slots} {H : Hp} {Q : Option Int → Hp → Prop} (q : t σ H Q) : wP X o σ H Q := fun pins s I => h.run pins s σ H Q I q
structure PX (Y : Cm) (e : Option Expr) (ρ : Rho) (L : Led) (o : Option Int) (L' : Led) : Prop where
  run : ∀ S σ H, At Y ρ L S σ H → ∀ Q : Option Int → Hp → Prop, (∀ S' H', Step S H L S' H' L' → Q o H') → wP Y.X e σ H Q
theorem px_none : PX Y none ρ L none L := ⟨fun S σ H A Q q => wP.of po_none (q S H (Step.refl A.ok))⟩
theorem px_some {i : Int} (h : EX Y e ρ L (.dt (.int i)) L1) : PX Y (some e) ρ L (some i) L1 := ⟨fun S σ H A Q q => wP.of (po_some wE.pe) (h.run S σ H A _ fun r1 L1' S1 H1 x ⟨e1, e2⟩ t1 i1 => by
  subst e1 e2
  exact ⟨i, Da.intAt i1, q S1 H1 t1⟩)⟩
def OpSl (X : Cx) (a : Rv) (lo hi : Option Int) (L : Led) (c : Rv) : Prop := ∃ r, SlR X r ∧ ∀ S H x, Ok S H L → a.is S x → ∀ Q : VK, (∀ S' H' v, Step S H L S' H' L → c.is S' v → Q v H') → r x lo hi H Q
theorem ex_slice {elo ehi : Option Expr} {lo hi : Option Int} {p2 : Pos} (ha : EX Y a ρ L ra L1) (hl : PX Y elo ρ L1 lo L2) (hh : PX Y ehi ρ L2 hi L3) (h : OpSl Y.X ra lo hi L3 rc) : EX Y (.Subscript a (.Slice elo ehi none p2) pos) ρ L rc L3 := ⟨fun S σ H A Q q => by
  obtain ⟨r, ho, hr⟩ := h
  refine wE.of (pe_slice ho wE.pe wP.po wP.po) (ha.run S σ H A _ fun r1 L1' S1 H1 x ⟨e1, e2⟩ t1 i1 => ?_)
  subst e1 e2
  refine hl.run S1 σ H1 (A.next t1) _ fun S2 H2 t2 => ?_
  refine hh.run S2 σ H2 (A.next (t1.trans t2)) _ fun S3 H3 t3 => ?_
  exact hr S3 H3 x t3.ok (i1.mono (t2.sub.trans t3.sub)) Q fun S' H' v t4 i4 => q _ _ S' H' v ⟨rfl, rfl⟩ (((t1.trans t2).trans t3).trans t4) i4⟩
theorem s_lst {ds : List PyData} {lo hi : Option Int} (a : LL L r ds) : OpSl X r lo hi L (.dt (.list (cut ds lo hi))) := ⟨_, sl_list, fun S H x k hx Q q => by
  obtain ⟨p, xs, rfl, e1, t1⟩ := LL.at_ a k hx
  refine ⟨p, xs, rfl, SqL.of e1, fun n hn => ?_⟩
  have sn := Sub.new (o := HO.lst (cutV xs lo hi)) (k.sub.none hn)
  exact q (upd S n (.lst (cutV xs lo hi))) _ _ (Step.still k hn) (.lst upd_same (.of (pcut (t1.mono sn).pd)))⟩
theorem s_str {z : Str} {lo hi : Option Int} (hz : z.length ≤ sizeLine) : OpSl X (.dt (.str z)) lo hi L (.dt (.str (cutS z lo hi))) := ⟨_, sl_str, fun S H x k hx Q q => ⟨z, Da.strAt hx, hz, q S H _ (Step.refl k) (.str _)⟩⟩
theorem ex_rev {ds : List PyData} {k : Nat} {p1 p2 p3 : Pos} (ha : EX Y a ρ L ra L1) (h : LL L1 ra ds) : EX Y (.Subscript a (.Slice none none (some (.UnaryOp .USub (.Constant (.int 1) k p1) p2)) p3) pos) ρ L (.dt (.list ds.reverse)) L1 := ⟨fun S σ H A Q q =>
  wE.of (pe_revL wE.pe) (ha.run S σ H A _ fun r1 L1' S1 H1 x ⟨e1, e2⟩ t1 i1 => by
    subst e1 e2
    obtain ⟨p, xs, rfl, e1, d1⟩ := LL.at_ h t1.ok i1
    refine ⟨p, xs, rfl, SqL.of e1, fun n hn => ?_⟩
    have sn := Sub.new (o := HO.lst xs.reverse) (t1.ok.sub.none hn)
    exact q _ _ (upd S1 n (.lst xs.reverse)) _ _ ⟨rfl, rfl⟩ (t1.trans (Step.still t1.ok hn)) (.lst upd_same (.of (prev (d1.mono sn).pd))))⟩

/-! ### one-place operators, if as an expression -/
theorem ex_neg {i : Int} (h : EX Y e ρ L (.dt (.int i)) L1) : EX Y (.UnaryOp .USub e pos) ρ L (.dt (.int (-i))) L1 := ⟨fun S σ H A Q q => wE.of (pe_un un_neg wE.pe) (h.run S σ H A _ fun r1 L1' S1 H1 x ⟨e1, e2⟩ t1 i1 => by
  subst e1 e2
  exact ⟨i, Da.intAt i1, q _ _ S1 H1 _ ⟨rfl, rfl⟩ t1 (.int _)⟩)⟩
theorem ex_not {i : Bool} (h : EX Y e ρ L (.dt (.bool i)) L1) : EX Y (.UnaryOp .Not e pos) ρ L (.dt (.bool (!i))) L1 := ⟨fun S σ H A Q q => wE.of (pe_not wE.pe) (h.run S σ H A _ fun r1 L1' S1 H1 x ⟨e1, e2⟩ t1 i1 => by
  subst e1 e2
  exact ⟨i, Da.blAt i1, q _ _ S1 H1 _ ⟨rfl, rfl⟩ t1 (.bl _)⟩)⟩
theorem me_if {K : Rv → Led → Prop} (hc : MT Y c ρ L fun k L' => (k = true → ME Y a ρ L' K) ∧ (k = false → ME Y b ρ L' K)) : ME Y (.IfExp c a b pos) ρ L K := ⟨fun S σ H A Q q => wE.of (pe_ifExp wT.pt wE.pe wE.pe) (hc.run S σ H A _ fun k L' S1 H1 ⟨h1, h2⟩ t1 => by
  cases k with
  | true => exact iteT ((h1 rfl).run S1 σ H1 (A.next t1) Q fun r L2 S2 H2 v kk t2 => q r L2 S2 H2 v kk (t1.trans t2))
  | false => exact iteF ((h2 rfl).run S1 σ H1 (A.next t1) Q fun r L2 S2 H2 v kk t2 => q r L2 S2 H2 v kk (t1.trans t2)))⟩
theorem ex_if {k : Bool} (hc : TX Y c ρ L k L1) (h1 : k = true → EX Y a ρ L1 r L2) (h2 : k = false → EX Y b ρ L1 r L2) : EX Y (.IfExp c a b pos) ρ L r L2 := me_if (hc.imp fun _ _ ⟨e1, e2⟩ => by
  subst e1 e2
  exact ⟨h1, h2⟩)
/-- and, or as values of bools -/
theorem ex_one {op} (h : EX Y e ρ L r L1) : EX Y (.BoolOp op [e] pos) ρ L r L1 := ⟨fun S σ H A Q q => wE.of (pe_one wE.pe) (h.run S σ H A Q q)⟩
theorem ex_and {i j : Bool} {rest : List Expr} (h : EX Y a ρ L (.dt (.bool i)) L1) (t : i = true → EX Y (.BoolOp .And (b :: rest) pos) ρ L1 (.dt (.bool j)) L1) : EX Y (.BoolOp .And (a :: b :: rest) pos) ρ L (.dt (.bool (i && j))) L1 := ⟨fun S σ H A Q q => wE.of (pe_and wE.pe wE.pe) (h.run S σ H A _ fun r1 L1' S1 H1 x ⟨e1, e2⟩ t1 i1 => by
  subst e1 e2
  refine ⟨i, Da.blAt i1, ?_⟩
  cases i with
  | true => exact iteT ((t rfl).run S1 σ H1 (A.next t1) Q fun r L2 S2 H2 v ⟨e1, e2⟩ t2 i2 => q r L2 S2 H2 v ⟨by rw [e1]; rfl, e2⟩ (t1.trans t2) i2)
  | false => exact iteF (q _ _ S1 H1 _ ⟨rfl, rfl⟩ t1 (.bl false)))⟩
theorem ex_or {i j : Bool} {rest : List Expr} (h : EX Y a ρ L (.dt (.bool i)) L1) (t : i = false → EX Y (.BoolOp .Or (b :: rest) pos) ρ L1 (.dt (.bool j)) L1) : EX Y (.BoolOp .Or (a :: b :: rest) pos) ρ L (.dt (.bool (i || j))) L1 := ⟨fun S σ H A Q q => wE.of (pe_or wE.pe wE.pe) (h.run S σ H A _ fun r1 L1' S1 H1 x ⟨e1, e2⟩ t1 i1 => by
  subst e1 e2
  refine ⟨i, Da.blAt i1, ?_⟩
  cases i with
  | false => exact iteF ((t rfl).run S1 σ H1 (A.next t1) Q fun r L2 S2 H2 v ⟨e1, e2⟩ t2 i2 => q r L2 S2 H2 v ⟨by rw [e1]; rfl, e2⟩ (t1.trans t2) i2)
  | true => exact iteT (q _ _ S1 H1 _ ⟨rfl, rfl⟩ t1 (.bl true)))⟩

/-! ### calls of built-ins -/
def OpC (X : Cx) (f : Value) (rs : List Rv) (L : Led) (c : Rv) : Prop := ∃ r, CallR X f r ∧ ∀ S H xs, Ok S H L → Rvs S rs xs → ∀ Q : VK, (∀ S' H' v, Step S H L S' H' L → c.is S' v → Q v H') → r xs H Q
theorem ex_callB {x : Str} {id : String} {rs : List Rv} {p : Pos} (ha : AX Y (e :: es) ρ L rs L1) (h : OpC Y.X (.builtin id) rs L1 rc) (hg : Gl Y.X x) (hm : Y.X.mg x = none) (hv : bootBuiltins x = some (.builtin id)) (hn : x ≠ "__name__" := by decide) (hdb : (x == ("__debug__" : Str)) = false := by decide)
    (he : starEach (e :: es) Y.X.env = (false, eval e Y.X.env) :: starEach es Y.X.env := by rfl) (hpl : (backTo pos (starEach es Y.X.env)).any (·.1) = false := by rfl) : EX Y (.Call (.Name x p) (e :: es) [] pos) ρ L rc L1 := ⟨fun S σ H A Q q => by
  obtain ⟨r, ho, hr⟩ := h
  refine wE.of (pe_callB ho hg hm hv wA.pa hn hdb he hpl) (ha.run S σ H A _ fun r1 L1' S1 H1 xs ⟨e1, e2⟩ t1 i1 => ?_)
  subst e1 e2
  exact hr S1 H1 xs t1.ok i1 Q fun S' H' v t2 i2 => q _ _ S' H' v ⟨rfl, rfl⟩ (t1.trans t2) i2⟩
theorem ex_callTy {x : Str} {T : String} {rs : List Rv} {p : Pos} (ha : AX Y (e :: es) ρ L rs L1) (h : OpC Y.X (.type T) rs L1 rc) (hg : Gl Y.X x) (hm : Y.X.mg x = none) (hv : bootBuiltins x = some (.type T)) (hn : x ≠ "__name__" := by decide) (hdb : (x == ("__debug__" : Str)) = false := by decide)
    (he : starEach (e :: es) Y.X.env = (false, eval e Y.X.env) :: starEach es Y.X.env := by rfl) (hpl : (backTo pos (starEach es Y.X.env)).any (·.1) = false := by rfl) : EX Y (.Call (.Name x p) (e :: es) [] pos) ρ L rc L1 := ⟨fun S σ H A Q q => by
  obtain ⟨r, ho, hr⟩ := h
  refine wE.of (pe_callTy ho hg hm hv wA.pa hn hdb he hpl) (ha.run S σ H A _ fun r1 L1' S1 H1 xs ⟨e1, e2⟩ t1 i1 => ?_)
  subst e1 e2
  exact hr S1 H1 xs t1.ok i1 Q fun S' H' v t2 i2 => q _ _ S' H' v ⟨rfl, rfl⟩ (t1.trans t2) i2⟩
theorem rvs1 {S : Hp} {xs : List V} (h : Rvs S [r] xs) : ∃ x, xs = [x] ∧ r.is S x := by
  cases h with
  | cons a t => cases t; exact ⟨_, rfl, a⟩
theorem rvs2 {S : Hp} {xs : List V} (h : Rvs S [ra, rb] xs) : ∃ x y, xs = [x, y] ∧ ra.is S x ∧ rb.is S y := by
  cases h with
  | cons a t =>
    cases t with
    | cons b t => cases t; exact ⟨_, _, rfl, a, b⟩
theorem c_lenR {rs : List Rv} (a : LR L r rs) : OpC X (.builtin "len") [r] L (.dt (.int rs.length)) := ⟨_, call_len_seq, fun S H xs k hx Q q => by
  obtain ⟨x, rfl, i⟩ := rvs1 hx
  obtain ⟨p, ys, rfl, e1, t1⟩ := LR.at_ a k i
  exact ⟨p, ys, rfl, .inl (SqL.of e1), by rw [← Rvs.len t1]; exact q S H _ (Step.refl k) (.int _)⟩⟩
theorem c_lenL {ds : List PyData} (a : LL L r ds) : OpC X (.builtin "len") [r] L (.dt (.int ds.length)) := by
  have h := c_lenR (X := X) a
  rwa [List.length_map] at h
theorem c_lenT {ds : List PyData} : OpC X (.builtin "len") [.dt (.tuple ds)] L (.dt (.int ds.length)) := ⟨_, call_len_seq, fun S H xs k hx Q q => by
  obtain ⟨x, rfl, i⟩ := rvs1 hx
  obtain ⟨p, ys, rfl, _, e1, t1⟩ := Da.tupAt k i
  exact ⟨p, ys, rfl, .inr (SqT.of e1), by rw [t1.len]; exact q S H _ (Step.refl k) (.int _)⟩⟩
theorem c_lenS {z : Str} (hz : z.length ≤ sizeLine) : OpC X (.builtin "len") [.dt (.str z)] L (.dt (.int z.length)) := ⟨_, call_len_str, fun S H xs k hx Q q => by
  obtain ⟨x, rfl, i⟩ := rvs1 hx
  exact ⟨z, by rw [Da.strAt i], hz, q S H _ (Step.refl k) (.int _)⟩⟩
theorem c_int {i : Int} : OpC X (.type "int") [.dt (.int i)] L (.dt (.int i)) := ⟨_, call_int1, fun S H xs k hx Q q => by
  obtain ⟨x, rfl, h⟩ := rvs1 hx
  exact .inl ⟨i, by rw [Da.intAt h], q S H _ (Step.refl k) (.int _)⟩⟩
theorem c_intB {i : Bool} : OpC X (.type "int") [.dt (.bool i)] L (.dt (.int (if i then 1 else 0))) := ⟨_, call_int1, fun S H xs k hx Q q => by
  obtain ⟨x, rfl, h⟩ := rvs1 hx
  exact .inr ⟨i, by rw [Da.blAt h], q S H _ (Step.refl k) (.int _)⟩⟩
theorem c_max {i j : Int} (hc : X.calm = true) : OpC X (.builtin "max") [.dt (.int i), .dt (.int j)] L (.dt (.int (if j > i then j else i))) := ⟨_, call_max2 hc, fun S H xs k hx Q q => by
  obtain ⟨x, y, rfl, h1, h2⟩ := rvs2 hx
  exact ⟨i, j, by rw [Da.intAt h1, Da.intAt h2], q S H _ (Step.refl k) (.int _)⟩⟩
theorem c_min {i j : Int} (hc : X.calm = true) : OpC X (.builtin "min") [.dt (.int i), .dt (.int j)] L (.dt (.int (if j < i then j else i))) := ⟨_, call_min2 hc, fun S H xs k hx Q q => by
  obtain ⟨x, y, rfl, h1, h2⟩ := rvs2 hx
  exact ⟨i, j, by rw [Da.intAt h1, Da.intAt h2], q S H _ (Step.refl k) (.int _)⟩⟩
theorem c_ord {z : Str} (hz : z.length = 1) : OpC X (.builtin "ord") [.dt (.str z)] L (.dt (.int (z.cps.getD 0 0 : Nat))) := ⟨_, call_ord, fun S H xs k hx Q q => by
  obtain ⟨x, rfl, i⟩ := rvs1 hx
  exact ⟨z, by rw [Da.strAt i], hz, q S H _ (Step.refl k) (.int _)⟩⟩
/-- list(x): a new list that nobody changes -/
theorem c_list {ds : List PyData} (a : LL L r ds) : OpC X (.type "list") [r] L (.dt (.list ds)) := ⟨_, call_list_of, fun S H xs k hx Q q => by
  obtain ⟨x, rfl, i⟩ := rvs1 hx
  obtain ⟨p, ys, rfl, e1, t1⟩ := LL.at_ a k i
  refine ⟨p, ys, rfl, .inl (SqL.of e1), fun n hn => ?_⟩
  have sn := Sub.new (o := HO.lst ys) (k.sub.none hn)
  exact q _ _ _ (Step.still k hn) (.lst upd_same (t1.mono sn))⟩
theorem c_listT {ds : List PyData} : OpC X (.type "list") [.dt (.tuple ds)] L (.dt (.list ds)) := ⟨_, call_list_of, fun S H xs k hx Q q => by
  obtain ⟨x, rfl, i⟩ := rvs1 hx
  obtain ⟨p, ys, rfl, _, e1, t1⟩ := Da.tupAt k i
  refine ⟨p, ys, rfl, .inr (SqT.of e1), fun n hn => ?_⟩
  have sn := Sub.new (o := HO.lst ys) (k.sub.none hn)
  exact q _ _ _ (Step.still k hn) (.lst upd_same (t1.mono sn))⟩
theorem c_tuple {ds : List PyData} (a : LL L r ds) : OpC X (.type "tuple") [r] L (.dt (.tuple ds)) := ⟨_, call_tuple_of, fun S H xs k hx Q q => by
  obtain ⟨x, rfl, i⟩ := rvs1 hx
  obtain ⟨p, ys, rfl, e1, t1⟩ := LL.at_ a k i
  refine ⟨p, ys, rfl, .inl ⟨SqL.of e1, fun n hn => ?_⟩⟩
  have sn := Sub.new (o := HO.tup ys) (k.sub.none hn)
  exact q _ _ _ (Step.still k hn) (.tup upd_same (t1.mono sn))⟩
theorem c_tupleT {ds : List PyData} : OpC X (.type "tuple") [.dt (.tuple ds)] L (.dt (.tuple ds)) := ⟨_, call_tuple_of, fun S H xs k hx Q q => by
  obtain ⟨x, rfl, i⟩ := rvs1 hx
  obtain ⟨p, ys, rfl, e0, e1, t1⟩ := Da.tupAt k i
  exact ⟨p, ys, rfl, .inr ⟨SqT.of e1, q S H _ (Step.refl k) (.tup e0 t1)⟩⟩⟩
/-- isinstance -/
def tyName : PyData → String
  | .none => "NoneType"
  | .bool _ => "bool"
  | .int _ => "int"
  | .str _ => "str"
  | .list _ => "list"
  | .tuple _ => "tuple"
  | .dict _ => "dict"
theorem tyx {K : PySem.W.Frag} {S H : Hp} {d : PyData} {x : V} (k : Sub S H) (h : Da S x d) : TyX K H x (.type (tyName d)) := by
  cases h with
  | non => exact .base .non
  | bl b => exact .base (.bl b)
  | int b => exact .base (.int b)
  | str b => exact .base (.str b)
  | lst e t => exact .base (.lst (k _ _ e))
  | tup e t => exact .base (.tup (k _ _ e))
theorem tyxD {K : PySem.W.Frag} {S H : Hp} {d : PyData} {x : V} (k : Ok S H L) (hd : DD L r d) (h : r.is S x) : TyX K H x (.type (tyName d)) := by
  cases hd with
  | dt => exact tyx k.sub h
  | @lst p rs ds e t =>
    obtain ⟨_, o, e2, xs, rfl, rv⟩ := k.led p _ e
    have ex : x = .ref p := h
    subst ex
    exact .base (.lst e2)
def isK (a b : String) : Bool := a == b || (a == "bool" && b == "int")
abbrev TyNs : List String := ["bool", "int", "str", "list", "tuple"]
theorem kit_str : ∀ a ∈ ["NoneType", "bool", "int", "str", "list", "tuple", "dict"], ∀ b ∈ TyNs, kitB a b = some (isK a b) := by decide +kernel
theorem kit_all (d : PyData) {T : String} (hT : T ∈ TyNs) : kitB (tyName d) T = some (isK (tyName d) T) := kit_str _ (by cases d <;> simp [tyName]) T hT
theorem c_isi {d : PyData} {T : String} (hd : DD L r d) (hT : T ∈ TyNs) : OpC X (.builtin "isinstance") [r, .vl (.ty T)] L (.dt (.bool (isK (tyName d) T))) := ⟨_, call_isi, fun S H xs ok hx Q q => by
  obtain ⟨x, y, rfl, h1, h2⟩ := rvs2 hx
  cases (show y = .ty T from h2)
  exact ⟨x, .ty T, _, _, _, rfl, .ty T, tyxD ok hd h1, kit_ty (kit_all d hT), q S H _ (Step.refl ok) (.bl _)⟩⟩
/-- isinstance(x, (T1, T2)) -/
theorem ex_isi2 {d : PyData} {T1 T2 : String} {x y z : Str} {p p1 p2 p3 : Pos} {kk : Nat} (ha : EX Y e ρ L r L1) (hd : DD L1 r d) (hT1 : T1 ∈ TyNs) (hT2 : T2 ∈ TyNs)
    (hg : Gl Y.X x) (hm : Y.X.mg x = none) (hv : bootBuiltins x = some (.builtin "isinstance")) (hg1 : Gl Y.X y) (hm1 : Y.X.mg y = none) (hv1 : bootBuiltins y = some (.type T1)) (hg2 : Gl Y.X z) (hm2 : Y.X.mg z = none) (hv2 : bootBuiltins z = some (.type T2))
    (hn : x ≠ "__name__" := by decide) (hdb : (x == ("__debug__" : Str)) = false := by decide) (hn1 : y ≠ "__name__" := by decide) (hdb1 : (y == ("__debug__" : Str)) = false := by decide) (hn2 : z ≠ "__name__" := by decide) (hdb2 : (z == ("__debug__" : Str)) = false := by decide)
    (he : starEach (e :: [.Tuple [.Name y p1, .Name z p2] kk p3]) Y.X.env = (false, eval e Y.X.env) :: starEach [.Tuple [.Name y p1, .Name z p2] kk p3] Y.X.env := by rfl) (hpl : (backTo pos (starEach [.Tuple [.Name y p1, .Name z p2] kk p3] Y.X.env)).any (·.1) = false := by rfl)
    (he1 : starEach [.Tuple [.Name y p1, .Name z p2] kk p3] Y.X.env = (false, eval (.Tuple [.Name y p1, .Name z p2] kk p3) Y.X.env) :: starEach [] Y.X.env := by rfl)
    (he2 : starEach [.Name y p1, .Name z p2] Y.X.env = (false, eval (.Name y p1) Y.X.env) :: starEach [.Name z p2] Y.X.env := by rfl) (he3 : starEach [.Name z p2] Y.X.env = (false, eval (.Name z p2) Y.X.env) :: starEach [] Y.X.env := by rfl) :
    EX Y (.Call (.Name x p) [e, .Tuple [.Name y p1, .Name z p2] kk p3] [] pos) ρ L (.dt (.bool (isK (tyName d) T1 || isK (tyName d) T2))) L1 := ⟨fun S σ H A Q q => by
  refine wE.of (pe_callB call_isiT hg hm hv (pa_cons wE.pe (pa_cons (pe_tup (pa_cons (pe_bltn (v := .ty T1) hg1 hm1 hv1 rfl hn1 hdb1) (pa_cons (pe_bltn (v := .ty T2) hg2 hm2 hv2 rfl hn2 hdb2) pa_nil he3) he2)) pa_nil he1) he) hn hdb he hpl) (ha.run S σ H A _ fun r1 L1' S1 H1 v ⟨e1, e2⟩ t1 i1 => ?_)
  subst e1 e2
  refine ⟨by show 2 ≤ sizeLine; decide, fun t ht => ?_⟩
  refine ⟨v, t, [.ty T1, .ty T2], _, [.type T1, .type T2], isK (tyName d) T1 || isK (tyName d) T2, rfl, upd_same, .cons (.ty _) (.cons (.ty _) .nil), tyxD (t1.ok.dust ht) hd i1, kitAny_cons (kit_ty (kit_all d hT1)) (fun e => ?_) (fun e => by rw [e] <;> rfl), q _ _ S1 _ _ ⟨rfl, rfl⟩ (t1.trans (Step.dust t1.ok ht)) (.bl _)⟩
  rw [e]
  refine kitAny_cons (kit_ty (kit_all d hT2)) (fun e2 => ?_) (fun e2 => ?_)
  · rw [e2]
    exact kitAny_nil
  · rw [e2] <;> rfl⟩

/-! ### tests -/
theorem tx_val {k : Bool} (h : EX Y e ρ L (.dt (.bool k)) L1) (he : ∀ whole, isTrue e Y.X.env whole = (do let v ← whole; standAt e.pos; holding [v] (truthy v)) := by intro _; rfl) : TX Y e ρ L k L1 := ⟨fun S σ H A Q q => wT.of (pt_val wE.pe he) (h.run S σ H A _ fun r1 L1' S1 H1 x ⟨e1, e2⟩ t1 i1 => by
  subst e1 e2
  exact ⟨k, Da.blAt i1, q _ _ S1 H1 ⟨rfl, rfl⟩ t1⟩)⟩
theorem tx_not {k : Bool} (h : TX Y e ρ L k L1) : TX Y (.UnaryOp .Not e pos) ρ L (!k) L1 := ⟨fun S σ H A Q q => wT.of (pt_not wT.pt) (h.run S σ H A _ fun r1 L1' S1 H1 ⟨e1, e2⟩ t1 => by
  subst e1 e2
  exact q _ _ S1 H1 ⟨rfl, rfl⟩ t1)⟩
theorem tx_w {k : Bool} (h : WX' Y e ρ L k L1) : TX Y e ρ L k L1 := ⟨fun S σ H A Q q => wT.of wW.pw.pt (h.run S σ H A Q q)⟩
theorem wx_and1 {k : Bool} (h : TX Y e ρ L k L1) : WX' Y (.BoolOp .And [e] pos) ρ L k L1 := ⟨fun S σ H A Q q => wW.of (pw_and1 wT.pt) (h.run S σ H A Q q)⟩
theorem wx_or1 {k : Bool} (h : TX Y e ρ L k L1) : WX' Y (.BoolOp .Or [e] pos) ρ L k L1 := ⟨fun S σ H A Q q => wW.of (pw_or1 wT.pt) (h.run S σ H A Q q)⟩
theorem wx_and {i j : Bool} {rest : List Expr} (h : TX Y a ρ L i L1) (t : i = true → WX' Y (.BoolOp .And (b :: rest) pos) ρ L1 j L1) : WX' Y (.BoolOp .And (a :: b :: rest) pos) ρ L (i && j) L1 := ⟨fun S σ H A Q q => wW.of (pw_and wT.pt wW.pw) (h.run S σ H A _ fun r1 L1' S1 H1 ⟨e1, e2⟩ t1 => by
  subst e1 e2
  cases r1 with
  | true => exact iteT ((t rfl).run S1 σ H1 (A.next t1) Q fun r L2 S2 H2 ⟨e1, e2⟩ t2 => q r L2 S2 H2 ⟨by rw [e1]; rfl, e2⟩ (t1.trans t2))
  | false => exact iteF (q _ _ S1 H1 ⟨rfl, rfl⟩ t1))⟩
theorem wx_or {i j : Bool} {rest : List Expr} (h : TX Y a ρ L i L1) (t : i = false → WX' Y (.BoolOp .Or (b :: rest) pos) ρ L1 j L1) : WX' Y (.BoolOp .Or (a :: b :: rest) pos) ρ L (i || j) L1 := ⟨fun S σ H A Q q => wW.of (pw_or wT.pt wW.pw) (h.run S σ H A _ fun r1 L1' S1 H1 ⟨e1, e2⟩ t1 => by
  subst e1 e2
  cases r1 with
  | false => exact iteF ((t rfl).run S1 σ H1 (A.next t1) Q fun r L2 S2 H2 ⟨e1, e2⟩ t2 => q r L2 S2 H2 ⟨by rw [e1]; rfl, e2⟩ (t1.trans t2))
  | true => exact iteT (q _ _ S1 H1 ⟨rfl, rfl⟩ t1))⟩
/-- x op y op' z -/
theorem rm_bl {rr : R2} {k : Bool} (h : RM rr ra rb L (.dt (.bool k))) : ∀ S H x y, Ok S H L → ra.is S x → rb.is S y → ∀ Q : VK, (∀ S' H', Step S H L S' H' L → Q (.bl k) H') → rr x y H Q := fun S H x y ok hx hy Q q =>
  h S H x y ok hx hy Q fun S' H' v s i => by
    rw [Da.blAt i]
    exact q S' H' s
theorem ex_chain {op op' : CmpOp} {i j : Bool} (ha : EX Y a ρ L ra L1) (hb : EX Y b ρ L1 rb L2) (hc : i = true → EX Y c ρ L2 rc L2) (h : Op2 Y.X (compareOp op) ra rb L2 (.dt (.bool i))) (h' : i = true → Op2 Y.X (compareOp op') rb rc L2 (.dt (.bool j))) (h0 : ∃ r, OpR Y.X (compareOp op') r)
    (hm : lastMarks [op, op'] [b, c] = false := by rfl) : EX Y (.Compare a [op, op'] [b, c] pos) ρ L (.dt (.bool (i && j))) L2 := ⟨fun S σ H A Q q => by
  obtain ⟨r, ho, hr⟩ := h
  obtain ⟨r', ho', hr'⟩ : ∃ r', OpR Y.X (compareOp op') r' ∧ (i = true → RM r' rb rc L2 (.dt (.bool j))) := by
    cases i with
    | true =>
      obtain ⟨r', a, b⟩ := h' rfl
      exact ⟨r', a, fun _ => b⟩
    | false =>
      obtain ⟨r', a⟩ := h0
      exact ⟨r', a, fun z => by cases z⟩
  refine wE.of (pe_chain ho ho' wE.pe wE.pe wE.pe hm) (ha.run S σ H A _ fun r1 L1' S1 H1 x ⟨e1, e2⟩ t1 i1 => ?_)
  subst e1 e2
  refine hb.run S1 σ H1 (A.next t1) _ fun r2 L2' S2 H2 y ⟨e1, e2⟩ t2 i2 => ?_
  subst e1 e2
  refine rm_bl hr S2 H2 x y t2.ok (i1.mono t2.sub) i2 _ fun S3 H3 t3 => ⟨i, rfl, ?_⟩
  cases i with
  | false => exact iteF (q _ _ S3 H3 _ ⟨rfl, rfl⟩ ((t1.trans t2).trans t3) (.bl _))
  | true =>
    refine iteT ((hc rfl).run S3 σ H3 (A.next ((t1.trans t2).trans t3)) _ fun r4 L4 S4 H4 z ⟨e1, e2⟩ t4 i4 => ?_)
    subst e1 e2
    exact hr' rfl S4 H4 y z t4.ok ((i2.mono t3.sub).mono t4.sub) i4 Q fun S5 H5 v t5 i5 => q _ _ S5 H5 v ⟨rfl, rfl⟩ ((((t1.trans t2).trans t3).trans t4).trans t5) i5⟩
end
end Cw

set_option Elab.async false
set_option linter.all false
set_option maxRecDepth 100000
set_option maxHeartbeats 2000000
/-! Cw, part D: defs and their calls; statements; loops; comprehensions; lists that change; objects. -/
namespace Cw
open PySem PySem.Spec PyProof.Rows L2

/-! ### what a def promises, on data -/
abbrev Fs := List Rv → Led → (Rv → Led → Prop) → (Value → Led → Prop) → Prop
def lift (sp : Fs) : Sp := fun vs H Q E => ∃ S L as K XC, Ok S H L ∧ Rvs S as vs ∧ sp as L K XC ∧ (∀ r L' S' H' v, K r L' → Step S H L S' H' L' → r.is S' v → Q v H') ∧ (∀ c L' S' H', XC c L' → Step S H L S' H' L' → E c none H')
def noX : Value → Led → Prop := fun _ _ => False
/-- the def x lets nothing out -/
structure FnM (P : Program) (w : World) (K : PySem.W.Frag) (mg : Str → Option Value) (base : Heap) (k : Nat) (x : Str) (ps : List Str) (sp : Fs) : Prop where
  ex : ∃ f fd, mg x = some (.ref f) ∧ PySem.W.keepIn K (.ref f) = true ∧ Binds K fd ps [] ∧ FnOk P w K mg base CX0 k f fd ps (lift sp)
/-- .. may let an error out -/
structure FnX (P : Program) (w : World) (K : PySem.W.Frag) (mg : Str → Option Value) (base : Heap) (k : Nat) (x : Str) (ps : List Str) (sp : Fs) : Prop where
  ex : ∃ f fd, mg x = some (.ref f) ∧ PySem.W.keepIn K (.ref f) = true ∧ Binds K fd ps [] ∧ FnOk P w K mg base (L2.CX P w) k f fd ps (lift sp)
/-- a method m of the class at C -/
structure MtM (P : Program) (w : World) (K : PySem.W.Frag) (mg : Str → Option Value) (base : Heap) (k : Nat) (C : Addr) (m : Str) (ps : List Str) (sp : Fs) : Prop where
  ex : ∃ f fd, Meth K C m f ∧ Binds K fd ps [] ∧ FnOk P w K mg base CX0 k f fd ps (lift sp)
structure MtX (P : Program) (w : World) (K : PySem.W.Frag) (mg : Str → Option Value) (base : Heap) (k : Nat) (C : Addr) (m : Str) (ps : List Str) (sp : Fs) : Prop where
  ex : ∃ f fd, Meth K C m f ∧ Binds K fd ps [] ∧ FnOk P w K mg base (L2.CX P w) k f fd ps (lift sp)

section
variable {Y : Cm} {ρ : Rho} {L La Lb Lc : Led} {r ra rb rc : Rv} {e a b c : Expr} {es : List Expr} {pos p : Pos} {X : Cx} {sp : Fs} {k : Nat} {x m : Str} {ps : List Str} {K : Rv → Led → Prop}

theorem me_call (G : FnM Y.X.prog Y.X.w Y.X.K Y.X.mg Y.X.base k x ps sp) (hr : Room k Y.X.A) (hg : Gl Y.X x) (ha : MA Y (e :: es) ρ L fun rs L1 => sp rs L1 K noX) (hdb : (x == ("__debug__" : Str)) = false := by decide)
    (he : starEach (e :: es) Y.X.env = (false, eval e Y.X.env) :: starEach es Y.X.env := by rfl) (hpl : (backTo pos (starEach es Y.X.env)).any (·.1) = false := by rfl) : ME Y (.Call (.Name x p) (e :: es) [] pos) ρ L K := ⟨fun S σ H A Q q => by
  obtain ⟨f, fd, hm, hk, hb, F⟩ := G.ex
  refine wE.of (pe_call F hr hg hm hk hb .nil pass0 wA.pa hdb he hpl) (ha.run S σ H A _ fun rs L1 S1 H1 vs h t1 i1 => ?_)
  rw [List.append_nil]
  exact ⟨S1, L1, rs, K, noX, t1.ok, i1, h, fun r L' S' H' v kk t i => q r L' S' H' v kk (t1.trans t) i, fun _ _ _ _ z => z.elim⟩⟩
theorem me_call0 (G : FnM Y.X.prog Y.X.w Y.X.K Y.X.mg Y.X.base k x ps sp) (hr : Room k Y.X.A) (hg : Gl Y.X x) (ha : sp [] L K noX) (hdb : (x == ("__debug__" : Str)) = false := by decide) : ME Y (.Call (.Name x p) [] [] pos) ρ L K := ⟨fun S σ H A Q q => by
  obtain ⟨f, fd, hm, hk, hb, F⟩ := G.ex
  refine wE.of (pe_call0 F hr hg hm hk hb .nil pass0 hdb) ?_
  exact ⟨S, L, [], K, noX, A.ok, .nil, ha, fun r L' S' H' v kk t i => q r L' S' H' v kk t i, fun _ _ _ _ z => z.elim⟩⟩
theorem me_callX (G : FnX Y.X.prog Y.X.w Y.X.K Y.X.mg Y.X.base k x ps sp) (hr : Room k Y.X.A) (hg : Gl Y.X x) (ha : MA Y (e :: es) ρ L fun rs L1 => sp rs L1 K fun c L' => Y.xc c ρ L') (hdb : (x == ("__debug__" : Str)) = false := by decide)
    (he : starEach (e :: es) Y.X.env = (false, eval e Y.X.env) :: starEach es Y.X.env := by rfl) (hpl : (backTo pos (starEach es Y.X.env)).any (·.1) = false := by rfl) : ME Y (.Call (.Name x p) (e :: es) [] pos) ρ L K := ⟨fun S σ H A Q q => by
  obtain ⟨f, fd, hm, hk, hb, F⟩ := G.ex
  refine wE.of (pe_callS F hr hg hm hk hb (fun σ => passAt Y.tk σ) wA.pa hdb he hpl) (ha.run S σ H A _ fun rs L1 S1 H1 vs h t1 i1 => ?_)
  exact ⟨S1, L1, rs, K, _, t1.ok, i1, h, fun r L' S' H' v kk t i => q r L' S' H' v kk (t1.trans t) i, fun c L' S' H' z t => A.lx c ρ L' S' H' σ z (t1.trans t) (A.es.mono (t1.trans t).sub)⟩⟩
/-- the instance's attributes -/
theorem rf_lookup {S : Hp} {f : Str} : ∀ {fs : List (Str × Rv)} {gs : List (Str × V)}, RF S fs gs → (fs.lookup f = none → gs.lookup f = none) ∧ ∀ r, fs.lookup f = some r → ∃ v, gs.lookup f = some v ∧ r.is S v
  | _, _, .nil => ⟨fun _ => rfl, fun _ h => by cases h⟩
  | (g, r) :: fs, (g', v) :: gs, .cons ⟨e, i⟩ t => by
    have ih := rf_lookup (f := f) t
    have e' : g = g' := e
    subst e'
    cases q : (f == g) with
    | true =>
      refine ⟨fun h => ?_, fun r' h => ?_⟩
      · rw [List.lookup_cons, q] at h
        cases h
      · rw [List.lookup_cons, q] at h
        cases h
        exact ⟨v, by rw [List.lookup_cons, q], i⟩
    | false =>
      refine ⟨fun h => ?_, fun r' h => ?_⟩
      · rw [List.lookup_cons, q] at h ⊢
        exact ih.1 h
      · rw [List.lookup_cons, q] at h
        obtain ⟨v', h1, h2⟩ := ih.2 r' h
        exact ⟨v', by rw [List.lookup_cons, q]; exact h1, h2⟩
theorem Ok.ins {S H : Hp} {q : Addr} {C : Addr} {fs : List (Str × Rv)} (k : Ok S H L) (h : L q = some (.ins C fs)) : ∃ dx gs, H q = some (.ins C dx gs) ∧ RF S fs gs := by
  obtain ⟨_, o, e, dx, gs, rfl, i⟩ := k.led q _ h
  exact ⟨dx, gs, e, i⟩
/-- o.m(e, ..) -/
theorem me_meth {pl : Sem Bool} {q C : Addr} {fs : List (Str × Rv)} {apos : Pos} (ho : EX Y a ρ L (.vl (.ref q)) La) (hq : La q = some (.ins C fs)) (hn : fs.lookup m = none) (c : Cls Y.X.K C) (G : MtM Y.X.prog Y.X.w Y.X.K Y.X.mg Y.X.base k C m ps sp) (hr : Room k Y.X.A)
    (ha : MA Y (e :: es) ρ La fun rs L1 => sp (.vl (.ref q) :: rs) L1 K noX)
    (hst : starEach (e :: es) Y.X.env = (false, eval e Y.X.env) :: starEach es Y.X.env := by rfl) (hpl : (backTo pos (starEach es Y.X.env)).any (·.1) = false := by rfl)
    (ht : eval (.Call (.Attribute a m apos) (e :: es) [] pos) Y.X.env = (do
      let ov ← eval a Y.X.env
      standAt apos.atName
      let (f, first) ← holding [ov] (getMethod ov m pl)
      callWith pos f first (backTo pos (starEach (e :: es) Y.X.env)) (backToKw pos (keywordEach [] Y.X.env))) := by rfl) : ME Y (.Call (.Attribute a m apos) (e :: es) [] pos) ρ L K := ⟨fun S σ H A Q qq => by
  obtain ⟨f, fd, hm, hb, F⟩ := G.ex
  refine wE.of (pe_meth (pl := pl) wE.pe c hm F hr hb .nil pass0 wA.pa hst hpl ht) (ho.run S σ H A _ fun r1 L1' S1 H1 x ⟨e1, e2⟩ t1 i1 => ?_)
  subst e1 e2
  obtain ⟨dx, gs, hg, rf⟩ := t1.ok.ins hq
  refine ⟨q, dx, gs, i1, hg, (rf_lookup rf).1 hn, ?_⟩
  refine ha.run S1 σ H1 (A.next t1) _ fun rs L2 S2 H2 vs h t2 i2 => ?_
  rw [List.append_nil]
  exact ⟨S2, L2, _, K, noX, t2.ok, .cons (show Rv.is S2 (.vl (.ref q)) x from i1) i2, h, fun r L' S' H' v kk t i => qq r L' S' H' v kk ((t1.trans t2).trans t) i, fun _ _ _ _ z => z.elim⟩⟩
theorem me_meth0 {pl : Sem Bool} {q C : Addr} {fs : List (Str × Rv)} {apos : Pos} (ho : EX Y a ρ L (.vl (.ref q)) La) (hq : La q = some (.ins C fs)) (hn : fs.lookup m = none) (c : Cls Y.X.K C) (G : MtM Y.X.prog Y.X.w Y.X.K Y.X.mg Y.X.base k C m ps sp) (hr : Room k Y.X.A)
    (ha : sp [.vl (.ref q)] La K noX)
    (ht : eval (.Call (.Attribute a m apos) [] [] pos) Y.X.env = (do
      let ov ← eval a Y.X.env
      standAt apos.atName
      let (f, first) ← holding [ov] (getMethod ov m pl)
      callWith pos f first (backTo pos (starEach [] Y.X.env)) (backToKw pos (keywordEach [] Y.X.env))) := by rfl) : ME Y (.Call (.Attribute a m apos) [] [] pos) ρ L K := ⟨fun S σ H A Q qq => by
  obtain ⟨f, fd, hm, hb, F⟩ := G.ex
  refine wE.of (pe_meth0 (pl := pl) wE.pe c hm F hr hb .nil pass0 ht) (ho.run S σ H A _ fun r1 L1' S1 H1 x ⟨e1, e2⟩ t1 i1 => ?_)
  subst e1 e2
  obtain ⟨dx, gs, hg, rf⟩ := t1.ok.ins hq
  refine ⟨q, dx, gs, i1, hg, (rf_lookup rf).1 hn, ?_⟩
  exact ⟨S1, L1', _, K, noX, t1.ok, .cons i1 .nil, ha, fun r L' S' H' v kk t i => qq r L' S' H' v kk (t1.trans t) i, fun _ _ _ _ z => z.elim⟩⟩
/-- C(e, ..): a new instance; sp: what __init__ promises -/
theorem me_make {C : Addr} {f : Addr} {fd : FuncData} (M : Mk Y.X.K C f) (F : FnOk Y.X.prog Y.X.w Y.X.K Y.X.mg Y.X.base CX0 k f fd ps (lift sp)) (hb : Binds Y.X.K fd ps []) (hr : Room (k + 1) Y.X.A) (hg : Gl Y.X x) (hm : Y.X.mg x = some (.ref C))
    (ha : MA Y (e :: es) ρ L fun rs L1 => ∀ q, L1 q = none → sp (.vl (.ref q) :: rs) (updL L1 q (.ins C [])) (fun r L2 => r = .dt .none ∧ K (.vl (.ref q)) L2) noX) (hdb : (x == ("__debug__" : Str)) = false := by decide)
    (he : starEach (e :: es) Y.X.env = (false, eval e Y.X.env) :: starEach es Y.X.env := by rfl) (hpl : (backTo pos (starEach es Y.X.env)).any (·.1) = false := by rfl) : ME Y (.Call (.Name x p) (e :: es) [] pos) ρ L K := ⟨fun S σ H A Q q => by
  refine wE.of (pe_make M F hr hg hm hb .nil pass0 wA.pa hdb he hpl) (ha.run S σ H A _ fun rs L1 S1 H1 vs h t1 i1 => ?_)
  intro z dx hz hdx hne
  rw [List.append_nil]
  have t2 := Step.dust (o := HO.own z) t1.ok hdx
  have hz' : upd H1 dx (.own z) z = none := by rw [upd_ne (Ne.symm hne)]; exact hz
  have t3 := Step.new (o := HO.ins C dx []) (m := MO.ins C []) t2.ok hz' ⟨dx, [], rfl, .nil⟩
  refine ⟨S1, _, _, _, noX, t3.ok, .cons (show Rv.is S1 (.vl (.ref z)) (.ref z) from rfl) i1, h z (t1.ok.free hz), fun r L' S' H' v ⟨e1, kk⟩ t i => ?_, fun _ _ _ _ z => z.elim⟩
  subst e1
  exact ⟨Da.nonAt i, q _ L' S' H' _ kk (((t1.trans t2).trans t3).trans t) rfl⟩⟩
theorem me_make0 {C : Addr} {f : Addr} {fd : FuncData} (M : Mk Y.X.K C f) (F : FnOk Y.X.prog Y.X.w Y.X.K Y.X.mg Y.X.base CX0 k f fd ps (lift sp)) (hb : Binds Y.X.K fd ps []) (hr : Room (k + 1) Y.X.A) (hg : Gl Y.X x) (hm : Y.X.mg x = some (.ref C))
    (ha : ∀ q, L q = none → sp [.vl (.ref q)] (updL L q (.ins C [])) (fun r L2 => r = .dt .none ∧ K (.vl (.ref q)) L2) noX) (hdb : (x == ("__debug__" : Str)) = false := by decide) : ME Y (.Call (.Name x p) [] [] pos) ρ L K := ⟨fun S σ H A Q q => by
  refine wE.of (pe_make0 M F hr hg hm hb .nil pass0 hdb) ?_
  intro z dx hz hdx hne
  have t2 := Step.dust (o := HO.own z) A.ok hdx
  have hz' : upd H dx (.own z) z = none := by rw [upd_ne (Ne.symm hne)]; exact hz
  have t3 := Step.new (o := HO.ins C dx []) (m := MO.ins C []) t2.ok hz' ⟨dx, [], rfl, .nil⟩
  refine ⟨S, _, _, _, noX, t3.ok, .cons (show Rv.is S (.vl (.ref z)) (.ref z) from rfl) .nil, ha z (A.ok.free hz), fun r L' S' H' v ⟨e1, kk⟩ t i => ?_, fun _ _ _ _ z => z.elim⟩
  subst e1
  exact ⟨Da.nonAt i, q _ L' S' H' _ kk ((t2.trans t3).trans t) rfl⟩⟩
/-- o.f -/
theorem ex_fld {q C : Addr} {fs : List (Str × Rv)} {f : Str} (ho : EX Y a ρ L (.vl (.ref q)) La) (hq : La q = some (.ins C fs)) (hf : fs.lookup f = some r) (c : Cls Y.X.K C) (n : NoAttr Y.X.K C f) (hb : attributeBase a f Y.X.env (eval a Y.X.env) = eval a Y.X.env := by rfl) : EX Y (.Attribute a f pos) ρ L r La := ⟨fun S σ H A Q qq => by
  refine wE.of (pe_fld wE.pe hb) (ho.run S σ H A _ fun r1 L1' S1 H1 x ⟨e1, e2⟩ t1 i1 => ?_)
  subst e1 e2
  obtain ⟨dx, gs, hg, rf⟩ := t1.ok.ins hq
  obtain ⟨v, h1, h2⟩ := (rf_lookup rf).2 r hf
  exact ⟨q, C, dx, gs, v, i1, hg, c, n, h1, qq _ _ S1 H1 v ⟨rfl, rfl⟩ t1 h2⟩⟩
end

/-! ### the body of a def -/
def start (N : List Str) (as : List Rv) : Rho := as.map some ++ List.replicate (N.length - as.length) none
theorem es_start {S : Hp} {N : List Str} {as : List Rv} {vs : List V} (h : Rvs S as vs) : Es S (L2.start N vs) (start N as) := by
  have hl := Rvs.len h
  refine ⟨?_, fun i r q => ?_⟩
  · unfold L2.start start
    rw [List.length_append, List.length_append, List.length_map, List.length_map, List.length_replicate, List.length_replicate, hl]
  · unfold start at q
    by_cases hi : i < as.length
    · rw [List.getElem?_append_left (by rw [List.length_map]; exact hi), List.getElem?_map] at q
      obtain ⟨r', e⟩ : ∃ r', as[i]? = some r' := ⟨_, List.getElem?_eq_getElem hi⟩
      rw [e] at q
      cases q
      obtain ⟨v, e2, i2⟩ := pgetL h e
      refine ⟨v, ?_, i2⟩
      unfold L2.start
      rw [List.getElem?_append_left (by rw [List.length_map, ← hl]; exact hi), List.getElem?_map, e2]
      rfl
    · rw [List.getElem?_append_right (by rw [List.length_map]; omega)] at q
      rw [List.getElem?_replicate] at q
      split at q <;> cases q
/-- the context of a def's body that lets nothing out -/
abbrev y0 (P : Program) (w : World) (K : PySem.W.Frag) (mg : Str → Option Value) (base : Heap) (N : List Str) (qual : Str) (sc : Scope) (f : Addr) (cdv : Value) (A : Around) (outer : List Env) (s : Shared) (H : Hp) (E : XK) : Cm :=
  ⟨(cxOf CX0 P w K mg base N qual sc f cdv A outer s H E).nox, fun _ _ _ _ => False, fun _ _ _ => False, takes0, PassesOwn.never⟩
section
variable {P : Program} {w : World} {K : PySem.W.Frag} {mg : Str → Option Value} {base : Heap} {x qual : Str} {st : Stmt} {f : Addr} {fd : FuncData} {N ps : List Str} {k : Nat} {sp : Fs}
theorem fnok0 (F : Fun K x qual st f fd) (S : FnScope N ps (defScope st)) (len : ∀ as L Kp XC, sp as L Kp XC → as.length = ps.length)
    (body : ∀ cdv A outer s H E, Room k (A.deeper (envOfC qual (defScope st) s.heap.objs.size f cdv)) → ∀ as L Kp XC, sp as L Kp XC → MSs (y0 P w K mg base N qual (defScope st) f cdv A outer s H E) (defBody st) (fun _ L' => Kp (.dt .none) L') ⟨Kp, fun _ _ => False, fun _ _ => False⟩ (start N as) L) :
    FnOk P w K mg base CX0 (k + 1) f fd ps (lift sp) := by
  refine F.ok S (fun vs H Q E h => ?_) (fun cdv A outer s H vs Q E hr h => ?_)
  · obtain ⟨S, L, as, Kp, XC, _, i, h, _⟩ := h
    rw [← Rvs.len i]
    exact len as L Kp XC h
  · obtain ⟨S, L, as, Kp, XC, ok, i, h, q, _⟩ := h
    refine ⟨wSs _ (defBody st), wSs.ps, (body cdv A outer s H E hr as L Kp XC h).run S _ H ⟨ok, es_start i, fun _ _ _ _ _ _ z => z.elim⟩ _ ⟨fun ρ L' S' H' σ kk t _ => q _ L' S' H' _ kk t .non, fun r L' S' H' v kk t ii => q r L' S' H' v kk t ii, fun _ _ _ _ _ z => z.elim, fun _ _ _ _ _ z => z.elim⟩⟩
/-- the context of a def's body that may let an error out -/
abbrev yX (P : Program) (w : World) (K : PySem.W.Frag) (mg : Str → Option Value) (base : Heap) (N : List Str) (qual : Str) (sc : Scope) (f : Addr) (cdv : Value) (A : Around) (outer : List Env) (s : Shared) (H : Hp) (E : XK) (XC : Value → Led → Prop) : Cm :=
  ⟨cxOf (L2.CX P w) P w K mg base N qual sc f cdv A outer s H E, fun cls d _ H => E cls d H, fun c _ L => XC c L, takes_of rfl rfl rfl rfl, PassesOwn.leaving⟩
theorem fnokX (F : Fun K x qual st f fd) (S : FnScope N ps (defScope st)) (len : ∀ as L Kp XC, sp as L Kp XC → as.length = ps.length)
    (body : ∀ cdv A outer s H E, Room k (A.deeper (envOfC qual (defScope st) s.heap.objs.size f cdv)) → ∀ as L Kp XC, sp as L Kp XC → MSs (yX P w K mg base N qual (defScope st) f cdv A outer s H E XC) (defBody st) (fun _ L' => Kp (.dt .none) L') ⟨Kp, fun _ _ => False, fun _ _ => False⟩ (start N as) L) :
    FnOk P w K mg base (L2.CX P w) (k + 1) f fd ps (lift sp) := by
  refine F.okX S (fun vs H Q E h => ?_) (fun cdv A outer s H vs Q E hr h => ?_)
  · obtain ⟨S, L, as, Kp, XC, _, i, h, _⟩ := h
    rw [← Rvs.len i]
    exact len as L Kp XC h
  · obtain ⟨S, L, as, Kp, XC, ok, i, h, q, qx⟩ := h
    refine ⟨wSs _ (defBody st), wSs.ps, (body cdv A outer s H E hr as L Kp XC h).run S _ H ⟨ok, es_start i, fun c _ L' S' H' _ z t _ => qx c L' S' H' z t⟩ _ ⟨fun ρ L' S' H' σ kk t _ => q _ L' S' H' _ kk t .non, fun r L' S' H' v kk t ii => q r L' S' H' v kk t ii, fun _ _ _ _ _ z => z.elim, fun _ _ _ _ _ z => z.elim⟩⟩
end

/-! ### blocks and small statements -/
section
variable {Y : Cm} {ρ ρ' : Rho} {L L' La : Led} {r ra rb rc : Rv} {e a b c : Expr} {es : List Expr} {pos p : Pos} {st : Stmt} {sts rest sa sb : List Stmt} {N : Rho → Led → Prop} {D : Nd}
theorem mss_nil (h : N ρ L) : MSs Y [] N D ρ L := ⟨fun S σ H A De l => wSs.of pss_nil (l.nx ρ L S H σ h (Step.refl A.ok) A.es)⟩
theorem mss_cons (h : MS Y st (fun ρ L => MSs Y rest N D ρ L) D ρ L) : MSs Y (st :: rest) N D ρ L := ⟨fun S σ H A De l => wSs.of (pss_cons wS.ps wSs.ps) (h.run S σ H A { De with nx := wSs Y.X rest De } ⟨fun ρ' L' S' H' σ' k t es => k.run S' σ' H' ((A.next t).env es) De (l.mono t), l.rt, l.bk, l.ct⟩)⟩
theorem mss_one (h : MS Y st N D ρ L) : MSs Y [st] N D ρ L := mss_cons ⟨fun S σ H A De l => h.run S σ H A De ⟨fun ρ' L' S' H' σ' k t es => l.nx ρ' L' S' H' σ' (mss_nil k) t es, l.rt, l.bk, l.ct⟩⟩
/-- the ledger and the names forgotten in part -/
theorem MSs.le (h : MSs Y sts N D ρ' L') (hl : Le L' L) (hf : Fg ρ' ρ) : MSs Y sts N D ρ L := ⟨fun S σ H A De l =>
  have t : Step S H L S H L' := (Step.refl A.ok).le hl
  h.run S σ H ((A.next t).env (A.es.fg hf)) De (l.mono t)⟩
theorem MSs.settle {q : Addr} {ds : List PyData} (i : Nat) (hi : ρ[i]? = some (some (.vl (.ref q)))) (hq : L q = some (.lst (ds.map Rv.dt))) (h : MSs Y sts N D (ρ.set i (some (.dt (.list ds)))) (delL L q)) : MSs Y sts N D ρ L := ⟨fun S σ H A De l => by
  obtain ⟨S', t, da⟩ := Step.settle A.ok hq
  have es := (A.next t).es
  have hl : i < ρ.length := (List.getElem?_eq_some_iff.mp hi).1
  obtain ⟨v, e1, e2⟩ := es.at_ i _ hi
  have e3 : v = .ref q := e2
  subst e3
  refine h.run S' σ H ((A.next t).env ⟨by rw [List.length_set]; exact es.len, fun j r q' => ?_⟩) De (l.mono t)
  by_cases hj : i = j
  · subst hj
    rw [List.getElem?_set_self hl] at q'
    cases q'
    exact ⟨_, e1, da⟩
  · rw [List.getElem?_set_ne hj] at q'
    exact es.at_ j r q'⟩
theorem ms_pass (h : N ρ L) : MS Y (.Pass pos) N D ρ L := ⟨fun S σ H A De l => wS.of ps_pass (l.nx ρ L S H σ h (Step.refl A.ok) A.es)⟩
theorem ms_break (h : D.bk ρ L) : MS Y (.Break pos) N D ρ L := ⟨fun S σ H A De l => wS.of ps_break (l.bk ρ L S H σ h (Step.refl A.ok) A.es)⟩
theorem ms_cont (h : D.ct ρ L) : MS Y (.Continue pos) N D ρ L := ⟨fun S σ H A De l => wS.of ps_continue (l.ct ρ L S H σ h (Step.refl A.ok) A.es)⟩
theorem ms_expr (h : ME Y e ρ L fun _ L' => N ρ L') (hs : swapsWith e none pos.line Y.X.env = pure false := by rfl) : MS Y (.Expr e pos) N D ρ L := ⟨fun S σ H A De l => wS.of (ps_expr wE.pe hs) (h.run S σ H A _ fun r L' S' H' v k t _ => l.nx ρ L' S' H' σ k t (A.es.mono t.sub))⟩
theorem ms_ret (h : ME Y e ρ L D.rt) : MS Y (.Return (some e) pos) N D ρ L := ⟨fun S σ H A De l => wS.of (ps_ret wE.pe) (h.run S σ H A _ fun r L' S' H' v k t i => l.rt r L' S' H' v k t i)⟩
theorem ms_retN (h : D.rt (.dt .none) L) : MS Y (.Return none pos) N D ρ L := ⟨fun S σ H A De l => wS.of ps_retN (l.rt _ L S H _ h (Step.refl A.ok) .non)⟩
theorem ms_if (hc : MT Y c ρ L fun k L' => (k = true → MSs Y sa N D ρ L') ∧ (k = false → MSs Y sb N D ρ L')) : MS Y (.If c sa sb pos) N D ρ L := ⟨fun S σ H A De l => wS.of (ps_if wT.pt wSs.ps wSs.ps) (hc.run S σ H A _ fun k L' S1 H1 ⟨h1, h2⟩ t1 => by
  cases k with
  | true => exact iteT ((h1 rfl).run S1 σ H1 (A.next t1) De (l.mono t1))
  | false => exact iteF ((h2 rfl).run S1 σ H1 (A.next t1) De (l.mono t1)))⟩
theorem ms_ifx {k : Bool} (hc : TX Y c ρ L k La) (h1 : k = true → MSs Y sa N D ρ La) (h2 : k = false → MSs Y sb N D ρ La) : MS Y (.If c sa sb pos) N D ρ L := ms_if (hc.imp fun _ _ ⟨e1, e2⟩ => by
  subst e1 e2
  exact ⟨h1, h2⟩)
/-- x = e -/
theorem ms_set (i : Nat) {x : Str} {pos' : Pos} (hN : Y.X.N.Nodup) (hi : Y.X.N[i]? = some x) (hx : Loc Y.X.env.scope x) (h : ME Y e ρ L fun r L' => N (ρ.set i (some r)) L') (hs : swapsWith e (some (.Name x pos')) pos.line Y.X.env = pure false := by rfl) (hf : Y.X.fn x = true ∨ Y.X.env.scope.names.lookup x = some .local := by first | exact .inl rfl | exact .inr rfl) :
    MS Y (.Assign [.Name x pos'] e pos) N D ρ L := ⟨fun S σ H A De l => wS.of (ps_set hN hi hx wE.pe hs hf) (h.run S σ H A _ fun r L' S' H' v k t ii => l.nx _ L' S' H' _ k t ((A.es.mono t.sub).set ii))⟩
/-- x op= e -/
theorem ms_aug (i : Nat) {x : Str} {op : Operator} {pos' : Pos} (hN : Y.X.N.Nodup) (hi : Y.X.N[i]? = some x) (hx : Loc Y.X.env.scope x) (h0 : ρ[i]? = some (some ra)) (he : EX Y e ρ L rb La) (h : Op2 Y.X (inplaceOp op) ra rb La rc) (k : N (ρ.set i (some rc)) La)
    (hf : Y.X.fn x = true ∨ Y.X.env.scope.names.lookup x = some .local := by first | exact .inl rfl | exact .inr rfl) : MS Y (.AugAssign (.Name x pos') op e pos) N D ρ L := ⟨fun S σ H A De l => by
  obtain ⟨rr, ho, hr⟩ := h
  refine wS.of (ps_aug (ti := fun x y H Q => rr x y H Q) hN hi hx wE.pe (fun pins s σ H x y v u Q I rx ry q => ho pins s σ H x y v u Q I rx ry q) hf) ?_
  obtain ⟨v, e1, i1⟩ := A.es.at_ i ra h0
  refine ⟨v, e1, he.run S σ H A _ fun r1 L1' S1 H1 y ⟨e2, e3⟩ t1 i2 => ?_⟩
  subst e2 e3
  exact hr S1 H1 v y t1.ok (i1.mono t1.sub) i2 _ fun S2 H2 z t2 i3 => l.nx _ _ S2 H2 _ k (t1.trans t2) ((A.es.mono (t1.trans t2).sub).set i3)⟩

/-! ### targets -/
inductive Tg where
  | n (i : Nat) | t (is : List Nat)
def gNs : List Nat → TGs
  | [] => gNil
  | i :: is => gCons (gName i) (gNs is)
def gTg (K : PySem.W.Frag) : Tg → TG
  | .n i => gName i
  | .t is => gTup K is.length (gNs is)
def Tg.slots : Tg → List Nat
  | .n i => [i]
  | .t is => is
inductive Yd where
  | r (x : Rv) | t (xs : List Rv)
def Yd.is (S H : Hp) : Yd → V → Prop
  | .r x, u => x.is S u
  | .t xs, u => ∃ p vs, u = .ref p ∧ H p = some (.tup vs) ∧ Rvs S xs vs
def setAll : List Nat → List Rv → Rho → Rho
  | i :: is, r :: rs, ρ => setAll is rs (ρ.set i (some r))
  | _, _, ρ => ρ
def setT : Tg → Yd → Rho → Option Rho
  | .n i, .r x, ρ => some (ρ.set i (some x))
  | .t is, .r (.dt (.tuple ds)), ρ => if ds.length = is.length then some (setAll is (ds.map Rv.dt) ρ) else none
  | .t is, .t xs, ρ => if xs.length = is.length then some (setAll is xs ρ) else none
  | _, _, _ => none
/-- σ and σ' are alike but at vs -/
def But (vs : List Nat) (σ σ' : Slots) : Prop := σ.length = σ'.length ∧ ∀ i, i ∉ vs → σ[i]? = σ'[i]?
theorem wipe_at (σ : Slots) (i : Nat) : ∀ vs : List Nat, (wipe σ vs)[i]? = if i ∈ vs ∧ i < σ.length then some none else σ[i]?
  | [] => by simp [wipe]
  | v :: vs => by
    unfold wipe
    by_cases hi : v = i
    · subst hi
      by_cases hl : v < σ.length
      · rw [List.getElem?_set_self (by rw [wipe_length]; exact hl), if_pos ⟨List.mem_cons_self, hl⟩]
      · rw [if_neg (fun z => hl z.2), List.getElem?_eq_none (by rw [List.length_set, wipe_length]; omega), List.getElem?_eq_none (by omega)]
    · rw [List.getElem?_set_ne hi, wipe_at σ i vs]
      have e : (i ∈ v :: vs) ↔ (i ∈ vs) := by
        rw [List.mem_cons]
        exact ⟨fun z => z.elim (fun q => absurd q.symm hi) id, .inr⟩
      simp only [e]
theorem But.wipe {vs : List Nat} {σ σ' : Slots} (h : But vs σ σ') : L2.wipe σ' vs = L2.wipe σ vs := by
  apply List.ext_getElem?
  intro i
  rw [wipe_at, wipe_at, h.1]
  by_cases hi : i ∈ vs
  · by_cases hl : i < σ'.length
    · rw [if_pos ⟨hi, hl⟩, if_pos ⟨hi, hl⟩]
    · rw [if_neg (fun z => hl z.2), if_neg (fun z => hl z.2), List.getElem?_eq_none (by omega), List.getElem?_eq_none (by rw [h.1]; omega)]
  · rw [if_neg (fun z => hi z.1), if_neg (fun z => hi z.1), h.2 i hi]
theorem But.wipeL {vs : List Nat} {σ σ' : Slots} (h : But vs (L2.wipe σ vs) σ') : L2.wipe σ' vs = L2.wipe σ vs := by
  rw [But.wipe h]
  apply List.ext_getElem?
  intro i
  rw [wipe_at, wipe_at, wipe_length]
  by_cases hi : i ∈ vs ∧ i < σ.length
  · rw [if_pos hi, if_pos hi]
  · rw [if_neg hi, if_neg hi]
theorem gNs_ok {S : Hp} : ∀ {is : List Nat} {xs : List Rv} {vs : List V} {σ : Slots} {ρ : Rho} {H : Hp} {Q : Slots → Hp → Prop}, Rvs S xs vs → xs.length = is.length → Es S σ ρ → (∀ σ', Es S σ' (setAll is xs ρ) → But is σ σ' → Q σ' H) → gNs is vs σ H Q
  | [], [], _, σ, ρ, H, Q, .nil, _, es, q => ⟨rfl, q σ es ⟨rfl, fun _ _ => rfl⟩⟩
  | i :: is, x :: xs, _, σ, ρ, H, Q, .cons a t, hl, es, q => ⟨_, _, rfl, gNs_ok t (Nat.succ.inj hl) (es.set a) fun σ' es' b => q σ' es' ⟨by rw [← b.1, List.length_set], fun j hj => by
      rw [← b.2 j fun z => hj (List.mem_cons_of_mem _ z), List.getElem?_set_ne fun z => hj (by rw [z]; exact List.mem_cons_self)]⟩⟩
theorem gTg_ok {K : PySem.W.Frag} {S H : Hp} {tg : Tg} {y : Yd} {u : V} {σ : Slots} {ρ ρ' : Rho} {Q : Slots → Hp → Prop} (sub : Sub S H) (h : y.is S H u) (e : setT tg y ρ = some ρ') (es : Es S σ ρ) (q : ∀ σ', Es S σ' ρ' → But tg.slots σ σ' → Q σ' H) : gTg K tg u σ H Q := by
  cases tg with
  | n i =>
    cases y with
    | t xs => cases e
    | r x =>
      cases e
      exact q _ (es.set h) ⟨by rw [List.length_set], fun j hj => by
        rw [List.getElem?_set_ne fun z => hj (by rw [z]; exact List.mem_cons_self)]⟩
  | t is =>
    cases y with
    | r x =>
      cases x with
      | vl v => cases e
      | dt d =>
        cases d with
        | tuple ds =>
          have e' : (if ds.length = is.length then some (setAll is (ds.map Rv.dt) ρ) else none) = some ρ' := e
          split at e'
          · rename_i hl
            cases e'
            cases h with
            | tup e0 t => exact ⟨_, _, rfl, SqT.of (sub _ _ e0), by rw [t.len]; exact hl, gNs_ok (Rvs.of t) (by rw [List.length_map]; exact hl) es q⟩
          · cases e'
        | _ => cases e
    | t xs =>
      have e' : (if xs.length = is.length then some (setAll is xs ρ) else none) = some ρ' := e
      split at e'
      · rename_i hl
        cases e'
        obtain ⟨p, vs, rfl, hp, i⟩ := h
        exact ⟨p, vs, rfl, SqT.of hp, by rw [← Rvs.len i]; exact hl, gNs_ok i hl es q⟩
      · cases e'
theorem pgn_name {X : Cx} (i : Nat) {x : Str} {pos : Pos} (hN : X.N.Nodup) (hi : X.N[i]? = some x) (hx : Loc X.env.scope x) (hf : X.fn x = true ∨ X.env.scope.names.lookup x = some .local := by first | exact .inl rfl | exact .inr rfl) : PG X (.Name x pos) (gTg X.K (.n i)) := pg_name hN hi hx hf
theorem pgn_nil {X : Cx} : PGs X [] (gNs []) := pgs_nil
theorem pgn_cons {X : Cx} (i : Nat) {is : List Nat} {x : Str} {pos : Pos} {es : List Expr} (hN : X.N.Nodup) (hi : X.N[i]? = some x) (hx : Loc X.env.scope x) (t : PGs X es (gNs is)) (hf : X.fn x = true ∨ X.env.scope.names.lookup x = some .local := by first | exact .inl rfl | exact .inr rfl)
    (hs : (assignEach (.Name x pos :: es) X.env).map (·.2) = assign (.Name x pos) X.env :: (assignEach es X.env).map (·.2) := by rfl) : PGs X (.Name x pos :: es) (gNs (i :: is)) := pgs_cons (pg_name hN hi hx hf) t hs
theorem pgn_tup {X : Cx} {is : List Nat} {es : List Expr} {k : Nat} {pos : Pos} (hc : X.calm = true) (t : PGs X es (gNs is)) (hn : (assignEach es X.env).length = is.length := by rfl) (hst : (assignEach es X.env).findIdx? (·.1) = none := by rfl) : PG X (.Tuple es k pos) (gTg X.K (.t is)) := pg_tup hc t hn hst
/-- a, b, .. = e -/
theorem ms_tup {tg : Expr} {is : List Nat} (hg : PG Y.X tg (gTg Y.X.K (.t is))) (h : ME Y e ρ L fun r L' => ∃ ρ', setT (.t is) (.r r) ρ = some ρ' ∧ N ρ' L') (hs : swapsWithSole [tg] e pos.line Y.X.env = pure false := by rfl) (hw : swappedStores [tg] e Y.X.env = pure none := by rfl)
    (h1 : (assignEach [tg] Y.X.env).map (·.2) = [assign tg Y.X.env] := by rfl) : MS Y (.Assign [tg] e pos) N D ρ L := ⟨fun S σ H A De l => wS.of (ps_asg wE.pe hg hs hw h1) (h.run S σ H A _ fun r L' S' H' v ⟨ρ', e1, k⟩ t i =>
  gTg_ok (y := .r r) t.ok.sub i e1 (A.es.mono t.sub) fun σ' es _ => l.nx ρ' L' S' H' σ' k t es)⟩

/-! ### what is walked -/
/-- an iterator gives ys, one after another, as long as P holds of the ledger -/
structure Yl (J : It) (S : Hp) (P : Led → Prop) (ys : List Yd) : Prop where
  go : ∀ (i : Nat) S' H L, Sub S S' → Ok S' H L → P L → i < ys.length → J.go i H
  stop : ∀ (i : Nat) S' H L, Sub S S' → Ok S' H L → P L → i = ys.length → J.stop i H
  yld : ∀ (i : Nat) S' H L u H' y, Sub S S' → Ok S' H L → P L → ys[i]? = some y → J.yld i H u H' → Step S' H L S' H' L ∧ y.is S' H' u
structure MI (Y : Cm) (tg iter : Expr) (ρ : Rho) (L : Led) (K : List Yd → (Led → Prop) → Led → Prop) : Prop where
  run : ∀ S σ H, At Y ρ L S σ H → ∀ R : It → Hp → Prop, (∀ ys P L' S' H' J, K ys P L' → Step S H L S' H' L' → Yl J S' P ys → R J H') → wI Y.X tg iter σ H R
abbrev IX (Y : Cm) (tg iter : Expr) (ρ : Rho) (L : Led) (ys : List Yd) (P : Led → Prop) (L' : Led) : Prop := MI Y tg iter ρ L fun ys' P' L1 => ys' = ys ∧ P' = P ∧ L1 = L'
theorem MI.imp {tg iter : Expr} {K K' : List Yd → (Led → Prop) → Led → Prop} (h : MI Y tg iter ρ L K) (i : ∀ ys P L', K ys P L' → K' ys P L') : MI Y tg iter ρ L K' := ⟨fun S σ H A R q => h.run S σ H A R fun ys P L' S' H' J k => q ys P L' S' H' J (i ys P L' k)⟩
def anyL : Led → Prop := fun _ => True
/-- a list of data -/
theorem ix_data {tg : Expr} {ds : List PyData} (h : EX Y e ρ L (.dt (.list ds)) La) : IX Y tg e ρ L (ds.map fun d => .r (.dt d)) anyL La := ⟨fun S σ H A R q => wI.of (pi_list wE.pe) (h.run S σ H A _ fun r L' S1 H1 v ⟨e1, e2⟩ t i => by
  subst e1 e2
  cases i with
  | @lst a xs ds e0 d0 =>
    refine ⟨a, rfl, ⟨xs, SqL.of (t.ok.sub _ _ e0)⟩, q _ _ _ S1 H1 _ ⟨rfl, rfl, rfl⟩ t ⟨fun i S' H L s k _ hl => ?_, fun i S' H L s k _ hl => ?_, fun i S' H L u H' y s k _ hy ⟨e1, e2⟩ => ?_⟩⟩
    · rw [List.length_map] at hl
      obtain ⟨x, hx, _⟩ := pget d0.pd (List.getElem?_eq_getElem hl)
      exact ⟨xs, x, SqL.of (k.sub _ _ (s _ _ e0)), hx⟩
    · rw [List.length_map] at hl
      exact ⟨xs, SqL.of (k.sub _ _ (s _ _ e0)), by rw [d0.len]; omega⟩
    · subst e1
      refine ⟨Step.refl k, ?_⟩
      rw [List.getElem?_map] at hy
      cases hd : ds[i]? with
      | none => rw [hd] at hy; cases hy
      | some d =>
        rw [hd] at hy
        cases hy
        obtain ⟨x, hx, dx⟩ := pget d0.pd hd
        have eu := Option.some.inj ((e2 _ (SqL.of (k.sub _ _ (s _ _ e0)))).symm.trans hx)
        subst eu
        exact dx.mono s)⟩
/-- a list of the ledger -/
theorem ix_led {tg : Expr} {rs : List Rv} {q : Addr} (h : EX Y e ρ L (.vl (.ref q)) La) (hq : La q = some (.lst rs)) : IX Y tg e ρ L (rs.map Yd.r) (fun L => L q = some (.lst rs)) La := ⟨fun S σ H A R qq => wI.of (pi_list wE.pe) (h.run S σ H A _ fun r L' S1 H1 v ⟨e1, e2⟩ t i => by
  subst e1 e2
  have ei : v = .ref q := i
  subst ei
  obtain ⟨_, _, e0, xs, rfl, d0⟩ := t.ok.led q _ hq
  have at_ : ∀ {S' H L}, Ok S' H L → L q = some (.lst rs) → ∃ xs, H q = some (.lst xs) ∧ Rvs S' rs xs := fun k hL => by
    obtain ⟨_, _, e0, xs, rfl, d0⟩ := k.led q _ hL
    exact ⟨xs, e0, d0⟩
  refine ⟨q, rfl, ⟨xs, SqL.of e0⟩, qq _ _ _ S1 H1 _ ⟨rfl, rfl, rfl⟩ t ⟨fun i S' H L s k hL hl => ?_, fun i S' H L s k hL hl => ?_, fun i S' H L u H' y s k hL hy ⟨e1, e2⟩ => ?_⟩⟩
  · rw [List.length_map] at hl
    obtain ⟨xs, e0, d0⟩ := at_ k hL
    obtain ⟨x, hx, _⟩ := pgetL d0 (List.getElem?_eq_getElem hl)
    exact ⟨xs, x, SqL.of e0, hx⟩
  · rw [List.length_map] at hl
    obtain ⟨xs, e0, d0⟩ := at_ k hL
    exact ⟨xs, SqL.of e0, by rw [← Rvs.len d0]; omega⟩
  · subst e1
    refine ⟨Step.refl k, ?_⟩
    rw [List.getElem?_map] at hy
    cases hd : rs[i]? with
    | none => rw [hd] at hy; cases hy
    | some d =>
      rw [hd] at hy
      cases hy
      obtain ⟨xs, e0, d0⟩ := at_ k hL
      obtain ⟨x, hx, dx⟩ := pgetL d0 hd
      have eu := Option.some.inj ((e2 _ (SqL.of e0)).symm.trans hx)
      subst eu
      exact dx)⟩
def rgY (lo : Int) (n : Nat) : List Yd := (List.range n).map fun i => .r (.dt (.int (lo + (i : Nat))))
theorem rgY_len {lo : Int} {n : Nat} : (rgY lo n).length = n := by unfold rgY; rw [List.length_map, List.length_range]
theorem rgY_at {lo : Int} {n i : Nat} {y : Yd} (h : (rgY lo n)[i]? = some y) : i < n ∧ y = .r (.dt (.int (lo + (i : Nat)))) := by
  unfold rgY at h
  rw [List.getElem?_map] at h
  by_cases hi : i < n
  · rw [List.getElem?_range hi] at h
    exact ⟨hi, (Option.some.inj h).symm⟩
  · rw [List.getElem?_eq_none (by rw [List.length_range]; omega)] at h
    cases h
theorem yl_range {lo : Int} {n : Nat} {S : Hp} : Yl (Itr lo n) S anyL (rgY lo n) := ⟨fun i S' H L s k _ hl => by rw [rgY_len] at hl; exact hl, fun i S' H L s k _ hl => by rw [rgY_len] at hl; exact Nat.le_of_eq hl.symm, fun i S' H L u H' y s k _ hy ⟨e1, e2⟩ => by
  subst e1 e2
  obtain ⟨_, rfl⟩ := rgY_at hy
  exact ⟨Step.refl k, .int _⟩⟩
theorem ix_range1 {tg : Expr} {j : Int} (h : AX Y [a] ρ L [.dt (.int j)] La) (h1 : -(2 ^ 62) ≤ j) (h2 : j < 2 ^ 62) (hg : Gl Y.X "range") (hm : Y.X.mg "range" = none) (hs : starEach [a] Y.X.env = [(false, eval a Y.X.env)] := by rfl) : IX Y tg (.Call (.Name "range" p) [a] [] pos) ρ L (rgY 0 j.toNat) anyL La := ⟨fun S σ H A R q => wI.of (pi_range1 hg hm wA.pa hs) (h.run S σ H A _ fun rs L' S1 H1 vs ⟨e1, e2⟩ t i => by
  subst e1 e2
  obtain ⟨x, rfl, i0⟩ := rvs1 i
  exact ⟨j, by rw [Da.intAt i0], h1, h2, q _ _ _ S1 H1 _ ⟨rfl, rfl, rfl⟩ t yl_range⟩)⟩
theorem ix_range2 {tg : Expr} {i j : Int} (h : AX Y [a, b] ρ L [.dt (.int i), .dt (.int j)] La) (hb : -(2 ^ 62) ≤ i ∧ i < 2 ^ 62 ∧ -(2 ^ 62) ≤ j ∧ j < 2 ^ 62) (hg : Gl Y.X "range") (hm : Y.X.mg "range" = none) (hs : starEach [a, b] Y.X.env = [(false, eval a Y.X.env), (false, eval b Y.X.env)] := by rfl) (hs2 : starEach [b] Y.X.env = [(false, eval b Y.X.env)] := by rfl) :
    IX Y tg (.Call (.Name "range" p) [a, b] [] pos) ρ L (rgY i (j - i).toNat) anyL La := ⟨fun S σ H A R q => wI.of (pi_range2 hg hm wA.pa hs hs2) (h.run S σ H A _ fun rs L' S1 H1 vs ⟨e1, e2⟩ t ii => by
  subst e1 e2
  obtain ⟨x, y, rfl, i1, i2⟩ := rvs2 ii
  exact ⟨i, j, by rw [Da.intAt i1, Da.intAt i2], hb, q _ _ _ S1 H1 _ ⟨rfl, rfl, rfl⟩ t yl_range⟩)⟩

/-! ### for -/
theorem ms_for {tg iter : Expr} {body : List Stmt} {ys : List Yd} {P : Led → Prop} {tgt : Tg} (hc : Y.X.calm = true) (hi : IX Y tg iter ρ L ys P La) (hg : PG Y.X tg (gTg Y.X.K tgt)) (I : Nat → Rho → Led → Prop) (h0 : I 0 ρ La) (hP : ∀ (i : Nat) ρ L, i ≤ ys.length → I i ρ L → P L)
    (hs : ∀ (i : Nat) y ρ L, ys[i]? = some y → I i ρ L → ∃ ρ', setT tgt y ρ = some ρ' ∧ MSs Y body (I (i + 1)) { D with ct := I (i + 1), bk := N } ρ' L) (hd : ∀ ρ L, I ys.length ρ L → N ρ L)
    (hf : ∀ x, foldedSetIterable iter Y.X.env x = pure x := by intro _; rfl) : MS Y (.For tg iter body [] pos) N D ρ L := ⟨fun S σ H A De l => by
  refine wS.of (ps_for Y.po hc wI.pi hg wSs.ps hf) (hi.run S σ H A _ fun ys' P' L' S1 H1 J ⟨e1, e2, e3⟩ t1 yl => ?_)
  subst e1 e2 e3
  refine ⟨fun i m σ' H' => m = ys'.length - i ∧ i ≤ ys'.length ∧ ∃ S' ρ' L2, Step S H L S' H' L2 ∧ Sub S1 S' ∧ Es S' σ' ρ' ∧ I i ρ' L2, ⟨_, rfl, Nat.zero_le _, S1, ρ, L', t1, Sub.refl _, A.es.mono t1.sub, h0⟩, ?_⟩
  rintro i m σ2 H2 ⟨rfl, hle, S2, ρ2, L2, t2, s2, es2, i2⟩
  have p2 := hP i ρ2 L2 hle i2
  by_cases hlt : i < ys'.length
  · refine .inr ⟨yl.go i S2 H2 L2 s2 t2.ok p2 hlt, fun σ' H' => ∃ S' ρ' L2, Step S H L S' H' L2 ∧ Sub S1 S' ∧ Es S' σ' ρ' ∧ I (i + 1) ρ' L2, fun σ' H' n => ⟨_, by omega, rfl, hlt, n⟩, fun u H3 hy => ?_⟩
    obtain ⟨y, ey⟩ : ∃ y, ys'[i]? = some y := ⟨_, List.getElem?_eq_getElem hlt⟩
    obtain ⟨t3, iy⟩ := yl.yld i S2 H2 L2 u H3 y s2 t2.ok p2 ey hy
    obtain ⟨ρ3, e3, hb⟩ := hs i y ρ2 L2 ey i2
    have t23 := t2.trans t3
    refine gTg_ok t3.ok.sub iy e3 es2 fun σ4 es4 _ => ?_
    exact hb.run S2 σ4 H3 ((A.next t23).env es4) _ ⟨fun ρ' L' S' H' σ' k t es => ⟨S', ρ', L', t23.trans t, s2.trans t.sub, es, k⟩, fun r L' S' H' v k t ii => l.rt r L' S' H' v k (t23.trans t) ii, fun ρ' L' S' H' σ' k t es => l.nx ρ' L' S' H' σ' k (t23.trans t) es, fun ρ' L' S' H' σ' k t es => ⟨S', ρ', L', t23.trans t, s2.trans t.sub, es, k⟩⟩
  · have e : i = ys'.length := by omega
    subst e
    exact .inl ⟨yl.stop _ S2 H2 L2 s2 t2.ok p2 rfl, l.nx ρ2 L2 S2 H2 σ2 (hd ρ2 L2 i2) t2 es2⟩⟩
/-- while -/
theorem ms_while {body : List Stmt} (W : Nat → Rho → Led → Prop) (m0 : Nat) (h0 : W m0 ρ L) (hs : ∀ m ρ L, W m ρ L → MT Y c ρ L fun k L' => (k = true → MSs Y body (fun ρ L => ∃ m', m' < m ∧ W m' ρ L) { D with ct := fun ρ L => ∃ m', m' < m ∧ W m' ρ L, bk := N } ρ L') ∧ (k = false → N ρ L')) :
    MS Y (.While c body [] pos) N D ρ L := ⟨fun S σ H A De l => by
  refine wS.of (ps_while Y.po wT.pt wSs.ps) ⟨fun m σ' H' => ∃ S' ρ' L2, Step S H L S' H' L2 ∧ Es S' σ' ρ' ∧ W m ρ' L2, ⟨m0, S, ρ, L, Step.refl A.ok, A.es, h0⟩, ?_⟩
  rintro m σ2 H2 ⟨S2, ρ2, L2, t2, es2, w2⟩
  refine (hs m ρ2 L2 w2).run S2 σ2 H2 ((A.next t2).env es2) _ fun k L3 S3 H3 ⟨h1, h2⟩ t3 => ?_
  have t23 := t2.trans t3
  cases k with
  | true =>
    refine iteT ⟨fun σ' H' => ∃ m', m' < m ∧ ∃ S' ρ' L2, Step S H L S' H' L2 ∧ Es S' σ' ρ' ∧ W m' ρ' L2, fun _ _ n => n, ?_⟩
    exact (h1 rfl).run S3 σ2 H3 ((A.next t23).env (es2.mono t3.sub)) _ ⟨fun ρ' L' S' H' σ' ⟨m', hm, k⟩ t es => ⟨m', hm, S', ρ', L', t23.trans t, es, k⟩, fun r L' S' H' v k t ii => l.rt r L' S' H' v k (t23.trans t) ii, fun ρ' L' S' H' σ' k t es => l.nx ρ' L' S' H' σ' k (t23.trans t) es, fun ρ' L' S' H' σ' ⟨m', hm, k⟩ t es => ⟨m', hm, S', ρ', L', t23.trans t, es, k⟩⟩
  | false => exact iteF (l.nx ρ2 L3 S3 H3 σ2 (h2 rfl) t23 (es2.mono t3.sub))⟩
end
end Cw

set_option Elab.async false
set_option linter.all false
set_option maxRecDepth 100000
set_option maxHeartbeats 2000000
/-! Cw, part E: comprehensions; lists that change; stores; more iterators; errors. -/
namespace Cw
open PySem PySem.Spec PyProof.Rows L2

/-! ### comprehensions -/
abbrev yB (Y : Cm) (s : Shared) (H : Hp) (scope : Scope) (cl : List (Str × Addr)) (C : Addr) (fp : List Addr) : Cm :=
  ⟨Y.X.blk s H scope (compEnvC scope cl C Y.X.env) fp, fun _ _ _ _ => False, fun _ _ _ => False, takes0, PassesOwn.never⟩
def wipeR (ρ : Rho) (vs : List Nat) : Rho := vs.foldr (fun v ρ => ρ.set v none) ρ
def wTs (X : Cx) (ifs : List Expr) : TT := fun σ H Q => ∀ pins s, Inv X pins σ H s →
  wpAny (model X.prog X.w) X.A (forIn ifs true fun c r => if r = true then do let ok ← isTrue c X.env (eval c X.env); pure (ForInStep.yield ok) else pure (ForInStep.yield r)) (TP X pins σ Q) X.xe s
structure MTs (Y : Cm) (ifs : List Expr) (ρ : Rho) (L : Led) (K : Bool → Led → Prop) : Prop where
  run : ∀ S σ H, At Y ρ L S σ H → ∀ Q : Bool → Hp → Prop, (∀ b L' S' H', K b L' → Step S H L S' H' L' → Q b H') → wTs Y.X ifs σ H Q
theorem mts_nil {Y : Cm} {ρ : Rho} {L : Led} {K : Bool → Led → Prop} (h : K true L) : MTs Y [] ρ L K := ⟨fun S σ H A Q q pins s I => pts_nil.run pins s σ H Q I (q true L S H h (Step.refl A.ok))⟩
theorem mts_one {Y : Cm} {c : Expr} {ρ : Rho} {L : Led} {K : Bool → Led → Prop} (h : MT Y c ρ L K) : MTs Y [c] ρ L K := ⟨fun S σ H A Q q pins s I => (pts_one wT.pt).run pins s σ H Q I (h.run S σ H A Q q)⟩
section
variable {Y : Cm} {ρ : Rho} {L La : Led} {elt tg iter : Expr} {ifs : List Expr} {scope : Scope} {own : List (Str × Nat)} {pos : Pos} {ys : List Yd} {P : Led → Prop} {tgt : Tg} {K : Rv → Led → Prop}
/-- the readings that serve at every block -/
def uT (Y : Cm) (scope : Scope) (ifs : List Expr) : TT := fun σ H Q => ∀ s H0 C cl fp, wTs (Y.X.blk s H0 scope (compEnvC scope cl C Y.X.env) fp) ifs σ H Q
def uE (Y : Cm) (scope : Scope) (elt : Expr) : TE := fun σ H Q => ∀ s H0 C cl fp, wE (Y.X.blk s H0 scope (compEnvC scope cl C Y.X.env) fp) elt σ H Q
theorem lc_read {S : Hp} {σ : Slots} {H : Hp} {Q : VK} (A : At Y ρ L S σ H) (hi : IX Y tg iter ρ L ys P La) (hsl : tgt.slots = own.map (·.2)) (hz : ys.length ≤ sizeLine)
    (I : Nat → List Rv → Led → Prop) (h0 : I 0 [] La) (hP : ∀ (i : Nat) acc L, i ≤ ys.length → I i acc L → P L)
    (hs : ∀ (i : Nat) y acc L, ys[i]? = some y → I i acc L → ∃ ρ', setT tgt y (wipeR ρ (own.map (·.2))) = some ρ' ∧ ∃ Kt : Bool → Led → Prop, (∀ s H C cl fp, MTs (yB Y s H scope cl C fp) ifs ρ' L Kt) ∧ ∀ b L2, Kt b L2 → (b = true → ∀ s H C cl fp, ME (yB Y s H scope cl C fp) elt ρ' L2 fun r L3 => I (i + 1) (acc ++ [r]) L3) ∧ (b = false → I (i + 1) acc L2))
    (hd : ∀ acc L, I ys.length acc L → ∀ D, L D = none → (∃ ds, acc = ds.map Rv.dt ∧ K (.dt (.list ds)) L) ∨ K (.vl (.ref D)) (updL L D (.lst acc)))
    (q : ∀ r L' S' H' v, K r L' → Step S H L S' H' L' → r.is S' v → Q v H') : tLc (wI Y.X tg iter) (gTg Y.X.K tgt) (uT Y scope ifs) (uE Y scope elt) (own.map (·.2)) σ H Q := by
  refine hi.run S σ H A _ fun ys' P' L1 S1 H1 J ⟨e1, e2, e3⟩ t1 yl => ?_
  subst e1 e2 e3
  intro D hD
  have sD : S1 D = none := t1.ok.sub.none hD
  have lD : L1 D = none := t1.ok.free hD
  -- what holds between two turns
  refine ⟨fun i m H' => m = ys'.length - i ∧ i ≤ ys'.length ∧ ∃ S' L2 acc vs, Step S1 H1 L1 S' H' L2 ∧ H' D = some (.lst vs) ∧ S' D = none ∧ L2 D = none ∧ Rvs S' acc vs ∧ acc.length ≤ i ∧ I i acc L2,
    ⟨_, rfl, Nat.zero_le _, S1, L1, [], [], Step.dust t1.ok hD, upd_same, sD, lD, .nil, Nat.le_refl _, h0⟩, ?_⟩
  rintro i m H2 ⟨rfl, hle, S2, L2, acc, vs, t2, d2, s2, l2, rv, hacc, inv⟩
  have p2 := hP i acc L2 hle inv
  -- all of it behind the entry
  have tE : Step S H L S2 H2 L2 := t1.trans t2
  have hD0 : L D = none → H D = none := fun n => by
    cases z : H D with
    | none => rfl
    | some o =>
      have := t1.fr D o z n
      rw [hD] at this
      cases this
  by_cases hlt : i < ys'.length
  · refine .inr ⟨yl.go i S2 H2 L2 t2.sub t2.ok p2 hlt, fun H' => ∃ S' L2 acc vs, Step S1 H1 L1 S' H' L2 ∧ H' D = some (.lst vs) ∧ S' D = none ∧ L2 D = none ∧ Rvs S' acc vs ∧ acc.length ≤ i + 1 ∧ I (i + 1) acc L2, fun H' n => ⟨_, by omega, rfl, hlt, n⟩, fun u H3 hy => ?_⟩
    obtain ⟨y, ey⟩ : ∃ y, ys'[i]? = some y := ⟨_, List.getElem?_eq_getElem hlt⟩
    obtain ⟨t3, iy⟩ := yl.yld i S2 H2 L2 u H3 y t2.sub t2.ok p2 ey hy
    obtain ⟨ρ3, e3, Kt, hb, hk⟩ := hs i y acc L2 ey inv
    have es2 : Es S2 (wipe σ (own.map (·.2))) (wipeR ρ (own.map (·.2))) := (A.es.mono tE.sub).wipe _
    refine gTg_ok t3.ok.sub iy e3 es2 fun σ4 es4 bt => ⟨?_, ?_⟩
    · rw [hsl] at bt
      exact But.wipeL bt
    · intro s0 H0 C cl fp
      have keep : ∀ {S5 H5 L5}, Step S2 H3 L2 S5 H5 L5 → H5 D = some (.lst vs) ∧ S5 D = none ∧ L5 D = none := fun {S5 H5 L5} t5 => by
        have d3 := t3.fr D _ d2 l2
        refine ⟨t5.fr D _ d3 l2, ?_, ?_⟩
        · cases z : S5 D with
          | none => rfl
          | some o =>
            have := t5.ns D o z s2 l2
            rw [d3] at this
            cases this
        · cases z : L5 D with
          | none => rfl
          | some m =>
            have := t5.nw D m z l2
            rw [d3] at this
            cases this
      refine (hb s0 H0 C cl fp).run S2 σ4 H3 ⟨t3.ok, es4, fun _ _ _ _ _ _ z => z.elim⟩ _ fun b L5 S5 H5 kt t5 => ?_
      obtain ⟨k1, k2⟩ := hk b L5 kt
      obtain ⟨d5, s5, l5⟩ := keep t5
      have t25 := (t2.trans t3).trans t5
      cases b with
      | false => exact iteF ⟨S5, L5, acc, vs, t25, d5, s5, l5, rv.mono (t3.sub.trans t5.sub), by omega, k2 rfl⟩
      | true =>
        refine iteT fun s0' H0' C' cl' fp' => ?_
        refine (k1 rfl s0' H0' C' cl' fp').run S5 σ4 H5 ⟨t5.ok, es4.mono t5.sub, fun _ _ _ _ _ _ z => z.elim⟩ _ fun r L6 S6 H6 v k6 t6 i6 => ?_
        obtain ⟨d6, s6, l6⟩ := keep (t5.trans t6)
        have rl := Rvs.len rv
        refine ⟨vs, d6, by omega, S6, L6, acc ++ [r], vs ++ [v], ?_, upd_same, s6, l6, papp (rv.mono ((t3.sub.trans t5.sub).trans t6.sub)) (.cons i6 .nil), by rw [List.length_append, List.length_singleton]; omega, k6⟩
        have t26 := t25.trans t6
        refine ⟨t26.sub, ⟨t26.ok.sub.mut s6, fun a m e => ?_⟩, fun a o e n => ?_, t26.nw, t26.ns⟩
        · obtain ⟨h1, o, h2, h3⟩ := t26.ok.led a m e
          have ne : a ≠ D := fun z => by rw [z, l6] at e; cases e
          exact ⟨h1, o, by rw [upd_ne ne]; exact h2, h3⟩
        · rw [upd_ne (ne_of_none e hD)]
          exact t26.fr a o e n
  · have e : i = ys'.length := by omega
    subst e
    refine .inl ⟨yl.stop _ S2 H2 L2 t2.sub t2.ok p2 rfl, ?_⟩
    rcases hd acc L2 inv D l2 with ⟨ds, rfl, k⟩ | k
    · have sn : Sub S2 (upd S2 D (.lst vs)) := Sub.new s2
      refine q _ L2 (upd S2 D (.lst vs)) H2 _ k ⟨tE.sub.trans sn, ⟨fun b u eb => ?_, fun a m ea => ?_⟩, tE.fr, tE.nw, fun a o ea n nl => ?_⟩ (.lst upd_same ((Rvs.data rv).mono sn))
      · by_cases hb : b = D
        · subst hb
          rw [upd_same] at eb
          cases eb
          exact d2
        · rw [upd_ne hb] at eb
          exact t2.ok.sub b u eb
      · obtain ⟨h1, o, h2, h3⟩ := t2.ok.led a m ea
        have ne : a ≠ D := fun z => by rw [z, l2] at ea; cases ea
        exact ⟨by rw [upd_ne ne]; exact h1, o, h2, h3.mono sn⟩
      · by_cases ha : a = D
        · subst ha
          exact hD0 nl
        · rw [upd_ne ha] at ea
          exact tE.ns a o ea n nl
    · refine q _ _ S2 H2 _ k ⟨tE.sub, ⟨t2.ok.sub, fun a m ea => ?_⟩, tE.fr, fun a m ea n => ?_, tE.ns⟩ rfl
      · by_cases ha : a = D
        · subst ha
          rw [updL_same] at ea
          cases ea
          exact ⟨s2, _, d2, vs, rfl, rv⟩
        · rw [updL_ne ha] at ea
          exact t2.ok.led a m ea
      · by_cases ha : a = D
        · subst ha
          exact hD0 n
        · rw [updL_ne ha] at ea
          exact tE.nw a m ea n
/-- [elt for tg in iter if ..] as a value -/
theorem me_lc (hc : Y.X.calm = true) (hN : Y.X.N.Nodup) (hi : IX Y tg iter ρ L ys P La) (ok : BlkOk Y.X.N Y.X.env.scope scope own) (hsl : tgt.slots = own.map (·.2)) (hg : ∀ s H C cl fp, PG (Y.X.blk s H scope (compEnvC scope cl C Y.X.env) fp) tg (gTg Y.X.K tgt)) (hz : ys.length ≤ sizeLine)
    (I : Nat → List Rv → Led → Prop) (h0 : I 0 [] La) (hP : ∀ (i : Nat) acc L, i ≤ ys.length → I i acc L → P L)
    (hs : ∀ (i : Nat) y acc L, ys[i]? = some y → I i acc L → ∃ ρ', setT tgt y (wipeR ρ (own.map (·.2))) = some ρ' ∧ ∃ Kt : Bool → Led → Prop, (∀ s H C cl fp, MTs (yB Y s H scope cl C fp) ifs ρ' L Kt) ∧ ∀ b L2, Kt b L2 → (b = true → ∀ s H C cl fp, ME (yB Y s H scope cl C fp) elt ρ' L2 fun r L3 => I (i + 1) (acc ++ [r]) L3) ∧ (b = false → I (i + 1) acc L2))
    (hd : ∀ acc L, I ys.length acc L → ∀ D, L D = none → (∃ ds, acc = ds.map Rv.dt ∧ K (.dt (.list ds)) L) ∨ K (.vl (.ref D)) (updL L D (.lst acc)))
    (hf : ∀ x, foldedSetIterable iter Y.X.env x = pure x := by intro _; rfl) : ME Y (.ListComp elt [⟨tg, iter, ifs, 0⟩] scope pos) ρ L K := ⟨fun S σ H A Q q =>
  wE.of (pe_lc (tt := uT Y scope ifs) (te := uE Y scope elt) hc hN wI.pi ok hg (fun s H C cl fp => ⟨fun pins s' σ H' Q I h => h s H C cl fp pins s' I⟩) (fun s H C cl fp => ⟨fun pins s' σ H' Q I h => h s H C cl fp pins s' I⟩) hf) (lc_read A hi hsl hz I h0 hP hs hd q)⟩
/-- y = [..] -/
theorem ms_setlc {N : Rho → Led → Prop} {D : Nd} {i : Nat} {y : Str} {py spos : Pos} (hc : Y.X.calm = true) (hN : Y.X.N.Nodup) (hy : Y.X.N[i]? = some y) (hyl : Y.X.env.scope.names.lookup y = some .local) (hsw : swapsWith (.ListComp elt [⟨tg, iter, ifs, 0⟩] scope pos) (some (.Name y py)) spos.line Y.X.env = pure true)
    (hi : IX Y tg iter ρ L ys P La) (ok : BlkOk Y.X.N Y.X.env.scope scope own) (hsl : tgt.slots = own.map (·.2)) (hg : ∀ s H C cl fp, PG (Y.X.blk s H scope (compEnvC scope cl C Y.X.env) fp) tg (gTg Y.X.K tgt)) (hz : ys.length ≤ sizeLine)
    (I : Nat → List Rv → Led → Prop) (h0 : I 0 [] La) (hP : ∀ (i : Nat) acc L, i ≤ ys.length → I i acc L → P L)
    (hs : ∀ (i : Nat) y acc L, ys[i]? = some y → I i acc L → ∃ ρ', setT tgt y (wipeR ρ (own.map (·.2))) = some ρ' ∧ ∃ Kt : Bool → Led → Prop, (∀ s H C cl fp, MTs (yB Y s H scope cl C fp) ifs ρ' L Kt) ∧ ∀ b L2, Kt b L2 → (b = true → ∀ s H C cl fp, ME (yB Y s H scope cl C fp) elt ρ' L2 fun r L3 => I (i + 1) (acc ++ [r]) L3) ∧ (b = false → I (i + 1) acc L2))
    (hd : ∀ acc L, I ys.length acc L → ∀ D', L D' = none → (∃ ds, acc = ds.map Rv.dt ∧ N (ρ.set i (some (.dt (.list ds)))) L) ∨ N (ρ.set i (some (.vl (.ref D')))) (updL L D' (.lst acc)))
    (hf : ∀ x, foldedSetIterable iter Y.X.env x = pure x := by intro _; rfl) : MS Y (.Assign [.Name y py] (.ListComp elt [⟨tg, iter, ifs, 0⟩] scope pos) spos) N D ρ L := ⟨fun S σ H A De l =>
  wS.of (ps_setLc (tt := uT Y scope ifs) (te := uE Y scope elt) hc hN hy hyl hsw wI.pi ok hg (fun s H C cl fp => ⟨fun pins s' σ H' Q I h => h s H C cl fp pins s' I⟩) (fun s H C cl fp => ⟨fun pins s' σ H' Q I h => h s H C cl fp pins s' I⟩) hf)
    (lc_read (K := fun r L' => N (ρ.set i (some r)) L') A hi hsl hz I h0 hP hs hd fun r L' S' H' v k t ii => l.nx _ L' S' H' _ k t ((A.es.mono t.sub).set ii))⟩
end
end Cw

set_option Elab.async false
set_option linter.all false
set_option maxRecDepth 100000
set_option maxHeartbeats 2000000
/-! Cw, part F: pure comprehensions; lists that change; stores; more iterators; errors. -/
namespace Cw
open PySem PySem.Spec PyProof.Rows L2

section
variable {Y : Cm} {ρ : Rho} {L La Lb Lc : Led} {elt tg iter c : Expr} {ifs : List Expr} {scope : Scope} {own : List (Str × Nat)} {pos : Pos} {ys : List Yd} {P : Led → Prop} {tgt : Tg}
theorem take_snoc {α : Type} {l : List α} {i : Nat} {x : α} (h : l[i]? = some x) : l.take (i + 1) = l.take i ++ [x] := by
  rw [List.take_add_one, h]
  rfl
/-- [elt for tg in iter], elt without effect -/
theorem me_lcp {K : Rv → Led → Prop} (g : Yd → PyData) (hc : Y.X.calm = true) (hN : Y.X.N.Nodup) (hi : IX Y tg iter ρ L ys P La) (hP : P La) (ok : BlkOk Y.X.N Y.X.env.scope scope own) (hsl : tgt.slots = own.map (·.2)) (hg : ∀ s H C cl fp, PG (Y.X.blk s H scope (compEnvC scope cl C Y.X.env) fp) tg (gTg Y.X.K tgt)) (hz : ys.length ≤ sizeLine)
    (hs : ∀ (i : Nat) y, ys[i]? = some y → ∃ ρ', setT tgt y (wipeR ρ (own.map (·.2))) = some ρ' ∧ ∀ s H C cl fp, EX (yB Y s H scope cl C fp) elt ρ' La (.dt (g y)) La) (k : K (.dt (.list (ys.map g))) La)
    (hf : ∀ x, foldedSetIterable iter Y.X.env x = pure x := by intro _; rfl) : ME Y (.ListComp elt [⟨tg, iter, [], 0⟩] scope pos) ρ L K :=
  me_lc hc hN hi ok hsl hg hz (fun i acc L => acc = ((ys.take i).map g).map Rv.dt ∧ L = La) ⟨rfl, rfl⟩ (fun i acc L _ ⟨_, e⟩ => by rw [e]; exact hP) (fun i y acc L ey ⟨e1, e2⟩ => by
    obtain ⟨ρ', e, h⟩ := hs i y ey
    subst e2
    refine ⟨ρ', e, fun b L' => b = true ∧ L' = L, fun s H C cl fp => mts_nil ⟨rfl, rfl⟩, fun b L2 ⟨eb, eL⟩ => ⟨fun _ s H C cl fp => ?_, fun z => by rw [eb] at z; cases z⟩⟩
    subst eL
    refine EX.to (h s H C cl fp) ⟨?_, rfl⟩
    rw [e1, take_snoc ey, List.map_append, List.map_append]
    rfl) (fun acc L ⟨e1, e2⟩ D _ => .inl ⟨ys.map g, by rw [e1, List.take_length], by rw [e2]; exact k⟩) hf
theorem ex_lcp (g : Yd → PyData) (hc : Y.X.calm = true) (hN : Y.X.N.Nodup) (hi : IX Y tg iter ρ L ys P La) (hP : P La) (ok : BlkOk Y.X.N Y.X.env.scope scope own) (hsl : tgt.slots = own.map (·.2)) (hg : ∀ s H C cl fp, PG (Y.X.blk s H scope (compEnvC scope cl C Y.X.env) fp) tg (gTg Y.X.K tgt)) (hz : ys.length ≤ sizeLine)
    (hs : ∀ (i : Nat) y, ys[i]? = some y → ∃ ρ', setT tgt y (wipeR ρ (own.map (·.2))) = some ρ' ∧ ∀ s H C cl fp, EX (yB Y s H scope cl C fp) elt ρ' La (.dt (g y)) La)
    (hf : ∀ x, foldedSetIterable iter Y.X.env x = pure x := by intro _; rfl) : EX Y (.ListComp elt [⟨tg, iter, [], 0⟩] scope pos) ρ L (.dt (.list (ys.map g))) La := me_lcp g hc hN hi hP ok hsl hg hz hs ⟨rfl, rfl⟩ hf
theorem ms_setlcp {N : Rho → Led → Prop} {D : Nd} {i : Nat} {y : Str} {py spos : Pos} (g : Yd → PyData) (hc : Y.X.calm = true) (hN : Y.X.N.Nodup) (hy : Y.X.N[i]? = some y) (hyl : Y.X.env.scope.names.lookup y = some .local) (hsw : swapsWith (.ListComp elt [⟨tg, iter, [], 0⟩] scope pos) (some (.Name y py)) spos.line Y.X.env = pure true)
    (hi : IX Y tg iter ρ L ys P La) (hP : P La) (ok : BlkOk Y.X.N Y.X.env.scope scope own) (hsl : tgt.slots = own.map (·.2)) (hg : ∀ s H C cl fp, PG (Y.X.blk s H scope (compEnvC scope cl C Y.X.env) fp) tg (gTg Y.X.K tgt)) (hz : ys.length ≤ sizeLine)
    (hs : ∀ (i : Nat) y, ys[i]? = some y → ∃ ρ', setT tgt y (wipeR ρ (own.map (·.2))) = some ρ' ∧ ∀ s H C cl fp, EX (yB Y s H scope cl C fp) elt ρ' La (.dt (g y)) La) (k : N (ρ.set i (some (.dt (.list (ys.map g))))) La)
    (hf : ∀ x, foldedSetIterable iter Y.X.env x = pure x := by intro _; rfl) : MS Y (.Assign [.Name y py] (.ListComp elt [⟨tg, iter, [], 0⟩] scope pos) spos) N D ρ L :=
  ms_setlc hc hN hy hyl hsw hi ok hsl hg hz (fun i acc L => acc = ((ys.take i).map g).map Rv.dt ∧ L = La) ⟨rfl, rfl⟩ (fun i acc L _ ⟨_, e⟩ => by rw [e]; exact hP) (fun i y acc L ey ⟨e1, e2⟩ => by
    obtain ⟨ρ', e, h⟩ := hs i y ey
    subst e2
    refine ⟨ρ', e, fun b L' => b = true ∧ L' = L, fun s H C cl fp => mts_nil ⟨rfl, rfl⟩, fun b L2 ⟨eb, eL⟩ => ⟨fun _ s H C cl fp => ?_, fun z => by rw [eb] at z; cases z⟩⟩
    subst eL
    refine EX.to (h s H C cl fp) ⟨?_, rfl⟩
    rw [e1, take_snoc ey, List.map_append, List.map_append]
    rfl) (fun acc L ⟨e1, e2⟩ D _ => .inl ⟨ys.map g, by rw [e1, List.take_length], by rw [e2]; exact k⟩) hf
/-- [elt for tg in iter if c], both without effect -/
theorem me_lcf {K : Rv → Led → Prop} (g : Yd → PyData) (t : Yd → Bool) (hc : Y.X.calm = true) (hN : Y.X.N.Nodup) (hi : IX Y tg iter ρ L ys P La) (hP : P La) (ok : BlkOk Y.X.N Y.X.env.scope scope own) (hsl : tgt.slots = own.map (·.2)) (hg : ∀ s H C cl fp, PG (Y.X.blk s H scope (compEnvC scope cl C Y.X.env) fp) tg (gTg Y.X.K tgt)) (hz : ys.length ≤ sizeLine)
    (hs : ∀ (i : Nat) y, ys[i]? = some y → ∃ ρ', setT tgt y (wipeR ρ (own.map (·.2))) = some ρ' ∧ (∀ s H C cl fp, TX (yB Y s H scope cl C fp) c ρ' La (t y) La) ∧ (t y = true → ∀ s H C cl fp, EX (yB Y s H scope cl C fp) elt ρ' La (.dt (g y)) La)) (k : K (.dt (.list ((ys.filter t).map g))) La)
    (hf : ∀ x, foldedSetIterable iter Y.X.env x = pure x := by intro _; rfl) : ME Y (.ListComp elt [⟨tg, iter, [c], 0⟩] scope pos) ρ L K :=
  me_lc hc hN hi ok hsl hg hz (fun i acc L => acc = (((ys.take i).filter t).map g).map Rv.dt ∧ L = La) ⟨rfl, rfl⟩ (fun i acc L _ ⟨_, e⟩ => by rw [e]; exact hP) (fun i y acc L ey ⟨e1, e2⟩ => by
    obtain ⟨ρ', e, h1, h2⟩ := hs i y ey
    subst e2
    refine ⟨ρ', e, fun b L' => b = t y ∧ L' = L, fun s H C cl fp => mts_one (h1 s H C cl fp), fun b L2 ⟨eb, eL⟩ => ⟨fun z s H C cl fp => ?_, fun z => ?_⟩⟩
    · subst eL
      rw [z] at eb
      refine EX.to (h2 eb.symm s H C cl fp) ⟨?_, rfl⟩
      rw [e1, take_snoc ey, List.filter_append, List.map_append, List.map_append, List.filter_cons, ← eb]
      rfl
    · rw [z] at eb
      refine ⟨?_, eL⟩
      rw [e1, take_snoc ey, List.filter_append, List.map_append, List.map_append, List.filter_cons, ← eb]
      simp) (fun acc L ⟨e1, e2⟩ D _ => .inl ⟨(ys.filter t).map g, by rw [e1, List.take_length], by rw [e2]; exact k⟩) hf
theorem ms_setlcf {N : Rho → Led → Prop} {D : Nd} {i : Nat} {y : Str} {py spos : Pos} (g : Yd → PyData) (t : Yd → Bool) (hc : Y.X.calm = true) (hN : Y.X.N.Nodup) (hy : Y.X.N[i]? = some y) (hyl : Y.X.env.scope.names.lookup y = some .local) (hsw : swapsWith (.ListComp elt [⟨tg, iter, [c], 0⟩] scope pos) (some (.Name y py)) spos.line Y.X.env = pure true)
    (hi : IX Y tg iter ρ L ys P La) (hP : P La) (ok : BlkOk Y.X.N Y.X.env.scope scope own) (hsl : tgt.slots = own.map (·.2)) (hg : ∀ s H C cl fp, PG (Y.X.blk s H scope (compEnvC scope cl C Y.X.env) fp) tg (gTg Y.X.K tgt)) (hz : ys.length ≤ sizeLine)
    (hs : ∀ (i : Nat) y, ys[i]? = some y → ∃ ρ', setT tgt y (wipeR ρ (own.map (·.2))) = some ρ' ∧ (∀ s H C cl fp, TX (yB Y s H scope cl C fp) c ρ' La (t y) La) ∧ (t y = true → ∀ s H C cl fp, EX (yB Y s H scope cl C fp) elt ρ' La (.dt (g y)) La)) (k : N (ρ.set i (some (.dt (.list ((ys.filter t).map g))))) La)
    (hf : ∀ x, foldedSetIterable iter Y.X.env x = pure x := by intro _; rfl) : MS Y (.Assign [.Name y py] (.ListComp elt [⟨tg, iter, [c], 0⟩] scope pos) spos) N D ρ L :=
  ms_setlc hc hN hy hyl hsw hi ok hsl hg hz (fun i acc L => acc = (((ys.take i).filter t).map g).map Rv.dt ∧ L = La) ⟨rfl, rfl⟩ (fun i acc L _ ⟨_, e⟩ => by rw [e]; exact hP) (fun i y acc L ey ⟨e1, e2⟩ => by
    obtain ⟨ρ', e, h1, h2⟩ := hs i y ey
    subst e2
    refine ⟨ρ', e, fun b L' => b = t y ∧ L' = L, fun s H C cl fp => mts_one (h1 s H C cl fp), fun b L2 ⟨eb, eL⟩ => ⟨fun z s H C cl fp => ?_, fun z => ?_⟩⟩
    · subst eL
      rw [z] at eb
      refine EX.to (h2 eb.symm s H C cl fp) ⟨?_, rfl⟩
      rw [e1, take_snoc ey, List.filter_append, List.map_append, List.map_append, List.filter_cons, ← eb]
      rfl
    · rw [z] at eb
      refine ⟨?_, eL⟩
      rw [e1, take_snoc ey, List.filter_append, List.map_append, List.map_append, List.filter_cons, ← eb]
      simp) (fun acc L ⟨e1, e2⟩ D _ => .inl ⟨(ys.filter t).map g, by rw [e1, List.take_length], by rw [e2]; exact k⟩) hf
end

/-! ### methods of a list of the ledger -/
section
variable {Y : Cm} {ρ : Rho} {L La Lb Lc : Led} {r ra rb rc : Rv} {e a b c o : Expr} {es : List Expr} {pos apos p : Pos} {X : Cx} {N : Rho → Led → Prop} {D : Nd}
theorem Ok.lstAt {S H : Hp} {q : Addr} {rs : List Rv} (k : Ok S H L) (h : L q = some (.lst rs)) : ∃ xs, H q = some (.lst xs) ∧ Rvs S rs xs := by
  obtain ⟨_, o, e, xs, rfl, i⟩ := k.led q _ h
  exact ⟨xs, e, i⟩
/-- o.append(e) -/
theorem me_append {K : Rv → Led → Prop} {q : Addr} {rs0 : List Rv} (ho : EX Y o ρ L (.vl (.ref q)) La) (h0 : La q = some (.lst rs0)) (he : ME Y e ρ La fun r Lb => ∃ rs, Lb q = some (.lst rs) ∧ rs.length < sizeLine ∧ K (.dt .none) (updL Lb q (.lst (rs ++ [r]))))
    (hbase : attributeBase o "append" Y.X.env (eval o Y.X.env) = eval o Y.X.env := by rfl)
    (hfew : ((backTo pos (starEach (e :: []) Y.X.env)).all (fun x => !x.1) && (backToKw pos (keywordEach [] Y.X.env)).all (fun x => x.1.isSome) && decide ((e :: []).length + ([] : List Keyword).length + (if ([] : List Keyword).isEmpty then 0 else 1) < 30)) = true := by rfl)
    (hline : (apos.endLine == pos.line) = true := by rfl) (hs : starEach (e :: []) Y.X.env = (false, eval e Y.X.env) :: starEach [] Y.X.env := by rfl) (hplain : (backTo pos (starEach [] Y.X.env)).any (·.1) = false := by rfl) :
    ME Y (.Call (.Attribute o "append" apos) [e] [] pos) ρ L K := ⟨fun S σ H A Q qq => by
  refine wE.of (pe_bm PySem.F.plainAttrs_list PySem.F.slot_list_append PySem.F.type_list_append mt_append wE.pe (pa_cons wE.pe pa_nil hs) hbase hfew hline hs hplain) (ho.run S σ H A _ fun r1 L1' S1 H1 x ⟨e1, e2⟩ t1 i1 => ?_)
  subst e1 e2
  have ex : x = .ref q := i1
  subst ex
  obtain ⟨xs0, e0, _⟩ := t1.ok.lstAt h0
  refine ⟨.inl ⟨rfl, _, SqL.of e0⟩, he.run S1 σ H1 (A.next t1) _ fun r Lb S2 H2 v ⟨rs, h2, hz, k⟩ t2 i2 => ?_⟩
  obtain ⟨xs, e3, rv⟩ := t2.ok.lstAt h2
  refine ⟨q, xs, v, rfl, rfl, e3, by rw [← Rvs.len rv]; exact hz, qq _ _ S2 _ _ k ((t1.trans t2).trans (Step.write t2.ok h2 ⟨_, rfl, papp rv (.cons i2 .nil)⟩)) .non⟩⟩
theorem ex_append {q : Addr} {rs rs0 : List Rv} (ho : EX Y o ρ L (.vl (.ref q)) La) (h0 : La q = some (.lst rs0)) (he : EX Y e ρ La r Lb) (h2 : Lb q = some (.lst rs)) (hz : rs.length < sizeLine)
    (hbase : attributeBase o "append" Y.X.env (eval o Y.X.env) = eval o Y.X.env := by rfl)
    (hfew : ((backTo pos (starEach (e :: []) Y.X.env)).all (fun x => !x.1) && (backToKw pos (keywordEach [] Y.X.env)).all (fun x => x.1.isSome) && decide ((e :: []).length + ([] : List Keyword).length + (if ([] : List Keyword).isEmpty then 0 else 1) < 30)) = true := by rfl)
    (hline : (apos.endLine == pos.line) = true := by rfl) (hs : starEach (e :: []) Y.X.env = (false, eval e Y.X.env) :: starEach [] Y.X.env := by rfl) (hplain : (backTo pos (starEach [] Y.X.env)).any (·.1) = false := by rfl) :
    EX Y (.Call (.Attribute o "append" apos) [e] [] pos) ρ L (.dt .none) (updL Lb q (.lst (rs ++ [r]))) := me_append ho h0 (EX.to he ⟨rs, h2, hz, rfl, rfl⟩) hbase hfew hline hs hplain
/-- o.extend(e) -/
theorem ex_extend {q : Addr} {rs : List Rv} {ds : List Rv} (ho : EX Y o ρ L (.vl (.ref q)) La) (he : EX Y e ρ La r Lb) (h0 : La q = some (.lst rs)) (h2 : Lb q = some (.lst rs)) (hd : LR Lb r ds) (hz : rs.length + ds.length ≤ sizeLine)
    (hbase : attributeBase o "extend" Y.X.env (eval o Y.X.env) = eval o Y.X.env := by rfl)
    (hfew : ((backTo pos (starEach (e :: []) Y.X.env)).all (fun x => !x.1) && (backToKw pos (keywordEach [] Y.X.env)).all (fun x => x.1.isSome) && decide ((e :: []).length + ([] : List Keyword).length + (if ([] : List Keyword).isEmpty then 0 else 1) < 30)) = true := by rfl)
    (hline : (apos.endLine == pos.line) = true := by rfl) (hs : starEach (e :: []) Y.X.env = (false, eval e Y.X.env) :: starEach [] Y.X.env := by rfl) (hplain : (backTo pos (starEach [] Y.X.env)).any (·.1) = false := by rfl) :
    EX Y (.Call (.Attribute o "extend" apos) [e] [] pos) ρ L (.dt .none) (updL Lb q (.lst (rs ++ ds))) := ⟨fun S σ H A Q qq => by
  refine wE.of (pe_bm PySem.F.plainAttrs_list PySem.F.slot_list_extend PySem.F.type_list_extend mt_extend wE.pe (pa_cons wE.pe pa_nil hs) hbase hfew hline hs hplain) (ho.run S σ H A _ fun r1 L1' S1 H1 x ⟨e1, e2⟩ t1 i1 => ?_)
  subst e1 e2
  have ex : x = .ref q := i1
  subst ex
  obtain ⟨xs0, e0, _⟩ := t1.ok.lstAt h0
  refine ⟨.inl ⟨rfl, _, SqL.of e0⟩, he.run S1 σ H1 (A.next t1) _ fun r' Lb' S2 H2 v ⟨e1, e2⟩ t2 i2 => ?_⟩
  subst e1 e2
  obtain ⟨xs, e3, rv⟩ := t2.ok.lstAt h2
  obtain ⟨b, zs, rfl, e4, rz⟩ := LR.at_ hd t2.ok i2
  refine ⟨q, b, xs, zs, rfl, rfl, e3, e4, by rw [← Rvs.len rv, ← Rvs.len rz]; exact hz, qq _ _ S2 _ _ ⟨rfl, rfl⟩ ((t1.trans t2).trans (Step.write t2.ok h2 ⟨_, rfl, papp rv rz⟩)) .non⟩⟩
/-- o.insert(i, e) -/
theorem ex_insert {q : Addr} {rs : List Rv} {i : Int} (ho : EX Y o ρ L (.vl (.ref q)) La) (h0 : La q = some (.lst rs)) (ha : AX Y [a, e] ρ La [.dt (.int i), r] Lb) (h2 : Lb q = some (.lst rs)) (hz : rs.length < sizeLine) (i0 : 0 ≤ i) (i1 : i < 2 ^ 63)
    (hbase : attributeBase o "insert" Y.X.env (eval o Y.X.env) = eval o Y.X.env := by rfl)
    (hfew : ((backTo pos (starEach (a :: [e]) Y.X.env)).all (fun x => !x.1) && (backToKw pos (keywordEach [] Y.X.env)).all (fun x => x.1.isSome) && decide ((a :: [e]).length + ([] : List Keyword).length + (if ([] : List Keyword).isEmpty then 0 else 1) < 30)) = true := by rfl)
    (hline : (apos.endLine == pos.line) = true := by rfl) (hs : starEach (a :: [e]) Y.X.env = (false, eval a Y.X.env) :: starEach [e] Y.X.env := by rfl) (hplain : (backTo pos (starEach [e] Y.X.env)).any (·.1) = false := by rfl) :
    EX Y (.Call (.Attribute o "insert" apos) [a, e] [] pos) ρ L (.dt .none) (updL Lb q (.lst (rs.take i.toNat ++ [r] ++ rs.drop i.toNat))) := ⟨fun S σ H A Q qq => by
  refine wE.of (pe_bm PySem.F.plainAttrs_list PySem.F.slot_list_insert (by rfl) mt_insert wE.pe wA.pa hbase hfew hline hs hplain) (ho.run S σ H A _ fun r1 L1' S1 H1 x ⟨e1, e2⟩ t1 ii1 => ?_)
  subst e1 e2
  have ex : x = .ref q := ii1
  subst ex
  obtain ⟨xs0, e0, _⟩ := t1.ok.lstAt h0
  refine ⟨.inl ⟨rfl, _, SqL.of e0⟩, ha.run S1 σ H1 (A.next t1) _ fun r' Lb' S2 H2 vs ⟨e1, e2⟩ t2 i2 => ?_⟩
  subst e1 e2
  obtain ⟨u, v, rfl, iu, iv⟩ := rvs2 i2
  obtain ⟨xs, e3, rv⟩ := t2.ok.lstAt h2
  refine ⟨q, xs, i, v, rfl, by rw [Da.intAt iu], e3, by rw [← Rvs.len rv]; exact hz, i0, i1, qq _ _ S2 _ _ ⟨rfl, rfl⟩ ((t1.trans t2).trans (Step.write t2.ok h2 ⟨_, rfl, papp (papp (ptake _ rv) (.cons iv .nil)) (pdrop _ rv)⟩)) .non⟩⟩

/-! ### stores -/
/-- o[i] = e -/
theorem ms_setix {q : Addr} {rs : List Rv} {i : Int} {j : Nat} {tpos : Pos} (he : EX Y e ρ L r La) (ho : EX Y o ρ La (.vl (.ref q)) Lb) (hi : EX Y a ρ Lb (.dt (.int i)) Lc) (h : Lc q = some (.lst rs)) (hj : ixN rs.length i = some j) (k : N ρ (updL Lc q (.lst (rs.set j r))))
    (ha : ∀ v, assign (.Subscript o a tpos) Y.X.env v = (do
      let ov ← holding [v] (eval o Y.X.env)
      let iv ← holding [v, ov] (eval a Y.X.env)
      standAt tpos
      holding [v, ov, iv] (setItem ov iv v)
      release [v, ov, iv] []) := by intro _; rfl)
    (hs : swapsWithSole [.Subscript o a tpos] e pos.line Y.X.env = pure false := by rfl) (hw : swappedStores [.Subscript o a tpos] e Y.X.env = pure none := by rfl) (h1 : (assignEach [.Subscript o a tpos] Y.X.env).map (·.2) = [assign (.Subscript o a tpos) Y.X.env] := by rfl) :
    MS Y (.Assign [.Subscript o a tpos] e pos) N D ρ L := ⟨fun S σ H A De l => by
  refine wS.of (ps_asg wE.pe (pg_sub wE.pe wE.pe set_list ha) hs hw h1) (he.run S σ H A _ fun r1 L1 S1 H1 v ⟨e1, e2⟩ t1 i1 => ?_)
  subst e1 e2
  refine ho.run S1 σ H1 (A.next t1) _ fun r2 L2 S2 H2 x ⟨e1, e2⟩ t2 i2 => ?_
  subst e1 e2
  refine hi.run S2 σ H2 (A.next (t1.trans t2)) _ fun r3 L3 S3 H3 y ⟨e1, e2⟩ t3 i3 => ?_
  subst e1 e2
  have ex : x = .ref q := i2
  obtain ⟨xs, e3, rv⟩ := t3.ok.lstAt h
  refine ⟨q, xs, i, j, ex, Da.intAt i3, e3, by rw [← Rvs.len rv]; exact hj, ?_⟩
  have t4 := Step.write t3.ok h (m := .lst (rs.set j r1)) ⟨_, rfl, pset (i1.mono (t2.sub.trans t3.sub)) j rv⟩
  exact l.nx ρ _ S3 _ σ k (((t1.trans t2).trans t3).trans t4) (A.es.mono ((t1.trans t2).trans t3).sub)⟩
theorem pget_list : PGet X (rIxL X.K) := by
  intro pins s σ H x y v u Q I rx ry h
  obtain ⟨p, xs, i, z, rfl, rfl, hq, he, q⟩ := h
  cases rx
  obtain ⟨t, rfl⟩ := ry
  obtain ⟨its, r, pl, hz⟩ := I.list hq
  obtain ⟨j, h1, h2, h3, h4, h5⟩ := atI_get he
  obtain ⟨w, ew, rw'⟩ := r.get h2
  have hl := r.length
  have hn := line63
  have fin : EP X pins σ Q w s := ⟨z, H, I, rw', q⟩
  by_cases h0 : 0 ≤ i
  · have hj : i.toNat = j := by
      rw [seqIndex_of h0 h5] at h1
      exact Option.some.inj h1
    exact wpAny_getItem_list pl.isList h0 (by omega) (by rw [hj]; simpa using ew) fin
  · have hj : (i + (its.toArray.size : Int)).toNat = j := by
      rw [seqIndex_neg (by omega) h4] at h1
      rw [List.size_toArray, ← hl]
      exact Option.some.inj h1
    exact wpAny_getItem_list_neg pl.isList (by omega) (by rw [List.size_toArray] <;> omega) (by omega) (by rw [hj]; simpa using ew) fin
/-- o[i] op= e -/
theorem ms_augix {q : Addr} {rs : List Rv} {i : Int} {j : Nat} {op : Operator} {tpos : Pos} (ho : EX Y o ρ L (.vl (.ref q)) La) (hi : EX Y a ρ La (.dt (.int i)) Lb) (h : Lb q = some (.lst rs)) (hr : atI rs i = some ra) (he : EX Y e ρ Lb rb Lc) (hop : Op2 Y.X (inplaceOp op) ra rb Lc rc)
    (h' : Lc q = some (.lst rs)) (hj : ixN rs.length i = some j) (k : N ρ (updL Lc q (.lst (rs.set j rc))))
    (ha : ∀ ov iv new, augStore a ov iv new = (do holding [new, ov, iv] (setItem ov iv new); release [new, ov, iv] []; pure .next) := by intros; rfl) : MS Y (.AugAssign (.Subscript o a tpos) op e pos) N D ρ L := ⟨fun S σ H A De l => by
  obtain ⟨rr, hr1, hr2⟩ := hop
  refine wS.of (ps_augS (tip := fun x y H Q => rr x y H Q) wE.pe wE.pe pget_list wE.pe (fun pins s σ H x y v u Q I rx ry q => hr1 pins s σ H x y v u Q I rx ry q) set_list ha) (ho.run S σ H A _ fun r1 L1 S1 H1 x ⟨e1, e2⟩ t1 i1 => ?_)
  subst e1 e2
  refine hi.run S1 σ H1 (A.next t1) _ fun r2 L2 S2 H2 y ⟨e1, e2⟩ t2 i2 => ?_
  subst e1 e2
  have ex : x = .ref q := i1
  subst ex
  have ey := Da.intAt i2
  subst ey
  obtain ⟨xs, e3, rv⟩ := t2.ok.lstAt h
  obtain ⟨z, ez, iz⟩ := patI rv hr
  refine ⟨q, xs, i, z, rfl, rfl, SqL.of e3, ez, ?_⟩
  refine he.run S2 σ H2 (A.next (t1.trans t2)) _ fun r3 L3 S3 H3 w ⟨e1, e2⟩ t3 i3 => ?_
  subst e1 e2
  refine hr2 S3 H3 z w t3.ok (iz.mono t3.sub) i3 _ fun S4 H4 v t4 i4 => ?_
  obtain ⟨xs', e5, rv'⟩ := t4.ok.lstAt h'
  refine ⟨q, xs', i, j, rfl, rfl, e5, by rw [← Rvs.len rv']; exact hj, ?_⟩
  have t5 := Step.write t4.ok h' (m := .lst (rs.set j rc)) ⟨_, rfl, pset i4 j rv'⟩
  exact l.nx ρ _ S4 _ σ k ((((t1.trans t2).trans t3).trans t4).trans t5) (A.es.mono (((t1.trans t2).trans t3).trans t4).sub)⟩
def putR (f : Str) (v : Rv) : List (Str × Rv) → List (Str × Rv)
  | [] => [(f, v)]
  | (g, w) :: r => if g = f then (g, v) :: r else (g, w) :: putR f v r
theorem rf_put {S : Hp} {f : Str} {r : Rv} {v : V} (i : r.is S v) : ∀ {fs : List (Str × Rv)} {gs : List (Str × V)}, RF S fs gs → RF S (putR f r fs) (putF f v gs)
  | _, _, .nil => .cons ⟨rfl, i⟩ .nil
  | (g, w) :: fs, (g', w') :: gs, .cons ⟨e, i'⟩ t => by
    have e' : g = g' := e
    subst e'
    unfold putR putF
    by_cases h : g = f
    · rw [if_pos h, if_pos h]
      exact .cons ⟨rfl, i⟩ t
    · rw [if_neg h, if_neg h]
      exact .cons ⟨rfl, i'⟩ (rf_put i t)
/-- o.f = e -/
theorem ms_setfld {q C : Addr} {fs : List (Str × Rv)} {f : Str} {pos' : Pos} (he : EX Y e ρ L r La) (ho : EX Y o ρ La (.vl (.ref q)) Lb) (h : Lb q = some (.ins C fs)) (c : Cls Y.X.K C) (n : NoAttr Y.X.K C f) (hl : fs.length < 1000) (k : N ρ (updL Lb q (.ins C (putR f r fs))))
    (hs : swapsWith e (some (.Attribute o f pos')) pos.line Y.X.env = pure false := by rfl) : MS Y (.Assign [.Attribute o f pos'] e pos) N D ρ L := ⟨fun S σ H A De l => by
  refine wS.of (ps_fld wE.pe wE.pe hs) (he.run S σ H A _ fun r1 L1 S1 H1 v ⟨e1, e2⟩ t1 i1 => ?_)
  subst e1 e2
  refine ho.run S1 σ H1 (A.next t1) _ fun r2 L2 S2 H2 x ⟨e1, e2⟩ t2 i2 => ?_
  subst e1 e2
  obtain ⟨dx, gs, hg, rf⟩ := t2.ok.ins h
  refine ⟨q, C, dx, gs, i2, hg, c, n, by rw [← Paired.length rf]; exact hl, ?_⟩
  have t3 := Step.write t2.ok h (m := .ins C (putR f r1 fs)) (o := .ins C dx (putF f v gs)) ⟨_, _, rfl, rf_put (i1.mono t2.sub) rf⟩
  exact l.nx ρ _ S2 _ σ k ((t1.trans t2).trans t3) (A.es.mono (t1.trans t2).sub)⟩
/-- o.f op= e -/
theorem ms_augfld {q C : Addr} {fs : List (Str × Rv)} {f : Str} {op : Operator} {tpos : Pos} (ho : EX Y o ρ L (.vl (.ref q)) La) (h : La q = some (.ins C fs)) (c : Cls Y.X.K C) (n : NoAttr Y.X.K C f) (hf : fs.lookup f = some ra) (he : EX Y e ρ La rb Lb) (hop : Op2 Y.X (inplaceOp op) ra rb Lb rc) (h' : Lb q = some (.ins C fs)) (hl : fs.length < 1000)
    (k : N ρ (updL Lb q (.ins C (putR f rc fs)))) : MS Y (.AugAssign (.Attribute o f tpos) op e pos) N D ρ L := ⟨fun S σ H A De l => by
  obtain ⟨rr, hr1, hr2⟩ := hop
  refine wS.of (ps_fldaug (rd := fun x y H Q => rr x y H Q) wE.pe wE.pe (fun pins s σ H x y v u Q I rx ry q => hr1 pins s σ H x y v u Q I rx ry q)) (ho.run S σ H A _ fun r1 L1 S1 H1 x ⟨e1, e2⟩ t1 i1 => ?_)
  subst e1 e2
  obtain ⟨dx, gs, hg, rf⟩ := t1.ok.ins h
  obtain ⟨v, ev, iv⟩ := (rf_lookup rf).2 _ hf
  refine ⟨q, C, dx, gs, v, i1, hg, c, n, ev, he.run S1 σ H1 (A.next t1) _ fun r2 L2 S2 H2 y ⟨e1, e2⟩ t2 i2 => ?_⟩
  subst e1 e2
  refine hr2 S2 H2 v y t2.ok (iv.mono t2.sub) i2 _ fun S3 H3 z t3 i3 => ?_
  obtain ⟨dx', gs', hg', rf'⟩ := t3.ok.ins h'
  refine ⟨dx', gs', hg', by rw [← Paired.length rf']; exact hl, ?_⟩
  have t4 := Step.write t3.ok h' (m := .ins C (putR f rc fs)) (o := .ins C dx' (putF f z gs')) ⟨_, _, rfl, rf_put i3 rf'⟩
  exact l.nx ρ _ S3 _ σ k (((t1.trans t2).trans t3).trans t4) (A.es.mono ((t1.trans t2).trans t3).sub)⟩
end
end Cw

set_option Elab.async false
set_option linter.all false
set_option maxRecDepth 100000
set_option maxHeartbeats 2000000
/-! Cw, part G: the script; short forms; new lists that change; more iterators; errors. -/
namespace Cw
open PySem PySem.Spec PyProof.Rows L2

/-! ### the script -/
/-- the list at a is the ints ns, to be read -/
def Scr (K : PySem.W.Frag) (L : Led) (a : Addr) (ns : List Int) : Prop := L a = some (.frz (ns.map fun i => .dt (.int i))) ∨ ∀ H, SqL K H a (ns.map V.int)
theorem rvs_ints {S : Hp} : ∀ {ns : List Int} {xs : List V}, Rvs S (ns.map fun i => .dt (.int i)) xs → xs = ns.map V.int
  | [], _, .nil => rfl
  | n :: ns, _, .cons a t => by
    rw [rvs_ints t, Da.intAt a]
    rfl
theorem Scr.at_ {K : PySem.W.Frag} {S H : Hp} {L : Led} {a : Addr} {ns : List Int} (h : Scr K L a ns) (k : Ok S H L) : SqL K H a (ns.map V.int) := by
  rcases h with h | h
  · obtain ⟨_, o, e, ob, xs, rfl, i⟩ := k.led a _ h
    rw [rvs_ints i] at e
    exact .inl (.inr ⟨ob, e⟩)
  · exact h H
theorem Scr.upd {K : PySem.W.Frag} {L : Led} {a p : Addr} {m : MO} {ns : List Int} (h : Scr K L a ns) (hp : L p = none) : Scr K (updL L p m) a ns := by
  rcases h with h | h
  · exact .inl (by
      rw [updL_ne fun z => by rw [z, hp] at h; cases h]
      exact h)
  · exact .inr h
theorem Scr.mono {K : PySem.W.Frag} {L L' : Led} {a : Addr} {ns : List Int} (h : Scr K L a ns) (l : Le L L') : Scr K L' a ns := h.imp (fun h => l _ _ h) id
theorem da_ints {S : Hp} : ∀ {ns : List Int}, DaAll S (ns.map V.int) (ns.map PyData.int)
  | [] => .nil
  | n :: ns => .cons (.int n) da_ints
section
variable {X : Cx} {L : Led} {a : Addr} {ns : List Int}
theorem c_lenF (h : Scr X.K L a ns) : OpC X (.builtin "len") [.vl (.ref a)] L (.dt (.int ns.length)) := ⟨_, call_len_seq, fun S H xs k hx Q q => by
  obtain ⟨x, rfl, i⟩ := rvs1 hx
  cases (show x = .ref a from i)
  refine ⟨a, _, rfl, .inl (h.at_ k), ?_⟩
  rw [List.length_map]
  exact q S H _ (Step.refl k) (.int _)⟩
theorem i_lstF {i : Int} {z : Int} (h : Scr X.K L a ns) (e : atI ns i = some z) : OpIx X (.vl (.ref a)) (.dt (.int i)) L (.dt (.int z)) := ⟨_, ix_list, fun S H x y k hx hy Q q => by
  cases (show x = .ref a from hx)
  have e2 : atI (ns.map V.int) i = some (.int z) := by
    unfold atI at e ⊢
    rw [List.length_map]
    cases w : ixN ns.length i with
    | none => rw [w] at e; cases e
    | some j =>
      rw [w] at e
      have e' : ns[j]? = some z := e
      show (ns.map V.int)[j]? = _
      rw [List.getElem?_map, e']
      rfl
  exact ⟨a, _, i, _, rfl, Da.intAt hy, h.at_ k, e2, q S H _ (Step.refl k) (.int _)⟩⟩
theorem c_listF (h : Scr X.K L a ns) : OpC X (.type "list") [.vl (.ref a)] L (.dt (.list (ns.map PyData.int))) := ⟨_, call_list_of, fun S H xs k hx Q q => by
  obtain ⟨x, rfl, i⟩ := rvs1 hx
  cases (show x = .ref a from i)
  refine ⟨a, _, rfl, .inl (h.at_ k), fun n hn => ?_⟩
  exact q _ _ _ (Step.still k hn) (.lst upd_same da_ints)⟩
end

/-! ### short forms -/
section
variable {Y : Cm} {ρ : Rho} {L La Lb Lc : Led} {r ra rb rc : Rv} {e a b c o : Expr} {es : List Expr} {pos apos p : Pos} {sp : Fs} {k : Nat} {x m : Str} {ps : List Str} {N : Rho → Led → Prop} {D : Nd}
theorem ad_nil : AX Y [] ρ L (([] : List PyData).map Rv.dt) L := ax_nil
theorem ad_cons {d : PyData} {ds : List PyData} (h : EX Y e ρ L (.dt d) La) (t : AX Y es ρ La (ds.map Rv.dt) Lb) (hs : starEach (e :: es) Y.X.env = (false, eval e Y.X.env) :: starEach es Y.X.env := by rfl) : AX Y (e :: es) ρ L ((d :: ds).map Rv.dt) Lb := ax_cons h t hs
theorem ex_call {rs : List Rv} (G : FnM Y.X.prog Y.X.w Y.X.K Y.X.mg Y.X.base k x ps sp) (hr : Room k Y.X.A) (hg : Gl Y.X x) (ha : AX Y (e :: es) ρ L rs La) (h : sp rs La (fun r' L' => r' = rc ∧ L' = Lc) noX) (hdb : (x == ("__debug__" : Str)) = false := by decide)
    (he : starEach (e :: es) Y.X.env = (false, eval e Y.X.env) :: starEach es Y.X.env := by rfl) (hpl : (backTo pos (starEach es Y.X.env)).any (·.1) = false := by rfl) : EX Y (.Call (.Name x p) (e :: es) [] pos) ρ L rc Lc := me_call G hr hg (MA.imp ha fun _ _ ⟨e1, e2⟩ => by
  subst e1 e2
  exact h) hdb he hpl
theorem ex_call0 (G : FnM Y.X.prog Y.X.w Y.X.K Y.X.mg Y.X.base k x ps sp) (hr : Room k Y.X.A) (hg : Gl Y.X x) (h : sp [] L (fun r' L' => r' = rc ∧ L' = Lc) noX) (hdb : (x == ("__debug__" : Str)) = false := by decide) : EX Y (.Call (.Name x p) [] [] pos) ρ L rc Lc := me_call0 G hr hg h hdb
theorem ex_meth {rs : List Rv} {pl : Sem Bool} {q C : Addr} {fs : List (Str × Rv)} (ho : EX Y a ρ L (.vl (.ref q)) La) (hq : La q = some (.ins C fs)) (hn : fs.lookup m = none) (c : Cls Y.X.K C) (G : MtM Y.X.prog Y.X.w Y.X.K Y.X.mg Y.X.base k C m ps sp) (hr : Room k Y.X.A)
    (ha : AX Y (e :: es) ρ La rs Lb) (h : sp (.vl (.ref q) :: rs) Lb (fun r' L' => r' = rc ∧ L' = Lc) noX)
    (hst : starEach (e :: es) Y.X.env = (false, eval e Y.X.env) :: starEach es Y.X.env := by rfl) (hpl : (backTo pos (starEach es Y.X.env)).any (·.1) = false := by rfl)
    (ht : eval (.Call (.Attribute a m apos) (e :: es) [] pos) Y.X.env = (do
      let ov ← eval a Y.X.env
      standAt apos.atName
      let (f, first) ← holding [ov] (getMethod ov m pl)
      callWith pos f first (backTo pos (starEach (e :: es) Y.X.env)) (backToKw pos (keywordEach [] Y.X.env))) := by rfl) : EX Y (.Call (.Attribute a m apos) (e :: es) [] pos) ρ L rc Lc := me_meth (pl := pl) ho hq hn c G hr (MA.imp ha fun _ _ ⟨e1, e2⟩ => by
  subst e1 e2
  exact h) hst hpl ht
theorem ex_meth0 {pl : Sem Bool} {q C : Addr} {fs : List (Str × Rv)} (ho : EX Y a ρ L (.vl (.ref q)) La) (hq : La q = some (.ins C fs)) (hn : fs.lookup m = none) (c : Cls Y.X.K C) (G : MtM Y.X.prog Y.X.w Y.X.K Y.X.mg Y.X.base k C m ps sp) (hr : Room k Y.X.A)
    (h : sp [.vl (.ref q)] La (fun r' L' => r' = rc ∧ L' = Lc) noX)
    (ht : eval (.Call (.Attribute a m apos) [] [] pos) Y.X.env = (do
      let ov ← eval a Y.X.env
      standAt apos.atName
      let (f, first) ← holding [ov] (getMethod ov m pl)
      callWith pos f first (backTo pos (starEach [] Y.X.env)) (backToKw pos (keywordEach [] Y.X.env))) := by rfl) : EX Y (.Call (.Attribute a m apos) [] [] pos) ρ L rc Lc := me_meth0 (pl := pl) ho hq hn c G hr h ht

/-! ### what the heap itself bounds -/
theorem MSs.len {sts : List Stmt} {rs : List Rv} (i : Nat) (hi : ρ[i]? = some (some r)) (h : LR L r rs) (k : rs.length ≤ sizeLine → MSs Y sts N D ρ L) : MSs Y sts N D ρ L := ⟨fun S σ H A De l pins s I => by
  obtain ⟨v, _, iv⟩ := A.es.at_ i r hi
  obtain ⟨a, xs, _, e, rv⟩ := LR.at_ h A.ok iv
  obtain ⟨z, _⟩ := (show ObjOk Y.X.prog Y.X.w H s.heap a (.lst xs) from I.hok a _ e)
  exact (k (by rw [Rvs.len rv]; exact z)).run S σ H A De l pins s I⟩
theorem MSs.lenT {sts : List Stmt} {ds : List PyData} (i : Nat) (hi : ρ[i]? = some (some (.dt (.tuple ds)))) (k : ds.length ≤ sizeLine → MSs Y sts N D ρ L) : MSs Y sts N D ρ L := ⟨fun S σ H A De l pins s I => by
  obtain ⟨v, _, iv⟩ := A.es.at_ i _ hi
  obtain ⟨a, xs, _, _, e, rv⟩ := Da.tupAt A.ok iv
  obtain ⟨z, _⟩ := (show ObjOk Y.X.prog Y.X.w H s.heap a (.tup xs) from I.hok a _ e)
  exact (k (by rw [← rv.len]; exact z)).run S σ H A De l pins s I⟩

/-! ### new lists that change -/
theorem me_lst0 {K : Rv → Led → Prop} (h : ∀ p, L p = none → K (.vl (.ref p)) (updL L p (.lst []))) : ME Y (.List [] pos) ρ L K := me_lst (MA.imp ax_nil fun rs L' ⟨e1, e2⟩ => by
  subst e1 e2
  exact ⟨Nat.zero_le _, h⟩)
theorem me_lstH {K : Rv → Led → Prop} {rs : List Rv} (ha : AX Y es ρ L rs La) (hz : rs.length ≤ sizeLine) (h : ∀ p, La p = none → K (.vl (.ref p)) (updL La p (.lst rs))) : ME Y (.List es pos) ρ L K := me_lst (MA.imp ha fun rs L' ⟨e1, e2⟩ => by
  subst e1 e2
  exact ⟨hz, h⟩)
/-- list(x), to be changed -/
theorem me_listH {K : Rv → Led → Prop} {rs : List Rv} (ha : EX Y e ρ L r La) (hr : LR La r rs) (h : ∀ q, La q = none → K (.vl (.ref q)) (updL La q (.lst rs))) (hg : Gl Y.X "list") (hm : Y.X.mg "list" = none) (hv : bootBuiltins "list" = some (.type "list"))
    (he : starEach (e :: []) Y.X.env = (false, eval e Y.X.env) :: starEach [] Y.X.env := by rfl) (hpl : (backTo pos (starEach [] Y.X.env)).any (·.1) = false := by rfl) : ME Y (.Call (.Name "list" p) [e] [] pos) ρ L K := ⟨fun S σ H A Q q => by
  refine wE.of (pe_callTy call_list_of hg hm hv (pa_cons wE.pe pa_nil he) (by decide) (by decide) he hpl) (ha.run S σ H A _ fun r1 L1' S1 H1 x ⟨e1, e2⟩ t1 i1 => ?_)
  subst e1 e2
  obtain ⟨b, ys, rfl, e1, rv⟩ := LR.at_ hr t1.ok i1
  exact ⟨b, ys, rfl, .inl (SqL.of e1), fun n hn => q _ _ S1 _ _ (h n (t1.ok.free hn)) (t1.trans (Step.new t1.ok hn ⟨_, rfl, rv⟩)) rfl⟩⟩
/-- xs[lo:hi], to be changed -/
theorem me_sliceH {K : Rv → Led → Prop} {rs : List Rv} {elo ehi : Option Expr} {lo hi : Option Int} {p2 : Pos} (ha : EX Y a ρ L r La) (hl : PX Y elo ρ La lo Lb) (hh : PX Y ehi ρ Lb hi Lc) (hr : LR Lc r rs) (h : ∀ q, Lc q = none → K (.vl (.ref q)) (updL Lc q (.lst (cut rs lo hi)))) :
    ME Y (.Subscript a (.Slice elo ehi none p2) pos) ρ L K := ⟨fun S σ H A Q q => by
  refine wE.of (pe_slice sl_list wE.pe wP.po wP.po) (ha.run S σ H A _ fun r1 L1' S1 H1 x ⟨e1, e2⟩ t1 i1 => ?_)
  subst e1 e2
  refine hl.run S1 σ H1 (A.next t1) _ fun S2 H2 t2 => ?_
  refine hh.run S2 σ H2 (A.next (t1.trans t2)) _ fun S3 H3 t3 => ?_
  obtain ⟨b, ys, rfl, e1, rv⟩ := LR.at_ hr t3.ok (i1.mono (t2.sub.trans t3.sub))
  exact ⟨b, ys, rfl, SqL.of e1, fun n hn => q _ _ S3 _ _ (h n (t3.ok.free hn)) (((t1.trans t2).trans t3).trans (Step.new t3.ok hn ⟨_, rfl, pcut rv⟩)) rfl⟩⟩
/-- xs + ys, to be changed -/
theorem me_catH {K : Rv → Led → Prop} {rs ss : List Rv} (ha : EX Y a ρ L ra La) (hb : EX Y b ρ La rb Lb) (h1 : LR Lb ra rs) (h2 : LR Lb rb ss) (hz : rs.length + ss.length ≤ sizeLine) (h : ∀ q, Lb q = none → K (.vl (.ref q)) (updL Lb q (.lst (rs ++ ss)))) : ME Y (.BinOp a .Add b pos) ρ L K := ⟨fun S σ H A Q q => by
  refine wE.of (pe_op op_cat wE.pe wE.pe) (ha.run S σ H A _ fun r1 L1' S1 H1 x ⟨e1, e2⟩ t1 i1 => ?_)
  subst e1 e2
  refine hb.run S1 σ H1 (A.next t1) _ fun r2 L2' S2 H2 y ⟨e1, e2⟩ t2 i2 => ?_
  subst e1 e2
  obtain ⟨b1, ys, rfl, e1, rv⟩ := LR.at_ h1 t2.ok (i1.mono t2.sub)
  obtain ⟨b2, zs, rfl, e2, rw'⟩ := LR.at_ h2 t2.ok i2
  exact ⟨b1, b2, ys, zs, rfl, rfl, e1, e2, by rw [← Rvs.len rv, ← Rvs.len rw']; exact hz, fun n hn => q _ _ S2 _ _ (h n (t2.ok.free hn)) ((t1.trans t2).trans (Step.new t2.ok hn ⟨_, rfl, papp rv rw'⟩)) rfl⟩⟩

/-! ### more that is walked -/
theorem ix_str {tg : Expr} {z : Str} (h : EX Y e ρ L (.dt (.str z)) La) : IX Y tg e ρ L (z.cps.toList.map fun c => .r (.dt (.str ⟨#[c]⟩))) anyL La := ⟨fun S σ H A R q => wI.of (pi_str wE.pe) (h.run S σ H A _ fun r L' S1 H1 v ⟨e1, e2⟩ t i => by
  subst e1 e2
  refine ⟨z, Da.strAt i, q _ _ _ S1 H1 _ ⟨rfl, rfl, rfl⟩ t ⟨fun i S' H L s k _ hl => ?_, fun i S' H L s k _ hl => ?_, fun i S' H L u H' y s k _ hy ⟨e1, c, hc, e2⟩ => ?_⟩⟩
  · rw [List.length_map, Array.length_toList] at hl
    exact hl
  · rw [List.length_map, Array.length_toList] at hl
    exact Nat.le_of_eq hl.symm
  · subst e1 e2
    refine ⟨Step.refl k, ?_⟩
    rw [List.getElem?_map, Array.getElem?_toList, hc] at hy
    cases hy
    exact .str _)⟩
def rgC (lo c : Int) (n : Nat) : List Yd := (List.range n).map fun i => .r (.dt (.int (lo + (i : Nat) * c)))
theorem rgC_len {lo c : Int} {n : Nat} : (rgC lo c n).length = n := by unfold rgC; rw [List.length_map, List.length_range]
theorem rgC_at {lo c : Int} {n i : Nat} {y : Yd} (h : (rgC lo c n)[i]? = some y) : i < n ∧ y = .r (.dt (.int (lo + (i : Nat) * c))) := by
  unfold rgC at h
  rw [List.getElem?_map] at h
  by_cases hi : i < n
  · rw [List.getElem?_range hi] at h
    exact ⟨hi, (Option.some.inj h).symm⟩
  · rw [List.getElem?_eq_none (by rw [List.length_range]; omega)] at h
    cases h
/-- range(i, j, -1) and the like -/
theorem ix_range3 {tg : Expr} {i j s : Int} {n : Nat} (h : AX Y [a, b, c] ρ L [.dt (.int i), .dt (.int j), .dt (.int s)] La) (hb : RgC i j s n) (hg : Gl Y.X "range") (hm : Y.X.mg "range" = none)
    (hs : starEach [a, b, c] Y.X.env = (false, eval a Y.X.env) :: starEach [b, c] Y.X.env := by rfl) (hpl : (backTo pos (starEach [b, c] Y.X.env)).any (·.1) = false := by rfl) : IX Y tg (.Call (.Name "range" p) [a, b, c] [] pos) ρ L (rgC i s n) anyL La := ⟨fun S σ H A R q => wI.of (pi_range3 hg hm wA.pa hs hpl) (h.run S σ H A _ fun rs L' S1 H1 vs ⟨e1, e2⟩ t ii => by
  subst e1 e2
  cases ii with
  | cons i1 ii =>
    obtain ⟨y, z, rfl, i2, i3⟩ := rvs2 ii
    refine ⟨i, j, s, n, by rw [Da.intAt i1, Da.intAt i2, Da.intAt i3], hb, q _ _ _ S1 H1 _ ⟨rfl, rfl, rfl⟩ t ⟨fun i S' H L s k _ hl => by rw [rgC_len] at hl; exact hl, fun i S' H L s k _ hl => by rw [rgC_len] at hl; exact Nat.le_of_eq hl.symm, fun i S' H L u H' y s k _ hy ⟨e1, e2⟩ => ?_⟩⟩
    subst e1 e2
    obtain ⟨_, rfl⟩ := rgC_at hy
    exact ⟨Step.refl k, .int _⟩)⟩
/-- the list that r is, wherever it stands -/
def LW (r : Rv) (rs : List Rv) (L : Led) : Prop := LR L r rs
theorem LR.sq {K : PySem.W.Frag} {S H : Hp} {L : Led} {r : Rv} {rs : List Rv} {x : V} (h : LR L r rs) (k : Ok S H L) (i : r.is S x) : ∃ a xs, x = .ref a ∧ SqL K H a xs ∧ H a = some (.lst xs) ∧ Rvs S rs xs := by
  obtain ⟨a, xs, e, e2, t⟩ := LR.at_ h k i
  exact ⟨a, xs, e, SqL.of e2, e2, t⟩
theorem sql_inj {K : PySem.W.Frag} {S H : Hp} {L : Led} {r : Rv} {rs : List Rv} {a : Addr} (h : LR L r rs) (k : Ok S H L) (i : r.is S (.ref a)) : ∃ xs, H a = some (.lst xs) ∧ Rvs S rs xs := by
  obtain ⟨a', xs, e, e2, t⟩ := LR.at_ h k i
  cases e
  exact ⟨xs, e2, t⟩
def enumY (rs : List Rv) : List Yd := rs.mapIdx fun i r => .t [.dt (.int (i : Nat)), r]
theorem ix_enum {elts : List Expr} {kk : Nat} {tpos : Pos} {rs : List Rv} (h : AX Y [e] ρ L [r] La) (hr : LR La r rs) (hg : Gl Y.X "enumerate") (hm : Y.X.mg "enumerate" = none) (hs : starEach [e] Y.X.env = [(false, eval e Y.X.env)] := by rfl) :
    IX Y (.Tuple elts kk tpos) (.Call (.Name "enumerate" p) [e] [] pos) ρ L (enumY rs) (LW r rs) La := ⟨fun S σ H A R q => wI.of (pi_enum hg hm wA.pa hs) (h.run S σ H A _ fun rr L' S1 H1 vs ⟨e1, e2⟩ t ii => by
  subst e1 e2
  obtain ⟨x, rfl, ix⟩ := rvs1 ii
  obtain ⟨b, xs, rfl, e1, rv⟩ := LR.at_ hr t.ok ix
  have isAt : ∀ {S' : Hp}, Sub S1 S' → r.is S' (.ref b) := fun s => ix.mono s
  have ln : (enumY rs).length = rs.length := by unfold enumY; rw [List.length_mapIdx]
  refine ⟨b, xs, rfl, SqL.of e1, q _ _ _ S1 H1 _ ⟨rfl, rfl, rfl⟩ t ⟨fun i S' H L s k hL hl => ?_, fun i S' H L s k hL hl => ?_, fun i S' H L u H' y s k hL hy ⟨T, z, e2, hT, e3, e4⟩ => ?_⟩⟩
  · obtain ⟨ys, e5, rv'⟩ := sql_inj (K := Y.X.K) hL k (isAt s)
    rw [ln] at hl
    obtain ⟨w, hw, _⟩ := pgetL rv' (List.getElem?_eq_getElem hl)
    exact ⟨ys, w, SqL.of e5, hw⟩
  · obtain ⟨ys, e5, rv'⟩ := sql_inj (K := Y.X.K) hL k (isAt s)
    rw [ln] at hl
    exact ⟨ys, SqL.of e5, by rw [← Rvs.len rv']; omega⟩
  · subst e2 e3
    obtain ⟨ys, e5, rv'⟩ := sql_inj (K := Y.X.K) hL k (isAt s)
    refine ⟨Step.dust k hT, ?_⟩
    unfold enumY at hy
    rw [List.getElem?_mapIdx] at hy
    cases hd : rs[i]? with
    | none => rw [hd] at hy; cases hy
    | some d =>
      rw [hd] at hy
      cases hy
      obtain ⟨w, hw, iw⟩ := pgetL rv' hd
      have ez := Option.some.inj ((e4 _ (SqL.of e5)).symm.trans hw)
      subst ez
      exact ⟨T, _, rfl, upd_same, .cons (.int _) (.cons iw .nil)⟩)⟩
def zipY (rs ss : List Rv) : List Yd := (rs.zip ss).map fun p => .t [p.1, p.2]
theorem ix_zip {elts : List Expr} {kk : Nat} {tpos : Pos} {rs ss : List Rv} (h : AX Y [a, b] ρ L [ra, rb] La) (h1 : LR La ra rs) (h2 : LR La rb ss) (hg : Gl Y.X "zip") (hm : Y.X.mg "zip" = none)
    (hs : starEach [a, b] Y.X.env = (false, eval a Y.X.env) :: starEach [b] Y.X.env := by rfl) (hpl : (backTo pos (starEach [b] Y.X.env)).any (·.1) = false := by rfl) :
    IX Y (.Tuple elts kk tpos) (.Call (.Name "zip" p) [a, b] [] pos) ρ L (zipY rs ss) (fun L => LR L ra rs ∧ LR L rb ss) La := ⟨fun S σ H A R q => wI.of (pi_zip hg hm wA.pa hs hpl) (h.run S σ H A _ fun rr L' S1 H1 vs ⟨e1, e2⟩ t ii => by
  subst e1 e2
  obtain ⟨x, y, rfl, ix, iy⟩ := rvs2 ii
  obtain ⟨b1, xs, rfl, e1, rv⟩ := LR.at_ h1 t.ok ix
  obtain ⟨b2, ys, rfl, e2, rw'⟩ := LR.at_ h2 t.ok iy
  have ln : (zipY rs ss).length = min rs.length ss.length := by unfold zipY; rw [List.length_map, List.length_zip]
  refine ⟨b1, b2, xs, ys, rfl, SqL.of e1, SqL.of e2, q _ _ _ S1 H1 _ ⟨rfl, rfl, rfl⟩ t ⟨fun i S' H L s k hL hl => ?_, fun i S' H L s k hL hl => ?_, fun i S' H L u H' y s k hL hy ⟨T, z, w, e3, hT, e4, e5, e6⟩ => ?_⟩⟩
  · obtain ⟨xs', f1, rv1⟩ := sql_inj (K := Y.X.K) hL.1 k (ix.mono s)
    obtain ⟨ys', f2, rv2⟩ := sql_inj (K := Y.X.K) hL.2 k (iy.mono s)
    rw [ln] at hl
    obtain ⟨w1, g1, _⟩ := pgetL rv1 (List.getElem?_eq_getElem (show i < rs.length by omega))
    obtain ⟨w2, g2, _⟩ := pgetL rv2 (List.getElem?_eq_getElem (show i < ss.length by omega))
    exact ⟨xs', ys', w1, w2, SqL.of f1, SqL.of f2, g1, g2⟩
  · obtain ⟨xs', f1, rv1⟩ := sql_inj (K := Y.X.K) hL.1 k (ix.mono s)
    obtain ⟨ys', f2, rv2⟩ := sql_inj (K := Y.X.K) hL.2 k (iy.mono s)
    rw [ln] at hl
    refine ⟨xs', ys', SqL.of f1, SqL.of f2, ?_⟩
    rw [← Rvs.len rv1, ← Rvs.len rv2]
    omega
  · subst e3 e4
    obtain ⟨xs', f1, rv1⟩ := sql_inj (K := Y.X.K) hL.1 k (ix.mono s)
    obtain ⟨ys', f2, rv2⟩ := sql_inj (K := Y.X.K) hL.2 k (iy.mono s)
    refine ⟨Step.dust k hT, ?_⟩
    unfold zipY at hy
    rw [List.getElem?_map] at hy
    cases hd : (rs.zip ss)[i]? with
    | none => rw [hd] at hy; cases hy
    | some d =>
      rw [hd] at hy
      cases hy
      obtain ⟨d1, d2⟩ := d
      obtain ⟨q1, q2⟩ := List.getElem?_zip_eq_some.mp hd
      obtain ⟨w1, g1, i1⟩ := pgetL rv1 q1
      obtain ⟨w2, g2, i2⟩ := pgetL rv2 q2
      have ez := Option.some.inj ((e5 _ (SqL.of f1)).symm.trans g1)
      have ew := Option.some.inj ((e6 _ (SqL.of f2)).symm.trans g2)
      subst ez ew
      exact ⟨T, _, rfl, upd_same, .cons i1 (.cons i2 .nil)⟩)⟩

/-! ### errors -/
/-- raise X('..') -/
theorem ms_raise {C : Addr} {bmB : List Value} {B newId initId : String} {x m : Str} {j : Nat} {p p2 pos pos2 : Pos} (F : ExcBaseFacts B newId initId bmB) (q : PySem.W.excIn Y.X.K C bmB newId = true) (gC : Y.X.mg x = some (.ref C)) (kC : PySem.W.keepIn Y.X.K (.ref C) = true) (r : Raises Y.X (.ref C)) (hg : Gl Y.X x)
    (hc : Y.X.calm = true) (h : Y.xc (.ref C) ρ L) (hdb : (x == ("__debug__" : Str)) = false := by decide) : MS Y (.Raise (some (.Call (.Name x p) [.Constant (.str m) j p2] [] pos)) none pos2) N D ρ L := ⟨fun S σ H A De l =>
  wS.of (ps_raise hc Y.tk (pmk_own F q gC kC r hg hdb)) (A.lx _ ρ L S H σ h (Step.refl A.ok) A.es)⟩
end
end Cw

set_option Elab.async false
set_option linter.all false
set_option maxRecDepth 100000
set_option maxHeartbeats 2000000
/-! Cw, part H: promises turned; more small rules. -/
namespace Cw
open PySem PySem.Spec PyProof.Rows L2

/-! ### cuts -/
section
variable {α : Type}
theorem cut_to (xs : List α) (k : Nat) : cut xs none (some (k : Int)) = xs.take k := by
  unfold cut
  rw [HT.sIx_nat, HT.sIx_none, List.drop_zero, Nat.sub_zero]
  rcases Nat.le_total k xs.length with h | h
  · rw [Nat.min_eq_left h]
  · rw [Nat.min_eq_right h, List.take_length, List.take_of_length_le h]
theorem cut_from (xs : List α) (k : Nat) : cut xs (some (k : Int)) none = xs.drop k := by
  unfold cut
  rw [HT.sIx_nat, HT.sIx_none]
  rcases Nat.le_total k xs.length with h | h
  · rw [Nat.min_eq_left h]
    exact List.take_of_length_le (by rw [List.length_drop]; omega)
  · rw [Nat.min_eq_right h, List.drop_length, List.drop_eq_nil_of_le h, List.take_nil]
theorem cut_all (xs : List α) : cut xs none none = xs := by
  unfold cut
  rw [HT.sIx_none, HT.sIx_none, List.drop_zero, Nat.sub_zero, List.take_length]
theorem cut_mid (xs : List α) (j k : Nat) : cut xs (some (j : Int)) (some (k : Int)) = (xs.take k).drop j := by
  unfold cut
  rw [HT.sIx_nat, HT.sIx_nat]
  apply List.ext_getElem?
  intro i
  simp only [List.getElem?_take, List.getElem?_drop]
  by_cases h : i < min k xs.length - min j xs.length
  · have e : min j xs.length = j := by omega
    rw [if_pos h, if_pos (by omega), e]
  · rw [if_neg h]
    by_cases h2 : j + i < k
    · rw [if_pos h2, List.getElem?_eq_none (by omega)]
    · rw [if_neg h2]
theorem cut_map {β : Type} (f : α → β) (xs : List α) (lo hi : Option Int) : cut (xs.map f) lo hi = (cut xs lo hi).map f := by
  unfold cut
  rw [List.length_map, List.map_take, List.map_drop]
/-- the last k -/
theorem cut_last (xs : List α) (k : Nat) (h : k ≤ xs.length) (hk : 0 < k) : cut xs (some (-(k : Int))) none = xs.drop (xs.length - k) := by
  unfold cut
  rw [HT.sIx_none]
  have e : HT.sIx xs.length 0 (some (-(k : Int))) = xs.length - k := by
    show (if -(k : Int) < 0 then (-(k : Int) + (xs.length : Int)).toNat else _) = _
    rw [if_pos (by omega)]
    omega
  rw [e]
  exact List.take_of_length_le (by rw [List.length_drop]; omega)
end

/-! ### promises -/
theorem lift_imp {sp sp' : Fs} (h : ∀ as L K X, sp' as L K X → sp as L K X) : ∀ vs H Q E, lift sp' vs H Q E → lift sp vs H Q E := fun vs H Q E ⟨S, L, as, K, XC, a, b, c, d⟩ => ⟨S, L, as, K, XC, a, b, h as L K XC c, d⟩
theorem FnM.imp {P : Program} {w : World} {K : PySem.W.Frag} {mg : Str → Option Value} {base : Heap} {k : Nat} {x : Str} {ps : List Str} {sp sp' : Fs} (G : FnM P w K mg base k x ps sp) (h : ∀ as L K X, sp' as L K X → sp as L K X) : FnM P w K mg base k x ps sp' := by
  obtain ⟨f, fd, a, b, c, d⟩ := G.ex
  exact ⟨f, fd, a, b, c, d.imp (lift_imp h)⟩
/-- a new list handed back, taken as data -/
def asData (sp : Fs) : Fs := fun as L Q X => sp as L (fun r L' => ∃ p ds L0, r = .vl (.ref p) ∧ L' = updL L0 p (.lst (ds.map Rv.dt)) ∧ L0 p = none ∧ Q (.dt (.list ds)) L0) X
theorem lift_data {sp : Fs} : ∀ vs H Q E, lift (asData sp) vs H Q E → lift sp vs H Q E := fun vs H Q E ⟨S, L, as, K, XC, a, b, c, d, e⟩ => ⟨S, L, as, _, XC, a, b, c, fun r L' S' H' v ⟨p, ds, L0, e1, e2, e3, k⟩ t i => by
  subst e1 e2
  obtain ⟨S2, t2, da⟩ := Step.settle t.ok (p := p) (ds := ds) updL_same
  have ev : v = .ref p := i
  subst ev
  exact d _ L0 S2 H' _ k ((t.trans t2).le fun x m hx => by
    have ne : x ≠ p := fun z => by rw [z, e3] at hx; cases hx
    unfold delL
    rw [if_neg ne, updL_ne ne]
    exact hx) da, e⟩
theorem FnM.data {P : Program} {w : World} {K : PySem.W.Frag} {mg : Str → Option Value} {base : Heap} {k : Nat} {x : Str} {ps : List Str} {sp : Fs} (G : FnM P w K mg base k x ps sp) : FnM P w K mg base k x ps (asData sp) := by
  obtain ⟨f, fd, a, b, c, d⟩ := G.ex
  exact ⟨f, fd, a, b, c, d.imp lift_data⟩
theorem MtM.data {P : Program} {w : World} {K : PySem.W.Frag} {mg : Str → Option Value} {base : Heap} {k : Nat} {C : Addr} {x : Str} {ps : List Str} {sp : Fs} (G : MtM P w K mg base k C x ps sp) : MtM P w K mg base k C x ps (asData sp) := by
  obtain ⟨f, fd, a, b, d⟩ := G.ex
  exact ⟨f, fd, a, b, d.imp lift_data⟩
theorem ne_led {L : Led} {a p : Addr} {m : MO} (h : L a = some m) (hp : L p = none) : a ≠ p := fun z => by
  rw [z, hp] at h
  cases h
theorem le_upd {L : Led} {p : Addr} {m : MO} (hp : L p = none) : Le L (updL L p m) := fun a m' h => by
  rw [updL_ne (ne_led h hp)]
  exact h
theorem le_updU {L L' : Led} {p : Addr} {m : MO} (h : Le L L') : Le (updL L p m) (updL L' p m) := fun a m' e => by
  by_cases ha : a = p
  · subst ha
    rw [updL_same] at e ⊢
    exact e
  · rw [updL_ne ha] at e ⊢
    exact h a m' e

section
variable {Y : Cm} {ρ : Rho} {L La Lb Lc : Led} {r ra rb rc : Rv} {e a b c o : Expr} {es : List Expr} {pos apos p : Pos} {X : Cx} {N : Rho → Led → Prop} {D : Nd}
theorem LR.upd {p : Addr} {m : MO} {rs : List Rv} (h : LR L r rs) (hp : L p = none) : LR (updL L p m) r rs := h.imp id fun ⟨q, e, h⟩ => ⟨q, e, by rw [updL_ne (ne_led h hp)]; exact h⟩
/-- a list, wherever it stands -/
theorem ix_lr {tg : Expr} {rs : List Rv} (h : EX Y e ρ L r La) (hr : LR La r rs) : IX Y tg e ρ L (rs.map Yd.r) (LW r rs) La := ⟨fun S σ H A R q => wI.of (pi_list wE.pe) (h.run S σ H A _ fun r' L' S1 H1 v ⟨e1, e2⟩ t ix => by
  subst e1 e2
  obtain ⟨b, xs, rfl, e1, rv⟩ := LR.at_ hr t.ok ix
  have isAt : ∀ {S' : Hp}, Sub S1 S' → r'.is S' (.ref b) := fun s => ix.mono s
  refine ⟨b, rfl, ⟨xs, SqL.of e1⟩, q _ _ _ S1 H1 _ ⟨rfl, rfl, rfl⟩ t ⟨fun i S' H L s k hL hl => ?_, fun i S' H L s k hL hl => ?_, fun i S' H L u H' y s k hL hy ⟨e2, e4⟩ => ?_⟩⟩
  · obtain ⟨ys, e5, rv'⟩ := sql_inj (K := Y.X.K) hL k (isAt s)
    rw [List.length_map] at hl
    obtain ⟨w, hw, _⟩ := pgetL rv' (List.getElem?_eq_getElem hl)
    exact ⟨ys, w, SqL.of e5, hw⟩
  · obtain ⟨ys, e5, rv'⟩ := sql_inj (K := Y.X.K) hL k (isAt s)
    rw [List.length_map] at hl
    exact ⟨ys, SqL.of e5, by rw [← Rvs.len rv']; omega⟩
  · subst e2
    obtain ⟨ys, e5, rv'⟩ := sql_inj (K := Y.X.K) hL k (isAt s)
    refine ⟨Step.refl k, ?_⟩
    rw [List.getElem?_map] at hy
    cases hd : rs[i]? with
    | none => rw [hd] at hy; cases hy
    | some d =>
      rw [hd] at hy
      cases hy
      obtain ⟨w, hw, iw⟩ := pgetL rv' hd
      have ez := Option.some.inj ((e4 _ (SqL.of e5)).symm.trans hw)
      subst ez
      exact iw)⟩
/-- o.f = e, e a new thing -/
theorem ms_setfldM {q C : Addr} {fs : List (Str × Rv)} {f : Str} {pos' : Pos} (he : ME Y e ρ L fun r La => EX Y o ρ La (.vl (.ref q)) La ∧ La q = some (.ins C fs) ∧ fs.length < 1000 ∧ N ρ (updL La q (.ins C (putR f r fs)))) (c : Cls Y.X.K C) (n : NoAttr Y.X.K C f)
    (hs : swapsWith e (some (.Attribute o f pos')) pos.line Y.X.env = pure false := by rfl) : MS Y (.Assign [.Attribute o f pos'] e pos) N D ρ L := ⟨fun S σ H A De l => by
  refine wS.of (ps_fld wE.pe wE.pe hs) (he.run S σ H A _ fun r1 L1 S1 H1 v ⟨ho, h, hl, k⟩ t1 i1 => ?_)
  refine ho.run S1 σ H1 (A.next t1) _ fun r2 L2 S2 H2 x ⟨e1, e2⟩ t2 i2 => ?_
  subst e1 e2
  obtain ⟨dx, gs, hg, rf⟩ := t2.ok.ins h
  refine ⟨q, C, dx, gs, i2, hg, c, n, by rw [← Paired.length rf]; exact hl, ?_⟩
  have t3 := Step.write t2.ok h (m := .ins C (putR f r1 fs)) (o := .ins C dx (putF f v gs)) ⟨_, _, rfl, rf_put (i1.mono t2.sub) rf⟩
  exact l.nx ρ _ S2 _ σ k ((t1.trans t2).trans t3) (A.es.mono (t1.trans t2).sub)⟩
/-- None == 3 -/
theorem o_eqNI {j : Int} : Op2 X (compareOp .Eq) (.dt .none) (.dt (.int j)) L (.dt (.bool false)) := ⟨_, op_eq, rm_eq fun S x y hx hy => by cases hx; cases hy; exact ⟨rfl, decide_eq_false (fun z => nomatch z)⟩⟩
/-- o.append(e), o a call -/
theorem me_append' {K : Rv → Led → Prop} (ho : ME Y o ρ L fun r La => ∃ q rs0, r = .vl (.ref q) ∧ La q = some (.lst rs0) ∧ ME Y e ρ La fun r2 Lb => ∃ rs, Lb q = some (.lst rs) ∧ rs.length < sizeLine ∧ K (.dt .none) (updL Lb q (.lst (rs ++ [r2]))))
    (hbase : attributeBase o "append" Y.X.env (eval o Y.X.env) = eval o Y.X.env := by rfl)
    (hfew : ((backTo pos (starEach (e :: []) Y.X.env)).all (fun x => !x.1) && (backToKw pos (keywordEach [] Y.X.env)).all (fun x => x.1.isSome) && decide ((e :: []).length + ([] : List Keyword).length + (if ([] : List Keyword).isEmpty then 0 else 1) < 30)) = true := by rfl)
    (hline : (apos.endLine == pos.line) = true := by rfl) (hs : starEach (e :: []) Y.X.env = (false, eval e Y.X.env) :: starEach [] Y.X.env := by rfl) (hplain : (backTo pos (starEach [] Y.X.env)).any (·.1) = false := by rfl) :
    ME Y (.Call (.Attribute o "append" apos) [e] [] pos) ρ L K := ⟨fun S σ H A Q qq => by
  refine wE.of (pe_bm PySem.F.plainAttrs_list PySem.F.slot_list_append PySem.F.type_list_append mt_append wE.pe (pa_cons wE.pe pa_nil hs) hbase hfew hline hs hplain) (ho.run S σ H A _ fun r1 L1 S1 H1 x ⟨q, rs0, e1, h0, he⟩ t1 i1 => ?_)
  subst e1
  have ex : x = .ref q := i1
  subst ex
  obtain ⟨xs0, e0, _⟩ := t1.ok.lstAt h0
  refine ⟨.inl ⟨rfl, _, SqL.of e0⟩, he.run S1 σ H1 (A.next t1) _ fun r Lb S2 H2 v ⟨rs, h2, hz, k⟩ t2 i2 => ?_⟩
  obtain ⟨xs, e3, rv⟩ := t2.ok.lstAt h2
  exact ⟨q, xs, v, rfl, rfl, e3, by rw [← Rvs.len rv]; exact hz, qq _ _ S2 _ _ k ((t1.trans t2).trans (Step.write t2.ok h2 ⟨_, rfl, papp rv (.cons i2 .nil)⟩)) .non⟩⟩
/-- a, b, .. = a list -/
theorem ms_unl {es : List Expr} {k : Nat} {tpos : Pos} {is : List Nat} (hc : Y.X.calm = true) (hg : PGs Y.X es (gNs is)) (h : ME Y e ρ L fun r L' => ∃ rs, LR L' r rs ∧ rs.length = is.length ∧ N (setAll is rs ρ) L')
    (hn : (assignEach es Y.X.env).length = is.length := by rfl) (hst : (assignEach es Y.X.env).findIdx? (·.1) = none := by rfl)
    (hs : swapsWithSole [.Tuple es k tpos] e pos.line Y.X.env = pure false := by rfl) (hw : swappedStores [.Tuple es k tpos] e Y.X.env = pure none := by rfl)
    (h1 : (assignEach [.Tuple es k tpos] Y.X.env).map (·.2) = [assign (.Tuple es k tpos) Y.X.env] := by rfl) : MS Y (.Assign [.Tuple es k tpos] e pos) N D ρ L := ⟨fun S σ H A De l => wS.of (ps_asg wE.pe (pg_lst hc hg hn hst) hs hw h1) (h.run S σ H A _ fun r L' S' H' v ⟨rs, lr, hl, k⟩ t i => by
  obtain ⟨a, xs, rfl, e1, rv⟩ := LR.at_ lr t.ok i
  exact ⟨a, xs, rfl, SqL.of e1, by rw [← Rvs.len rv]; exact hl, gNs_ok rv hl (A.es.mono t.sub) fun σ' es' _ => l.nx _ L' S' H' σ' k t es'⟩)⟩
end
end Cw

set_option Elab.async false
set_option linter.all false
set_option maxRecDepth 100000
set_option maxHeartbeats 2000000
/-! Cw, part I: the law's promise, from the script as the head gives it. -/
namespace Cw
open PySem PySem.Spec PyProof.Rows L2
def S0 : Hp := fun _ => none
theorem rvs_scr (S : Hp) : ∀ ns : List Int, Rvs S (ns.map fun i => .dt (.int i)) (ns.map V.int)
  | [] => .nil
  | n :: ns => .cons (.int n) (rvs_scr S ns)
theorem lift_law {sp : Fs} {K : PySem.W.Frag} {H : Hp} {a : Addr} {ns : List Int} (hO : Only H) (hS : SqL K H a (ns.map V.int))
    (h : ∀ L, Scr K L a ns → sp [.vl (.ref a)] L (fun r _ => r = .dt (.bool true)) noX) : lift sp [.ref a] H (fun v _ => v = .bl true) fun _ _ _ => False := by
  have hav : Rvs S0 [.vl (.ref a)] [.ref a] := .cons rfl .nil
  have fin : ∀ (r : Rv) (L' : Led) (S' H' : Hp) (v : V), r = .dt (.bool true) → Step S0 H (fun _ => none) S' H' L' → r.is S' v → v = .bl true := fun r L' S' H' v e _ i => by
    subst e
    exact Da.blAt i
  rcases hS with hS | hS
  · have hf : ∃ ob, H a = some (.frz ob (.lst (ns.map V.int))) := by
      rcases hS with h1 | ⟨ob, h1⟩
      · rcases hO a with h2 | ⟨o, xs, h2⟩
        · rw [h2] at h1; cases h1
        · rw [h2] at h1; cases h1
      · exact ⟨ob, h1⟩
    obtain ⟨ob, e⟩ := hf
    refine ⟨S0, fun b => if b = a then some (.frz (ns.map fun i => .dt (.int i))) else none, _, _, noX, ⟨fun b o z => (by cases z), fun b m z => ?_⟩, hav, h _ (.inl (if_pos rfl)), fun r L' S' H' v e t i => ?_, fun _ _ _ _ z => z.elim⟩
    · replace z : (if b = a then some (MO.frz (ns.map fun i => .dt (.int i))) else none) = some m := z
      split at z
      next hb =>
        cases z
        subst hb
        exact ⟨rfl, _, e, ob, _, rfl, rvs_scr _ ns⟩
      next => cases z
    · subst e
      exact Da.blAt i
  · refine ⟨S0, fun _ => none, _, _, noX, ⟨fun b o z => (by cases z), fun b m z => (by cases z)⟩, hav, h _ (.inr fun H => .inr hS), fun r L' S' H' v e t i => ?_, fun _ _ _ _ z => z.elim⟩
    subst e
    exact Da.blAt i
end Cw

set_option Elab.async false
set_option linter.all false
set_option maxRecDepth 100000
set_option maxHeartbeats 2000000
/-! Cw, part J: texts. -/
namespace Cw
open PySem PySem.Spec PyProof.Rows L2
section
variable {X : Cx} {Y : Cm} {ρ : Rho} {L La Lb : Led} {r ra rb : Rv} {o e : Expr} {pos apos : Pos}
/-- x not in (a, b) -/
theorem o_notIn2S {x a b : Str} : Op2 X (compareOp .NotIn) (.dt (.str x)) (.dt (.tuple [.str a, .str b])) L (.dt (.bool (!(decide (x = a) || decide (x = b))))) := ⟨_, op_notIn_seq, fun S H u v k hx hy Q q => by
  obtain ⟨p, xs, rfl, hs, e, rv⟩ := Da.tupAt k hy
  have hxs : xs = [.str a, .str b] := by
    cases rv with
    | cons a1 r1 =>
      cases r1 with
      | cons a2 r2 =>
        cases r2
        rw [Da.strAt a1, Da.strAt a2]
  subst hxs
  have hu := Da.strAt hx
  subst hu
  refine ⟨p, _, rfl, .inr (.inl (.inl e)), rfl, rfl, ?_⟩
  have ev : (!inV (V.str x) [V.str a, V.str b]) = (!(decide (x = a) || decide (x = b))) := by
    show (!((a == x) || ((b == x) || false))) = _
    have e0 : ∀ a : Str, (a == x) = decide (x = a) := fun a => by
      by_cases h : a = x
      · subst h
        rw [decide_eq_true rfl]
        exact beq_self_eq_true a
      · rw [decide_eq_false fun e => h e.symm]
        exact beq_eq_false_iff_ne.mpr h
    have e1 := e0 a
    have e2 := e0 b
    rw [e1, e2, Bool.or_false]
  show Q (V.bl (!inV (V.str x) [V.str a, V.str b])) H
  rw [ev]
  exact q S H _ (Step.refl k) (.bl _)⟩
/-- sep.join(l) -/
theorem ex_join {a : Str} {ys : List Str} (ho : EX Y o ρ L (.dt (.str a)) La) (he : EX Y e ρ La r Lb) (hr : LL Lb r (ys.map PyData.str)) (hz : (ys.map (·.length)).sum + ys.length * a.length ≤ 16777216)
    (hs : starEach [e] Y.X.env = [(false, eval e Y.X.env)] := by rfl) (hbase : attributeBase o "join" Y.X.env (eval o Y.X.env) = eval o Y.X.env := by rfl) (hline : (apos.endLine == pos.line) = true := by rfl) :
    EX Y (.Call (.Attribute o "join" apos) [e] [] pos) ρ L (.dt (.str (Txt.join a ys))) Lb := ⟨fun S σ H A Q qq => by
  refine wE.of (pe_join wE.pe wE.pe hs hbase hline) (ho.run S σ H A _ fun r1 L1' S1 H1 x ⟨e1, e2⟩ t1 i1 => ?_)
  subst e1 e2
  refine ⟨⟨a, Da.strAt i1⟩, he.run S1 σ H1 (A.next t1) _ fun r2 L2 S2 H2 v ⟨e3, e4⟩ t2 i2 => ?_⟩
  subst e3 e4
  obtain ⟨p, xs, rfl, e5, rv⟩ := LR.at_ hr t2.ok i2
  have hxs : xs = ys.map V.str := by
    clear hz e5 i2 hr he qq
    induction ys generalizing xs with
    | nil => cases rv; rfl
    | cons y ys ih =>
      cases rv with
      | cons a1 r1 =>
        rw [ih _ r1, Da.strAt a1]
        rfl
  subst hxs
  exact ⟨a, p, ys, Da.strAt i1, rfl, .inl (SqL.of e5), hz, qq _ _ S2 _ _ ⟨rfl, rfl⟩ (t1.trans t2) (.str _)⟩⟩
end
/-! ### texts by their codes -/
def tx (l : List Nat) : Str := ⟨l.toArray⟩
theorem tx_len (l : List Nat) : (tx l).length = l.length := SX.S_len l
theorem tx_cat (a b : List Nat) : tx a ++ tx b = tx (a ++ b) := SX.S_cat a b
theorem tx_list (l : List Nat) : (tx l).cps.toList = l := by simp [tx]
theorem tx_eq {a b : List Nat} : tx a = tx b ↔ a = b := ⟨SX.S_inj, fun h => by rw [h]⟩
theorem tx_cut (l : List Nat) (lo hi : Option Int) : cutS (tx l) lo hi = tx (cut l lo hi) := by
  unfold cutS cut
  rw [tx_list, tx_len]
  rfl
theorem joinL_nil : ∀ ys : List (List Nat), TL.joinL [] ys = ys.flatten
  | [] => rfl
  | [p] => by simp [TL.joinL]
  | p :: q :: r => by
    show p ++ ([] ++ TL.joinL [] (q :: r)) = _
    rw [joinL_nil (q :: r), List.nil_append]
    rfl
theorem tx_join (ys : List (List Nat)) : Txt.join (tx []) (ys.map tx) = tx ys.flatten := by
  rw [← joinL_nil]
  exact SX.join_S [] ys
end Cw

set_option Elab.async false
set_option linter.all false
set_option maxRecDepth 100000
set_option maxHeartbeats 2000000
/-! Cw, part K: errors: methods that may raise; try .. except. -/
namespace Cw
open PySem PySem.Spec PyProof.Rows L2
section
variable {X : Cx} {CX : CXT} {k : Nat} {f C : Addr} {fd : FuncData} {ps : List Str} {sp : Sp} {E : L2.St → XK} {m : Str} {pos apos : Pos} {o : Expr} {ta : TE}
theorem pe_meth0S {pl : Sem Bool} (he : PE X o ta) (c : Cls X.K C) (hm : Meth X.K C m f) (F : FnOk X.prog X.w X.K X.mg X.base CX k f fd ps sp) (hr : Room k X.A) (hb : Binds X.K fd ps []) (hx : ∀ σ, PassesAt CX X σ (E σ))
    (ht : eval (.Call (.Attribute o m apos) [] [] pos) X.env = (do
      let ov ← eval o X.env
      standAt apos.atName
      let (f, first) ← holding [ov] (getMethod ov m pl)
      callWith pos f first (backTo pos (starEach [] X.env)) (backToKw pos (keywordEach [] X.env))) := by rfl) :
    PE X (.Call (.Attribute o m apos) [] [] pos) (fun σ H Q => ta σ H fun x H1 => ∃ a dx fs, x = .ref a ∧ H1 a = some (.ins C dx fs) ∧ fs.lookup m = none ∧ sp [x] H1 Q (E σ)) := by
  refine ⟨fun pins s σ H Q I h => ?_⟩
  refine PySem.W.methodCall_KW (pl := pl) (thn (he.run pins s σ H _ I h) fun u s1 ⟨x, H1, I1, rx, a, dx, fs, ex, ea, l, q⟩ => ?_) ht
  subst ex
  obtain rfl : u = Value.ref a := rx
  refine getmeth_ok I1 ea c hm l ?_
  exact PySem.W.callWith_K0 (first := [.ref a]) I1.kIn hm.kp (run_fnS (us := [.ref a]) (vs := [.ref a]) F hr hb (hx σ) I1 (.cons rfl .nil) q)
end
section
variable {Y : Cm} {ρ : Rho} {L La : Led} {a : Expr} {pos : Pos} {sp : Fs} {k : Nat} {m : Str} {ps : List Str} {K : Rv → Led → Prop}
/-- o.m(), that may raise -/
theorem me_meth0X {pl : Sem Bool} {q C : Addr} {fs : List (Str × Rv)} {apos : Pos} (ho : EX Y a ρ L (.vl (.ref q)) La) (hq : La q = some (.ins C fs)) (hn : fs.lookup m = none) (c : Cls Y.X.K C) (G : MtX Y.X.prog Y.X.w Y.X.K Y.X.mg Y.X.base k C m ps sp) (hr : Room k Y.X.A)
    (ha : sp [.vl (.ref q)] La K fun c L' => Y.xc c ρ L')
    (ht : eval (.Call (.Attribute a m apos) [] [] pos) Y.X.env = (do
      let ov ← eval a Y.X.env
      standAt apos.atName
      let (f, first) ← holding [ov] (getMethod ov m pl)
      callWith pos f first (backTo pos (starEach [] Y.X.env)) (backToKw pos (keywordEach [] Y.X.env))) := by rfl) : ME Y (.Call (.Attribute a m apos) [] [] pos) ρ L K := ⟨fun S σ H A Q qq => by
  obtain ⟨f, fd, hm, hb, F⟩ := G.ex
  refine wE.of (pe_meth0S (pl := pl) wE.pe c hm F hr hb (fun σ => passAt Y.tk σ) ht) (ho.run S σ H A _ fun r1 L1' S1 H1 x ⟨e1, e2⟩ t1 i1 => ?_)
  subst e1 e2
  obtain ⟨dx, gs, hg, rf⟩ := t1.ok.ins hq
  refine ⟨q, dx, gs, i1, hg, (rf_lookup rf).1 hn, ?_⟩
  exact ⟨S1, L1', _, K, _, t1.ok, .cons i1 .nil, ha, fun r L' S' H' v kk t i => qq r L' S' H' v kk (t1.trans t) i, fun c L' S' H' z t => A.lx c ρ L' S' H' σ z (t1.trans t) (A.es.mono (t1.trans t).sub)⟩⟩
/-- try: .. except x: .., without else and finally -/
theorem ms_try {N : Rho → Led → Prop} {D : Nd} {x : Str} {c : Value} {body suite : List Stmt} {b₀ : Stmt} {np pos' : Pos} (xc : Value → Rho → Led → Prop) (hs : Y.X.stack = Y.X.env :: Y.X.outer) (hf : Y.X.env.frame = some Y.X.env.locals) (hc : Names Y.X x c)
    (hb : ∀ (W : WX) (pn : List (Addr × Obj)) (xe : Value → Shared → Prop) (tk : Takes (Y.X.tr pn xe) W) (po : PassesOwn (model Y.X.prog Y.X.w) Y.X.A Y.X.env xe), MSs ⟨Y.X.tr pn xe, W, xc, tk, po⟩ body N D ρ L)
    (hx : ∀ cls ρ' L', xc cls ρ' L' → PySem.W.exmOne Y.X.K cls c = some true ∧ ∀ (a : Addr) (pn : List (Addr × Obj)), MSs ⟨Y.X.suite a pn, fun _ _ _ _ => False, fun _ _ _ => False, takes0, PassesOwn.never⟩ (b₀ :: suite) N D ρ' L') :
    MS Y (.Try body [.ExceptHandler (some (.Name x np)) none (b₀ :: suite) pos'] [] [] pos) N D ρ L := ⟨fun S σ H A De l => by
  refine wS.of (ps_try_only (Wout := fun _ _ _ _ => False) (tb := fun W D σ H => ∀ (pn : List (Addr × Obj)) (xe : Value → Shared → Prop), Takes (Y.X.tr pn xe) W → PassesOwn (model Y.X.prog Y.X.w) Y.X.A Y.X.env xe → wSs (Y.X.tr pn xe) body D σ H)
    (ts := fun a cls d D σ H => ∀ (pn : List (Addr × Obj)), wSs (Y.X.suite a pn) (b₀ :: suite) D σ H) hs hf hc takes0
    (fun W pn xe tk po => ⟨fun pins s σ H D I h => h pn xe tk po pins s I⟩)
    (fun a oe cls d pn _ _ => ⟨fun pins s σ H D I h => h _ pins s I⟩)) ?_
  intro pn xe tk po
  refine (hb _ pn xe tk po).run S σ H ⟨A.ok, A.es, fun cls ρ' L' S' H' σ' z t e => ?_⟩ De l
  obtain ⟨h1, h2⟩ := hx cls ρ' L' z
  refine ⟨true, h1, fun _ a _ pn2 => ?_, fun z => by cases z⟩
  exact (h2 a pn2).run S' σ' H' ⟨t.ok, e, fun _ _ _ _ _ _ z => z.elim⟩ De (l.mono t)⟩
/-- a op b, b no exact thing -/
theorem me_binR {b : Expr} {L1 : Led} {ra : Rv} {op : Operator} {rr : R2} (ho : OpR Y.X (binaryOp op) rr) (ha : EX Y a ρ L ra L1) (hb : ME Y b ρ L1 fun rb L2 => ∃ rc, RM rr ra rb L2 rc ∧ K rc L2) : ME Y (.BinOp a op b pos) ρ L K := ⟨fun S σ H A Q q => by
  refine wE.of (pe_op ho wE.pe wE.pe) (ha.run S σ H A _ fun r1 L1' S1 H1 x ⟨e1, e2⟩ t1 i1 => ?_)
  subst e1 e2
  refine hb.run S1 σ H1 (A.next t1) _ fun r2 L2' S2 H2 y ⟨rc, hr, k⟩ t2 i2 => ?_
  exact hr S2 H2 x y t2.ok (i1.mono t2.sub) i2 Q fun S' H' v t3 i3 => q _ _ S' H' v k ((t1.trans t2).trans t3) i3⟩
theorem rm_cat {L2 : Led} {rb : Rv} {ds es : List PyData} {ra : Rv} (a : LL L2 ra ds) (b : LL L2 rb es) (hz : ds.length + es.length ≤ sizeLine) : RM rCat ra rb L2 (.dt (.list (ds ++ es))) := fun S H x y k hx hy Q q => by
  obtain ⟨p, xs, rfl, e1, t1⟩ := LL.at_ a k hx
  obtain ⟨p', ys, rfl, e2, t2⟩ := LL.at_ b k hy
  refine ⟨p, p', xs, ys, rfl, rfl, e1, e2, by rw [t1.len, t2.len]; exact hz, fun n hn => ?_⟩
  have sn := Sub.new (o := HO.lst (xs ++ ys)) (k.sub.none hn)
  exact q (upd S n (.lst (xs ++ ys))) _ _ (Step.still k hn) (.lst upd_same (.of (papp (t1.mono sn).pd (t2.mono sn).pd)))
/-- a + b, lists, b no exact thing -/
theorem me_catD {b : Expr} {L1 : Led} {ra : Rv} (ha : EX Y a ρ L ra L1) (hb : ME Y b ρ L1 fun rb L2 => ∃ ds es, LL L2 ra ds ∧ LL L2 rb es ∧ ds.length + es.length ≤ sizeLine ∧ K (.dt (.list (ds ++ es))) L2) : ME Y (.BinOp a .Add b pos) ρ L K :=
  me_binR op_cat ha (hb.imp fun _ _ ⟨_, _, h1, h2, hz, k⟩ => ⟨_, rm_cat h1 h2 hz, k⟩)
end
/-- things made within are forgotten -/
def fgt (sp : Fs) : Fs := fun as L Q X => sp as L (fun r L' => ∃ L0, Le L0 L' ∧ Q r L0) X
theorem lift_fgt {sp : Fs} : ∀ vs H Q E, lift (fgt sp) vs H Q E → lift sp vs H Q E := fun vs H Q E ⟨S, L, as, K, XC, a, b, c, d, e⟩ => ⟨S, L, as, _, XC, a, b, c, fun r L' S' H' v ⟨L0, l, k⟩ t i => d r L0 S' H' v k (t.le l) i, e⟩
theorem FnM.forget {P : Program} {w : World} {K : PySem.W.Frag} {mg : Str → Option Value} {base : Heap} {k : Nat} {x : Str} {ps : List Str} {sp : Fs} (G : FnM P w K mg base k x ps sp) : FnM P w K mg base k x ps (fgt sp) := by
  obtain ⟨f, fd, a, b, c, d⟩ := G.ex
  exact ⟨f, fd, a, b, c, d.imp lift_fgt⟩
end Cw

set_option Elab.async false
set_option linter.all false
set_option maxRecDepth 100000
set_option maxHeartbeats 4000000
namespace K11
open PySem PySem.Spec PyProof.Rows L2 Cw
/-! ### small closers, each at its own key -/
local macro_rules | `(tactic| walk_at "oadd") => `(tactic| first | exact o_add | exact o_addS (by walk_at "sz") | exact o_cat (by walk_at "ll") (by walk_at "ll") (by walk_at "sz"))
local macro_rules | `(tactic| walk_at "osub") => `(tactic| exact o_sub)
local macro_rules | `(tactic| walk_at "omul") => `(tactic| first | exact o_mul (by walk_at "sd") | exact o_rep (by walk_at "ll") (by walk_at "sd") (by walk_at "sd") (by walk_at "sz"))
local macro_rules | `(tactic| walk_at "odiv") => `(tactic| first | exact o_div (by walk_at "sd") | exact o_divW (by walk_at "sd"))
local macro_rules | `(tactic| walk_at "olt") => `(tactic| exact o_lt)
local macro_rules | `(tactic| walk_at "ole") => `(tactic| exact o_le)
local macro_rules | `(tactic| walk_at "ogt") => `(tactic| exact o_gt)
local macro_rules | `(tactic| walk_at "oge") => `(tactic| exact o_ge)
local macro_rules | `(tactic| walk_at "oeq") => `(tactic| first | exact o_eqI | exact o_eqNI | exact o_eqS | exact o_eqB | exact o_eqR (Room.units (by assumption)) (by walk_at "dr") (by walk_at "dr") (by walk_at "sh") (by walk_at "sh"))
local macro_rules | `(tactic| walk_at "one") => `(tactic| first | exact o_neI | exact o_neS | exact o_neB | exact o_neR (Room.units (by assumption)) (by walk_at "dr") (by walk_at "dr") (by walk_at "sh") (by walk_at "sh"))
local macro_rules | `(tactic| walk_at "ois") => `(tactic| exact o_isN)
local macro_rules | `(tactic| walk_at "oisn") => `(tactic| exact o_notN)
local macro_rules | `(tactic| walk_at "iadd") => `(tactic| exact o_iadd)
local macro_rules | `(tactic| walk_at "isub") => `(tactic| exact o_isub)
local macro_rules | `(tactic| walk_at "lk") => `(tactic| first | assumption | exact updL_same | (refine Eq.trans (updL_ne (by first | assumption | (apply Ne.symm; assumption))) ?_; walk_at "lk"))
local macro_rules | `(tactic| walk_at "ll") => `(tactic| first | exact LL.dt | assumption | exact LL.h (by walk_at "lk"))
local macro_rules | `(tactic| walk_at "lr") => `(tactic| first | exact LL.dt | assumption | exact LR.h (by walk_at "lk"))
local macro_rules | `(tactic| walk_at "dr") => `(tactic| first | exact DD.dt | assumption | exact DD.ofLL (by walk_at "lk"))
local macro_rules | `(tactic| walk_at "sd") => `(tactic| first | omega | assumption | decide)
local macro_rules | `(tactic| walk_at "rg") => `(tactic| first | omega | assumption | decide)
local macro_rules | `(tactic| walk_at "sz") => `(tactic| first | assumption | (rw [sizeLine_eq]; first | omega | (simp; omega)))
local macro_rules | `(tactic| walk_at "osl") => `(tactic| first | exact s_str (by walk_at "sz") | exact s_lst (by walk_at "ll"))
local macro_rules | `(tactic| walk_at "c_len") => `(tactic| first | exact c_lenT | exact c_lenS (by walk_at "sz") | exact c_lenL (by walk_at "ll") | exact c_lenR (by walk_at "lr") | exact c_lenF (by assumption))
local macro_rules | `(tactic| walk_at "c_int") => `(tactic| first | exact c_int | exact c_intB)
local macro_rules | `(tactic| walk_at "c_min") => `(tactic| exact c_min rfl)
local macro_rules | `(tactic| walk_at "c_max") => `(tactic| exact c_max rfl)
local macro_rules | `(tactic| walk_at "c_ord") => `(tactic| exact c_ord (by walk_at "sz"))
local macro_rules | `(tactic| walk_at "c_list") => `(tactic| first | exact c_listT | exact c_list (by walk_at "ll") | exact c_listF (by assumption))
local macro_rules | `(tactic| walk_at "c_tuple") => `(tactic| first | exact c_tupleT | exact c_tuple (by walk_at "ll"))
local macro_rules | `(tactic| walk_at "c_isinstance") => `(tactic| exact c_isi (by walk_at "dr") (by decide))
local macro_rules | `(tactic| walk_at "few") => `(tactic| first | decide | exact Nat.le_of_ble_eq_true rfl | (rw [sizeLine_eq]; exact Nat.le_of_ble_eq_true rfl) | assumption)
local macro_rules | `(tactic| walk_at "fl") => `(tactic| first | assumption | rfl)
local macro_rules | `(tactic| walk_at "nf") => `(tactic| first | rfl | decide +kernel)
local macro_rules | `(tactic| walk_at "at") => `(tactic| first | assumption | rfl | exact atI_nat (by assumption))
local macro_rules | `(tactic| walk_at "oix") => `(tactic| first | exact i_tup (by walk_at "at") | exact i_lst (by walk_at "ll") (by walk_at "at") | exact i_lstR (by walk_at "lr") (by walk_at "at") | exact i_str (by walk_at "sz") (by walk_at "at") | exact i_lstF (by assumption) (by walk_at "at"))
local macro_rules | `(tactic| walk_at "ixn") => `(tactic| first | assumption | rfl)
local macro_rules | `(tactic| walk_at "okd") => `(tactic| first | rfl | assumption)
local macro_rules | `(tactic| walk_at "wr") => `(tactic| first | assumption | omega)
local macro_rules | `(tactic| walk_at "shn") => `(tactic| first | exact fun z => absurd z (by assumption) | exact fun z => absurd rfl z | exact fun _ => ⟨rfl, rfl⟩)
local macro_rules | `(tactic| walk_at "onin") => `(tactic| exact o_notIn2S)
local macro_rules | `(tactic| walk_at "okp") => `(tactic| first | assumption | exact nxt_p (by walk_at "okp"))

/-! ### the text -/
def topS (i : Nat) : Stmt := PySem.Challenge.pw_cardwhole_k11_records.main.body.getD i (.Pass ⟨0, 0, 0, 0⟩)
abbrev s_law_mix : Stmt := (topS 16)
abbrev N_law_mix : List Str := ["cell", "k", "value"]
abbrev P_law_mix : List Str := ["cell", "k"]
theorem sc_law_mix : FnScope N_law_mix P_law_mix (defScope s_law_mix) := ⟨rfl, rfl, rfl, by decide +kernel, rfl, by decide +kernel, by decide +kernel⟩
abbrev s_law_draws : Stmt := (topS 17)
abbrev N_law_draws : List Str := ["script", "draws", "k", "cell", "place"]
abbrev P_law_draws : List Str := ["script"]
theorem sc_law_draws : FnScope N_law_draws P_law_draws (defScope s_law_draws) := ⟨rfl, rfl, rfl, by decide +kernel, rfl, by decide +kernel, by decide +kernel⟩
abbrev s_law_at : Stmt := (topS 18)
abbrev N_law_at : List Str := ["draws", "index"]
abbrev P_law_at : List Str := ["draws", "index"]
theorem sc_law_at : FnScope N_law_at P_law_at (defScope s_law_at) := ⟨rfl, rfl, rfl, by decide +kernel, rfl, by decide +kernel, by decide +kernel⟩
abbrev s_law_is_integer : Stmt := (topS 19)
abbrev N_law_is_integer : List Str := ["actual"]
abbrev P_law_is_integer : List Str := ["actual"]
theorem sc_law_is_integer : FnScope N_law_is_integer P_law_is_integer (defScope s_law_is_integer) := ⟨rfl, rfl, rfl, by decide +kernel, rfl, by decide +kernel, by decide +kernel⟩
abbrev s_law_same : Stmt := (topS 20)
abbrev N_law_same : List Str := ["actual", "expected", "k"]
abbrev P_law_same : List Str := ["actual", "expected"]
theorem sc_law_same : FnScope N_law_same P_law_same (defScope s_law_same) := ⟨rfl, rfl, rfl, by decide +kernel, rfl, by decide +kernel, by decide +kernel⟩
abbrev s_law_next : Stmt := (topS 21)
abbrev N_law_next : List Str := ["state", "limit"]
abbrev P_law_next : List Str := ["state", "limit"]
theorem sc_law_next : FnScope N_law_next P_law_next (defScope s_law_next) := ⟨rfl, rfl, rfl, by decide +kernel, rfl, by decide +kernel, by decide +kernel⟩
abbrev s_law_number : Stmt := (topS 22)
abbrev N_law_number : List Str := ["number", "data"]
abbrev P_law_number : List Str := ["number"]
theorem sc_law_number : FnScope N_law_number P_law_number (defScope s_law_number) := ⟨rfl, rfl, rfl, by decide +kernel, rfl, by decide +kernel, by decide +kernel⟩
abbrev s_law_checksum : Stmt := (topS 23)
abbrev N_law_checksum : List Str := ["data", "total", "byte"]
abbrev P_law_checksum : List Str := ["data"]
theorem sc_law_checksum : FnScope N_law_checksum P_law_checksum (defScope s_law_checksum) := ⟨rfl, rfl, rfl, by decide +kernel, rfl, by decide +kernel, by decide +kernel⟩
abbrev s_law_record : Stmt := (topS 24)
abbrev N_law_record : List Str := ["data", "total"]
abbrev P_law_record : List Str := ["data"]
theorem sc_law_record : FnScope N_law_record P_law_record (defScope s_law_record) := ⟨rfl, rfl, rfl, by decide +kernel, rfl, by decide +kernel, by decide +kernel⟩
abbrev s_law_bytes : Stmt := (topS 25)
abbrev N_law_bytes : List Str := ["state", "count", "pick", "start", "k"]
abbrev P_law_bytes : List Str := ["state"]
theorem sc_law_bytes : FnScope N_law_bytes P_law_bytes (defScope s_law_bytes) := ⟨rfl, rfl, rfl, by decide +kernel, rfl, by decide +kernel, by decide +kernel⟩
abbrev s_law_behind : Stmt := (topS 26)
abbrev N_law_behind : List Str := ["state", "data", "record", "further", "pick", "at", "size", "needless"]
abbrev P_law_behind : List Str := ["state"]
theorem sc_law_behind : FnScope N_law_behind P_law_behind (defScope s_law_behind) := ⟨rfl, rfl, rfl, by decide +kernel, rfl, by decide +kernel, by decide +kernel⟩
abbrev s_law : Stmt := (topS 27)
abbrev N_law : List Str := ["script", "state", "records", "data", "sizes", "record", "passed", "whole", "k", "end", "count", "size"]
abbrev P_law : List Str := ["script"]
theorem sc_law : FnScope N_law P_law (defScope s_law) := ⟨rfl, rfl, rfl, by decide +kernel, rfl, by decide +kernel, by decide +kernel⟩
abbrev s_Reader_init : Stmt := (inClass (topS 6) 0)
abbrev N_Reader_init : List Str := ["self", "data"]
abbrev P_Reader_init : List Str := ["self", "data"]
theorem sc_Reader_init : FnScope N_Reader_init P_Reader_init (defScope s_Reader_init) := ⟨rfl, rfl, rfl, by decide +kernel, rfl, by decide +kernel, by decide +kernel⟩
abbrev s_Reader_read_byte : Stmt := (inClass (topS 6) 1)
abbrev N_Reader_read_byte : List Str := ["self"]
abbrev P_Reader_read_byte : List Str := ["self"]
theorem sc_Reader_read_byte : FnScope N_Reader_read_byte P_Reader_read_byte (defScope s_Reader_read_byte) := ⟨rfl, rfl, rfl, by decide +kernel, rfl, by decide +kernel, by decide +kernel⟩
abbrev s_Reader_read_number : Stmt := (inClass (topS 6) 4)
abbrev N_Reader_read_number : List Str := ["self", "total", "factor", "index", "byte"]
abbrev P_Reader_read_number : List Str := ["self"]
theorem sc_Reader_read_number : FnScope N_Reader_read_number P_Reader_read_number (defScope s_Reader_read_number) := ⟨rfl, rfl, rfl, by decide +kernel, rfl, by decide +kernel, by decide +kernel⟩
abbrev s_write_number : Stmt := (topS 8)
abbrev N_write_number : List Str := ["number", "data"]
abbrev P_write_number : List Str := ["number"]
theorem sc_write_number : FnScope N_write_number P_write_number (defScope s_write_number) := ⟨rfl, rfl, rfl, by decide +kernel, rfl, by decide +kernel, by decide +kernel⟩
abbrev s_checksum : Stmt := (topS 11)
abbrev N_checksum : List Str := ["data", "total", "byte"]
abbrev P_checksum : List Str := ["data"]
theorem sc_checksum : FnScope N_checksum P_checksum (defScope s_checksum) := ⟨rfl, rfl, rfl, by decide +kernel, rfl, by decide +kernel, by decide +kernel⟩
abbrev s_write_record : Stmt := (topS 12)
abbrev N_write_record : List Str := ["data", "total", "tail"]
abbrev P_write_record : List Str := ["data"]
theorem sc_write_record : FnScope N_write_record P_write_record (defScope s_write_record) := ⟨rfl, rfl, rfl, by decide +kernel, rfl, by decide +kernel, by decide +kernel⟩
abbrev s_read_size : Stmt := (topS 13)
abbrev N_read_size : List Str := ["data", "start", "reader", "size"]
abbrev P_read_size : List Str := ["data", "start"]
theorem sc_read_size : FnScope N_read_size P_read_size (defScope s_read_size) := ⟨rfl, rfl, rfl, by decide +kernel, rfl, by decide +kernel, by decide +kernel⟩
abbrev s_read_records : Stmt := (topS 14)
abbrev N_read_records : List Str := ["data", "records", "start", "found", "begin", "size", "record", "end"]
abbrev P_read_records : List Str := ["data"]
theorem sc_read_records : FnScope N_read_records P_read_records (defScope s_read_records) := ⟨rfl, rfl, rfl, by decide +kernel, rfl, by decide +kernel, by decide +kernel⟩
/-! ### the mathematics -/
def mix (c k : Int) : Int := ((c * 48271 + k * 69621 + 12345) % 2147483647 * ((c * 48271 + k * 69621 + 12345) % 2147483647) + k * 40692 + 1) % 2147483399 / 5 % 9973
theorem mix_b (c k : Int) : 0 ≤ mix c k ∧ mix c k < 9973 := by
  unfold mix
  exact ⟨Int.emod_nonneg _ (by decide), Int.emod_lt_of_pos _ (by decide)⟩
def bigs : Nat → Int → List Int
  | 0, _ => []
  | n + 1, c => if c > 0 then c % 9973 :: bigs n (c / 9973) else []
theorem bigs_no (n : Nat) {c : Int} (h : ¬ c > 0) : bigs n c = [] := by
  cases n with
  | zero => rfl
  | succ n => exact if_neg h
theorem bigs_yes (n : Nat) {c : Int} (h : c > 0) : bigs (n + 1) c = c % 9973 :: bigs n (c / 9973) := if_pos h
def drawsFrom : Nat → List Int → List Int
  | _, [] => []
  | k, c :: r => (if c < 10 ^ 18 then [mix c k] else bigs 60 c) ++ drawsFrom (k + 1) r
def draws (ns : List Int) : List Int := drawsFrom 0 ns
theorem draws_at {ns : List Int} {i : Nat} {c : Int} (h : ns[i]? = some c) : drawsFrom i (ns.drop i) = (if c < 10 ^ 18 then [mix c i] else bigs 60 c) ++ drawsFrom (i + 1) (ns.drop (i + 1)) := by
  obtain ⟨hi, e⟩ := List.getElem?_eq_some_iff.mp h
  rw [List.drop_eq_getElem_cons hi, e]
  rfl
abbrev Ints (acc : List Int) : List Rv := (acc.map PyData.int).map Rv.dt
theorem ints_snoc (acc : List Int) (z : Int) : Ints acc ++ [.dt (.int z)] = Ints (acc ++ [z]) := by simp [Ints]
theorem ints_len (acc : List Int) : (Ints acc).length = acc.length := by simp [Ints]
def lawAt (d : List Int) (i : Int) : Int := if i < d.length then d.getD i.toNat 0 else if d.length = 0 then mix i 77 else mix (d.getD (i % d.length).toNat 0 + i * 131) i
def isInt : PyData → Bool
  | .int _ => true
  | _ => false
/-- data without dicts, at most n deep -/
def okD : Nat → PyData → Bool
  | _, .none => true
  | _, .bool _ => true
  | _, .int _ => true
  | _, .str _ => true
  | n + 1, .list ds => ds.all (okD n)
  | n + 1, .tuple ds => ds.all (okD n)
  | _, _ => false
structure Txt (K : PySem.W.Frag) (mg : Str → Option Value) : Prop where
  m_isinstance : mg "isinstance" = none
  m_bool : mg "bool" = none
  m_str : mg "str" = none
  m_list : mg "list" = none
  m_tuple : mg "tuple" = none
  m_int : mg "int" = none
  m_len : mg "len" = none
  m_min : mg "min" = none
  m_range : mg "range" = none
section
variable {P : Program} {w : World} {K : PySem.W.Frag} {mg : Str → Option Value} {base : Heap}
def sp_mix : Fs := fun as L Q _ => ∃ c k, as = [.dt (.int c), .dt (.int k)] ∧ Q (.dt (.int (mix c k))) L
theorem ok_mix {f : Addr} {fd : FuncData} (F : Fun K "_law_mix" "_law_mix" s_law_mix f fd) (T : Txt K mg) : FnOk P w K mg base CX0 1 f fd P_law_mix (lift sp_mix) := by
  refine fnok0 F sc_law_mix (fun as L Q XC h => by obtain ⟨c, k, rfl, _⟩ := h; rfl) ?_
  intro cdv A outer s H E hr as L Q XC h
  obtain ⟨c, k, rfl, q⟩ := h
  refine mss_cons (ms_set 2 sc_law_mix.nd rfl (by first | exact .inl rfl | exact .inr rfl) (EX.to (ex_bin (ex_callTy (ax_cons (ex_bin (ex_bin (ex_bin (ex_callTy (ax_cons (ex_var 0 rfl rfl (.inl rfl)) ax_nil) (by walk_at "c_int") (by rfl) T.m_int (by decide +kernel)) ex_int (o_mul (.inr (by decide)))) (ex_bin (ex_var 1 rfl rfl (.inl rfl)) ex_int (o_mul (.inr (by decide)))) (by walk_at "oadd")) ex_int (by walk_at "oadd")) ax_nil) (by walk_at "c_int") (by rfl) T.m_int (by decide +kernel)) ex_int (o_mod (by decide))) ?_))
  have hb : 0 ≤ (c * 48271 + k * 69621 + 12345) % 2147483647 ∧ (c * 48271 + k * 69621 + 12345) % 2147483647 < 2147483647 := ⟨Int.emod_nonneg _ (by decide), Int.emod_lt_of_pos _ (by decide)⟩
  have hm : CMul ((c * 48271 + k * 69621 + 12345) % 2147483647) ((c * 48271 + k * 69621 + 12345) % 2147483647) := .inl (by omega)
  refine mss_cons (ms_set 2 sc_law_mix.nd rfl (by first | exact .inl rfl | exact .inr rfl) (EX.to (ex_bin (ex_callTy (ax_cons (ex_bin (ex_bin (ex_bin (ex_var 2 rfl rfl (.inl rfl)) (ex_var 2 rfl rfl (.inl rfl)) (by walk_at "omul")) (ex_bin (ex_var 1 rfl rfl (.inl rfl)) ex_int (o_mul (.inr (by decide)))) (by walk_at "oadd")) ex_int (by walk_at "oadd")) ax_nil) (by walk_at "c_int") (by rfl) T.m_int (by decide +kernel)) ex_int (o_mod (by decide))) ?_))
  refine mss_cons (ms_ret (EX.to (ex_bin (ex_bin (ex_var 2 rfl rfl (.inl rfl)) ex_int (o_div ⟨by decide, by decide⟩)) ex_int (o_mod (by decide))) ?_))
  exact q
def sp_draws (K : PySem.W.Frag) : Fs := fun as L Q _ => ∃ a ns, as = [.vl (.ref a)] ∧ Scr K L a ns ∧ ns.length ≤ 63 ∧ Q (.dt (.list ((draws ns).map PyData.int))) L
theorem ok_draws {f : Addr} {fd : FuncData} (F : Fun K "_law_draws" "_law_draws" s_law_draws f fd) (T : Txt K mg) (G_law_mix : FnM P w K mg base 1 "_law_mix" P_law_mix sp_mix) : FnOk P w K mg base CX0 2 f fd P_law_draws (lift (sp_draws K)) := by
  refine fnok0 F sc_law_draws (fun as L Q XC h => by obtain ⟨c, k, rfl, _⟩ := h; rfl) ?_
  intro cdv A outer s H E hr as L Q XC h
  obtain ⟨a, ns, rfl, hS, hn, q⟩ := h
  refine mss_cons (ms_set 1 sc_law_draws.nd rfl (.inl rfl) (me_lst0 fun p hp => ?_))
  have hS1 : Scr K (updL L p (.lst [])) a ns := hS.upd hp
  refine mss_cons (ms_for (tgt := (.n 2)) rfl (ix_range1 (ax_cons (ex_callB (ax_cons ex_int (ax_cons (ex_callB (ax_cons (ex_var 0 rfl rfl (.inl rfl)) ax_nil) (by walk_at "c_len") (by rfl) T.m_len PySem.boot_len) ax_nil)) (by walk_at "c_min") (by rfl) T.m_min (by decide +kernel)) ax_nil) (by walk_at "sd") (by walk_at "sd") (by rfl) T.m_range) (pgn_name 2 sc_law_draws.nd rfl (by first | exact .inl rfl | exact .inr rfl)) (fun i ρ L' => ∃ y c pl, ρ = [some (.vl (.ref a)), some (.vl (.ref p)), y, c, pl] ∧ ∃ acc : List Int, L' = updL L p (.lst (Ints acc)) ∧ acc ++ drawsFrom i (ns.drop i) = draws ns ∧ acc.length ≤ 60 * i)
    ⟨none, none, none, rfl, [], rfl, rfl, Nat.le_refl _⟩ (fun _ _ _ _ _ => trivial) ?_ ?_)
  · intro i y ρ L' hy inv
    obtain ⟨hi, rfl⟩ := rgY_at hy
    obtain ⟨y2, y3, y4, rfl, acc, rfl, hacc, hlen⟩ := inv
    refine ⟨_, rfl, ?_⟩
    have hmin : (if (ns.length : Int) < 63 then (ns.length : Int) else 63).toNat = ns.length := by split <;> omega
    rw [hmin] at hi
    have hS2 : Scr K (updL L p (.lst (Ints acc))) a ns := hS.upd hp
    obtain ⟨c, hc⟩ : ∃ c, ns[i]? = some c := ⟨_, List.getElem?_eq_getElem hi⟩
    have hat : atI ns (0 + (i : Int)) = some c := by
      rw [Int.zero_add]
      exact atI_nat hc
    refine mss_cons (ms_set 3 sc_law_draws.nd rfl (.inl rfl) (EX.to (ex_callTy (ax_cons (ex_ix (ex_var 0 rfl rfl (.inl rfl)) (ex_var 2 rfl rfl (.inl rfl)) (i_lstF hS2 hat) (fun _ _ => rfl)) ax_nil) (by walk_at "c_int") (by rfl) T.m_int (by decide +kernel)) ?_))
    rw [draws_at hc] at hacc
    refine mss_cons (ms_ifx (tx_cmp (ex_var 3 rfl rfl (.inl rfl)) (ex_bin ex_int ex_int (o_pow ⟨by decide, by decide, by decide⟩)) (by walk_at "olt") (nomark _)) (fun hT => ?_) (fun hF => ?_))
    · have hlt : c < 10 ^ 18 := of_decide_eq_true hT
      rw [if_pos hlt] at hacc
      refine mss_cons (ms_expr (EX.to (ex_append (ex_var 1 rfl rfl (.inl rfl)) (by walk_at "lk") (ex_call G_law_mix (hr.mono (by decide)) (by rfl) (ax_cons (ex_var 3 rfl rfl (.inl rfl)) (ax_cons (ex_var 2 rfl rfl (.inl rfl)) ax_nil)) ⟨_, _, rfl, rfl, rfl⟩) (by walk_at "lk") (by walk_at "sz")) ?_))
      refine mss_nil (mss_nil ⟨_, _, _, rfl, acc ++ [mix c i], ?_, ?_, ?_⟩)
      · rw [← ints_snoc, updL_updL, Int.zero_add]
      · rw [← hacc]; simp
      · rw [List.length_append, List.length_singleton]; omega
    · have hlt : ¬ c < 10 ^ 18 := of_decide_eq_false hF
      rw [if_neg hlt] at hacc
      refine mss_cons (ms_for (tgt := (.n 4)) rfl (ix_range1 (ax_cons ex_int ax_nil) (by walk_at "sd") (by walk_at "sd") (by rfl) T.m_range) (pgn_name 4 sc_law_draws.nd rfl (by first | exact .inl rfl | exact .inr rfl)) (fun j ρ L' => ∃ c' pl, ρ = [some (.vl (.ref a)), some (.vl (.ref p)), some (.dt (.int (0 + (i : Int)))), some (.dt (.int c')), pl] ∧ ∃ acc' : List Int, L' = updL L p (.lst (Ints acc')) ∧ acc' ++ bigs (60 - j) c' = acc ++ bigs 60 c ∧ acc'.length ≤ 60 * i + j)
        ⟨c, _, rfl, acc, rfl, rfl, by omega⟩ (fun _ _ _ _ _ => trivial) ?_ ?_)
      · intro j y ρ L' hy inv
        obtain ⟨hj, rfl⟩ := rgY_at hy
        obtain ⟨c', pl, rfl, acc', rfl, hacc', hlen'⟩ := inv
        refine ⟨_, rfl, ?_⟩
        have hj60 : j < 60 := hj
        obtain ⟨m, hm⟩ : ∃ m, 60 - j = m + 1 := ⟨59 - j, by omega⟩
        rw [hm] at hacc'
        refine mss_cons (ms_ifx (tx_cmp (ex_var 3 rfl rfl (.inl rfl)) ex_int (by walk_at "ogt") (nomark _)) (fun hT => ?_) (fun hF => ?_))
        · have hpos : c' > 0 := of_decide_eq_true hT
          rw [bigs_yes m hpos] at hacc'
          refine mss_cons (ms_expr (EX.to (ex_append (ex_var 1 rfl rfl (.inl rfl)) (by walk_at "lk") (ex_bin (ex_callTy (ax_cons (ex_var 3 rfl rfl (.inl rfl)) ax_nil) (by walk_at "c_int") (by rfl) T.m_int (by decide +kernel)) ex_int (o_mod (by decide))) (by walk_at "lk") (by walk_at "sz")) ?_))
          refine mss_cons (ms_set 3 sc_law_draws.nd rfl (by first | exact .inl rfl | exact .inr rfl) (EX.to (ex_bin (ex_var 3 rfl rfl (.inl rfl)) ex_int (o_div ⟨by decide, by decide⟩)) ?_))
          refine mss_nil (mss_nil ⟨_, _, rfl, acc' ++ [c' % 9973], ?_, ?_, ?_⟩)
          · rw [← ints_snoc, updL_updL]
          · rw [show 60 - (j + 1) = m by omega, ← hacc']; simp
          · rw [List.length_append, List.length_singleton]; omega
        · have hpos : ¬ c' > 0 := of_decide_eq_false hF
          refine mss_nil (mss_nil ⟨_, _, rfl, acc', rfl, ?_, by omega⟩)
          rw [bigs_no _ hpos] at hacc' ⊢
          exact hacc'
      · intro ρ L' inv
        rw [rgY_len] at inv
        obtain ⟨c', pl, rfl, acc', rfl, hacc', hlen'⟩ := inv
        refine mss_nil (mss_nil ⟨_, _, _, rfl, acc', rfl, ?_, ?_⟩)
        · have e : bigs (60 - (60 : Int).toNat) c' = [] := rfl
          rw [e, List.append_nil] at hacc'
          rw [hacc', List.append_assoc]
          exact hacc
        · have : (60 : Int).toNat = 60 := rfl
          omega
  · intro ρ L' inv
    rw [rgY_len] at inv
    obtain ⟨y2, y3, y4, rfl, acc, rfl, hacc, hlen⟩ := inv
    refine MSs.settle 1 rfl updL_same ?_
    refine MSs.le (L' := L) (ρ' := _) ?_ (fun b m e => ?_) ⟨rfl, fun _ _ e => e⟩
    · refine mss_cons (ms_ret (EX.to (ex_var 1 rfl rfl (.inl rfl)) ?_))
      have e : drawsFrom (if (ns.length : Int) < 63 then (ns.length : Int) else 63).toNat (ns.drop (if (ns.length : Int) < 63 then (ns.length : Int) else 63).toNat) = [] := by
        rw [show (if (ns.length : Int) < 63 then (ns.length : Int) else 63).toNat = ns.length by split <;> omega, List.drop_length]
        rfl
      rw [e, List.append_nil] at hacc
      rw [hacc]
      exact q
    · have ne : b ≠ p := fun z => by rw [z, hp] at e; cases e
      unfold delL
      rw [if_neg ne, updL_ne ne]
      exact e
theorem atI_getD {d : List Int} {i : Int} (h0 : 0 ≤ i) (h : i < d.length) : atI (d.map PyData.int) i = some (.int (d.getD i.toNat 0)) := by
  obtain ⟨j, rfl⟩ : ∃ j : Nat, i = j := ⟨i.toNat, by omega⟩
  have hj : j < d.length := by omega
  refine atI_nat ?_
  rw [List.getElem?_map, List.getElem?_eq_getElem hj, Int.toNat_natCast, List.getD_eq_getElem?_getD, List.getElem?_eq_getElem hj]
  rfl
def sp_at : Fs := fun as L Q _ => ∃ (d : List Int) (i : Int), as = [.dt (.list (d.map PyData.int)), .dt (.int i)] ∧ 0 ≤ i ∧ Q (.dt (.int (lawAt d i))) L
theorem ok_at {f : Addr} {fd : FuncData} (F : Fun K "_law_at" "_law_at" s_law_at f fd) (T : Txt K mg) (G_law_mix : FnM P w K mg base 1 "_law_mix" P_law_mix sp_mix) : FnOk P w K mg base CX0 2 f fd P_law_at (lift sp_at) := by
  refine fnok0 F sc_law_at (fun as L Q XC h => by obtain ⟨c, k, rfl, _⟩ := h; rfl) ?_
  intro cdv A outer s H E hr as L Q XC h
  obtain ⟨d, i, rfl, h0, q⟩ := h
  have hl : (d.map PyData.int).length = d.length := List.length_map ..
  unfold lawAt at q
  refine mss_cons (ms_ifx (tx_cmp (ex_var 1 rfl rfl (.inl rfl)) (ex_callB (ax_cons (ex_var 0 rfl rfl (.inl rfl)) ax_nil) (by walk_at "c_len") (by rfl) T.m_len PySem.boot_len) (by walk_at "olt") (nomark _)) (fun hT => ?_) (fun hF => ?_))
  · have c : i < d.length := by
      rw [hl] at hT
      exact of_decide_eq_true hT
    rw [if_pos c] at q
    have hat := atI_getD h0 c
    refine mss_cons (ms_ret (EX.to (ex_ix (ex_var 0 rfl rfl (.inl rfl)) (ex_var 1 rfl rfl (.inl rfl)) (by walk_at "oix") (fun _ _ => rfl)) ?_))
    exact q
  · have c : ¬ i < d.length := by
      rw [hl] at hF
      exact of_decide_eq_false hF
    rw [if_neg c] at q
    refine mss_nil (mss_cons (ms_ifx (tx_cmp (ex_callB (ax_cons (ex_var 0 rfl rfl (.inl rfl)) ax_nil) (by walk_at "c_len") (by rfl) T.m_len PySem.boot_len) ex_int (by walk_at "oeq") (nomark _)) (fun hT => ?_) (fun hF => ?_)))
    · have c2 : d.length = 0 := by
        rw [hl] at hT
        have := of_decide_eq_true hT
        omega
      rw [if_pos c2] at q
      refine mss_cons (ms_ret (EX.to (ex_call G_law_mix (hr.mono (by decide)) (by rfl) (ax_cons (ex_var 1 rfl rfl (.inl rfl)) (ax_cons ex_int ax_nil)) ⟨_, _, rfl, rfl, rfl⟩) ?_))
      exact q
    · have c2 : ¬ d.length = 0 := by
        rw [hl] at hF
        have := of_decide_eq_false hF
        omega
      rw [if_neg c2] at q
      have hp : 0 < ((d.map PyData.int).length : Int) := by rw [hl]; omega
      have hat : atI (d.map PyData.int) (i % ((d.map PyData.int).length : Int)) = some (.int (d.getD (i % d.length).toNat 0)) := by
        rw [hl]
        exact atI_getD (Int.emod_nonneg _ (by omega)) (Int.emod_lt_of_pos _ (by omega))
      refine mss_nil (mss_cons (ms_ret (EX.to (ex_call G_law_mix (hr.mono (by decide)) (by rfl) (ax_cons (ex_bin (ex_ix (ex_var 0 rfl rfl (.inl rfl)) (ex_bin (ex_callTy (ax_cons (ex_var 1 rfl rfl (.inl rfl)) ax_nil) (by walk_at "c_int") (by rfl) T.m_int (by decide +kernel)) (ex_callB (ax_cons (ex_var 0 rfl rfl (.inl rfl)) ax_nil) (by walk_at "c_len") (by rfl) T.m_len PySem.boot_len) (o_mod (by walk_at "sd"))) (by walk_at "oix") (fun _ _ => rfl)) (ex_bin (ex_var 1 rfl rfl (.inl rfl)) ex_int (o_mul (.inr (by decide)))) (by walk_at "oadd")) (ax_cons (ex_var 1 rfl rfl (.inl rfl)) ax_nil)) ⟨_, _, rfl, rfl, rfl⟩) ?_)))
      exact q
def sp_isint : Fs := fun as L Q _ => ∃ d, as = [.dt d] ∧ Q (.dt (.bool (isInt d))) L
theorem isInt_eq (d : PyData) : isInt d = (isK (tyName d) "int" && !isK (tyName d) "bool") := by cases d <;> rfl
theorem ok_isint {f : Addr} {fd : FuncData} (F : Fun K "_law_is_integer" "_law_is_integer" s_law_is_integer f fd) (T : Txt K mg) : FnOk P w K mg base CX0 1 f fd P_law_is_integer (lift sp_isint) := by
  refine fnok0 F sc_law_is_integer (fun as L Q XC h => by obtain ⟨c, rfl, _⟩ := h; rfl) ?_
  intro cdv A outer s H E hr as L Q XC h
  obtain ⟨d, rfl, q⟩ := h
  rw [isInt_eq] at q
  refine mss_cons (ms_ret (EX.to (ex_and (ex_callB (ax_cons (ex_var 0 rfl rfl (.inl rfl)) (ax_cons (ex_type (T := "int") (by rfl) T.m_int (by decide +kernel)) ax_nil)) (by walk_at "c_isinstance") (by rfl) T.m_isinstance (by decide +kernel)) (fun _ => (ex_one (ex_not (ex_callB (ax_cons (ex_var 0 rfl rfl (.inl rfl)) (ax_cons (ex_type (T := "bool") (by rfl) T.m_bool (by decide +kernel)) ax_nil)) (by walk_at "c_isinstance") (by rfl) T.m_isinstance (by decide +kernel)))))) ?_))
  exact q
end
end K11

set_option Elab.async false
set_option linter.all false
set_option maxRecDepth 100000
set_option maxHeartbeats 4000000
namespace K11
open PySem PySem.Spec PyProof.Rows L2 Cw
/-! ### small closers, each at its own key -/
local macro_rules | `(tactic| walk_at "oadd") => `(tactic| first | exact o_add | exact o_addS (by walk_at "sz") | exact o_cat (by walk_at "ll") (by walk_at "ll") (by walk_at "sz"))
local macro_rules | `(tactic| walk_at "osub") => `(tactic| exact o_sub)
local macro_rules | `(tactic| walk_at "omul") => `(tactic| first | exact o_mul (by walk_at "sd") | exact o_rep (by walk_at "ll") (by walk_at "sd") (by walk_at "sd") (by walk_at "sz"))
local macro_rules | `(tactic| walk_at "odiv") => `(tactic| first | exact o_div (by walk_at "sd") | exact o_divW (by walk_at "sd"))
local macro_rules | `(tactic| walk_at "olt") => `(tactic| exact o_lt)
local macro_rules | `(tactic| walk_at "ole") => `(tactic| exact o_le)
local macro_rules | `(tactic| walk_at "ogt") => `(tactic| exact o_gt)
local macro_rules | `(tactic| walk_at "oge") => `(tactic| exact o_ge)
local macro_rules | `(tactic| walk_at "oeq") => `(tactic| first | exact o_eqI | exact o_eqNI | exact o_eqS | exact o_eqB | exact o_eqR (Room.units (by assumption)) (by walk_at "dr") (by walk_at "dr") (by walk_at "sh") (by walk_at "sh"))
local macro_rules | `(tactic| walk_at "one") => `(tactic| first | exact o_neI | exact o_neS | exact o_neB | exact o_neR (Room.units (by assumption)) (by walk_at "dr") (by walk_at "dr") (by walk_at "sh") (by walk_at "sh"))
local macro_rules | `(tactic| walk_at "ois") => `(tactic| exact o_isN)
local macro_rules | `(tactic| walk_at "oisn") => `(tactic| exact o_notN)
local macro_rules | `(tactic| walk_at "iadd") => `(tactic| exact o_iadd)
local macro_rules | `(tactic| walk_at "isub") => `(tactic| exact o_isub)
local macro_rules | `(tactic| walk_at "lk") => `(tactic| first | assumption | exact updL_same | (refine Eq.trans (updL_ne (by first | assumption | (apply Ne.symm; assumption))) ?_; walk_at "lk"))
local macro_rules | `(tactic| walk_at "ll") => `(tactic| first | exact LL.dt | assumption | exact LL.h (by walk_at "lk"))
local macro_rules | `(tactic| walk_at "lr") => `(tactic| first | exact LL.dt | assumption | exact LR.h (by walk_at "lk"))
local macro_rules | `(tactic| walk_at "dr") => `(tactic| first | exact DD.dt | assumption | exact DD.ofLL (by walk_at "lk"))
local macro_rules | `(tactic| walk_at "sd") => `(tactic| first | omega | assumption | decide)
local macro_rules | `(tactic| walk_at "rg") => `(tactic| first | omega | assumption | decide)
local macro_rules | `(tactic| walk_at "sz") => `(tactic| first | assumption | (rw [sizeLine_eq]; first | omega | (simp; omega)))
local macro_rules | `(tactic| walk_at "osl") => `(tactic| first | exact s_str (by walk_at "sz") | exact s_lst (by walk_at "ll"))
local macro_rules | `(tactic| walk_at "c_len") => `(tactic| first | exact c_lenT | exact c_lenS (by walk_at "sz") | exact c_lenL (by walk_at "ll") | exact c_lenR (by walk_at "lr") | exact c_lenF (by assumption))
local macro_rules | `(tactic| walk_at "c_int") => `(tactic| first | exact c_int | exact c_intB)
local macro_rules | `(tactic| walk_at "c_min") => `(tactic| exact c_min rfl)
local macro_rules | `(tactic| walk_at "c_max") => `(tactic| exact c_max rfl)
local macro_rules | `(tactic| walk_at "c_ord") => `(tactic| exact c_ord (by walk_at "sz"))
local macro_rules | `(tactic| walk_at "c_list") => `(tactic| first | exact c_listT | exact c_list (by walk_at "ll") | exact c_listF (by assumption))
local macro_rules | `(tactic| walk_at "c_tuple") => `(tactic| first | exact c_tupleT | exact c_tuple (by walk_at "ll"))
local macro_rules | `(tactic| walk_at "c_isinstance") => `(tactic| exact c_isi (by walk_at "dr") (by decide))
local macro_rules | `(tactic| walk_at "few") => `(tactic| first | decide | exact Nat.le_of_ble_eq_true rfl | (rw [sizeLine_eq]; exact Nat.le_of_ble_eq_true rfl) | assumption)
local macro_rules | `(tactic| walk_at "fl") => `(tactic| first | assumption | rfl)
local macro_rules | `(tactic| walk_at "nf") => `(tactic| first | rfl | decide +kernel)
local macro_rules | `(tactic| walk_at "at") => `(tactic| first | assumption | rfl | exact atI_nat (by assumption))
local macro_rules | `(tactic| walk_at "oix") => `(tactic| first | exact i_tup (by walk_at "at") | exact i_lst (by walk_at "ll") (by walk_at "at") | exact i_lstR (by walk_at "lr") (by walk_at "at") | exact i_str (by walk_at "sz") (by walk_at "at") | exact i_lstF (by assumption) (by walk_at "at"))
local macro_rules | `(tactic| walk_at "ixn") => `(tactic| first | assumption | rfl)
local macro_rules | `(tactic| walk_at "okd") => `(tactic| first | rfl | assumption)
local macro_rules | `(tactic| walk_at "wr") => `(tactic| first | assumption | omega)
local macro_rules | `(tactic| walk_at "shn") => `(tactic| first | exact fun z => absurd z (by assumption) | exact fun z => absurd rfl z | exact fun _ => ⟨rfl, rfl⟩)
local macro_rules | `(tactic| walk_at "onin") => `(tactic| exact o_notIn2S)
local macro_rules | `(tactic| walk_at "okp") => `(tactic| first | assumption | exact nxt_p (by walk_at "okp"))

section
variable {P : Program} {w : World} {K : PySem.W.Frag} {mg : Str → Option Value} {base : Heap}
def sp_same (n : Nat) : Fs := fun as L Q _ => ∃ r r' d, as = [r, r'] ∧ DD L r d ∧ DD L r' d ∧ okD n d = true ∧ Q (.dt (.bool true)) L
theorem same_len (n : Nat) : ∀ as L Q XC, sp_same n as L Q XC → as.length = P_law_same.length := fun as L Q XC h => by obtain ⟨c, _, _, rfl, _⟩ := h; rfl
theorem pat_of {L : Led} {rs : List Rv} {ds : List PyData} {i : Nat} (h : Paired (DD L) rs ds) (hi : i < ds.length) : ∃ r d, rs[i]? = some r ∧ ds[i]? = some d ∧ DD L r d ∧ d ∈ ds := by
  obtain ⟨r, h1, h2⟩ := pget h (List.getElem?_eq_getElem hi)
  exact ⟨r, _, h1, List.getElem?_eq_getElem hi, h2, List.getElem_mem hi⟩
theorem body_same {n : Nat} {f : Addr} {fd : FuncData} (F : Fun K "_law_same" "_law_same" s_law_same f fd) (T : Txt K mg) (G_law_is_integer : FnM P w K mg base 1 "_law_is_integer" P_law_is_integer sp_isint)
    (G : ∀ m, n = m + 1 → FnM P w K mg base (m + 2) "_law_same" P_law_same (sp_same m)) : FnOk P w K mg base CX0 (n + 2) f fd P_law_same (lift (sp_same n)) := by
  refine fnok0 F sc_law_same (same_len _) ?_
  intro cdv A outer s H E hr as L Q XC h
  obtain ⟨r, r', d, rfl, h1, h2, ok, q⟩ := h
  have hr' := hr
  replace hr : Room 1 _ := hr.mono (by omega)
  cases d with
  | list ds =>
    obtain ⟨m, rfl⟩ : ∃ m, n = m + 1 := by
      cases n with
      | zero => cases ok
      | succ m => exact ⟨m, rfl⟩
    have G_law_same := G m rfl
    obtain ⟨rs, l1, p1⟩ := h1.lists
    obtain ⟨rs', l2, p2⟩ := h2.lists
    have n1 := Paired.length p1
    have n2 := Paired.length p2
    refine MSs.len 1 rfl l2 fun hz => ?_
    have hz2 : (rs'.length : Int) < 2 ^ 62 := by rw [sizeLine_eq] at hz; omega
    have okd : ∀ d ∈ ds, okD m d = true := List.all_eq_true.mp ok
    refine mss_cons (ms_ifx (tx_val (ex_isi2 (T1 := "list") (T2 := "tuple") (ex_var 1 rfl rfl (.inl rfl)) (by walk_at "dr") (by decide) (by decide) (by rfl) T.m_isinstance (by decide +kernel) (by rfl) T.m_list (by decide +kernel) (by rfl) T.m_tuple (by decide +kernel))) (fun hT => ?_) (fun hF => ?_))
    · refine mss_cons (ms_ifx (tx_w (wx_or (tx_cmp (ex_callB (ax_cons (ex_var 1 rfl rfl (.inl rfl)) (ax_cons (ex_type (T := "list") (by rfl) T.m_list (by decide +kernel)) ax_nil)) (by walk_at "c_isinstance") (by rfl) T.m_isinstance (by decide +kernel)) (ex_callB (ax_cons (ex_var 0 rfl rfl (.inl rfl)) (ax_cons (ex_type (T := "list") (by rfl) T.m_list (by decide +kernel)) ax_nil)) (by walk_at "c_isinstance") (by rfl) T.m_isinstance (by decide +kernel)) (by walk_at "one") (nomark _)) (fun _ => (wx_or1 (tx_cmp (ex_callB (ax_cons (ex_var 1 rfl rfl (.inl rfl)) (ax_cons (ex_type (T := "tuple") (by rfl) T.m_tuple (by decide +kernel)) ax_nil)) (by walk_at "c_isinstance") (by rfl) T.m_isinstance (by decide +kernel)) (ex_callB (ax_cons (ex_var 0 rfl rfl (.inl rfl)) (ax_cons (ex_type (T := "tuple") (by rfl) T.m_tuple (by decide +kernel)) ax_nil)) (by walk_at "c_isinstance") (by rfl) T.m_isinstance (by decide +kernel)) (by walk_at "one") (nomark _)))))) (fun hT => ?_) (fun hF => ?_))
      · cases hT
      · refine mss_nil (mss_cons (ms_ifx (tx_cmp (ex_callB (ax_cons (ex_var 0 rfl rfl (.inl rfl)) ax_nil) (by walk_at "c_len") (by rfl) T.m_len PySem.boot_len) (ex_callB (ax_cons (ex_var 1 rfl rfl (.inl rfl)) ax_nil) (by walk_at "c_len") (by rfl) T.m_len PySem.boot_len) (by walk_at "one") (nomark _)) (fun hT => ?_) (fun hF => ?_)))
        · rw [n1, n2, decide_eq_true rfl] at hT
          cases hT
        · refine mss_nil (mss_cons (ms_for (tgt := (.n 2)) rfl (ix_range1 (ax_cons (ex_callB (ax_cons (ex_var 1 rfl rfl (.inl rfl)) ax_nil) (c_lenR l2) (by rfl) T.m_len PySem.boot_len) ax_nil) (by walk_at "sd") hz2 (by rfl) T.m_range) (pgn_name 2 sc_law_same.nd rfl (by first | exact .inl rfl | exact .inr rfl)) (fun i ρ L' => ∃ y, ρ = [some r, some r', y] ∧ L' = L) ⟨none, rfl, rfl⟩ (fun _ _ _ _ _ => trivial) ?_ ?_))
          · intro i y ρ L' hy inv
            obtain ⟨hi, rfl⟩ := rgY_at hy
            obtain ⟨y0, rfl, rfl⟩ := inv
            refine ⟨_, rfl, ?_⟩
            have hi' : i < ds.length := by omega
            obtain ⟨a1, d1, e1, f1, g1, m1⟩ := pat_of p1 hi'
            obtain ⟨a2, d2, e2, f2, g2, _⟩ := pat_of p2 hi'
            have ed : d2 = d1 := Option.some.inj (f2.symm.trans f1)
            subst ed
            have t1 : atI rs (0 + (i : Int)) = some a1 := by rw [Int.zero_add]; exact atI_nat e1
            have t2 : atI rs' (0 + (i : Int)) = some a2 := by rw [Int.zero_add]; exact atI_nat e2
            replace hr := hr'.mono (show m + 2 ≤ m + 1 + 1 by omega)
            refine mss_cons (ms_ifx (tx_not (tx_val (ex_call G_law_same hr (by rfl) (ax_cons (ex_ix (ex_var 0 rfl rfl (.inl rfl)) (ex_var 2 rfl rfl (.inl rfl)) (by walk_at "oix") (fun _ _ => rfl)) (ax_cons (ex_ix (ex_var 1 rfl rfl (.inl rfl)) (ex_var 2 rfl rfl (.inl rfl)) (by walk_at "oix") (fun _ _ => rfl)) ax_nil)) ⟨_, _, _, rfl, g1, g2, okd _ m1, rfl, rfl⟩))) (fun hT => ?_) (fun hF => ?_))
            · cases hT
            · exact mss_nil (mss_nil ⟨_, rfl, rfl⟩)
          · intro ρ L' inv
            obtain ⟨y, rfl, rfl⟩ := inv
            refine mss_cons (ms_ret (EX.to ex_bl ?_))
            exact q
    · cases hF
  | tuple ds =>
    obtain ⟨m, rfl⟩ : ∃ m, n = m + 1 := by
      cases n with
      | zero => cases ok
      | succ m => exact ⟨m, rfl⟩
    have G_law_same := G m rfl
    have okd : ∀ d ∈ ds, okD m d = true := List.all_eq_true.mp ok
    cases h1
    cases h2
    refine MSs.lenT 1 rfl fun hz => ?_
    have hz2 : (ds.length : Int) < 2 ^ 62 := by rw [sizeLine_eq] at hz; omega
    refine mss_cons (ms_ifx (tx_val (ex_isi2 (T1 := "list") (T2 := "tuple") (ex_var 1 rfl rfl (.inl rfl)) (by walk_at "dr") (by decide) (by decide) (by rfl) T.m_isinstance (by decide +kernel) (by rfl) T.m_list (by decide +kernel) (by rfl) T.m_tuple (by decide +kernel))) (fun hT => ?_) (fun hF => ?_))
    · refine mss_cons (ms_ifx (tx_w (wx_or (tx_cmp (ex_callB (ax_cons (ex_var 1 rfl rfl (.inl rfl)) (ax_cons (ex_type (T := "list") (by rfl) T.m_list (by decide +kernel)) ax_nil)) (by walk_at "c_isinstance") (by rfl) T.m_isinstance (by decide +kernel)) (ex_callB (ax_cons (ex_var 0 rfl rfl (.inl rfl)) (ax_cons (ex_type (T := "list") (by rfl) T.m_list (by decide +kernel)) ax_nil)) (by walk_at "c_isinstance") (by rfl) T.m_isinstance (by decide +kernel)) (by walk_at "one") (nomark _)) (fun _ => (wx_or1 (tx_cmp (ex_callB (ax_cons (ex_var 1 rfl rfl (.inl rfl)) (ax_cons (ex_type (T := "tuple") (by rfl) T.m_tuple (by decide +kernel)) ax_nil)) (by walk_at "c_isinstance") (by rfl) T.m_isinstance (by decide +kernel)) (ex_callB (ax_cons (ex_var 0 rfl rfl (.inl rfl)) (ax_cons (ex_type (T := "tuple") (by rfl) T.m_tuple (by decide +kernel)) ax_nil)) (by walk_at "c_isinstance") (by rfl) T.m_isinstance (by decide +kernel)) (by walk_at "one") (nomark _)))))) (fun hT => ?_) (fun hF => ?_))
      · cases hT
      · refine mss_nil (mss_cons (ms_ifx (tx_cmp (ex_callB (ax_cons (ex_var 0 rfl rfl (.inl rfl)) ax_nil) (by walk_at "c_len") (by rfl) T.m_len PySem.boot_len) (ex_callB (ax_cons (ex_var 1 rfl rfl (.inl rfl)) ax_nil) (by walk_at "c_len") (by rfl) T.m_len PySem.boot_len) (by walk_at "one") (nomark _)) (fun hT => ?_) (fun hF => ?_)))
        · rw [decide_eq_true rfl] at hT
          cases hT
        · refine mss_nil (mss_cons (ms_for (tgt := (.n 2)) rfl (ix_range1 (ax_cons (ex_callB (ax_cons (ex_var 1 rfl rfl (.inl rfl)) ax_nil) (by walk_at "c_len") (by rfl) T.m_len PySem.boot_len) ax_nil) (by walk_at "sd") (by walk_at "sd") (by rfl) T.m_range) (pgn_name 2 sc_law_same.nd rfl (by first | exact .inl rfl | exact .inr rfl)) (fun i ρ L' => ∃ y, ρ = [some (.dt (.tuple ds)), some (.dt (.tuple ds)), y] ∧ L' = L) ⟨none, rfl, rfl⟩ (fun _ _ _ _ _ => trivial) ?_ ?_))
          · intro i y ρ L' hy inv
            obtain ⟨hi, rfl⟩ := rgY_at hy
            obtain ⟨y0, rfl, rfl⟩ := inv
            refine ⟨_, rfl, ?_⟩
            have hi' : i < ds.length := by omega
            have t1 : atI ds (0 + (i : Int)) = some ds[i] := by rw [Int.zero_add]; exact atI_nat (List.getElem?_eq_getElem hi')
            replace hr := hr'.mono (show m + 2 ≤ m + 1 + 1 by omega)
            refine mss_cons (ms_ifx (tx_not (tx_val (ex_call G_law_same hr (by rfl) (ax_cons (ex_ix (ex_var 0 rfl rfl (.inl rfl)) (ex_var 2 rfl rfl (.inl rfl)) (by walk_at "oix") (fun _ _ => rfl)) (ax_cons (ex_ix (ex_var 1 rfl rfl (.inl rfl)) (ex_var 2 rfl rfl (.inl rfl)) (by walk_at "oix") (fun _ _ => rfl)) ax_nil)) ⟨_, _, _, rfl, .dt, .dt, okd _ (List.getElem_mem hi'), rfl, rfl⟩))) (fun hT => ?_) (fun hF => ?_))
            · cases hT
            · exact mss_nil (mss_nil ⟨_, rfl, rfl⟩)
          · intro ρ L' inv
            obtain ⟨y, rfl, rfl⟩ := inv
            refine mss_cons (ms_ret (EX.to ex_bl ?_))
            exact q
    · cases hF
  | none =>
    cases h1
    cases h2
    refine mss_cons (ms_ifx (tx_val (ex_isi2 (T1 := "list") (T2 := "tuple") (ex_var 1 rfl rfl (.inl rfl)) (by walk_at "dr") (by decide) (by decide) (by rfl) T.m_isinstance (by decide +kernel) (by rfl) T.m_list (by decide +kernel) (by rfl) T.m_tuple (by decide +kernel))) (fun hT => ?_) (fun hF => ?_))
    · cases hT
    · refine mss_nil (mss_cons (ms_ifx (tx_cmp (ex_var 1 rfl rfl (.inl rfl)) ex_non (by walk_at "ois") (nomark _)) (fun hT => ?_) (fun hF => ?_)))
      · refine mss_cons (ms_ret (EX.to (ex_cmp (ex_var 0 rfl rfl (.inl rfl)) ex_non (by walk_at "ois") (nomark _)) ?_))
        exact q
      · cases hF
  | bool b =>
    cases h1
    cases h2
    refine mss_cons (ms_ifx (tx_val (ex_isi2 (T1 := "list") (T2 := "tuple") (ex_var 1 rfl rfl (.inl rfl)) (by walk_at "dr") (by decide) (by decide) (by rfl) T.m_isinstance (by decide +kernel) (by rfl) T.m_list (by decide +kernel) (by rfl) T.m_tuple (by decide +kernel))) (fun hT => ?_) (fun hF => ?_))
    · cases hT
    · refine mss_nil (mss_cons (ms_ifx (tx_cmp (ex_var 1 rfl rfl (.inl rfl)) ex_non (by walk_at "ois") (nomark _)) (fun hT => ?_) (fun hF => ?_)))
      · cases hT
      · refine mss_nil (mss_cons (ms_ifx (tx_val (ex_callB (ax_cons (ex_var 1 rfl rfl (.inl rfl)) (ax_cons (ex_type (T := "bool") (by rfl) T.m_bool (by decide +kernel)) ax_nil)) (by walk_at "c_isinstance") (by rfl) T.m_isinstance (by decide +kernel))) (fun hT => ?_) (fun hF => ?_)))
        · refine mss_cons (ms_ret (EX.to (ex_and (ex_callB (ax_cons (ex_var 0 rfl rfl (.inl rfl)) (ax_cons (ex_type (T := "bool") (by rfl) T.m_bool (by decide +kernel)) ax_nil)) (by walk_at "c_isinstance") (by rfl) T.m_isinstance (by decide +kernel)) (fun _ => (ex_one (ex_cmp (ex_var 0 rfl rfl (.inl rfl)) (ex_var 1 rfl rfl (.inl rfl)) (by walk_at "oeq") (nomark _))))) ?_))
          rw [decide_eq_true rfl]
          exact q
        · cases hF
  | int b =>
    cases h1
    cases h2
    refine mss_cons (ms_ifx (tx_val (ex_isi2 (T1 := "list") (T2 := "tuple") (ex_var 1 rfl rfl (.inl rfl)) (by walk_at "dr") (by decide) (by decide) (by rfl) T.m_isinstance (by decide +kernel) (by rfl) T.m_list (by decide +kernel) (by rfl) T.m_tuple (by decide +kernel))) (fun hT => ?_) (fun hF => ?_))
    · cases hT
    · refine mss_nil (mss_cons (ms_ifx (tx_cmp (ex_var 1 rfl rfl (.inl rfl)) ex_non (by walk_at "ois") (nomark _)) (fun hT => ?_) (fun hF => ?_)))
      · cases hT
      · refine mss_nil (mss_cons (ms_ifx (tx_val (ex_callB (ax_cons (ex_var 1 rfl rfl (.inl rfl)) (ax_cons (ex_type (T := "bool") (by rfl) T.m_bool (by decide +kernel)) ax_nil)) (by walk_at "c_isinstance") (by rfl) T.m_isinstance (by decide +kernel))) (fun hT => ?_) (fun hF => ?_)))
        · cases hT
        · refine mss_nil (mss_cons (ms_ifx (tx_val (ex_callB (ax_cons (ex_var 1 rfl rfl (.inl rfl)) (ax_cons (ex_type (T := "int") (by rfl) T.m_int (by decide +kernel)) ax_nil)) (by walk_at "c_isinstance") (by rfl) T.m_isinstance (by decide +kernel))) (fun hT => ?_) (fun hF => ?_)))
          · refine mss_cons (ms_ret (EX.to (ex_and (ex_call G_law_is_integer (hr.mono (by decide)) (by rfl) (ax_cons (ex_var 0 rfl rfl (.inl rfl)) ax_nil) ⟨_, rfl, rfl, rfl⟩) (fun _ => (ex_one (ex_cmp (ex_var 0 rfl rfl (.inl rfl)) (ex_var 1 rfl rfl (.inl rfl)) (by walk_at "oeq") (nomark _))))) ?_))
            rw [decide_eq_true rfl]
            exact q
          · cases hF
  | str b =>
    cases h1
    cases h2
    refine mss_cons (ms_ifx (tx_val (ex_isi2 (T1 := "list") (T2 := "tuple") (ex_var 1 rfl rfl (.inl rfl)) (by walk_at "dr") (by decide) (by decide) (by rfl) T.m_isinstance (by decide +kernel) (by rfl) T.m_list (by decide +kernel) (by rfl) T.m_tuple (by decide +kernel))) (fun hT => ?_) (fun hF => ?_))
    · cases hT
    · refine mss_nil (mss_cons (ms_ifx (tx_cmp (ex_var 1 rfl rfl (.inl rfl)) ex_non (by walk_at "ois") (nomark _)) (fun hT => ?_) (fun hF => ?_)))
      · cases hT
      · refine mss_nil (mss_cons (ms_ifx (tx_val (ex_callB (ax_cons (ex_var 1 rfl rfl (.inl rfl)) (ax_cons (ex_type (T := "bool") (by rfl) T.m_bool (by decide +kernel)) ax_nil)) (by walk_at "c_isinstance") (by rfl) T.m_isinstance (by decide +kernel))) (fun hT => ?_) (fun hF => ?_)))
        · cases hT
        · refine mss_nil (mss_cons (ms_ifx (tx_val (ex_callB (ax_cons (ex_var 1 rfl rfl (.inl rfl)) (ax_cons (ex_type (T := "int") (by rfl) T.m_int (by decide +kernel)) ax_nil)) (by walk_at "c_isinstance") (by rfl) T.m_isinstance (by decide +kernel))) (fun hT => ?_) (fun hF => ?_)))
          · cases hT
          · refine mss_nil (mss_cons (ms_ret (EX.to (ex_and (ex_callB (ax_cons (ex_var 0 rfl rfl (.inl rfl)) (ax_cons (ex_type (T := "str") (by rfl) T.m_str (by decide +kernel)) ax_nil)) (by walk_at "c_isinstance") (by rfl) T.m_isinstance (by decide +kernel)) (fun _ => (ex_one (ex_cmp (ex_var 0 rfl rfl (.inl rfl)) (ex_var 1 rfl rfl (.inl rfl)) (by walk_at "oeq") (nomark _))))) ?_)))
            rw [decide_eq_true rfl]
            exact q
  | dict kvs => cases n <;> cases ok
theorem ok_same : ∀ (n : Nat) {f : Addr} {fd : FuncData} (F : Fun K "_law_same" "_law_same" s_law_same f fd) (T : Txt K mg) (hm : mg "_law_same" = some (.ref f)) (hb : Binds K fd P_law_same []) (G_law_is_integer : FnM P w K mg base 1 "_law_is_integer" P_law_is_integer sp_isint),
    FnOk P w K mg base CX0 (n + 2) f fd P_law_same (lift (sp_same n))
  | 0, _, _, F, T, _, _, G => body_same F T G fun m h => by cases h
  | n + 1, f, fd, F, T, hm, hb, G => body_same F T G fun m h => by
    cases h
    exact ⟨f, fd, hm, F.kp, hb, ok_same n F T hm hb G⟩
abbrev St (d : List Int) (i : Int) : MO := .lst [.dt (.list (d.map PyData.int)), .dt (.int i)]
def sp_next : Fs := fun as L Q _ => ∃ s d i lim, as = [.vl (.ref s), .dt (.int lim)] ∧ L s = some (St d i) ∧ -1 ≤ i ∧ 0 < lim ∧ Q (.dt (.int (lawAt d (i + 1) % lim))) (updL L s (St d (i + 1)))
theorem ok_next {f : Addr} {fd : FuncData} (F : Fun K "_law_next" "_law_next" s_law_next f fd) (T : Txt K mg) (G_law_at : FnM P w K mg base 2 "_law_at" P_law_at sp_at) : FnOk P w K mg base CX0 3 f fd P_law_next (lift sp_next) := by
  refine fnok0 F sc_law_next (fun as L Q XC h => by obtain ⟨_, _, _, _, rfl, _⟩ := h; rfl) ?_
  intro cdv A outer s0 H E hr as L Q XC h
  obtain ⟨s, d, i, lim, rfl, hs, h0, hl, q⟩ := h
  refine mss_cons (ms_augix (ex_var 0 rfl rfl (.inl rfl)) ex_int (by walk_at "lk") (by walk_at "at") ex_int (by walk_at "iadd") (by walk_at "lk") (by walk_at "ixn") ?_)
  have hs2 : updL L s (.lst ([.dt (.list (d.map PyData.int)), .dt (.int i)].set 1 (.dt (.int (i + 1))))) s = some (St d (i + 1)) := updL_same
  refine mss_cons (ms_ret (EX.to (ex_bin (ex_call G_law_at (hr.mono (by decide)) (by rfl) (ax_cons (ex_ix (ex_var 0 rfl rfl (.inl rfl)) ex_int (by walk_at "oix") (fun _ _ => rfl)) (ax_cons (ex_ix (ex_var 0 rfl rfl (.inl rfl)) ex_int (by walk_at "oix") (fun _ _ => rfl)) ax_nil)) ⟨_, _, rfl, by walk_at "sd", rfl, rfl⟩) (ex_var 1 rfl rfl (.inl rfl)) (o_mod (by walk_at "sd"))) ?_))
  exact q
end
end K11

set_option Elab.async false
set_option linter.all false
set_option maxRecDepth 100000
set_option maxHeartbeats 4000000
namespace K11
open PySem PySem.Spec PyProof.Rows L2 Cw
/-! ### small closers, each at its own key -/
local macro_rules | `(tactic| walk_at "oadd") => `(tactic| first | exact o_add | exact o_addS (by walk_at "sz") | exact o_cat (by walk_at "ll") (by walk_at "ll") (by walk_at "sz"))
local macro_rules | `(tactic| walk_at "osub") => `(tactic| exact o_sub)
local macro_rules | `(tactic| walk_at "omul") => `(tactic| first | exact o_mul (by walk_at "sd") | exact o_rep (by walk_at "ll") (by walk_at "sd") (by walk_at "sd") (by walk_at "sz"))
local macro_rules | `(tactic| walk_at "odiv") => `(tactic| first | exact o_div (by walk_at "sd") | exact o_divW (by walk_at "sd"))
local macro_rules | `(tactic| walk_at "olt") => `(tactic| exact o_lt)
local macro_rules | `(tactic| walk_at "ole") => `(tactic| exact o_le)
local macro_rules | `(tactic| walk_at "ogt") => `(tactic| exact o_gt)
local macro_rules | `(tactic| walk_at "oge") => `(tactic| exact o_ge)
local macro_rules | `(tactic| walk_at "oeq") => `(tactic| first | exact o_eqI | exact o_eqNI | exact o_eqS | exact o_eqB | exact o_eqR (Room.units (by assumption)) (by walk_at "dr") (by walk_at "dr") (by walk_at "sh") (by walk_at "sh"))
local macro_rules | `(tactic| walk_at "one") => `(tactic| first | exact o_neI | exact o_neS | exact o_neB | exact o_neR (Room.units (by assumption)) (by walk_at "dr") (by walk_at "dr") (by walk_at "sh") (by walk_at "sh"))
local macro_rules | `(tactic| walk_at "ois") => `(tactic| exact o_isN)
local macro_rules | `(tactic| walk_at "oisn") => `(tactic| exact o_notN)
local macro_rules | `(tactic| walk_at "iadd") => `(tactic| exact o_iadd)
local macro_rules | `(tactic| walk_at "isub") => `(tactic| exact o_isub)
local macro_rules | `(tactic| walk_at "lk") => `(tactic| first | assumption | exact updL_same | (refine Eq.trans (updL_ne (by first | assumption | (apply Ne.symm; assumption))) ?_; walk_at "lk"))
local macro_rules | `(tactic| walk_at "ll") => `(tactic| first | exact LL.dt | assumption | exact LL.h (by walk_at "lk"))
local macro_rules | `(tactic| walk_at "lr") => `(tactic| first | exact LL.dt | assumption | exact LR.h (by walk_at "lk"))
local macro_rules | `(tactic| walk_at "dr") => `(tactic| first | exact DD.dt | assumption | exact DD.ofLL (by walk_at "lk"))
local macro_rules | `(tactic| walk_at "sd") => `(tactic| first | omega | assumption | decide)
local macro_rules | `(tactic| walk_at "rg") => `(tactic| first | omega | assumption | decide)
local macro_rules | `(tactic| walk_at "sz") => `(tactic| first | assumption | (rw [sizeLine_eq]; first | omega | (simp; omega)))
local macro_rules | `(tactic| walk_at "osl") => `(tactic| first | exact s_str (by walk_at "sz") | exact s_lst (by walk_at "ll"))
local macro_rules | `(tactic| walk_at "c_len") => `(tactic| first | exact c_lenT | exact c_lenS (by walk_at "sz") | exact c_lenL (by walk_at "ll") | exact c_lenR (by walk_at "lr") | exact c_lenF (by assumption))
local macro_rules | `(tactic| walk_at "c_int") => `(tactic| first | exact c_int | exact c_intB)
local macro_rules | `(tactic| walk_at "c_min") => `(tactic| exact c_min rfl)
local macro_rules | `(tactic| walk_at "c_max") => `(tactic| exact c_max rfl)
local macro_rules | `(tactic| walk_at "c_ord") => `(tactic| exact c_ord (by walk_at "sz"))
local macro_rules | `(tactic| walk_at "c_list") => `(tactic| first | exact c_listT | exact c_list (by walk_at "ll") | exact c_listF (by assumption))
local macro_rules | `(tactic| walk_at "c_tuple") => `(tactic| first | exact c_tupleT | exact c_tuple (by walk_at "ll"))
local macro_rules | `(tactic| walk_at "c_isinstance") => `(tactic| exact c_isi (by walk_at "dr") (by decide))
local macro_rules | `(tactic| walk_at "few") => `(tactic| first | decide | exact Nat.le_of_ble_eq_true rfl | (rw [sizeLine_eq]; exact Nat.le_of_ble_eq_true rfl) | assumption)
local macro_rules | `(tactic| walk_at "fl") => `(tactic| first | assumption | rfl)
local macro_rules | `(tactic| walk_at "nf") => `(tactic| first | rfl | decide +kernel)
local macro_rules | `(tactic| walk_at "at") => `(tactic| first | assumption | rfl | exact atI_nat (by assumption))
local macro_rules | `(tactic| walk_at "oix") => `(tactic| first | exact i_tup (by walk_at "at") | exact i_lst (by walk_at "ll") (by walk_at "at") | exact i_lstR (by walk_at "lr") (by walk_at "at") | exact i_str (by walk_at "sz") (by walk_at "at") | exact i_lstF (by assumption) (by walk_at "at"))
local macro_rules | `(tactic| walk_at "ixn") => `(tactic| first | assumption | rfl)
local macro_rules | `(tactic| walk_at "okd") => `(tactic| first | rfl | assumption)
local macro_rules | `(tactic| walk_at "wr") => `(tactic| first | assumption | omega)
local macro_rules | `(tactic| walk_at "shn") => `(tactic| first | exact fun z => absurd z (by assumption) | exact fun z => absurd rfl z | exact fun _ => ⟨rfl, rfl⟩)
local macro_rules | `(tactic| walk_at "onin") => `(tactic| exact o_notIn2S)
local macro_rules | `(tactic| walk_at "okp") => `(tactic| first | assumption | exact nxt_p (by walk_at "okp"))

/-! ### numbers, checksums, records -/
def num (n : Nat) : List Int := if h : n < 128 then [(n : Int)] else ((n % 128 + 128 : Nat) : Int) :: num (n / 128)
termination_by n
decreasing_by omega
theorem num_lt {n : Nat} (h : n < 128) : num n = [(n : Int)] := by rw [num, dif_pos h]
theorem num_ge {n : Nat} (h : ¬ n < 128) : num n = ((n % 128 + 128 : Nat) : Int) :: num (n / 128) := by rw [num, dif_neg h]
theorem num_len {n : Nat} : n < 2097152 → (num n).length ≤ 3 ∧ 0 < (num n).length := fun h => by
  by_cases h1 : n < 128
  · rw [num_lt h1]; exact ⟨by simp, by simp⟩
  · rw [num_ge h1]
    by_cases h2 : n / 128 < 128
    · rw [num_lt h2]; exact ⟨by simp, by simp⟩
    · rw [num_ge h2, num_lt (show n / 128 / 128 < 128 by omega)]; exact ⟨by simp, by simp⟩
def stp (t b : Int) : Int := (31 * t + b + 1) % 4294967296
def chk (d : List Int) : Int := d.foldl stp 7
theorem foldl_b : ∀ (d : List Int) (t : Int), 0 ≤ t ∧ t < 4294967296 → 0 ≤ d.foldl stp t ∧ d.foldl stp t < 4294967296
  | [], _, h => h
  | b :: r, t, _ => foldl_b r (stp t b) ⟨Int.emod_nonneg _ (by decide), Int.emod_lt_of_pos _ (by decide)⟩
theorem chk_b (d : List Int) : 0 ≤ chk d ∧ chk d < 4294967296 := foldl_b d 7 (by decide)
def tail4 (c : Int) : List Int := [c / 16777216, c / 65536 % 256, c / 256 % 256, c % 256]
def wrec (d : List Int) : List Int := num d.length ++ d ++ tail4 (chk d)
theorem tail4_inj {a b : Int} (ha : 0 ≤ a) (hb : 0 ≤ b) (h : tail4 a = tail4 b) : a = b := by
  unfold tail4 at h
  have h1 := (List.cons.inj h).1
  have h2 := (List.cons.inj (List.cons.inj h).2).1
  have h3 := (List.cons.inj (List.cons.inj (List.cons.inj h).2).2).1
  have h4 := (List.cons.inj (List.cons.inj (List.cons.inj (List.cons.inj h).2).2).2).1
  omega
theorem stp_inj {t u b : Int} (ht : 0 ≤ t ∧ t < 4294967296) (hu : 0 ≤ u ∧ u < 4294967296) (h : stp t b = stp u b) : t = u := by
  unfold stp at h
  omega
theorem foldl_inj : ∀ (d : List Int) (t u : Int), 0 ≤ t ∧ t < 4294967296 → 0 ≤ u ∧ u < 4294967296 → d.foldl stp t = d.foldl stp u → t = u
  | [], _, _, _, _, h => h
  | b :: r, t, u, ht, hu, h => stp_inj ht hu (foldl_inj r (stp t b) (stp u b) ⟨Int.emod_nonneg _ (by decide), Int.emod_lt_of_pos _ (by decide)⟩ ⟨Int.emod_nonneg _ (by decide), Int.emod_lt_of_pos _ (by decide)⟩ h)
/-- one byte another one: another checksum -/
theorem chk_ne {a b : List Int} {x y : Int} (hx : 0 ≤ x ∧ x < 256) (hy : 0 ≤ y ∧ y < 256) (ne : x ≠ y) : chk (a ++ x :: b) ≠ chk (a ++ y :: b) := fun h => by
  unfold chk at h
  rw [List.foldl_append, List.foldl_append, List.foldl_cons, List.foldl_cons] at h
  have hb := foldl_b a 7 (by decide)
  have h2 := foldl_inj b _ _ ⟨Int.emod_nonneg _ (by decide), Int.emod_lt_of_pos _ (by decide)⟩ ⟨Int.emod_nonneg _ (by decide), Int.emod_lt_of_pos _ (by decide)⟩ h
  generalize a.foldl stp 7 = t at *
  omega
/-! ### reading -/
/-- the number at the front, and how many bytes it takes -/
def rdF : Nat → Nat → List Int → Option (Int × Nat)
  | 0, _, _ => none
  | _ + 1, _, [] => none
  | f + 1, i, b :: r => if b < 128 then (if b = 0 ∧ i > 0 then none else some (b % 128, i + 1)) else (rdF f (i + 1) r).map fun p => (b % 128 + 128 * p.1, p.2)
theorem rdF_num : ∀ (f i n : Nat) (rest : List Int), (num n).length ≤ f → (i = 0 ∨ 0 < n) → rdF f i (num n ++ rest) = some ((n : Int), i + (num n).length)
  | 0, i, n, rest, h, _ => by
    exfalso
    by_cases h1 : n < 128
    · rw [num_lt h1] at h; simp at h
    · rw [num_ge h1] at h; simp at h
  | f + 1, i, n, rest, h, h0 => by
    by_cases h1 : n < 128
    · rw [num_lt h1]
      show (if (n : Int) < 128 then (if (n : Int) = 0 ∧ i > 0 then none else some ((n : Int) % 128, i + 1)) else _) = _
      rw [if_pos (by omega), if_neg (by omega)]
      congr 2
      omega
    · rw [num_ge h1] at h ⊢
      have ih := rdF_num f (i + 1) (n / 128) rest (by rw [List.length_cons] at h; omega) (.inr (by omega))
      show (if ((n % 128 + 128 : Nat) : Int) < 128 then _ else (rdF f (i + 1) (num (n / 128) ++ rest)).map fun p => (((n % 128 + 128 : Nat) : Int) % 128 + 128 * p.1, p.2)) = _
      rw [if_neg (by omega), ih]
      show some (((n % 128 + 128 : Nat) : Int) % 128 + 128 * ((n / 128 : Nat) : Int), i + 1 + (num (n / 128)).length) = some ((n : Int), i + ((num (n / 128)).length + 1))
      congr 2
      · omega
      · omega
theorem rdF_cut : ∀ (f i n k : Nat), k < (num n).length → rdF f i ((num n).take k) = none
  | 0, _, _, _, _ => rfl
  | f + 1, i, n, 0, _ => by rw [List.take_zero]; rfl
  | f + 1, i, n, k + 1, h => by
    by_cases h1 : n < 128
    · rw [num_lt h1] at h; simp at h
    · rw [num_ge h1] at h ⊢
      have ih := rdF_cut f (i + 1) (n / 128) k (by rw [List.length_cons] at h; omega)
      show (if ((n % 128 + 128 : Nat) : Int) < 128 then _ else (rdF f (i + 1) ((num (n / 128)).take k)).map _) = _
      rw [if_neg (by omega), ih]
      rfl
theorem rdF_zero : ∀ (f i : Nat) (ys rest : List Int), (∀ y ∈ ys, ¬ y < 128) → 0 < i + ys.length → rdF f i (ys ++ 0 :: rest) = none
  | 0, _, _, _, _, _ => rfl
  | f + 1, i, [], rest, _, h0 => by
    show (if (0 : Int) < 128 then (if (0 : Int) = 0 ∧ i > 0 then none else _) else _) = none
    rw [if_pos (by decide), if_pos ⟨rfl, by simpa using h0⟩]
  | f + 1, i, y :: ys, rest, h, h0 => by
    have ih := rdF_zero f (i + 1) ys rest (fun z hz => h z (List.mem_cons_of_mem _ hz)) (by omega)
    show (if y < 128 then _ else (rdF f (i + 1) (ys ++ 0 :: rest)).map _) = none
    rw [if_neg (h y List.mem_cons_self), ih]
    rfl
/-- what tells the end of the complete records, at the front of these bytes -/
def Stop (xs : List Int) : Prop := match rdF 60 0 (xs.take 60) with
  | none => True
  | some (v, n) => 0 ≤ v ∧ (n + v.toNat + 4 > xs.length ∨ tail4 (chk ((xs.drop n).take v.toNat)) ≠ (xs.drop (n + v.toNat)).take 4)
inductive Prs (xs : List Int) : Nat → List (List Int) → Nat → Prop
  | stop {s} : s ≤ xs.length → Stop (xs.drop s) → Prs xs s [] s
  | step {s rs t n} {v : Nat} : rdF 60 0 ((xs.drop s).take 60) = some ((v : Int), n) → s + n + v + 4 ≤ xs.length → tail4 (chk ((xs.drop (s + n)).take v)) = (xs.drop (s + n + v)).take 4 → Prs xs (s + n + v + 4) rs t → Prs xs s ((xs.drop (s + n)).take v :: rs) t
/-- what the module's names are -/
structure TxR (K : PySem.W.Frag) (mg : Str → Option Value) (C D0 : Addr) : Prop extends Txt K mg where
  c_Reader : Cls K C
  n_Reader_data : NoAttr K C "data"
  n_Reader_at : NoAttr K C "at"
  g_NUMBER_BYTES : ∃ t, mg "NUMBER_BYTES" = some (.int 60 t)
  g_CHECKSUM_LIMIT : ∃ t, mg "CHECKSUM_LIMIT" = some (.int 4294967296 t)
  g_DP : mg "DamagedPacket" = some (.ref D0)
  xF : PySem.W.excIn K D0 [.type "ValueError", .type "Exception", .type "BaseException", .type "object"] "ValueError.__new__" = true
  kF : PySem.W.keepIn K (.ref D0) = true
  bF : PySem.W.subIn K (.ref D0) (.type "BaseException") = some true
  tF : PySem.W.typeIn K (.ref D0) = some (.type "type")
  xm : PySem.W.exmOne K (.ref D0) (.ref D0) = some true
section
variable {P : Program} {w : World} {K : PySem.W.Frag} {mg : Str → Option Value} {base : Heap}
def sp_num : Fs := fun as L Q _ => ∃ n : Nat, as = [.dt (.int (n : Int))] ∧ n < 2097152 ∧ ∀ p m, L p = none → Q (.dt (.list ((num n).map PyData.int))) (updL L p m)
theorem ok_num {f : Addr} {fd : FuncData} (F : Fun K "write_number" "write_number" s_write_number f fd) (T : Txt K mg) : FnOk P w K mg base CX0 1 f fd P_write_number (lift sp_num) := by
  refine fnok0 F sc_write_number (fun as L Q XC h => by obtain ⟨_, rfl, _⟩ := h; rfl) ?_
  intro cdv A outer s0 H E hr as L Q XC h
  obtain ⟨n, rfl, hz, q⟩ := h
  have hl := num_len hz
  refine mss_cons (ms_set 1 sc_write_number.nd rfl (.inl rfl) (me_lst0 fun p hp => ?_))
  refine mss_cons (ms_while (fun m ρ L' => ∃ acc : List Int, ρ = [some (.dt (.int (m : Int))), some (.vl (.ref p))] ∧ L' = updL L p (.lst (Ints acc)) ∧ acc ++ num m = num n) n ⟨[], rfl, rfl, rfl⟩ ?_)
  intro m ρ L' hI
  obtain ⟨acc, rfl, rfl, e⟩ := hI
  have hla : acc.length ≤ 3 := by
    have := congrArg List.length e
    rw [List.length_append] at this
    omega
  refine MT.imp (tx_cmp (ex_var 0 rfl rfl (.inl rfl)) ex_int (by walk_at "oge") (nomark _)) fun k L' h => ?_
  obtain ⟨e1, e2⟩ := h
  subst e1 e2
  refine ⟨fun hT => ?_, fun hF => ?_⟩
  · have hm : ¬ m < 128 := by have := of_decide_eq_true hT; omega
    rw [num_ge hm] at e
    have hz1 : (Ints acc).length < sizeLine := by rw [ints_len, sizeLine_eq]; omega
    refine mss_cons (ms_expr (EX.to (ex_append (ex_var 1 rfl rfl (.inl rfl)) (by walk_at "lk") (ex_bin (ex_bin (ex_var 0 rfl rfl (.inl rfl)) ex_int (o_mod (by decide))) ex_int (by walk_at "oadd")) (by walk_at "lk") (by walk_at "sz")) ?_))
    refine mss_cons (ms_set 0 sc_write_number.nd rfl (by first | exact .inl rfl | exact .inr rfl) (EX.to (ex_bin (ex_var 0 rfl rfl (.inl rfl)) ex_int (o_div ⟨by decide, by decide⟩)) ?_))
    refine mss_nil ⟨m / 128, by omega, acc ++ [((m % 128 + 128 : Nat) : Int)], ?_, ?_, by rw [← e, List.append_assoc]; rfl⟩
    · rfl
    · rw [updL_updL, ← ints_snoc]
      rfl
  · have hm : m < 128 := by have := of_decide_eq_false hF; omega
    rw [num_lt hm] at e
    have hz1 : (acc.map PyData.int).length + [PyData.int (m : Int)].length ≤ sizeLine := by rw [List.length_map, List.length_singleton, sizeLine_eq]; omega
    refine MSs.le (L' := updL L p (.lst ((acc.map PyData.int).map Rv.dt))) (ρ' := _) ?_ (fun _ _ h => h) ⟨rfl, fun _ _ e => e⟩
    have hLL : LL (updL L p (.lst ((acc.map PyData.int).map Rv.dt))) (.vl (.ref p)) (acc.map PyData.int) := LL.h updL_same
    refine mss_cons (ms_ret (EX.to (ex_bin (ex_var 1 rfl rfl (.inl rfl)) (ex_lst (ad_cons (ex_var 0 rfl rfl (.inl rfl)) ad_nil) (by walk_at "few")) (by walk_at "oadd")) ?_))
    have e2 : acc.map PyData.int ++ [PyData.int (m : Int)] = (num n).map PyData.int := by rw [← e, List.map_append]; rfl
    rw [e2]
    exact q p _ hp
theorem ok_lnum {f : Addr} {fd : FuncData} (F : Fun K "_law_number" "_law_number" s_law_number f fd) (T : Txt K mg) : FnOk P w K mg base CX0 1 f fd P_law_number (lift sp_num) := by
  refine fnok0 F sc_law_number (fun as L Q XC h => by obtain ⟨_, rfl, _⟩ := h; rfl) ?_
  intro cdv A outer s0 H E hr as L Q XC h
  obtain ⟨n, rfl, hz, q⟩ := h
  have hl := num_len hz
  refine mss_cons (ms_set 1 sc_law_number.nd rfl (.inl rfl) (me_lst0 fun p hp => ?_))
  refine mss_cons (ms_while (fun m ρ L' => ∃ acc : List Int, ρ = [some (.dt (.int (m : Int))), some (.vl (.ref p))] ∧ L' = updL L p (.lst (Ints acc)) ∧ acc ++ num m = num n) n ⟨[], rfl, rfl, rfl⟩ ?_)
  intro m ρ L' hI
  obtain ⟨acc, rfl, rfl, e⟩ := hI
  have hla : acc.length ≤ 3 := by
    have := congrArg List.length e
    rw [List.length_append] at this
    omega
  refine MT.imp (tx_cmp (ex_var 0 rfl rfl (.inl rfl)) ex_int (by walk_at "ogt") (nomark _)) fun k L' h => ?_
  obtain ⟨e1, e2⟩ := h
  subst e1 e2
  refine ⟨fun hT => ?_, fun hF => ?_⟩
  · have hm : ¬ m < 128 := by have := of_decide_eq_true hT; omega
    rw [num_ge hm] at e
    have hz1 : (Ints acc).length < sizeLine := by rw [ints_len, sizeLine_eq]; omega
    refine mss_cons (ms_expr (EX.to (ex_append (ex_var 1 rfl rfl (.inl rfl)) (by walk_at "lk") (ex_bin ex_int (ex_bin (ex_var 0 rfl rfl (.inl rfl)) ex_int (o_mod (by decide))) (by walk_at "oadd")) (by walk_at "lk") (by walk_at "sz")) ?_))
    refine mss_cons (ms_set 0 sc_law_number.nd rfl (by first | exact .inl rfl | exact .inr rfl) (EX.to (ex_bin (ex_var 0 rfl rfl (.inl rfl)) ex_int (o_div ⟨by decide, by decide⟩)) ?_))
    refine mss_nil ⟨m / 128, by omega, acc ++ [((m % 128 + 128 : Nat) : Int)], ?_, ?_, by rw [← e, List.append_assoc]; rfl⟩
    · rfl
    · rw [updL_updL, ← ints_snoc, show ((m % 128 + 128 : Nat) : Int) = 128 + (m : Int) % 128 by omega]
  · have hm : m < 128 := by have := of_decide_eq_false hF; omega
    rw [num_lt hm] at e
    have hz1 : (acc.map PyData.int).length + [PyData.int (m : Int)].length ≤ sizeLine := by rw [List.length_map, List.length_singleton, sizeLine_eq]; omega
    refine MSs.le (L' := updL L p (.lst ((acc.map PyData.int).map Rv.dt))) (ρ' := _) ?_ (fun _ _ h => h) ⟨rfl, fun _ _ e => e⟩
    have hLL : LL (updL L p (.lst ((acc.map PyData.int).map Rv.dt))) (.vl (.ref p)) (acc.map PyData.int) := LL.h updL_same
    refine mss_cons (ms_ret (EX.to (ex_bin (ex_var 1 rfl rfl (.inl rfl)) (ex_lst (ad_cons (ex_var 0 rfl rfl (.inl rfl)) ad_nil) (by walk_at "few")) (by walk_at "oadd")) ?_))
    have e2 : acc.map PyData.int ++ [PyData.int (m : Int)] = (num n).map PyData.int := by rw [← e, List.map_append]; rfl
    rw [e2]
    exact q p _ hp
variable {C D0 : Addr}
def sp_chk : Fs := fun as L Q _ => ∃ (r : Rv) (d : List Int), as = [r] ∧ LL L r (d.map PyData.int) ∧ Q (.dt (.int (chk d))) L
theorem chk_take {d : List Int} {i : Nat} {b : Int} (h : d[i]? = some b) : (31 * chk (d.take i) + b + 1) % 4294967296 = chk (d.take (i + 1)) := by
  unfold chk
  rw [take_snoc h, List.foldl_append]
  rfl
theorem ok_chk {f : Addr} {fd : FuncData} (F : Fun K "checksum" "checksum" s_checksum f fd) (T : TxR K mg C D0) : FnOk P w K mg base CX0 1 f fd P_checksum (lift sp_chk) := by
  refine fnok0 F sc_checksum (fun as L Q XC h => by obtain ⟨_, _, rfl, _⟩ := h; rfl) ?_
  intro cdv A outer s0 H E hr as L Q XC h
  obtain ⟨r, d, rfl, hL, q⟩ := h
  refine mss_cons (ms_set 1 sc_checksum.nd rfl (by first | exact .inl rfl | exact .inr rfl) (EX.to ex_int ?_))
  refine mss_cons (ms_for (tgt := (.n 2)) rfl (ix_lr (ex_var 0 rfl rfl (.inl rfl)) hL) (pgn_name 2 sc_checksum.nd rfl (by first | exact .inl rfl | exact .inr rfl)) (fun i ρ L' => ∃ k, ρ = [some r, some (.dt (.int (chk (d.take i)))), k] ∧ L' = L) ⟨none, rfl, rfl⟩ (fun i ρ L' _ ⟨k, _, e⟩ => by rw [e]; exact hL) ?_ ?_)
  · intro i y ρ L' hy hI
    obtain ⟨k, rfl, rfl⟩ := hI
    rw [List.getElem?_map, List.getElem?_map, List.getElem?_map] at hy
    cases hs : d[i]? with
    | none => rw [hs] at hy; cases hy
    | some b =>
      rw [hs] at hy
      cases hy
      refine ⟨_, rfl, ?_⟩
      refine mss_cons (ms_set 1 sc_checksum.nd rfl (by first | exact .inl rfl | exact .inr rfl) (EX.to (ex_bin (ex_bin (ex_bin (ex_bin ex_int (ex_var 1 rfl rfl (.inl rfl)) (o_mul (.inl (by decide)))) (ex_var 2 rfl rfl (.inl rfl)) (by walk_at "oadd")) ex_int (by walk_at "oadd")) (ex_gint (by rfl) T.g_CHECKSUM_LIMIT.choose_spec ⟨_, rfl⟩) (o_mod (by walk_at "sd"))) ?_))
      rw [chk_take hs]
      exact mss_nil ⟨_, rfl, rfl⟩
  · intro ρ L' hI
    obtain ⟨k, rfl, rfl⟩ := hI
    rw [List.length_map, List.length_map, List.length_map, List.take_length]
    refine mss_cons (ms_ret (EX.to (ex_var 1 rfl rfl (.inl rfl)) ?_))
    exact q
theorem ok_lchk {f : Addr} {fd : FuncData} (F : Fun K "_law_checksum" "_law_checksum" s_law_checksum f fd) (T : TxR K mg C D0) : FnOk P w K mg base CX0 1 f fd P_law_checksum (lift sp_chk) := by
  refine fnok0 F sc_law_checksum (fun as L Q XC h => by obtain ⟨_, _, rfl, _⟩ := h; rfl) ?_
  intro cdv A outer s0 H E hr as L Q XC h
  obtain ⟨r, d, rfl, hL, q⟩ := h
  refine mss_cons (ms_set 1 sc_law_checksum.nd rfl (by first | exact .inl rfl | exact .inr rfl) (EX.to ex_int ?_))
  refine mss_cons (ms_for (tgt := (.n 2)) rfl (ix_lr (ex_var 0 rfl rfl (.inl rfl)) hL) (pgn_name 2 sc_law_checksum.nd rfl (by first | exact .inl rfl | exact .inr rfl)) (fun i ρ L' => ∃ k, ρ = [some r, some (.dt (.int (chk (d.take i)))), k] ∧ L' = L) ⟨none, rfl, rfl⟩ (fun i ρ L' _ ⟨k, _, e⟩ => by rw [e]; exact hL) ?_ ?_)
  · intro i y ρ L' hy hI
    obtain ⟨k, rfl, rfl⟩ := hI
    rw [List.getElem?_map, List.getElem?_map, List.getElem?_map] at hy
    cases hs : d[i]? with
    | none => rw [hs] at hy; cases hy
    | some b =>
      rw [hs] at hy
      cases hy
      refine ⟨_, rfl, ?_⟩
      refine mss_cons (ms_set 1 sc_law_checksum.nd rfl (by first | exact .inl rfl | exact .inr rfl) (EX.to (ex_bin (ex_bin (ex_bin (ex_bin ex_int (ex_var 1 rfl rfl (.inl rfl)) (o_mul (.inl (by decide)))) (ex_var 2 rfl rfl (.inl rfl)) (by walk_at "oadd")) ex_int (by walk_at "oadd")) ex_int (o_mod (by decide))) ?_))
      rw [chk_take hs]
      exact mss_nil ⟨_, rfl, rfl⟩
  · intro ρ L' hI
    obtain ⟨k, rfl, rfl⟩ := hI
    rw [List.length_map, List.length_map, List.length_map, List.take_length]
    refine mss_cons (ms_ret (EX.to (ex_var 1 rfl rfl (.inl rfl)) ?_))
    exact q
theorem wz {d : List Int} (hz : d.length ≤ 1000000) : (num d.length).length ≤ 3 := (num_len (by omega)).1
def sp_rec : Fs := fun as L Q _ => ∃ (r : Rv) (d : List Int), as = [r] ∧ LL L r (d.map PyData.int) ∧ d.length ≤ 1000000 ∧ Q (.dt (.list ((wrec d).map PyData.int))) L
theorem ok_rec {f : Addr} {fd : FuncData} (F : Fun K "write_record" "write_record" s_write_record f fd) (T : TxR K mg C D0) (G_checksum : FnM P w K mg base 1 "checksum" P_checksum sp_chk) (G_write_number : FnM P w K mg base 1 "write_number" P_write_number (fgt sp_num)) : FnOk P w K mg base CX0 2 f fd P_write_record (lift sp_rec) := by
  refine fnok0 F sc_write_record (fun as L Q XC h => by obtain ⟨_, _, rfl, _⟩ := h; rfl) ?_
  intro cdv A outer s0 H E hr as L Q XC h
  obtain ⟨r, d, rfl, hL, hz, q⟩ := h
  have hn := wz hz
  have hm : (d.map PyData.int).length < 2097152 := by rw [List.length_map]; omega
  refine mss_cons (ms_set 1 sc_write_record.nd rfl (by first | exact .inl rfl | exact .inr rfl) (EX.to (ex_call G_checksum (hr.mono (by decide)) (by rfl) (ax_cons (ex_var 0 rfl rfl (.inl rfl)) ax_nil) ⟨_, _, rfl, by walk_at "ll", rfl, rfl⟩) ?_))
  refine mss_cons (ms_set 2 sc_write_record.nd rfl (by first | exact .inl rfl | exact .inr rfl) (EX.to (ex_lst (ad_cons (ex_bin (ex_var 1 rfl rfl (.inl rfl)) ex_int (o_div ⟨by decide, by decide⟩)) (ad_cons (ex_bin (ex_bin (ex_var 1 rfl rfl (.inl rfl)) ex_int (o_div ⟨by decide, by decide⟩)) ex_int (o_mod (by decide))) (ad_cons (ex_bin (ex_bin (ex_var 1 rfl rfl (.inl rfl)) ex_int (o_div ⟨by decide, by decide⟩)) ex_int (o_mod (by decide))) (ad_cons (ex_bin (ex_var 1 rfl rfl (.inl rfl)) ex_int (o_mod (by decide))) ad_nil)))) (by walk_at "few")) ?_))
  refine mss_cons (ms_ret (EX.to (ex_bin (ex_bin (ex_call G_write_number (hr.mono (by decide)) (by rfl) (ax_cons (ex_callB (ax_cons (ex_var 0 rfl rfl (.inl rfl)) ax_nil) (by walk_at "c_len") (by rfl) T.m_len PySem.boot_len) ax_nil) ⟨_, rfl, by walk_at "sd", fun p m hp => ⟨_, le_upd hp, rfl, rfl⟩⟩) (ex_callTy (ax_cons (ex_var 0 rfl rfl (.inl rfl)) ax_nil) (by walk_at "c_list") (by rfl) T.m_list (by decide +kernel)) (by walk_at "oadd")) (ex_var 2 rfl rfl (.inl rfl)) (by walk_at "oadd")) ?_))
  have e : (num d.length).map PyData.int ++ d.map PyData.int ++ [PyData.int (chk d / 16777216), .int (chk d / 65536 % 256), .int (chk d / 256 % 256), .int (chk d % 256)] = (wrec d).map PyData.int := by
    unfold wrec tail4
    rw [List.map_append, List.map_append]
    rfl
  rw [show (d.map PyData.int).length = d.length from List.length_map .., e]
  exact q
theorem ok_lrec {f : Addr} {fd : FuncData} (F : Fun K "_law_record" "_law_record" s_law_record f fd) (T : TxR K mg C D0) (G_law_checksum : FnM P w K mg base 1 "_law_checksum" P_law_checksum sp_chk) (G_law_number : FnM P w K mg base 1 "_law_number" P_law_number (fgt sp_num)) : FnOk P w K mg base CX0 2 f fd P_law_record (lift sp_rec) := by
  refine fnok0 F sc_law_record (fun as L Q XC h => by obtain ⟨_, _, rfl, _⟩ := h; rfl) ?_
  intro cdv A outer s0 H E hr as L Q XC h
  obtain ⟨r, d, rfl, hL, hz, q⟩ := h
  have hn := wz hz
  have hm : (d.map PyData.int).length < 2097152 := by rw [List.length_map]; omega
  refine mss_cons (ms_set 1 sc_law_record.nd rfl (by first | exact .inl rfl | exact .inr rfl) (EX.to (ex_call G_law_checksum (hr.mono (by decide)) (by rfl) (ax_cons (ex_var 0 rfl rfl (.inl rfl)) ax_nil) ⟨_, _, rfl, by walk_at "ll", rfl, rfl⟩) ?_))
  refine mss_cons (ms_ret (EX.to (ex_bin (ex_bin (ex_call G_law_number (hr.mono (by decide)) (by rfl) (ax_cons (ex_callB (ax_cons (ex_var 0 rfl rfl (.inl rfl)) ax_nil) (by walk_at "c_len") (by rfl) T.m_len PySem.boot_len) ax_nil) ⟨_, rfl, by walk_at "sd", fun p m hp => ⟨_, le_upd hp, rfl, rfl⟩⟩) (ex_var 0 rfl rfl (.inl rfl)) (by walk_at "oadd")) (ex_lst (ad_cons (ex_bin (ex_var 1 rfl rfl (.inl rfl)) ex_int (o_div ⟨by decide, by decide⟩)) (ad_cons (ex_bin (ex_bin (ex_var 1 rfl rfl (.inl rfl)) ex_int (o_div ⟨by decide, by decide⟩)) ex_int (o_mod (by decide))) (ad_cons (ex_bin (ex_bin (ex_var 1 rfl rfl (.inl rfl)) ex_int (o_div ⟨by decide, by decide⟩)) ex_int (o_mod (by decide))) (ad_cons (ex_bin (ex_var 1 rfl rfl (.inl rfl)) ex_int (o_mod (by decide))) ad_nil)))) (by walk_at "few")) (by walk_at "oadd")) ?_))
  have e : (num d.length).map PyData.int ++ d.map PyData.int ++ [PyData.int (chk d / 16777216), .int (chk d / 65536 % 256), .int (chk d / 256 % 256), .int (chk d % 256)] = (wrec d).map PyData.int := by
    unfold wrec tail4
    rw [List.map_append, List.map_append]
    rfl
  rw [show (d.map PyData.int).length = d.length from List.length_map .., e]
  exact q
end
end K11

set_option Elab.async false
set_option linter.all false
set_option maxRecDepth 100000
set_option maxHeartbeats 4000000
namespace K11
open PySem PySem.Spec PyProof.Rows L2 Cw
/-! ### small closers, each at its own key -/
local macro_rules | `(tactic| walk_at "oadd") => `(tactic| first | exact o_add | exact o_addS (by walk_at "sz") | exact o_cat (by walk_at "ll") (by walk_at "ll") (by walk_at "sz"))
local macro_rules | `(tactic| walk_at "osub") => `(tactic| exact o_sub)
local macro_rules | `(tactic| walk_at "omul") => `(tactic| first | exact o_mul (by walk_at "sd") | exact o_rep (by walk_at "ll") (by walk_at "sd") (by walk_at "sd") (by walk_at "sz"))
local macro_rules | `(tactic| walk_at "odiv") => `(tactic| first | exact o_div (by walk_at "sd") | exact o_divW (by walk_at "sd"))
local macro_rules | `(tactic| walk_at "olt") => `(tactic| exact o_lt)
local macro_rules | `(tactic| walk_at "ole") => `(tactic| exact o_le)
local macro_rules | `(tactic| walk_at "ogt") => `(tactic| exact o_gt)
local macro_rules | `(tactic| walk_at "oge") => `(tactic| exact o_ge)
local macro_rules | `(tactic| walk_at "oeq") => `(tactic| first | exact o_eqI | exact o_eqNI | exact o_eqS | exact o_eqB | exact o_eqR (Room.units (by assumption)) (by walk_at "dr") (by walk_at "dr") (by walk_at "sh") (by walk_at "sh"))
local macro_rules | `(tactic| walk_at "one") => `(tactic| first | exact o_neI | exact o_neS | exact o_neB | exact o_neR (Room.units (by assumption)) (by walk_at "dr") (by walk_at "dr") (by walk_at "sh") (by walk_at "sh"))
local macro_rules | `(tactic| walk_at "ois") => `(tactic| exact o_isN)
local macro_rules | `(tactic| walk_at "oisn") => `(tactic| exact o_notN)
local macro_rules | `(tactic| walk_at "iadd") => `(tactic| exact o_iadd)
local macro_rules | `(tactic| walk_at "isub") => `(tactic| exact o_isub)
local macro_rules | `(tactic| walk_at "lk") => `(tactic| first | assumption | exact updL_same | (refine Eq.trans (updL_ne (by first | assumption | (apply Ne.symm; assumption))) ?_; walk_at "lk"))
local macro_rules | `(tactic| walk_at "ll") => `(tactic| first | exact LL.dt | assumption | exact LL.h (by walk_at "lk"))
local macro_rules | `(tactic| walk_at "lr") => `(tactic| first | exact LL.dt | assumption | exact LR.h (by walk_at "lk"))
local macro_rules | `(tactic| walk_at "dr") => `(tactic| first | exact DD.dt | assumption | exact DD.ofLL (by walk_at "lk"))
local macro_rules | `(tactic| walk_at "sd") => `(tactic| first | omega | assumption | decide)
local macro_rules | `(tactic| walk_at "rg") => `(tactic| first | omega | assumption | decide)
local macro_rules | `(tactic| walk_at "sz") => `(tactic| first | assumption | (rw [sizeLine_eq]; first | omega | (simp; omega)))
local macro_rules | `(tactic| walk_at "osl") => `(tactic| first | exact s_str (by walk_at "sz") | exact s_lst (by walk_at "ll"))
local macro_rules | `(tactic| walk_at "c_len") => `(tactic| first | exact c_lenT | exact c_lenS (by walk_at "sz") | exact c_lenL (by walk_at "ll") | exact c_lenR (by walk_at "lr") | exact c_lenF (by assumption))
local macro_rules | `(tactic| walk_at "c_int") => `(tactic| first | exact c_int | exact c_intB)
local macro_rules | `(tactic| walk_at "c_min") => `(tactic| exact c_min rfl)
local macro_rules | `(tactic| walk_at "c_max") => `(tactic| exact c_max rfl)
local macro_rules | `(tactic| walk_at "c_ord") => `(tactic| exact c_ord (by walk_at "sz"))
local macro_rules | `(tactic| walk_at "c_list") => `(tactic| first | exact c_listT | exact c_list (by walk_at "ll") | exact c_listF (by assumption))
local macro_rules | `(tactic| walk_at "c_tuple") => `(tactic| first | exact c_tupleT | exact c_tuple (by walk_at "ll"))
local macro_rules | `(tactic| walk_at "c_isinstance") => `(tactic| exact c_isi (by walk_at "dr") (by decide))
local macro_rules | `(tactic| walk_at "few") => `(tactic| first | decide | exact Nat.le_of_ble_eq_true rfl | (rw [sizeLine_eq]; exact Nat.le_of_ble_eq_true rfl) | assumption)
local macro_rules | `(tactic| walk_at "fl") => `(tactic| first | assumption | rfl)
local macro_rules | `(tactic| walk_at "nf") => `(tactic| first | rfl | decide +kernel)
local macro_rules | `(tactic| walk_at "at") => `(tactic| first | assumption | rfl | exact atI_nat (by assumption))
local macro_rules | `(tactic| walk_at "oix") => `(tactic| first | exact i_tup (by walk_at "at") | exact i_lst (by walk_at "ll") (by walk_at "at") | exact i_lstR (by walk_at "lr") (by walk_at "at") | exact i_str (by walk_at "sz") (by walk_at "at") | exact i_lstF (by assumption) (by walk_at "at"))
local macro_rules | `(tactic| walk_at "ixn") => `(tactic| first | assumption | rfl)
local macro_rules | `(tactic| walk_at "okd") => `(tactic| first | rfl | assumption)
local macro_rules | `(tactic| walk_at "wr") => `(tactic| first | assumption | omega)
local macro_rules | `(tactic| walk_at "shn") => `(tactic| first | exact fun z => absurd z (by assumption) | exact fun z => absurd rfl z | exact fun _ => ⟨rfl, rfl⟩)
local macro_rules | `(tactic| walk_at "onin") => `(tactic| exact o_notIn2S)
local macro_rules | `(tactic| walk_at "okp") => `(tactic| first | assumption | exact nxt_p (by walk_at "okp"))

theorem updL_self {L : Led} {p : Addr} {m : MO} (h : L p = some m) : updL L p m = L := by
  funext a
  by_cases ha : a = p
  · subst ha; rw [updL_same, h]
  · rw [updL_ne ha]
abbrev rdO (C : Addr) (xs : List Int) (i : Nat) : MO := .ins C [("data", .dt (.list (xs.map PyData.int))), ("at", .dt (.int (i : Int)))]
theorem ne_da : ¬ (("data" : Str) = "at") := by decide +kernel
theorem ne_ad : ¬ (("at" : Str) = "data") := by decide +kernel
theorem rd_lk1 (x y : Rv) : List.lookup ("data" : Str) [(("data" : Str), x), ("at", y)] = some x := by simp [List.lookup]
theorem rd_lk2 (x y : Rv) : List.lookup ("at" : Str) [(("data" : Str), x), ("at", y)] = some y := by
  have h : (("at" : Str) == "data") = false := by simpa using ne_ad
  simp [List.lookup, h]
theorem rd_put (x y z : Rv) : putR "at" z [(("data" : Str), x), ("at", y)] = [(("data" : Str), x), ("at", z)] := by
  simp only [putR, if_neg ne_da, if_true]
section
variable {P : Program} {w : World} {K : PySem.W.Frag} {mg : Str → Option Value} {base : Heap} {C D0 : Addr}
def sp_init (C : Addr) : Fs := fun as L Q _ => ∃ p r xs, as = [.vl (.ref p), r] ∧ L p = some (.ins C []) ∧ LL L r (List.map PyData.int xs) ∧ Q (.dt .none) (updL L p (rdO C xs 0))
theorem ok_init {f : Addr} {fd : FuncData} (F : Fun K "__init__" "Reader.__init__" s_Reader_init f fd) (T : TxR K mg C D0) : FnOk P w K mg base CX0 1 f fd P_Reader_init (lift (sp_init C)) := by
  refine fnok0 F sc_Reader_init (fun as L Q XC h => by obtain ⟨_, _, _, rfl, _⟩ := h; rfl) ?_
  intro cdv A outer s0 H E hr as L Q XC h
  obtain ⟨p, r, xs, rfl, hp, hL, q⟩ := h
  refine mss_cons (ms_setfld (ex_callTy (ax_cons (ex_var 1 rfl rfl (.inl rfl)) ax_nil) (by walk_at "c_list") (by rfl) T.m_list (by decide +kernel)) (ex_var 0 rfl rfl (.inl rfl)) (by walk_at "lk") T.c_Reader T.n_Reader_data (by walk_at "few") ?_)
  refine mss_cons (ms_setfld ex_int (ex_var 0 rfl rfl (.inl rfl)) (by walk_at "lk") T.c_Reader T.n_Reader_at (by walk_at "few") ?_)
  refine mss_nil ?_
  rw [updL_updL]
  have e : (MO.ins C (putR "at" (.dt (.int 0)) (putR "data" (.dt (.list (xs.map PyData.int))) []))) = rdO C xs 0 := by
    simp only [putR, if_neg ne_da]
    rfl
  rw [e]
  exact q
def sp_byte (C D0 : Addr) : Fs := fun as L Q XC => ∃ p xs i, as = [.vl (.ref p)] ∧ L p = some (rdO C xs i) ∧ xs.length ≤ 1000 ∧ (xs[i]? = none → XC (.ref D0) L) ∧ ∀ b, xs[i]? = some b → Q (.dt (.int b)) (updL L p (rdO C xs (i + 1)))
theorem ok_byte {f : Addr} {fd : FuncData} (F : Fun K "read_byte" "Reader.read_byte" s_Reader_read_byte f fd) (T : TxR K mg C D0) : FnOk P w K mg base (L2.CX P w) 1 f fd P_Reader_read_byte (lift (sp_byte C D0)) := by
  refine fnokX F sc_Reader_read_byte (fun as L Q XC h => by obtain ⟨_, _, _, rfl, _⟩ := h; rfl) ?_
  intro cdv A outer s0 H E hr as L Q XC h
  obtain ⟨p, xs, i, rfl, hp, hz, qx, q⟩ := h
  have k1 := rd_lk1 (.dt (.list (xs.map PyData.int))) (.dt (.int (i : Int)))
  have k2 := rd_lk2 (.dt (.list (xs.map PyData.int))) (.dt (.int (i : Int)))
  refine mss_cons (ms_ifx (tx_cmp (ex_fld (ex_var 0 rfl rfl (.inl rfl)) (by walk_at "lk") (by walk_at "fl") T.c_Reader T.n_Reader_at) (ex_callB (ax_cons (ex_fld (ex_var 0 rfl rfl (.inl rfl)) (by walk_at "lk") (by walk_at "fl") T.c_Reader T.n_Reader_data) ax_nil) (by walk_at "c_len") (by rfl) T.m_len PySem.boot_len) (by walk_at "oge") (nomark _)) (fun hT => ?_) (fun hF => ?_))
  · have h1 := of_decide_eq_true hT
    rw [List.length_map] at h1
    exact mss_cons (ms_raise PySem.F.excBase_ValueError T.xF T.g_DP T.kF (raises_own T.bF T.tF) (by rfl) (by rfl) (qx (List.getElem?_eq_none (by omega))))
  · have h1 := of_decide_eq_false hF
    rw [List.length_map] at h1
    have hi : i < xs.length := by omega
    have eg := List.getElem?_eq_getElem hi
    refine mss_nil (mss_cons (ms_augfld (ex_var 0 rfl rfl (.inl rfl)) (by walk_at "lk") T.c_Reader T.n_Reader_at (by walk_at "fl") ex_int (by walk_at "iadd") (by walk_at "lk") (by walk_at "few") ?_))
    rw [rd_put]
    have k1 := rd_lk1 (.dt (.list (xs.map PyData.int))) (.dt (.int ((i : Int) + 1)))
    have k2 := rd_lk2 (.dt (.list (xs.map PyData.int))) (.dt (.int ((i : Int) + 1)))
    have hat : atI (xs.map PyData.int) ((i : Int) + 1 - 1) = some (.int xs[i]) := by
      rw [show (i : Int) + 1 - 1 = (i : Int) by omega]
      exact atI_nat (by rw [List.getElem?_map, eg]; rfl)
    refine mss_cons (ms_ret (EX.to (ex_ix (ex_fld (ex_var 0 rfl rfl (.inl rfl)) (by walk_at "lk") (by walk_at "fl") T.c_Reader T.n_Reader_data) (ex_bin (ex_fld (ex_var 0 rfl rfl (.inl rfl)) (by walk_at "lk") (by walk_at "fl") T.c_Reader T.n_Reader_at) ex_int (by walk_at "osub")) (by walk_at "oix") (fun _ _ => rfl)) ?_))
    exact q _ eg
def sp_rdn (C D0 : Addr) : Fs := fun as L Q XC => ∃ p xs, as = [.vl (.ref p)] ∧ L p = some (rdO C xs 0) ∧ xs.length ≤ 1000 ∧ (rdF 60 0 xs = none → ∀ i, XC (.ref D0) (updL L p (rdO C xs i))) ∧ ∀ v n, rdF 60 0 xs = some (v, n) → Q (.dt (.int v)) (updL L p (rdO C xs n))
theorem ok_rdn {f : Addr} {fd : FuncData} (F : Fun K "read_number" "Reader.read_number" s_Reader_read_number f fd) (T : TxR K mg C D0) (G : MtX P w K mg base 1 C "read_byte" P_Reader_read_byte (sp_byte C D0)) : FnOk P w K mg base (L2.CX P w) 2 f fd P_Reader_read_number (lift (sp_rdn C D0)) := by
  refine fnokX F sc_Reader_read_number (fun as L Q XC h => by obtain ⟨_, _, rfl, _⟩ := h; rfl) ?_
  intro cdv A outer s0 H E hr as L Q XC h
  obtain ⟨p, xs, rfl, hp, hz, qx, q⟩ := h
  refine mss_cons (ms_set 1 sc_Reader_read_number.nd rfl (by first | exact .inl rfl | exact .inr rfl) (EX.to ex_int ?_))
  refine mss_cons (ms_set 2 sc_Reader_read_number.nd rfl (by first | exact .inl rfl | exact .inr rfl) (EX.to ex_int ?_))
  refine mss_cons (ms_for (tgt := (.n 3)) rfl (ix_range1 (ax_cons (ex_gint (by rfl) T.g_NUMBER_BYTES.choose_spec ⟨_, rfl⟩) ax_nil) (by walk_at "sd") (by walk_at "sd") (by rfl) T.m_range) (pgn_name 3 sc_Reader_read_number.nd rfl (by first | exact .inl rfl | exact .inr rfl)) (fun i ρ L' => ∃ t ix by', ρ = [some (.vl (.ref p)), some (.dt (.int t)), some (.dt (.int (128 ^ i))), ix, by'] ∧ L' = updL L p (rdO C xs i) ∧ rdF 60 0 xs = (rdF (60 - i) i (xs.drop i)).map fun x => (t + 128 ^ i * x.1, x.2))
    ⟨0, none, none, rfl, (updL_self hp).symm, ?_⟩ (fun _ _ _ _ _ => trivial) ?_ ?_)
  · rw [List.drop_zero]
    show rdF 60 0 xs = (rdF 60 0 xs).map _
    cases rdF 60 0 xs with
    | none => rfl
    | some x => simp
  · intro i y ρ L' hy hI
    obtain ⟨t, ix, by', rfl, rfl, e⟩ := hI
    obtain ⟨hi, rfl⟩ := rgY_at hy
    have hi60 : i < 60 := by omega
    refine ⟨_, rfl, ?_⟩
    have hp1 : updL L p (rdO C xs i) p = some (rdO C xs i) := updL_same
    obtain ⟨g, hg⟩ : ∃ g, 60 - i = g + 1 := ⟨59 - i, by omega⟩
    rw [hg] at e
    refine mss_cons (ms_set 4 sc_Reader_read_number.nd rfl (.inl rfl) (me_meth0X (ex_var 0 rfl rfl (.inl rfl)) hp1 (by walk_at "nf") T.c_Reader G (hr.mono (by decide)) ⟨p, xs, i, rfl, hp1, hz, fun hn => ?_, fun b hb => ?_⟩))
    · refine qx ?_ i
      rw [e, List.drop_eq_nil_of_le (List.getElem?_eq_none_iff.mp hn)]
      rfl
    · obtain ⟨hi2, hb2⟩ := List.getElem?_eq_some_iff.mp hb
      rw [updL_updL]
      rw [List.drop_eq_getElem_cons hi2, hb2] at e
      have e2 : rdF (g + 1) i (b :: xs.drop (i + 1)) = if b < 128 then (if b = 0 ∧ i > 0 then none else some (b % 128, i + 1)) else (rdF g (i + 1) (xs.drop (i + 1))).map fun x => (b % 128 + 128 * x.1, x.2) := rfl
      rw [e2] at e
      have hm : CMul (b % 128) (128 ^ i) := .inl (by have := Int.emod_nonneg b (show (128 : Int) ≠ 0 by decide); have := Int.emod_lt_of_pos b (show (0 : Int) < 128 by decide); omega)
      refine mss_cons (ms_aug 1 sc_Reader_read_number.nd rfl (by first | exact .inl rfl | exact .inr rfl) rfl (ex_bin (ex_bin (ex_var 4 rfl rfl (.inl rfl)) ex_int (o_mod (by decide))) (ex_var 2 rfl rfl (.inl rfl)) (by walk_at "omul")) (by walk_at "iadd") ?_)
      refine mss_cons (ms_ifx (tx_cmp (ex_var 4 rfl rfl (.inl rfl)) ex_int (by walk_at "olt") (nomark _)) (fun hT => ?_) (fun hF => ?_))
      · rw [if_pos (of_decide_eq_true hT)] at e
        refine mss_cons (ms_ifx (tx_w (wx_and (tx_cmp (ex_var 4 rfl rfl (.inl rfl)) ex_int (by walk_at "oeq") (nomark _)) (fun _ => (wx_and1 (tx_cmp (ex_var 3 rfl rfl (.inl rfl)) ex_int (by walk_at "ogt") (nomark _)))))) (fun hT => ?_) (fun hF => ?_))
        · have h2 : b = 0 ∧ i > 0 := by
            rw [Bool.and_eq_true] at hT
            exact ⟨of_decide_eq_true hT.1, by have := of_decide_eq_true hT.2; omega⟩
          rw [if_pos h2] at e
          exact mss_cons (ms_raise PySem.F.excBase_ValueError T.xF T.g_DP T.kF (raises_own T.bF T.tF) (by rfl) (by rfl) (qx e _))
        · have h2 : ¬ (b = 0 ∧ i > 0) := fun h => by
            rw [decide_eq_true h.1, decide_eq_true (show 0 + (i : Int) > 0 by omega)] at hF
            cases hF
          rw [if_neg h2] at e
          refine mss_nil (mss_cons (ms_ret (EX.to (ex_var 1 rfl rfl (.inl rfl)) ?_)))
          rw [Int.mul_comm (b % 128)]
          exact q _ _ e
      · rw [if_neg (of_decide_eq_false hF)] at e
        refine mss_nil (mss_cons (ms_set 2 sc_Reader_read_number.nd rfl (by first | exact .inl rfl | exact .inr rfl) (EX.to (ex_bin (ex_var 2 rfl rfl (.inl rfl)) ex_int (o_mul (.inr (by decide)))) ?_)))
        refine mss_nil ⟨t + b % 128 * 128 ^ i, some (.dt (.int (0 + (i : Int)))), some (.dt (.int b)), ?_, rfl, ?_⟩
        · rw [Int.pow_succ]
          rfl
        · rw [e, show 60 - (i + 1) = g by omega, Option.map_map]
          congr 1
          funext x
          show (t + 128 ^ i * (b % 128 + 128 * x.1), x.2) = (t + b % 128 * 128 ^ i + 128 ^ (i + 1) * x.1, x.2)
          rw [Int.pow_succ, Int.mul_add, Int.mul_comm (b % 128), Int.mul_assoc, Int.add_assoc]
  · intro ρ L' hI
    obtain ⟨t, ix, by', rfl, rfl, e⟩ := hI
    rw [rgY_len] at e ⊢
    exact mss_cons (ms_raise PySem.F.excBase_ValueError T.xF T.g_DP T.kF (raises_own T.bF T.tF) (by rfl) (by rfl) (qx (by rw [e]; rfl) _))
/-! ### the records -/
def rsV (s : Nat) : Option (Int × Nat) → PyData
  | none => .none
  | some (v, n) => .tuple [.int ((s : Int) + (n : Int)), .int v]
def sp_size : Fs := fun as L Q _ => ∃ r xs, ∃ s : Nat, as = [r, .dt (.int (s : Int))] ∧ LL L r (List.map PyData.int xs) ∧ ∀ L', Le L L' → Q (.dt (rsV s (rdF 60 0 ((xs.drop s).take 60)))) L'
theorem cut_60 (xs : List Int) (s : Nat) : cut (xs.map PyData.int) (some (s : Int)) (some ((s : Int) + 60)) = ((xs.drop s).take 60).map PyData.int := by
  rw [cut_map, show (s : Int) + 60 = ((s + 60 : Nat) : Int) by omega, cut_mid, ← List.take_drop]
theorem ok_size {f fI : Addr} {fd fdI : FuncData} (F : Fun K "_read_size" "_read_size" s_read_size f fd) (T : TxR K mg C D0) (mC : mg "Reader" = some (.ref C)) (M : Mk K C fI) (FI : FnOk P w K mg base CX0 1 fI fdI P_Reader_init (lift (sp_init C))) (bI : Binds K fdI P_Reader_init []) (G : MtX P w K mg base 2 C "read_number" P_Reader_read_number (sp_rdn C D0)) : FnOk P w K mg base CX0 3 f fd P_read_size (lift sp_size) := by
  refine fnok0 F sc_read_size (fun as L Q XC h => by obtain ⟨_, _, _, rfl, _⟩ := h; rfl) ?_
  intro cdv A outer s0 H E hr as L Q XC h
  obtain ⟨r, xs, s, rfl, hL, q⟩ := h
  refine mss_cons (ms_set 2 sc_read_size.nd rfl (.inl rfl) (me_make M FI bI (hr.mono (by decide)) (by rfl) mC (MA.imp (ax_cons (ex_slice (ex_var 0 rfl rfl (.inl rfl)) (px_some (ex_var 1 rfl rfl (.inl rfl))) (px_some (ex_bin (ex_var 1 rfl rfl (.inl rfl)) ex_int (by walk_at "oadd"))) (by walk_at "osl")) ax_nil) fun rs L1 h => ?_)))
  obtain ⟨e1, e2⟩ := h
  subst e1 e2
  intro p hp
  rw [cut_60]
  refine ⟨p, _, (xs.drop s).take 60, rfl, updL_same, LL.dt, rfl, ?_⟩
  rw [updL_updL]
  have hzy : ((xs.drop s).take 60).length ≤ 1000 := by rw [List.length_take]; omega
  have hlp : ∀ m, Le L1 (updL L1 p m) := fun m => le_upd hp
  generalize (xs.drop s).take 60 = ys at *
  have hp1 : updL L1 p (rdO C ys 0) p = some (rdO C ys 0) := updL_same
  refine mss_cons (ms_try (fun c ρ L' => c = .ref D0 ∧ rdF 60 0 ys = none ∧ ρ = [some r, some (.dt (.int (s : Int))), some (.vl (.ref p)), none] ∧ ∃ i, L' = updL L1 p (rdO C ys i)) rfl rfl ⟨by rfl, by rfl, .inl T.g_DP⟩ (fun W pn xe tk po => ?_) (fun c ρ L' h => ?_))
  · refine mss_cons (ms_set 3 sc_read_size.nd rfl (.inl rfl) (me_meth0X (ex_var 2 rfl rfl (.inl rfl)) hp1 (by walk_at "nf") T.c_Reader G (hr.mono (by decide)) ⟨p, ys, rfl, hp1, hzy, fun hn i => ⟨rfl, hn, rfl, i, by rw [updL_updL]⟩, fun v n hv => ?_⟩))
    rw [updL_updL]
    have k2 := rd_lk2 (.dt (.list (ys.map PyData.int))) (.dt (.int (n : Int)))
    have hp2 : updL L1 p (rdO C ys n) p = some (rdO C ys n) := updL_same
    refine mss_nil (mss_cons (ms_ret (EX.to (ex_tup (ad_cons (ex_bin (ex_var 1 rfl rfl (.inl rfl)) (ex_fld (ex_var 2 rfl rfl (.inl rfl)) (by walk_at "lk") (by walk_at "fl") T.c_Reader T.n_Reader_at) (by walk_at "oadd")) (ad_cons (ex_var 3 rfl rfl (.inl rfl)) ad_nil)) (by walk_at "few")) ?_)))
    have := q _ (hlp (rdO C ys n))
    rw [hv] at this
    exact this
  · obtain ⟨rfl, hn, rfl, i, rfl⟩ := h
    refine ⟨T.xm, fun a pn => ?_⟩
    refine mss_cons (ms_ret (EX.to ex_non ?_))
    have := q _ (hlp (rdO C ys i))
    rw [hn] at this
    exact this
end
end K11

set_option Elab.async false
set_option linter.all false
set_option maxRecDepth 100000
set_option maxHeartbeats 4000000
namespace K11
open PySem PySem.Spec PyProof.Rows L2 Cw
/-! ### small closers, each at its own key -/
local macro_rules | `(tactic| walk_at "oadd") => `(tactic| first | exact o_add | exact o_addS (by walk_at "sz") | exact o_cat (by walk_at "ll") (by walk_at "ll") (by walk_at "sz"))
local macro_rules | `(tactic| walk_at "osub") => `(tactic| exact o_sub)
local macro_rules | `(tactic| walk_at "omul") => `(tactic| first | exact o_mul (by walk_at "sd") | exact o_rep (by walk_at "ll") (by walk_at "sd") (by walk_at "sd") (by walk_at "sz"))
local macro_rules | `(tactic| walk_at "odiv") => `(tactic| first | exact o_div (by walk_at "sd") | exact o_divW (by walk_at "sd"))
local macro_rules | `(tactic| walk_at "olt") => `(tactic| exact o_lt)
local macro_rules | `(tactic| walk_at "ole") => `(tactic| exact o_le)
local macro_rules | `(tactic| walk_at "ogt") => `(tactic| exact o_gt)
local macro_rules | `(tactic| walk_at "oge") => `(tactic| exact o_ge)
local macro_rules | `(tactic| walk_at "oeq") => `(tactic| first | exact o_eqI | exact o_eqNI | exact o_eqS | exact o_eqB | exact o_eqR (Room.units (by assumption)) (by walk_at "dr") (by walk_at "dr") (by walk_at "sh") (by walk_at "sh"))
local macro_rules | `(tactic| walk_at "one") => `(tactic| first | exact o_neI | exact o_neS | exact o_neB | exact o_neR (Room.units (by assumption)) (by walk_at "dr") (by walk_at "dr") (by walk_at "sh") (by walk_at "sh"))
local macro_rules | `(tactic| walk_at "ois") => `(tactic| exact o_isN)
local macro_rules | `(tactic| walk_at "oisn") => `(tactic| exact o_notN)
local macro_rules | `(tactic| walk_at "iadd") => `(tactic| exact o_iadd)
local macro_rules | `(tactic| walk_at "isub") => `(tactic| exact o_isub)
local macro_rules | `(tactic| walk_at "lk") => `(tactic| first | assumption | exact updL_same | (refine Eq.trans (updL_ne (by first | assumption | (apply Ne.symm; assumption))) ?_; walk_at "lk"))
local macro_rules | `(tactic| walk_at "ll") => `(tactic| first | exact LL.dt | assumption | exact LL.h (by walk_at "lk"))
local macro_rules | `(tactic| walk_at "lr") => `(tactic| first | exact LL.dt | assumption | exact LR.h (by walk_at "lk"))
local macro_rules | `(tactic| walk_at "dr") => `(tactic| first | exact DD.dt | assumption | exact DD.ofLL (by walk_at "lk"))
local macro_rules | `(tactic| walk_at "sd") => `(tactic| first | omega | assumption | decide)
local macro_rules | `(tactic| walk_at "rg") => `(tactic| first | omega | assumption | decide)
local macro_rules | `(tactic| walk_at "sz") => `(tactic| first | assumption | (rw [sizeLine_eq]; first | omega | (simp; omega)))
local macro_rules | `(tactic| walk_at "osl") => `(tactic| first | exact s_str (by walk_at "sz") | exact s_lst (by walk_at "ll"))
local macro_rules | `(tactic| walk_at "c_len") => `(tactic| first | exact c_lenT | exact c_lenS (by walk_at "sz") | exact c_lenL (by walk_at "ll") | exact c_lenR (by walk_at "lr") | exact c_lenF (by assumption))
local macro_rules | `(tactic| walk_at "c_int") => `(tactic| first | exact c_int | exact c_intB)
local macro_rules | `(tactic| walk_at "c_min") => `(tactic| exact c_min rfl)
local macro_rules | `(tactic| walk_at "c_max") => `(tactic| exact c_max rfl)
local macro_rules | `(tactic| walk_at "c_ord") => `(tactic| exact c_ord (by walk_at "sz"))
local macro_rules | `(tactic| walk_at "c_list") => `(tactic| first | exact c_listT | exact c_list (by walk_at "ll") | exact c_listF (by assumption))
local macro_rules | `(tactic| walk_at "c_tuple") => `(tactic| first | exact c_tupleT | exact c_tuple (by walk_at "ll"))
local macro_rules | `(tactic| walk_at "c_isinstance") => `(tactic| exact c_isi (by walk_at "dr") (by decide))
local macro_rules | `(tactic| walk_at "few") => `(tactic| first | decide | exact Nat.le_of_ble_eq_true rfl | (rw [sizeLine_eq]; exact Nat.le_of_ble_eq_true rfl) | assumption)
local macro_rules | `(tactic| walk_at "fl") => `(tactic| first | assumption | rfl)
local macro_rules | `(tactic| walk_at "nf") => `(tactic| first | rfl | decide +kernel)
local macro_rules | `(tactic| walk_at "at") => `(tactic| first | assumption | rfl | exact atI_nat (by assumption))
local macro_rules | `(tactic| walk_at "oix") => `(tactic| first | exact i_tup (by walk_at "at") | exact i_lst (by walk_at "ll") (by walk_at "at") | exact i_lstR (by walk_at "lr") (by walk_at "at") | exact i_str (by walk_at "sz") (by walk_at "at") | exact i_lstF (by assumption) (by walk_at "at"))
local macro_rules | `(tactic| walk_at "ixn") => `(tactic| first | assumption | rfl)
local macro_rules | `(tactic| walk_at "okd") => `(tactic| first | rfl | assumption)
local macro_rules | `(tactic| walk_at "wr") => `(tactic| first | assumption | omega)
local macro_rules | `(tactic| walk_at "shn") => `(tactic| first | exact fun z => absurd z (by assumption) | exact fun z => absurd rfl z | exact fun _ => ⟨rfl, rfl⟩)
local macro_rules | `(tactic| walk_at "onin") => `(tactic| exact o_notIn2S)
local macro_rules | `(tactic| walk_at "okp") => `(tactic| first | assumption | exact nxt_p (by walk_at "okp"))

local macro_rules | `(tactic| walk_at "sh") => `(tactic| first | exact PySem.W.ke_shaped_ints _ | (rw [cut_map]; exact PySem.W.ke_shaped_ints _))
theorem eqv_intsD (a b : List Int) : PyData.eqv (.list (a.map PyData.int)) (.list (b.map PyData.int)) = decide (a = b) := by
  have h : ∀ a b : List Int, PyData.eqvAll (a.map PyData.int) (b.map PyData.int) = decide (a = b) := by
    intro a
    induction a with
    | nil =>
      intro b
      cases b with
      | nil => simp only [List.map_nil, PyData.eqvAll]; rfl
      | cons y b => simp only [List.map_nil, List.map_cons, PyData.eqvAll]; exact (decide_eq_false (by simp)).symm
    | cons x a ih =>
      intro b
      cases b with
      | nil => simp only [List.map_nil, List.map_cons, PyData.eqvAll]; exact (decide_eq_false (by simp)).symm
      | cons y b =>
        simp only [List.map_cons, PyData.eqvAll, PyData.eqv, ih]
        by_cases h1 : x = y <;> by_cases h2 : a = b <;> simp [h1, h2]
  simp only [PyData.eqv, h]
abbrev lst (d : List Int) : PyData := .list (d.map PyData.int)
section
variable {P : Program} {w : World} {K : PySem.W.Frag} {mg : Str → Option Value} {base : Heap} {C D0 : Addr}
def sp_reads : Fs := fun as L Q _ => ∃ r xs RS T, as = [r] ∧ LL L r (List.map PyData.int xs) ∧ xs.length ≤ 100000 ∧ Prs xs 0 RS T ∧ ∀ L', Le L L' → Q (.dt (.tuple [.list (RS.map lst), .int (T : Int)])) L'
def whBody : Stmt → List Stmt
  | .While _ b _ _ => b
  | _ => []
theorem rsV_none {s : Nat} {o : Option (Int × Nat)} : isNone (.dt (rsV s o)) = o.isNone := by cases o <;> rfl
theorem ok_reads {f : Addr} {fd : FuncData} (F : Fun K "read_records" "read_records" s_read_records f fd) (T : TxR K mg C D0) (G_read_size' : FnM P w K mg base 3 "_read_size" P_read_size sp_size) (G_write_record : FnM P w K mg base 2 "write_record" P_write_record sp_rec) : FnOk P w K mg base CX0 4 f fd P_read_records (lift sp_reads) := by
  refine fnok0 F sc_read_records (fun as L Q XC h => by obtain ⟨_, _, _, _, rfl, _⟩ := h; rfl) ?_
  intro cdv A outer s0 H E hr as L Q XC h
  obtain ⟨r, xs, RS, TT, rfl, hL, hz, hP, q⟩ := h
  have G_read_size := G_read_size'.forget
  refine mss_cons (ms_set 1 sc_read_records.nd rfl (.inl rfl) (me_lst0 fun p hp => ?_))
  have hLp : ∀ m, LL (updL L p m) r (xs.map PyData.int) := fun m => hL.upd hp
  refine mss_cons (ms_set 2 sc_read_records.nd rfl (by first | exact .inl rfl | exact .inr rfl) (EX.to ex_int ?_))
  have hL1 := hLp (.lst [])
  refine mss_cons (ms_set 3 sc_read_records.nd rfl (by first | exact .inl rfl | exact .inr rfl) (EX.to (ex_call G_read_size (hr.mono (by decide)) (by rfl) (ax_cons (ex_var 0 rfl rfl (.inl rfl)) (ax_cons (ex_var 2 rfl rfl (.inl rfl)) ax_nil)) ⟨r, xs, 0, rfl, hL1, fun L' l => ⟨_, l, rfl, rfl⟩⟩) ?_))
  refine mss_cons (ms_while (fun m ρ L' => ∃ (acc rs : List (List Int)) (s : Nat) (b sz rc e : Option Rv), ρ = [some r, some (.vl (.ref p)), some (.dt (.int (s : Int))), some (.dt (rsV s (rdF 60 0 ((xs.drop s).take 60)))), b, sz, rc, e] ∧ L' = updL L p (.lst ((acc.map lst).map Rv.dt)) ∧ Prs xs s rs TT ∧ acc ++ rs = RS ∧ m = rs.length ∧ acc.length ≤ s ∧ s ≤ 100000) RS.length ⟨[], RS, 0, none, none, none, none, rfl, rfl, hP, rfl, rfl, Nat.le_refl _, by omega⟩ ?_)
  intro m ρ L' hI
  obtain ⟨acc, rs, s, b0, sz0, rc0, e0, rfl, rfl, hp2, hacc, rfl, has, hsz⟩ := hI
  have hL1 := hLp (.lst ((acc.map lst).map Rv.dt))
  have hp1 : updL L p (.lst ((acc.map lst).map Rv.dt)) p = some (.lst ((acc.map lst).map Rv.dt)) := updL_same
  -- what is left when the loop has ended
  have fin : ∀ {b sz rc e}, rs = [] → s = TT → MSs (y0 P w K mg base N_read_records "read_records" (defScope s_read_records) f cdv A outer s0 H E) ((defBody s_read_records).drop 4) (fun x L' => Q (.dt .none) L') { rt := Q } [some r, some (.vl (.ref p)), some (.dt (.int (s : Int))), some (.dt (rsV s (rdF 60 0 ((xs.drop s).take 60)))), b, sz, rc, e] (updL L p (.lst ((acc.map lst).map Rv.dt))) := by
    intro b sz rc e h1 h2
    subst h1 h2
    rw [List.append_nil] at hacc
    subst hacc
    refine MSs.settle 1 rfl hp1 ?_
    refine mss_cons (ms_ret (EX.to (ex_tup (ad_cons (ex_var 1 rfl rfl (.inl rfl)) (ad_cons (ex_var 2 rfl rfl (.inl rfl)) ad_nil)) (by walk_at "few")) ?_))
    refine q _ fun a m h => ?_
    unfold delL
    rw [if_neg (ne_led h hp), updL_ne (ne_led h hp)]
    exact h
  refine MT.imp (tx_cmp (ex_var 3 rfl rfl (.inl rfl)) ex_non (by walk_at "oisn") (nomark _)) fun k L' h => ?_
  obtain ⟨e1, e2⟩ := h
  subst e1 e2
  rw [rsV_none]
  have hLx : xs.length ≤ 100000 := hz
  have body : ∀ u n : Nat, rdF 60 0 ((xs.drop s).take 60) = some ((u : Int), n) →
      ((s + n + u + 4 > xs.length ∨ tail4 (chk ((xs.drop (s + n)).take u)) ≠ (xs.drop (s + n + u)).take 4) → rs = [] ∧ s = TT) →
      (s + n + u + 4 ≤ xs.length → tail4 (chk ((xs.drop (s + n)).take u)) = (xs.drop (s + n + u)).take 4 → ∃ rs', rs = (xs.drop (s + n)).take u :: rs' ∧ Prs xs (s + n + u + 4) rs' TT) →
      MSs (y0 P w K mg base N_read_records "read_records" (defScope s_read_records) f cdv A outer s0 H E) (whBody ((defBody s_read_records).getD 3 (.Pass ⟨0, 0, 0, 0⟩))) (fun ρ Lq => ∃ m', m' < rs.length ∧ ∃ (acc rs : List (List Int)) (s : Nat) (b sz rc e : Option Rv), ρ = [some r, some (.vl (.ref p)), some (.dt (.int (s : Int))), some (.dt (rsV s (rdF 60 0 ((xs.drop s).take 60)))), b, sz, rc, e] ∧ Lq = updL L p (.lst ((acc.map lst).map Rv.dt)) ∧ Prs xs s rs TT ∧ acc ++ rs = RS ∧ m' = rs.length ∧ acc.length ≤ s ∧ s ≤ 100000)
        { rt := Q, ct := fun ρ Lq => ∃ m', m' < rs.length ∧ ∃ (acc rs : List (List Int)) (s : Nat) (b sz rc e : Option Rv), ρ = [some r, some (.vl (.ref p)), some (.dt (.int (s : Int))), some (.dt (rsV s (rdF 60 0 ((xs.drop s).take 60)))), b, sz, rc, e] ∧ Lq = updL L p (.lst ((acc.map lst).map Rv.dt)) ∧ Prs xs s rs TT ∧ acc ++ rs = RS ∧ m' = rs.length ∧ acc.length ≤ s ∧ s ≤ 100000,
          bk := fun ρ L => MSs (y0 P w K mg base N_read_records "read_records" (defScope s_read_records) f cdv A outer s0 H E) ((defBody s_read_records).drop 4) (fun x L' => Q (.dt .none) L') { rt := Q } ρ L }
        [some r, some (.vl (.ref p)), some (.dt (.int (s : Int))), some (.dt (rsV s (rdF 60 0 ((xs.drop s).take 60)))), b0, sz0, rc0, e0] (updL L p (.lst ((acc.map lst).map Rv.dt))) := by
    intro u n ho hbrk hcont
    have fin' := fun {b sz rc e} => @fin b sz rc e
    rw [ho] at fin' ⊢
    refine mss_cons (ms_tup (pgn_tup rfl (pgn_cons 4 sc_read_records.nd rfl (by first | exact .inl rfl | exact .inr rfl) (pgn_cons 5 sc_read_records.nd rfl (by first | exact .inl rfl | exact .inr rfl) pgn_nil))) (EX.to (ex_var 3 rfl rfl (.inl rfl)) ⟨_, rfl, ?_⟩))
    have ec1 : cut (xs.map PyData.int) (some ((s : Int) + (n : Int))) (some ((s : Int) + (n : Int) + (u : Int))) = ((xs.drop (s + n)).take u).map PyData.int := by
      rw [cut_map, show (s : Int) + (n : Int) + (u : Int) = ((s + n + u : Nat) : Int) by omega, show (s : Int) + (n : Int) = ((s + n : Nat) : Int) by omega, cut_mid, ← List.take_drop]
    have ec2 : cut (xs.map PyData.int) (some ((s : Int) + (n : Int) + (u : Int) + 4 - 4)) (some ((s : Int) + (n : Int) + (u : Int) + 4)) = ((xs.drop (s + n + u)).take 4).map PyData.int := by
      rw [cut_map, show (s : Int) + (n : Int) + (u : Int) + 4 - 4 = ((s + n + u : Nat) : Int) by omega, show (s : Int) + (n : Int) + (u : Int) + 4 = ((s + n + u + 4 : Nat) : Int) by omega, cut_mid, ← List.take_drop]
    refine mss_cons (ms_set 6 sc_read_records.nd rfl (by first | exact .inl rfl | exact .inr rfl) (EX.to (ex_slice (ex_var 0 rfl rfl (.inl rfl)) (px_some (ex_var 4 rfl rfl (.inl rfl))) (px_some (ex_bin (ex_var 4 rfl rfl (.inl rfl)) (ex_var 5 rfl rfl (.inl rfl)) (by walk_at "oadd"))) (by walk_at "osl")) ?_))
    rw [ec1]
    have hrl : ((xs.drop (s + n)).take u).length ≤ 1000000 := by rw [List.length_take, List.length_drop]; omega
    generalize hrc : (xs.drop (s + n)).take u = rc at *
    have ec3 : cut ((wrec rc).map PyData.int) (some (-4)) none = (tail4 (chk rc)).map PyData.int := by
      rw [cut_map]
      have h1 : 4 ≤ (wrec rc).length := by unfold wrec; rw [List.length_append]; show 4 ≤ _ + 4; omega
      rw [show (some (-4) : Option Int) = some (-((4 : Nat) : Int)) from rfl, cut_last _ 4 h1 (by decide)]
      unfold wrec
      rw [List.length_append, show (tail4 (chk rc)).length = 4 from rfl, Nat.add_sub_cancel, List.drop_left]
    refine mss_cons (ms_set 7 sc_read_records.nd rfl (by first | exact .inl rfl | exact .inr rfl) (EX.to (ex_bin (ex_bin (ex_var 4 rfl rfl (.inl rfl)) (ex_var 5 rfl rfl (.inl rfl)) (by walk_at "oadd")) ex_int (by walk_at "oadd")) ?_))
    refine mss_cons (ms_ifx (tx_w (wx_or (tx_cmp (ex_var 7 rfl rfl (.inl rfl)) (ex_callB (ax_cons (ex_var 0 rfl rfl (.inl rfl)) ax_nil) (by walk_at "c_len") (by rfl) T.m_len PySem.boot_len) (by walk_at "ogt") (nomark _)) (fun _ => (wx_or1 (tx_cmp (ex_slice (ex_call G_write_record (hr.mono (by decide)) (by rfl) (ax_cons (ex_var 6 rfl rfl (.inl rfl)) ax_nil) ⟨_, _, rfl, by walk_at "ll", by walk_at "sd", rfl, rfl⟩) (px_some (ex_neg ex_int)) px_none (by walk_at "osl")) (ex_slice (ex_var 0 rfl rfl (.inl rfl)) (px_some (ex_bin (ex_var 7 rfl rfl (.inl rfl)) ex_int (by walk_at "osub"))) (px_some (ex_var 7 rfl rfl (.inl rfl))) (by walk_at "osl")) (by walk_at "one") (nomark _)))))) (fun hT => ?_) (fun hF => ?_))
    · rw [ec2, ec3, eqv_intsD, List.length_map, Bool.or_eq_true] at hT
      have h := hbrk (by
        rcases hT with h | h
        · exact .inl (by have := of_decide_eq_true h; omega)
        · exact .inr (fun z => by rw [decide_eq_true z] at h; cases h))
      refine mss_cons (ms_break ?_)
      exact fin' h.1 h.2
    · rw [ec2, ec3, eqv_intsD, List.length_map, Bool.or_eq_false_iff] at hF
      have h1 : s + n + u + 4 ≤ xs.length := by have := of_decide_eq_false hF.1; omega
      have h2 : tail4 (chk rc) = (xs.drop (s + n + u)).take 4 := by
        by_cases z : tail4 (chk rc) = (xs.drop (s + n + u)).take 4
        · exact z
        · have := hF.2; rw [decide_eq_false z] at this; cases this
      obtain ⟨rs', e1, e2⟩ := hcont h1 h2
      subst e1
      have hal : acc.length ≤ 100000 := by omega
      have hzz : ((acc.map lst).map Rv.dt).length < sizeLine := by rw [List.length_map, List.length_map, sizeLine_eq]; omega
      refine mss_nil (mss_cons (ms_expr (EX.to (ex_append (ex_var 1 rfl rfl (.inl rfl)) (by walk_at "lk") (ex_var 6 rfl rfl (.inl rfl)) (by walk_at "lk") (by walk_at "sz")) ?_)))
      rw [updL_updL, show (acc.map lst).map Rv.dt ++ [Rv.dt (.list (rc.map PyData.int))] = ((acc ++ [rc]).map lst).map Rv.dt by simp]
      refine mss_cons (ms_set 2 sc_read_records.nd rfl (by first | exact .inl rfl | exact .inr rfl) (EX.to (ex_var 7 rfl rfl (.inl rfl)) ?_))
      have hL1 := hLp (.lst (((acc ++ [rc]).map lst).map Rv.dt))
      have es : (s : Int) + (n : Int) + (u : Int) + 4 = ((s + n + u + 4 : Nat) : Int) := by omega
      rw [es]
      refine mss_cons (ms_set 3 sc_read_records.nd rfl (by first | exact .inl rfl | exact .inr rfl) (EX.to (ex_call G_read_size (hr.mono (by decide)) (by rfl) (ax_cons (ex_var 0 rfl rfl (.inl rfl)) (ax_cons (ex_var 2 rfl rfl (.inl rfl)) ax_nil)) ⟨r, xs, s + n + u + 4, rfl, hL1, fun L' l => ⟨_, l, rfl, rfl⟩⟩) ?_))
      exact mss_nil ⟨rs'.length, by rw [List.length_cons]; omega, acc ++ [rc], rs', s + n + u + 4, _, _, _, _, rfl, rfl, e2, by rw [List.append_assoc]; exact hacc, rfl, by rw [List.length_append, List.length_singleton]; omega, by omega⟩
  refine ⟨fun hT => ?_, fun hF => ?_⟩
  · cases hp2 with
    | stop hle hst =>
      cases ho : rdF 60 0 ((xs.drop TT).take 60) with
      | none => rw [ho] at hT; cases hT
      | some x =>
        obtain ⟨v, n⟩ := x
        unfold Stop at hst
        rw [ho] at hst
        obtain ⟨v0, hst⟩ := hst
        obtain ⟨u, rfl⟩ : ∃ u : Nat, v = u := ⟨v.toNat, by omega⟩
        rw [← ho]
        refine body u n ho (fun _ => ⟨rfl, rfl⟩) (fun h1 h2 => ?_)
        exfalso
        rw [Int.toNat_natCast, List.length_drop, List.drop_drop, List.drop_drop] at hst
        rcases hst with h | h
        · omega
        · exact h (by rw [show TT + (n + u) = TT + n + u by omega]; exact h2)
    | step hr he ht hrec =>
      refine body _ _ hr (fun h => ?_) (fun h1 h2 => ⟨_, rfl, hrec⟩)
      exfalso
      rcases h with h | h
      · omega
      · exact h ht
  · cases ho : rdF 60 0 ((xs.drop s).take 60) with
    | some x => rw [ho] at hF; cases hF
    | none =>
      cases hp2 with
      | stop hle hst => rw [← ho]; exact fin rfl rfl
      | step hr he ht hrec => rw [ho] at hr; cases hr
end
end K11

set_option Elab.async false
set_option linter.all false
set_option maxRecDepth 100000
set_option maxHeartbeats 4000000
namespace K11
open PySem PySem.Spec PyProof.Rows L2 Cw
/-! ### small closers, each at its own key -/
local macro_rules | `(tactic| walk_at "oadd") => `(tactic| first | exact o_add | exact o_addS (by walk_at "sz") | exact o_cat (by walk_at "ll") (by walk_at "ll") (by walk_at "sz"))
local macro_rules | `(tactic| walk_at "osub") => `(tactic| exact o_sub)
local macro_rules | `(tactic| walk_at "omul") => `(tactic| first | exact o_mul (by walk_at "sd") | exact o_rep (by walk_at "ll") (by walk_at "sd") (by walk_at "sd") (by walk_at "sz"))
local macro_rules | `(tactic| walk_at "odiv") => `(tactic| first | exact o_div (by walk_at "sd") | exact o_divW (by walk_at "sd"))
local macro_rules | `(tactic| walk_at "olt") => `(tactic| exact o_lt)
local macro_rules | `(tactic| walk_at "ole") => `(tactic| exact o_le)
local macro_rules | `(tactic| walk_at "ogt") => `(tactic| exact o_gt)
local macro_rules | `(tactic| walk_at "oge") => `(tactic| exact o_ge)
local macro_rules | `(tactic| walk_at "oeq") => `(tactic| first | exact o_eqI | exact o_eqNI | exact o_eqS | exact o_eqB | exact o_eqR (Room.units (by assumption)) (by walk_at "dr") (by walk_at "dr") (by walk_at "sh") (by walk_at "sh"))
local macro_rules | `(tactic| walk_at "one") => `(tactic| first | exact o_neI | exact o_neS | exact o_neB | exact o_neR (Room.units (by assumption)) (by walk_at "dr") (by walk_at "dr") (by walk_at "sh") (by walk_at "sh"))
local macro_rules | `(tactic| walk_at "ois") => `(tactic| exact o_isN)
local macro_rules | `(tactic| walk_at "oisn") => `(tactic| exact o_notN)
local macro_rules | `(tactic| walk_at "iadd") => `(tactic| exact o_iadd)
local macro_rules | `(tactic| walk_at "isub") => `(tactic| exact o_isub)
local macro_rules | `(tactic| walk_at "lk") => `(tactic| first | assumption | exact updL_same | (refine Eq.trans (updL_ne (by first | assumption | (apply Ne.symm; assumption))) ?_; walk_at "lk"))
local macro_rules | `(tactic| walk_at "ll") => `(tactic| first | exact LL.dt | assumption | exact LL.h (by walk_at "lk"))
local macro_rules | `(tactic| walk_at "lr") => `(tactic| first | exact LL.dt | assumption | exact LR.h (by walk_at "lk"))
local macro_rules | `(tactic| walk_at "dr") => `(tactic| first | exact DD.dt | assumption | exact DD.ofLL (by walk_at "lk"))
local macro_rules | `(tactic| walk_at "sd") => `(tactic| first | omega | assumption | decide)
local macro_rules | `(tactic| walk_at "rg") => `(tactic| first | omega | assumption | decide)
local macro_rules | `(tactic| walk_at "sz") => `(tactic| first | assumption | (rw [sizeLine_eq]; first | omega | (simp; omega)))
local macro_rules | `(tactic| walk_at "osl") => `(tactic| first | exact s_str (by walk_at "sz") | exact s_lst (by walk_at "ll"))
local macro_rules | `(tactic| walk_at "c_len") => `(tactic| first | exact c_lenT | exact c_lenS (by walk_at "sz") | exact c_lenL (by walk_at "ll") | exact c_lenR (by walk_at "lr") | exact c_lenF (by assumption))
local macro_rules | `(tactic| walk_at "c_int") => `(tactic| first | exact c_int | exact c_intB)
local macro_rules | `(tactic| walk_at "c_min") => `(tactic| exact c_min rfl)
local macro_rules | `(tactic| walk_at "c_max") => `(tactic| exact c_max rfl)
local macro_rules | `(tactic| walk_at "c_ord") => `(tactic| exact c_ord (by walk_at "sz"))
local macro_rules | `(tactic| walk_at "c_list") => `(tactic| first | exact c_listT | exact c_list (by walk_at "ll") | exact c_listF (by assumption))
local macro_rules | `(tactic| walk_at "c_tuple") => `(tactic| first | exact c_tupleT | exact c_tuple (by walk_at "ll"))
local macro_rules | `(tactic| walk_at "c_isinstance") => `(tactic| exact c_isi (by walk_at "dr") (by decide))
local macro_rules | `(tactic| walk_at "few") => `(tactic| first | decide | exact Nat.le_of_ble_eq_true rfl | (rw [sizeLine_eq]; exact Nat.le_of_ble_eq_true rfl) | assumption)
local macro_rules | `(tactic| walk_at "fl") => `(tactic| first | assumption | rfl)
local macro_rules | `(tactic| walk_at "nf") => `(tactic| first | rfl | decide +kernel)
local macro_rules | `(tactic| walk_at "at") => `(tactic| first | assumption | rfl | exact atI_nat (by assumption))
local macro_rules | `(tactic| walk_at "oix") => `(tactic| first | exact i_tup (by walk_at "at") | exact i_lst (by walk_at "ll") (by walk_at "at") | exact i_lstR (by walk_at "lr") (by walk_at "at") | exact i_str (by walk_at "sz") (by walk_at "at") | exact i_lstF (by assumption) (by walk_at "at"))
local macro_rules | `(tactic| walk_at "ixn") => `(tactic| first | assumption | rfl)
local macro_rules | `(tactic| walk_at "okd") => `(tactic| first | rfl | assumption)
local macro_rules | `(tactic| walk_at "wr") => `(tactic| first | assumption | omega)
local macro_rules | `(tactic| walk_at "shn") => `(tactic| first | exact fun z => absurd z (by assumption) | exact fun z => absurd rfl z | exact fun _ => ⟨rfl, rfl⟩)
local macro_rules | `(tactic| walk_at "onin") => `(tactic| exact o_notIn2S)
local macro_rules | `(tactic| walk_at "okp") => `(tactic| first | assumption | exact nxt_p (by walk_at "okp"))

local macro_rules | `(tactic| walk_at "sh") => `(tactic| first | exact PySem.W.ke_shaped_ints _ | (rw [cut_map]; exact PySem.W.ke_shaped_ints _))
/-! ### where the records end -/
theorem stop_none {xs : List Int} (h : rdF 60 0 (xs.take 60) = none) : Stop xs := by
  unfold Stop
  rw [h]
  trivial
theorem rd_front {n : Nat} (hn : n < 2097152) (rest : List Int) : rdF 60 0 ((num n ++ rest).take 60) = some ((n : Int), (num n).length) := by
  have hl := num_len hn
  rw [List.take_append, List.take_of_length_le (by omega)]
  have := rdF_num 60 0 n (rest.take (60 - (num n).length)) (by omega) (.inl rfl)
  rw [this, Nat.zero_add]
theorem stop_of {d d' t' fr : List Int} (hn : d.length < 2097152) (hd : d'.length = d.length) (ht : t'.length = 4) (h : tail4 (chk d') ≠ t') : Stop (num d.length ++ d' ++ t' ++ fr) := by
  unfold Stop
  rw [List.append_assoc, List.append_assoc, rd_front hn]
  refine ⟨Int.natCast_nonneg _, .inr ?_⟩
  rw [Int.toNat_natCast, List.drop_left, ← hd, List.take_left, ← List.drop_drop, List.drop_left, List.drop_left, ← ht, List.take_left]
  exact h
theorem stop_nil : Stop [] := stop_none rfl
theorem stop_cut {d : List Int} (hn : d.length < 2097152) {k : Nat} (hk : k < (wrec d).length) : Stop ((wrec d).take k) := by
  have hl := num_len hn
  by_cases h : k < (num d.length).length
  · refine stop_none ?_
    have e : ((wrec d).take k).take 60 = (num d.length).take k := by
      unfold wrec
      rw [List.append_assoc, List.take_append_of_le_length (by omega), List.take_of_length_le (by rw [List.length_take]; omega)]
    rw [e]
    exact rdF_cut 60 0 _ k h
  · unfold Stop
    have e : (wrec d).take k = num d.length ++ ((d ++ tail4 (chk d)).take (k - (num d.length).length)) := by
      unfold wrec
      rw [List.append_assoc, List.take_append, List.take_of_length_le (by omega)]
    have hk2 : ((wrec d).take k).length = k := by rw [List.length_take]; omega
    have hlen : (wrec d).length = (num d.length).length + d.length + 4 := by
      unfold wrec
      rw [List.length_append, List.length_append]
      rfl
    rw [hk2, e, rd_front hn]
    refine ⟨Int.natCast_nonneg _, .inl ?_⟩
    rw [Int.toNat_natCast]
    omega
theorem num_split : ∀ n : Nat, ∃ (ini : List Int) (l : Int), num n = ini ++ [l] ∧ 0 ≤ l ∧ ∀ y ∈ ini, ¬ y < 128
  | n => by
    by_cases h : n < 128
    · exact ⟨[], n, by rw [num_lt h]; rfl, by omega, fun _ h => nomatch h⟩
    · obtain ⟨ini, l, e, h1, h2⟩ := num_split (n / 128)
      refine ⟨((n % 128 + 128 : Nat) : Int) :: ini, l, by rw [num_ge h, e]; rfl, h1, fun y hy => ?_⟩
      rcases List.mem_cons.mp hy with rfl | hy
      · omega
      · exact h2 y hy
termination_by n => n
decreasing_by omega
theorem stop_zero {ini : List Int} {l : Int} (j : Nat) (rest : List Int) (hl : 0 ≤ l) (h : ∀ y ∈ ini, ¬ y < 128) (hz : ini.length + j + 2 ≤ 60) : Stop (ini ++ ([l + 128] ++ List.replicate j 128 ++ [0]) ++ rest) := by
  refine stop_none ?_
  have e : (ini ++ ([l + 128] ++ List.replicate j (128 : Int) ++ [0]) ++ rest).take 60 = (ini ++ ([l + 128] ++ List.replicate j (128 : Int))) ++ 0 :: rest.take (60 - (ini.length + j + 2)) := by
    have e1 : ini ++ ([l + 128] ++ List.replicate j (128 : Int) ++ [0]) ++ rest = (ini ++ ([l + 128] ++ List.replicate j (128 : Int)) ++ [0]) ++ rest := by simp
    have hlen : (ini ++ ([l + 128] ++ List.replicate j (128 : Int)) ++ [0]).length = ini.length + j + 2 := by simp; omega
    rw [e1, List.take_append, List.take_of_length_le (by omega), hlen]
    simp
  rw [e]
  refine rdF_zero 60 0 _ _ (fun y hy => ?_) (by simp; omega)
  rcases List.mem_append.mp hy with hy | hy
  · exact h y hy
  · rcases List.mem_append.mp hy with hy | hy
    · rw [List.mem_singleton.mp hy]; omega
    · rw [(List.mem_replicate.mp hy).2]; omega
def Byt (d : List Int) : Prop := ∀ b ∈ d, 0 ≤ b ∧ b < 256
theorem num_byt : ∀ n : Nat, n < 2097152 → Byt (num n)
  | n => fun hn b hb => by
    by_cases h : n < 128
    · rw [num_lt h] at hb
      rw [List.mem_singleton.mp hb]
      omega
    · rw [num_ge h] at hb
      rcases List.mem_cons.mp hb with rfl | hb
      · omega
      · exact num_byt (n / 128) (by omega) b hb
termination_by n => n
decreasing_by omega
theorem tail_byt (d : List Int) : Byt (tail4 (chk d)) := fun b hb => by
  have := chk_b d
  unfold tail4 at hb
  simp only [List.mem_cons, List.not_mem_nil, or_false] at hb
  rcases hb with rfl | rfl | rfl | rfl <;> omega
theorem wrec_byt {d : List Int} (hd : Byt d) (hn : d.length < 2097152) : Byt (wrec d) := fun b hb => by
  unfold wrec at hb
  rcases List.mem_append.mp hb with hb | hb
  · rcases List.mem_append.mp hb with hb | hb
    · exact num_byt _ hn b hb
    · exact hd b hb
  · exact tail_byt d b hb
theorem wrec_len (d : List Int) : (wrec d).length = (num d.length).length + d.length + 4 := by
  unfold wrec
  rw [List.length_append, List.length_append]
  rfl
theorem chk_set {d : List Int} (hd : Byt d) {k : Nat} {y : Int} (hk : k < d.length) (hy : 0 ≤ y ∧ y < 256) (ne : y ≠ d[k]) : chk (d.set k y) ≠ chk d := by
  have e1 : d.set k y = d.take k ++ y :: d.drop (k + 1) := List.set_eq_take_append_cons_drop ▸ (by rw [if_pos hk])
  have e2 : d = d.take k ++ d[k] :: d.drop (k + 1) := by rw [← List.drop_eq_getElem_cons hk, List.take_append_drop]
  intro h
  rw [e1] at h
  refine chk_ne (a := d.take k) (b := d.drop (k + 1)) hy (hd _ (List.getElem_mem hk)) ne ?_
  rw [h, ← e2]
/-- one byte another one -/
theorem stop_set {d fr : List Int} (hd : Byt d) (hn : d.length < 2097152) {at' : Nat} {y : Int} (h1 : (num d.length).length ≤ at') (h2 : at' < (wrec d).length) (hy : 0 ≤ y ∧ y < 256) (ne : y ≠ (wrec d)[at']) : Stop ((wrec d).set at' y ++ fr) := by
  have hw := wrec_len d
  have e : ∃ d' t', (wrec d).set at' y = num d.length ++ d' ++ t' ∧ d'.length = d.length ∧ t'.length = 4 ∧ tail4 (chk d') ≠ t' := by
    by_cases h : at' < (num d.length).length + d.length
    · have hk : at' - (num d.length).length < d.length := by omega
      have hg : (wrec d)[at'] = d[at' - (num d.length).length] := by
        have h3 : (wrec d)[at']? = d[at' - (num d.length).length]? := by
          unfold wrec
          rw [List.append_assoc, List.getElem?_append_right h1, List.getElem?_append_left hk]
        rw [List.getElem?_eq_getElem h2, List.getElem?_eq_getElem hk] at h3
        exact Option.some.inj h3
      refine ⟨d.set (at' - (num d.length).length) y, tail4 (chk d), ?_, List.length_set, rfl, fun z => ?_⟩
      · unfold wrec
        rw [List.append_assoc, List.set_append, if_neg (by omega), List.set_append, if_pos hk, List.append_assoc]
      · exact chk_set hd hk hy (hg ▸ ne) (tail4_inj (chk_b _).1 (chk_b _).1 z)
    · have hk : at' - ((num d.length).length + d.length) < (tail4 (chk d)).length := by show _ < 4; omega
      have hg : (wrec d)[at'] = (tail4 (chk d))[at' - ((num d.length).length + d.length)] := by
        have h3 : (wrec d)[at']? = (tail4 (chk d))[at' - ((num d.length).length + d.length)]? := by
          unfold wrec
          rw [List.getElem?_append_right (by rw [List.length_append]; omega), List.length_append]
        rw [List.getElem?_eq_getElem h2, List.getElem?_eq_getElem hk] at h3
        exact Option.some.inj h3
      refine ⟨d, (tail4 (chk d)).set (at' - ((num d.length).length + d.length)) y, ?_, rfl, by rw [List.length_set]; rfl, fun z => ?_⟩
      · unfold wrec
        rw [List.set_append, if_neg (by rw [List.length_append]; omega), List.length_append]
      · have h4 : ((tail4 (chk d)).set (at' - ((num d.length).length + d.length)) y)[at' - ((num d.length).length + d.length)]? = some y := by
          rw [List.getElem?_set_self hk]
        rw [← z, List.getElem?_eq_getElem hk] at h4
        exact ne (by rw [hg]; exact (Option.some.inj h4).symm)
  obtain ⟨d', t', e, a, b, c⟩ := e
  rw [e]
  exact stop_of hn a b c
theorem set_cut {l : List Int} {k : Nat} {y : Int} (hk : k < l.length) : l.take k ++ [y] ++ l.drop (k + 1) = l.set k y := by
  rw [List.set_eq_take_append_cons_drop, if_pos hk, List.append_assoc]
  rfl
end K11

set_option Elab.async false
set_option linter.all false
set_option maxRecDepth 100000
set_option maxHeartbeats 4000000
namespace K11
open PySem PySem.Spec PyProof.Rows L2 Cw
/-! ### small closers, each at its own key -/
local macro_rules | `(tactic| walk_at "oadd") => `(tactic| first | exact o_add | exact o_addS (by walk_at "sz") | exact o_cat (by walk_at "ll") (by walk_at "ll") (by walk_at "sz"))
local macro_rules | `(tactic| walk_at "osub") => `(tactic| exact o_sub)
local macro_rules | `(tactic| walk_at "omul") => `(tactic| first | exact o_mul (by walk_at "sd") | exact o_rep (by walk_at "ll") (by walk_at "sd") (by walk_at "sd") (by walk_at "sz"))
local macro_rules | `(tactic| walk_at "odiv") => `(tactic| first | exact o_div (by walk_at "sd") | exact o_divW (by walk_at "sd"))
local macro_rules | `(tactic| walk_at "olt") => `(tactic| exact o_lt)
local macro_rules | `(tactic| walk_at "ole") => `(tactic| exact o_le)
local macro_rules | `(tactic| walk_at "ogt") => `(tactic| exact o_gt)
local macro_rules | `(tactic| walk_at "oge") => `(tactic| exact o_ge)
local macro_rules | `(tactic| walk_at "oeq") => `(tactic| first | exact o_eqI | exact o_eqNI | exact o_eqS | exact o_eqB | exact o_eqR (Room.units (by assumption)) (by walk_at "dr") (by walk_at "dr") (by walk_at "sh") (by walk_at "sh"))
local macro_rules | `(tactic| walk_at "one") => `(tactic| first | exact o_neI | exact o_neS | exact o_neB | exact o_neR (Room.units (by assumption)) (by walk_at "dr") (by walk_at "dr") (by walk_at "sh") (by walk_at "sh"))
local macro_rules | `(tactic| walk_at "ois") => `(tactic| exact o_isN)
local macro_rules | `(tactic| walk_at "oisn") => `(tactic| exact o_notN)
local macro_rules | `(tactic| walk_at "iadd") => `(tactic| exact o_iadd)
local macro_rules | `(tactic| walk_at "isub") => `(tactic| exact o_isub)
local macro_rules | `(tactic| walk_at "lk") => `(tactic| first | assumption | exact updL_same | (refine Eq.trans (updL_ne (by first | assumption | (apply Ne.symm; assumption))) ?_; walk_at "lk"))
local macro_rules | `(tactic| walk_at "ll") => `(tactic| first | exact LL.dt | assumption | exact LL.h (by walk_at "lk"))
local macro_rules | `(tactic| walk_at "lr") => `(tactic| first | exact LL.dt | assumption | exact LR.h (by walk_at "lk"))
local macro_rules | `(tactic| walk_at "dr") => `(tactic| first | exact DD.dt | assumption | exact DD.ofLL (by walk_at "lk"))
local macro_rules | `(tactic| walk_at "sd") => `(tactic| first | omega | assumption | decide)
local macro_rules | `(tactic| walk_at "rg") => `(tactic| first | omega | assumption | decide)
local macro_rules | `(tactic| walk_at "sz") => `(tactic| first | assumption | (rw [sizeLine_eq]; first | omega | (simp; omega)))
local macro_rules | `(tactic| walk_at "osl") => `(tactic| first | exact s_str (by walk_at "sz") | exact s_lst (by walk_at "ll"))
local macro_rules | `(tactic| walk_at "c_len") => `(tactic| first | exact c_lenT | exact c_lenS (by walk_at "sz") | exact c_lenL (by walk_at "ll") | exact c_lenR (by walk_at "lr") | exact c_lenF (by assumption))
local macro_rules | `(tactic| walk_at "c_int") => `(tactic| first | exact c_int | exact c_intB)
local macro_rules | `(tactic| walk_at "c_min") => `(tactic| exact c_min rfl)
local macro_rules | `(tactic| walk_at "c_max") => `(tactic| exact c_max rfl)
local macro_rules | `(tactic| walk_at "c_ord") => `(tactic| exact c_ord (by walk_at "sz"))
local macro_rules | `(tactic| walk_at "c_list") => `(tactic| first | exact c_listT | exact c_list (by walk_at "ll") | exact c_listF (by assumption))
local macro_rules | `(tactic| walk_at "c_tuple") => `(tactic| first | exact c_tupleT | exact c_tuple (by walk_at "ll"))
local macro_rules | `(tactic| walk_at "c_isinstance") => `(tactic| exact c_isi (by walk_at "dr") (by decide))
local macro_rules | `(tactic| walk_at "few") => `(tactic| first | decide | exact Nat.le_of_ble_eq_true rfl | (rw [sizeLine_eq]; exact Nat.le_of_ble_eq_true rfl) | assumption)
local macro_rules | `(tactic| walk_at "fl") => `(tactic| first | assumption | rfl)
local macro_rules | `(tactic| walk_at "nf") => `(tactic| first | rfl | decide +kernel)
local macro_rules | `(tactic| walk_at "at") => `(tactic| first | assumption | rfl | exact atI_nat (by assumption))
local macro_rules | `(tactic| walk_at "oix") => `(tactic| first | exact i_tup (by walk_at "at") | exact i_lst (by walk_at "ll") (by walk_at "at") | exact i_lstR (by walk_at "lr") (by walk_at "at") | exact i_str (by walk_at "sz") (by walk_at "at") | exact i_lstF (by assumption) (by walk_at "at"))
local macro_rules | `(tactic| walk_at "ixn") => `(tactic| first | assumption | rfl)
local macro_rules | `(tactic| walk_at "okd") => `(tactic| first | rfl | assumption)
local macro_rules | `(tactic| walk_at "wr") => `(tactic| first | assumption | omega)
local macro_rules | `(tactic| walk_at "shn") => `(tactic| first | exact fun z => absurd z (by assumption) | exact fun z => absurd rfl z | exact fun _ => ⟨rfl, rfl⟩)
local macro_rules | `(tactic| walk_at "onin") => `(tactic| exact o_notIn2S)
local macro_rules | `(tactic| walk_at "okp") => `(tactic| first | assumption | exact nxt_p (by walk_at "okp"))

theorem w123 : (wrec [1, 2, 3]).length = 8 := by
  rw [wrec_len, show ([1, 2, 3] : List Int).length = 3 from rfl, num_lt (by decide)]
  rfl
theorem w0 : (wrec []).length = 5 := by
  rw [wrec_len, show ([] : List Int).length = 0 from rfl, num_lt (by decide)]
  rfl
section
variable {R F N nd : List PyData} {x y : PyData} {lo hi lo' hi' : Option Int}
theorem cut_le {α : Type} {a : List α} {lo hi : Option Int} : (cut a lo hi).length ≤ a.length := by
  unfold cut
  rw [List.length_take, List.length_drop]
  omega
theorem sz_c1 (h : R.length ≤ 2100) : (cut R lo hi).length + [x].length ≤ sizeLine := by
  have := @cut_le _ R lo hi
  rw [List.length_singleton, sizeLine_eq]
  omega
theorem sz_c2 (h : R.length ≤ 2100) : (cut R lo hi ++ [x]).length + (cut R lo' hi').length ≤ sizeLine := by
  have := @cut_le _ R lo hi
  have := @cut_le _ R lo' hi'
  rw [List.length_append, List.length_singleton, sizeLine_eq]
  omega
theorem sz_c3 (h : R.length ≤ 2100) (hf : F.length ≤ 30) : (cut R lo hi ++ [x] ++ cut R lo' hi').length + F.length ≤ sizeLine := by
  have := @cut_le _ R lo hi
  have := @cut_le _ R lo' hi'
  rw [List.length_append, List.length_append, List.length_singleton, sizeLine_eq]
  omega
theorem sz_n1 (h : nd.length ≤ 3) : [x].length + nd.length ≤ sizeLine := by
  rw [List.length_singleton, sizeLine_eq]
  omega
theorem sz_n2 (h : nd.length ≤ 3) : ([x] ++ nd).length + [y].length ≤ sizeLine := by
  rw [List.length_append, List.length_singleton, List.length_singleton, sizeLine_eq]
  omega
theorem sz_m1 (h : N.length ≤ 3) (hn : nd.length ≤ 5) : (cut N lo hi).length + nd.length ≤ sizeLine := by
  have := @cut_le _ N lo hi
  rw [sizeLine_eq]
  omega
theorem sz_m2 (h : N.length ≤ 3) (hn : nd.length ≤ 5) (hR : R.length ≤ 2100) : (cut N lo hi ++ nd).length + (cut R lo' hi').length ≤ sizeLine := by
  have := @cut_le _ N lo hi
  have := @cut_le _ R lo' hi'
  rw [List.length_append, sizeLine_eq]
  omega
theorem sz_m3 (h : N.length ≤ 3) (hn : nd.length ≤ 5) (hR : R.length ≤ 2100) (hf : F.length ≤ 30) : (cut N lo hi ++ nd ++ cut R lo' hi').length + F.length ≤ sizeLine := by
  have := @cut_le _ N lo hi
  have := @cut_le _ R lo' hi'
  rw [List.length_append, List.length_append, sizeLine_eq]
  omega
end
local macro_rules | `(tactic| walk_at "sz") => `(tactic| with_reducible first | assumption | exact sz_c1 (by assumption) | exact sz_c2 (by assumption) | exact sz_c3 (by assumption) (by assumption) | exact sz_n1 (by assumption) | exact sz_n2 (by assumption) | exact sz_m1 (by assumption) (by assumption) | exact sz_m2 (by assumption) (by assumption) (by assumption) | exact sz_m3 (by assumption) (by assumption) (by assumption) (by assumption))
theorem put_eq {R fr : List Int} {k : Nat} {y : Int} (hk : k < R.length) : cut (R.map PyData.int) none (some (k : Int)) ++ [PyData.int y] ++ cut (R.map PyData.int) (some ((k : Int) + 1)) none ++ fr.map PyData.int = (R.set k y ++ fr).map PyData.int := by
  rw [cut_map, cut_map, cut_to, show (k : Int) + 1 = ((k + 1 : Nat) : Int) by omega, cut_from, ← set_cut hk, List.map_append, List.map_append, List.map_append]
  rfl
section
variable {P : Program} {w : World} {K : PySem.W.Frag} {mg : Str → Option Value} {base : Heap} {C D0 : Addr}
def sp_bytes : Fs := fun as L Q _ => ∃ s d i, as = [.vl (.ref s)] ∧ L s = some (St d i) ∧ -1 ≤ i ∧ ∀ bs i', Byt bs → bs.length ≤ 2001 → -1 ≤ i' → Q (.dt (lst bs)) (updL L s (St d i'))
def gby (st : Int) : Yd → PyData := fun y => match y with | .r (.dt (.int k)) => .int ((st + 41 * k * k) % 256) | _ => .none
theorem ok_bytes {f : Addr} {fd : FuncData} (F : Fun K "_law_bytes" "_law_bytes" s_law_bytes f fd) (T : TxR K mg C D0) (G_law_next : FnM P w K mg base 3 "_law_next" P_law_next sp_next) : FnOk P w K mg base CX0 4 f fd P_law_bytes (lift sp_bytes) := by
  refine fnok0 F sc_law_bytes (fun as L Q XC h => by obtain ⟨_, _, _, rfl, _⟩ := h; rfl) ?_
  intro cdv A outer s0 H E hr as L Q XC h
  obtain ⟨s, d, i, rfl, hs, hi, q⟩ := h
  have fin : ∀ (c i2 : Int) (pk : Option Rv), 0 ≤ c → c ≤ 2001 → -1 ≤ i2 → MSs (y0 P w K mg base N_law_bytes "_law_bytes" (defScope s_law_bytes) f cdv A outer s0 H E) ((defBody s_law_bytes).drop 3) (fun x L' => Q (.dt .none) L') { rt := Q } [some (.vl (.ref s)), some (.dt (.int c)), pk, none, none] (updL L s (St d i2)) := by
    intro c i2 pk h0 h1 h2
    refine mss_cons (ms_set 3 sc_law_bytes.nd rfl (by first | exact .inl rfl | exact .inr rfl) (EX.to (ex_call G_law_next (hr.mono (by decide)) (by rfl) (ax_cons (ex_var 0 rfl rfl (.inl rfl)) (ax_cons ex_int ax_nil)) ⟨_, _, _, _, rfl, by walk_at "lk", by walk_at "sd", by walk_at "sd", rfl, rfl⟩) ?_))
    rw [updL_updL]
    generalize lawAt d (i2 + 1) % 256 = st
    refine mss_cons (ms_ret (EX.to (ex_lcp (tgt := (.n 4)) (own := [("k", 4)]) (gby st) (by rfl) sc_law_bytes.nd (ix_range1 (ax_cons (ex_var 1 rfl rfl (.inl rfl)) ax_nil) (by walk_at "sd") (by walk_at "sd") (by rfl) T.m_range) trivial (blkOk_by (by rfl)) rfl (fun s H C cl fp => (pgn_name 4 sc_law_bytes.nd rfl (by first | exact .inl rfl | exact .inr rfl))) ?_ ?_) ?_))
    · rw [rgY_len, sizeLine_eq]; omega
    · intro k y hy
      obtain ⟨hk, rfl⟩ := rgY_at hy
      have hm : CMul (41 * (0 + (k : Int))) (0 + (k : Int)) := .inl (by omega)
      exact ⟨_, rfl, fun s H C cl fp => (ex_bin (ex_bin (ex_var 3 rfl rfl (by first | exact .inl rfl | exact .inr (.inl rfl) | exact .inr (.inr rfl))) (ex_bin (ex_bin ex_int (ex_var 4 rfl rfl (by first | exact .inl rfl | exact .inr (.inl rfl) | exact .inr (.inr rfl))) (o_mul (.inl (by decide)))) (ex_var 4 rfl rfl (by first | exact .inl rfl | exact .inr (.inl rfl) | exact .inr (.inr rfl))) (by walk_at "omul")) (by walk_at "oadd")) ex_int (o_mod (by decide)))⟩
    · have e : (rgY 0 c.toNat).map (gby st) = ((List.range c.toNat).map fun k : Nat => (st + 41 * (0 + (k : Int)) * (0 + (k : Int))) % 256).map PyData.int := by
        unfold rgY
        rw [List.map_map, List.map_map]
        rfl
      rw [e]
      refine q _ _ (fun b hb => ?_) (by rw [List.length_map, List.length_range]; omega) (by omega)
      obtain ⟨k, _, rfl⟩ := List.mem_map.mp hb
      exact ⟨Int.emod_nonneg _ (by decide), Int.emod_lt_of_pos _ (by decide)⟩
  have b1 := Int.emod_nonneg (lawAt d (i + 1)) (show (6 : Int) ≠ 0 by decide)
  have b2 := Int.emod_lt_of_pos (lawAt d (i + 1)) (show (0 : Int) < 6 by decide)
  refine mss_cons (ms_set 1 sc_law_bytes.nd rfl (by first | exact .inl rfl | exact .inr rfl) (EX.to (ex_call G_law_next (hr.mono (by decide)) (by rfl) (ax_cons (ex_var 0 rfl rfl (.inl rfl)) (ax_cons ex_int ax_nil)) ⟨_, _, _, _, rfl, by walk_at "lk", by walk_at "sd", by walk_at "sd", rfl, rfl⟩) ?_))
  refine mss_cons (ms_set 2 sc_law_bytes.nd rfl (by first | exact .inl rfl | exact .inr rfl) (EX.to (ex_call G_law_next (hr.mono (by decide)) (by rfl) (ax_cons (ex_var 0 rfl rfl (.inl rfl)) (ax_cons ex_int ax_nil)) ⟨_, _, _, _, rfl, by walk_at "lk", by walk_at "sd", by walk_at "sd", rfl, rfl⟩) ?_))
  refine mss_cons (ms_ifx (tx_cmp (ex_var 2 rfl rfl (.inl rfl)) ex_int (by walk_at "olt") (nomark _)) (fun hT => ?_) (fun hF => ?_))
  · refine mss_cons (ms_set 1 sc_law_bytes.nd rfl (by first | exact .inl rfl | exact .inr rfl) (EX.to (ex_bin ex_int (ex_call G_law_next (hr.mono (by decide)) (by rfl) (ax_cons (ex_var 0 rfl rfl (.inl rfl)) (ax_cons ex_int ax_nil)) ⟨_, _, _, _, rfl, by walk_at "lk", by walk_at "sd", by walk_at "sd", rfl, rfl⟩) (by walk_at "oadd")) ?_))
    rw [updL_updL, updL_updL]
    exact mss_nil (fin _ _ _ (by have := Int.emod_nonneg (lawAt d (i + 1 + 1 + 1)) (show (181 : Int) ≠ 0 by decide); omega) (by have := Int.emod_lt_of_pos (lawAt d (i + 1 + 1 + 1)) (show (0 : Int) < 181 by decide); omega) (by omega))
  · refine mss_cons (ms_ifx (tx_cmp (ex_var 2 rfl rfl (.inl rfl)) ex_int (by walk_at "olt") (nomark _)) (fun hT => ?_) (fun hF => ?_))
    · refine mss_cons (ms_set 1 sc_law_bytes.nd rfl (by first | exact .inl rfl | exact .inr rfl) (EX.to (ex_bin ex_int (ex_call G_law_next (hr.mono (by decide)) (by rfl) (ax_cons (ex_var 0 rfl rfl (.inl rfl)) (ax_cons ex_int ax_nil)) ⟨_, _, _, _, rfl, by walk_at "lk", by walk_at "sd", by walk_at "sd", rfl, rfl⟩) (by walk_at "oadd")) ?_))
      rw [updL_updL, updL_updL]
      exact mss_nil (mss_nil (fin _ _ _ (by have := Int.emod_nonneg (lawAt d (i + 1 + 1 + 1)) (show (114 : Int) ≠ 0 by decide); omega) (by have := Int.emod_lt_of_pos (lawAt d (i + 1 + 1 + 1)) (show (0 : Int) < 114 by decide); omega) (by omega)))
    · refine mss_cons (ms_ifx (tx_cmp (ex_var 2 rfl rfl (.inl rfl)) ex_int (by walk_at "oeq") (nomark _)) (fun hT => ?_) (fun hF => ?_))
      · refine mss_cons (ms_set 1 sc_law_bytes.nd rfl (by first | exact .inl rfl | exact .inr rfl) (EX.to (ex_bin ex_int (ex_call G_law_next (hr.mono (by decide)) (by rfl) (ax_cons (ex_var 0 rfl rfl (.inl rfl)) (ax_cons ex_int ax_nil)) ⟨_, _, _, _, rfl, by walk_at "lk", by walk_at "sd", by walk_at "sd", rfl, rfl⟩) (by walk_at "oadd")) ?_))
        rw [updL_updL, updL_updL]
        exact mss_nil (mss_nil (mss_nil (fin _ _ _ (by have := Int.emod_nonneg (lawAt d (i + 1 + 1 + 1)) (show (1700 : Int) ≠ 0 by decide); omega) (by have := Int.emod_lt_of_pos (lawAt d (i + 1 + 1 + 1)) (show (0 : Int) < 1700 by decide); omega) (by omega))))
      · rw [updL_updL]
        exact mss_nil (mss_nil (mss_nil (fin _ _ _ b1 (by omega) (by omega))))
def sp_behind : Fs := fun as L Q _ => ∃ s d i, as = [.vl (.ref s)] ∧ L s = some (St d i) ∧ -1 ≤ i ∧ ∀ bs i', Stop bs → bs.length ≤ 10000 → -1 ≤ i' → Q (.dt (lst bs)) (updL L s (St d i'))
theorem ok_behind {f : Addr} {fd : FuncData} (F : Fun K "_law_behind" "_law_behind" s_law_behind f fd) (T : TxR K mg C D0) (G_law_next : FnM P w K mg base 3 "_law_next" P_law_next sp_next) (G_law_bytes : FnM P w K mg base 4 "_law_bytes" P_law_bytes sp_bytes) (G_law_record : FnM P w K mg base 2 "_law_record" P_law_record sp_rec) (G_law_number : FnM P w K mg base 1 "_law_number" P_law_number (fgt sp_num)) : FnOk P w K mg base CX0 5 f fd P_law_behind (lift sp_behind) := by
  refine fnok0 F sc_law_behind (fun as L Q XC h => by obtain ⟨_, _, _, rfl, _⟩ := h; rfl) ?_
  intro cdv A outer s0 H E hr as L Q XC h
  obtain ⟨s, d, i, rfl, hs, hi, q⟩ := h
  refine mss_cons (ms_set 1 sc_law_behind.nd rfl (.inl rfl) (me_call G_law_bytes (hr.mono (by decide)) (by rfl) (MA.imp (ax_cons (ex_var 0 rfl rfl (.inl rfl)) ax_nil) fun rs L1 h => ?_)))
  obtain ⟨e1, e2⟩ := h
  subst e1 e2
  refine ⟨s, d, i, rfl, hs, hi, fun bs i1 hby hbl hi1 => ?_⟩
  have hs1 : updL L1 s (St d i1) s = some (St d i1) := updL_same
  have hn : bs.length < 2097152 := by omega
  have hnl := num_len hn
  have hwl := wrec_len bs
  refine mss_cons (ms_set 2 sc_law_behind.nd rfl (by first | exact .inl rfl | exact .inr rfl) (EX.to (ex_call G_law_record (hr.mono (by decide)) (by rfl) (ax_cons (ex_var 1 rfl rfl (.inl rfl)) ax_nil) ⟨_, bs, rfl, LL.dt, by omega, rfl, rfl⟩) ?_))
  obtain ⟨fr, hfr, hfl⟩ : ∃ fr : List Int, atI [PyData.list [], .list ((wrec [1, 2, 3]).map PyData.int ++ (wrec []).map PyData.int)] (lawAt d (i1 + 1) % 2) = some (lst fr) ∧ fr.length ≤ 30 := by
    have h2 : lawAt d (i1 + 1) % 2 = 0 ∨ lawAt d (i1 + 1) % 2 = 1 := by omega
    rcases h2 with h | h
    · exact ⟨[], by rw [h]; rfl, by decide⟩
    · refine ⟨wrec [1, 2, 3] ++ wrec [], ?_, ?_⟩
      · rw [h, show lst (wrec [1, 2, 3] ++ wrec []) = .list ((wrec [1, 2, 3]).map PyData.int ++ (wrec []).map PyData.int) from congrArg PyData.list List.map_append]
        rfl
      · rw [List.length_append, w123, w0]
        decide
  have hz0 : ((wrec [1, 2, 3]).map PyData.int).length + ((wrec []).map PyData.int).length ≤ sizeLine := by
    rw [List.length_map, List.length_map, w123, w0, sizeLine_eq]
    decide
  refine mss_cons (ms_set 3 sc_law_behind.nd rfl (.inl rfl) (EX.to (ex_ix (ex_lst (ad_cons (ex_lst ad_nil (by walk_at "few")) (ad_cons (ex_bin (ex_call G_law_record (hr.mono (by decide)) (by rfl) (ax_cons (ex_lst (ad_cons ex_int (ad_cons ex_int (ad_cons ex_int ad_nil))) (by walk_at "few")) ax_nil) ⟨_, [1, 2, 3], rfl, LL.dt, by decide, rfl, rfl⟩) (ex_call G_law_record (hr.mono (by decide)) (by rfl) (ax_cons (ex_lst ad_nil (by walk_at "few")) ax_nil) ⟨_, [], rfl, LL.dt, by decide, rfl, rfl⟩) (o_cat LL.dt LL.dt hz0)) ad_nil)) (by walk_at "few")) (ex_call G_law_next (hr.mono (by decide)) (by rfl) (ax_cons (ex_var 0 rfl rfl (.inl rfl)) (ax_cons ex_int ax_nil)) ⟨_, _, _, _, rfl, by walk_at "lk", by walk_at "sd", by walk_at "sd", rfl, rfl⟩) (i_lst LL.dt hfr) (fun _ _ => rfl)) ?_))
  refine mss_cons (ms_set 4 sc_law_behind.nd rfl (by first | exact .inl rfl | exact .inr rfl) (EX.to (ex_call G_law_next (hr.mono (by decide)) (by rfl) (ax_cons (ex_var 0 rfl rfl (.inl rfl)) (ax_cons ex_int ax_nil)) ⟨_, _, _, _, rfl, by walk_at "lk", by walk_at "sd", by walk_at "sd", rfl, rfl⟩) ?_))
  rw [updL_updL, updL_updL]
  generalize lawAt d (i1 + 1 + 1) % 5 = pk
  have hR : (wrec bs).length ≤ 2100 := by omega
  have hRm : (((wrec bs).map PyData.int).length : Int) = (wrec bs).length := by rw [List.length_map]
  have hR0 : 0 < (((wrec bs).map PyData.int).length : Int) := by omega
  have hWb := wrec_byt hby hn
  have hRl : ((wrec bs).map PyData.int).length ≤ 2100 := by rw [List.length_map]; exact hR
  have hFl : (fr.map PyData.int).length ≤ 30 := by rw [List.length_map]; exact hfl
  refine mss_cons (ms_ifx (tx_cmp (ex_var 4 rfl rfl (.inl rfl)) ex_int (by walk_at "oeq") (nomark _)) (fun hT => ?_) (fun hF => ?_))
  · refine mss_cons (ms_ret (EX.to (ex_lst ad_nil (by walk_at "few")) ?_))
    exact q [] _ stop_nil (by decide) (by omega)
  refine mss_nil (mss_cons (ms_ifx (tx_cmp (ex_var 4 rfl rfl (.inl rfl)) ex_int (by walk_at "oeq") (nomark _)) (fun hT => ?_) (fun hF => ?_)))
  · refine mss_cons (ms_ret (EX.to (ex_slice (ex_var 2 rfl rfl (.inl rfl)) px_none (px_some (ex_call G_law_next (hr.mono (by decide)) (by rfl) (ax_cons (ex_var 0 rfl rfl (.inl rfl)) (ax_cons (ex_callB (ax_cons (ex_var 2 rfl rfl (.inl rfl)) ax_nil) (by walk_at "c_len") (by rfl) T.m_len PySem.boot_len) ax_nil)) ⟨_, _, _, _, rfl, by walk_at "lk", by walk_at "sd", by walk_at "sd", rfl, rfl⟩)) (by walk_at "osl")) ?_))
    have h1 := Int.emod_nonneg (lawAt d (i1 + 1 + 1 + 1)) (show (((wrec bs).map PyData.int).length : Int) ≠ 0 by omega)
    have h2 := Int.emod_lt_of_pos (lawAt d (i1 + 1 + 1 + 1)) hR0
    generalize lawAt d (i1 + 1 + 1 + 1) % (((wrec bs).map PyData.int).length : Int) = k at *
    obtain ⟨j, rfl⟩ : ∃ j : Nat, k = j := ⟨k.toNat, by omega⟩
    rw [cut_map, cut_to, updL_updL]
    exact q _ _ (stop_cut hn (by omega)) (by rw [List.length_take]; omega) (by omega)
  -- a byte another one
  have put : ∀ (k : Nat) (z : Int) (hk : k < (wrec bs).length), (num bs.length).length ≤ k → 0 ≤ z → z < 255 → Stop ((wrec bs).set k (((wrec bs)[k] + 1 + z) % 256) ++ fr) := fun k z hk h1 h2 h3 => by
    have hb := hWb _ (List.getElem_mem hk)
    exact stop_set hby hn h1 hk ⟨Int.emod_nonneg _ (by decide), Int.emod_lt_of_pos _ (by decide)⟩ (by omega)
  refine mss_nil (mss_cons (ms_ifx (tx_cmp (ex_var 4 rfl rfl (.inl rfl)) ex_int (by walk_at "oeq") (nomark _)) (fun hT => ?_) (fun hF => ?_)))
  · have h1 := Int.emod_nonneg (lawAt d (i1 + 1 + 1 + 1)) (show (4 : Int) ≠ 0 by decide)
    have h2 := Int.emod_lt_of_pos (lawAt d (i1 + 1 + 1 + 1)) (show (0 : Int) < 4 by decide)
    refine mss_cons (ms_set 5 sc_law_behind.nd rfl (by first | exact .inl rfl | exact .inr rfl) (EX.to (ex_bin (ex_bin (ex_callB (ax_cons (ex_var 2 rfl rfl (.inl rfl)) ax_nil) (by walk_at "c_len") (by rfl) T.m_len PySem.boot_len) ex_int (by walk_at "osub")) (ex_call G_law_next (hr.mono (by decide)) (by rfl) (ax_cons (ex_var 0 rfl rfl (.inl rfl)) (ax_cons ex_int ax_nil)) ⟨_, _, _, _, rfl, by walk_at "lk", by walk_at "sd", by walk_at "sd", rfl, rfl⟩) (by walk_at "osub")) ?_))
    generalize lawAt d (i1 + 1 + 1 + 1) % 4 = x at *
    obtain ⟨k, hk⟩ : ∃ k : Nat, (((wrec bs).map PyData.int).length : Int) - 1 - x = k := ⟨((((wrec bs).map PyData.int).length : Int) - 1 - x).toNat, by omega⟩
    rw [hk, updL_updL]
    have hk2 : k < (wrec bs).length := by omega
    have hat : atI ((wrec bs).map PyData.int) (k : Int) = some (.int (wrec bs)[k]) := atI_nat (by rw [List.getElem?_map, List.getElem?_eq_getElem hk2]; rfl)
    refine mss_cons (ms_ret (EX.to (ex_bin (ex_bin (ex_bin (ex_slice (ex_var 2 rfl rfl (.inl rfl)) px_none (px_some (ex_var 5 rfl rfl (.inl rfl))) (by walk_at "osl")) (ex_lst (ad_cons (ex_bin (ex_bin (ex_bin (ex_ix (ex_var 2 rfl rfl (.inl rfl)) (ex_var 5 rfl rfl (.inl rfl)) (by walk_at "oix") (fun _ _ => rfl)) ex_int (by walk_at "oadd")) (ex_call G_law_next (hr.mono (by decide)) (by rfl) (ax_cons (ex_var 0 rfl rfl (.inl rfl)) (ax_cons ex_int ax_nil)) ⟨_, _, _, _, rfl, by walk_at "lk", by walk_at "sd", by walk_at "sd", rfl, rfl⟩) (by walk_at "oadd")) ex_int (o_mod (by decide))) ad_nil) (by walk_at "few")) (by walk_at "oadd")) (ex_slice (ex_var 2 rfl rfl (.inl rfl)) (px_some (ex_bin (ex_var 5 rfl rfl (.inl rfl)) ex_int (by walk_at "oadd"))) px_none (by walk_at "osl")) (by walk_at "oadd")) (ex_var 3 rfl rfl (.inl rfl)) (by walk_at "oadd")) ?_))
    rw [put_eq hk2, updL_updL]
    exact q _ _ (put k _ hk2 (by omega) (Int.emod_nonneg _ (by decide)) (Int.emod_lt_of_pos _ (by decide))) (by rw [List.length_append, List.length_set]; omega) (by omega)
  refine mss_nil (mss_cons (ms_ifx (tx_w (wx_and (tx_cmp (ex_var 4 rfl rfl (.inl rfl)) ex_int (by walk_at "oeq") (nomark _)) (fun _ => (wx_and1 (tx_cmp (ex_callB (ax_cons (ex_var 1 rfl rfl (.inl rfl)) ax_nil) (by walk_at "c_len") (by rfl) T.m_len PySem.boot_len) ex_int (by walk_at "ogt") (nomark _)))))) (fun hT => ?_) (fun hF => ?_)))
  · rw [Bool.and_eq_true, List.length_map] at hT
    have hb0 : 0 < bs.length := by have := of_decide_eq_true hT.2; omega
    have hbm : ((bs.map PyData.int).length : Int) = bs.length := by rw [List.length_map]
    have hb1 : 0 < ((bs.map PyData.int).length : Int) := by omega
    have h1 := Int.emod_nonneg (lawAt d (i1 + 1 + 1 + 1)) (show ((bs.map PyData.int).length : Int) ≠ 0 by omega)
    have h2 := Int.emod_lt_of_pos (lawAt d (i1 + 1 + 1 + 1)) hb1
    refine mss_cons (ms_set 5 sc_law_behind.nd rfl (by first | exact .inl rfl | exact .inr rfl) (EX.to (ex_bin (ex_bin (ex_callB (ax_cons (ex_var 2 rfl rfl (.inl rfl)) ax_nil) (by walk_at "c_len") (by rfl) T.m_len PySem.boot_len) ex_int (by walk_at "osub")) (ex_call G_law_next (hr.mono (by decide)) (by rfl) (ax_cons (ex_var 0 rfl rfl (.inl rfl)) (ax_cons (ex_callB (ax_cons (ex_var 1 rfl rfl (.inl rfl)) ax_nil) (by walk_at "c_len") (by rfl) T.m_len PySem.boot_len) ax_nil)) ⟨_, _, _, _, rfl, by walk_at "lk", by walk_at "sd", by walk_at "sd", rfl, rfl⟩) (by walk_at "osub")) ?_))
    generalize lawAt d (i1 + 1 + 1 + 1) % ((bs.map PyData.int).length : Int) = x at *
    obtain ⟨k, hk⟩ : ∃ k : Nat, (((wrec bs).map PyData.int).length : Int) - 5 - x = k := ⟨((((wrec bs).map PyData.int).length : Int) - 5 - x).toNat, by omega⟩
    rw [hk, updL_updL]
    have hk2 : k < (wrec bs).length := by omega
    have hat : atI ((wrec bs).map PyData.int) (k : Int) = some (.int (wrec bs)[k]) := atI_nat (by rw [List.getElem?_map, List.getElem?_eq_getElem hk2]; rfl)
    refine mss_cons (ms_ret (EX.to (ex_bin (ex_bin (ex_bin (ex_slice (ex_var 2 rfl rfl (.inl rfl)) px_none (px_some (ex_var 5 rfl rfl (.inl rfl))) (by walk_at "osl")) (ex_lst (ad_cons (ex_bin (ex_bin (ex_bin (ex_ix (ex_var 2 rfl rfl (.inl rfl)) (ex_var 5 rfl rfl (.inl rfl)) (by walk_at "oix") (fun _ _ => rfl)) ex_int (by walk_at "oadd")) (ex_call G_law_next (hr.mono (by decide)) (by rfl) (ax_cons (ex_var 0 rfl rfl (.inl rfl)) (ax_cons ex_int ax_nil)) ⟨_, _, _, _, rfl, by walk_at "lk", by walk_at "sd", by walk_at "sd", rfl, rfl⟩) (by walk_at "oadd")) ex_int (o_mod (by decide))) ad_nil) (by walk_at "few")) (by walk_at "oadd")) (ex_slice (ex_var 2 rfl rfl (.inl rfl)) (px_some (ex_bin (ex_var 5 rfl rfl (.inl rfl)) ex_int (by walk_at "oadd"))) px_none (by walk_at "osl")) (by walk_at "oadd")) (ex_var 3 rfl rfl (.inl rfl)) (by walk_at "oadd")) ?_))
    rw [put_eq hk2, updL_updL]
    exact q _ _ (put k _ hk2 (by omega) (Int.emod_nonneg _ (by decide)) (Int.emod_lt_of_pos _ (by decide))) (by rw [List.length_append, List.length_set]; omega) (by omega)
  -- a needless byte
  have hm2 : (bs.map PyData.int).length < 2097152 := by rw [List.length_map]; omega
  refine mss_nil (mss_cons (ms_set 6 sc_law_behind.nd rfl (by first | exact .inl rfl | exact .inr rfl) (EX.to (ex_call G_law_number (hr.mono (by decide)) (by rfl) (ax_cons (ex_callB (ax_cons (ex_var 1 rfl rfl (.inl rfl)) ax_nil) (by walk_at "c_len") (by rfl) T.m_len PySem.boot_len) ax_nil) ⟨_, rfl, by walk_at "sd", fun p m hp => ⟨_, le_upd hp, rfl, rfl⟩⟩) ?_)))
  rw [show (bs.map PyData.int).length = bs.length from List.length_map ..]
  obtain ⟨ini, l, en, hl0, hini⟩ := num_split bs.length
  have hil : ini.length + 1 ≤ 3 := by
    have := hnl.1
    rw [en, List.length_append] at this
    exact this
  have hN : (num bs.length).length = ini.length + 1 := by rw [en, List.length_append]; rfl
  generalize hnu : num bs.length = nu at *
  have hat : atI (nu.map PyData.int) (((nu.map PyData.int).length : Int) - 1) = some (.int l) := by
    rw [List.length_map, hN, show ((ini.length + 1 : Nat) : Int) - 1 = (ini.length : Int) by omega]
    refine atI_nat ?_
    rw [List.getElem?_map, en, List.getElem?_append_right (Nat.le_refl _), Nat.sub_self]
    rfl
  have h1 := Int.emod_nonneg (lawAt d (i1 + 1 + 1 + 1)) (show (3 : Int) ≠ 0 by decide)
  have h2 := Int.emod_lt_of_pos (lawAt d (i1 + 1 + 1 + 1)) (show (0 : Int) < 3 by decide)
  have hrep : ((List.replicate (lawAt d (i1 + 1 + 1 + 1) % 3).toNat [PyData.int 128]).flatten).length ≤ 3 := by simp; omega
  have hr1 : -(2 ^ 63) ≤ lawAt d (i1 + 1 + 1 + 1) % 3 := by omega
  have hr2 : lawAt d (i1 + 1 + 1 + 1) % 3 < 2 ^ 63 := by omega
  have hr3 : [PyData.int 128].length * (lawAt d (i1 + 1 + 1 + 1) % 3).toNat ≤ sizeLine := by rw [List.length_singleton, sizeLine_eq]; omega
  have hnl3 : (nu.map PyData.int).length ≤ 3 := by rw [List.length_map]; omega
  refine mss_cons (ms_set 7 sc_law_behind.nd rfl (by first | exact .inl rfl | exact .inr rfl) (EX.to (ex_bin (ex_bin (ex_lst (ad_cons (ex_bin (ex_ix (ex_var 6 rfl rfl (.inl rfl)) (ex_bin (ex_callB (ax_cons (ex_var 6 rfl rfl (.inl rfl)) ax_nil) (by walk_at "c_len") (by rfl) T.m_len PySem.boot_len) ex_int (by walk_at "osub")) (by walk_at "oix") (fun _ _ => rfl)) ex_int (by walk_at "oadd")) ad_nil) (by walk_at "few")) (ex_bin (ex_lst (ad_cons ex_int ad_nil) (by walk_at "few")) (ex_call G_law_next (hr.mono (by decide)) (by rfl) (ax_cons (ex_var 0 rfl rfl (.inl rfl)) (ax_cons ex_int ax_nil)) ⟨_, _, _, _, rfl, by walk_at "lk", by walk_at "sd", by walk_at "sd", rfl, rfl⟩) (by walk_at "omul")) (by walk_at "oadd")) (ex_lst (ad_cons ex_int ad_nil) (by walk_at "few")) (by walk_at "oadd")) ?_))
  rw [updL_updL]
  generalize hnd : [PyData.int (l + 128)] ++ (List.replicate (lawAt d (i1 + 1 + 1 + 1) % 3).toNat [PyData.int 128]).flatten ++ [PyData.int 0] = nd
  have hndl : nd.length ≤ 5 := by rw [← hnd, List.length_append, List.length_append, List.length_singleton, List.length_singleton]; omega
  refine mss_cons (ms_ret (EX.to (ex_bin (ex_bin (ex_bin (ex_slice (ex_var 6 rfl rfl (.inl rfl)) px_none (px_some (ex_bin (ex_callB (ax_cons (ex_var 6 rfl rfl (.inl rfl)) ax_nil) (by walk_at "c_len") (by rfl) T.m_len PySem.boot_len) ex_int (by walk_at "osub"))) (by walk_at "osl")) (ex_var 7 rfl rfl (.inl rfl)) (by walk_at "oadd")) (ex_slice (ex_var 2 rfl rfl (.inl rfl)) (px_some (ex_callB (ax_cons (ex_var 6 rfl rfl (.inl rfl)) ax_nil) (by walk_at "c_len") (by rfl) T.m_len PySem.boot_len)) px_none (by walk_at "osl")) (by walk_at "oadd")) (ex_var 3 rfl rfl (.inl rfl)) (by walk_at "oadd")) ?_))
  have e1 : cut (nu.map PyData.int) none (some (((nu.map PyData.int).length : Int) - 1)) = ini.map PyData.int := by
    rw [List.length_map, hN, show ((ini.length + 1 : Nat) : Int) - 1 = (ini.length : Int) by omega, cut_map, cut_to, en, List.take_left]
  have e2 : cut ((wrec bs).map PyData.int) (some ((nu.map PyData.int).length : Int)) none = ((wrec bs).drop nu.length).map PyData.int := by
    rw [List.length_map, cut_map, cut_from]
  have e3 : ini.map PyData.int ++ nd ++ ((wrec bs).drop nu.length).map PyData.int ++ fr.map PyData.int = (ini ++ ([l + 128] ++ List.replicate (lawAt d (i1 + 1 + 1 + 1) % 3).toNat 128 ++ [0]) ++ ((wrec bs).drop nu.length ++ fr)).map PyData.int := by
    have hfl : ∀ n : Nat, (List.replicate n [PyData.int 128]).flatten = (List.replicate n (128 : Int)).map PyData.int := fun n => by
      induction n with
      | zero => rfl
      | succ n ih => rw [List.replicate_succ, List.flatten_cons, ih]; rfl
    rw [← hnd, hfl]
    simp only [List.map_append, List.map_cons, List.map_nil, List.append_assoc]
  rw [e1, e2, e3]
  exact q _ _ (stop_zero _ _ hl0 hini (by omega)) (by simp; omega) (by omega)
end
end K11

set_option Elab.async false
set_option linter.all false
set_option maxRecDepth 100000
set_option maxHeartbeats 4000000
namespace K11
open PySem PySem.Spec PyProof.Rows L2 Cw
/-! ### where the records of a whole file end -/
def cat (RS : List (List Int)) : List Int := (RS.map wrec).flatten
theorem cat_nil : cat [] = [] := rfl
theorem cat_cons (r : List Int) (rs : List (List Int)) : cat (r :: rs) = wrec r ++ cat rs := rfl
theorem cat_snoc (rs : List (List Int)) (r : List Int) : cat (rs ++ [r]) = cat rs ++ wrec r := by
  unfold cat
  rw [List.map_append, List.flatten_append]
  simp
theorem prs_step {pre r rest : List Int} {rs : List (List Int)} {t : Nat} (hr : r.length < 2097152) (h : Prs ((pre ++ wrec r) ++ rest) (pre ++ wrec r).length rs t) : Prs (pre ++ (wrec r ++ rest)) pre.length (r :: rs) t := by
  have hw : wrec r = num r.length ++ (r ++ tail4 (chk r)) := by unfold wrec; rw [List.append_assoc]
  have hx : pre ++ (wrec r ++ rest) = pre ++ (num r.length ++ (r ++ (tail4 (chk r) ++ rest))) := by rw [hw, List.append_assoc, List.append_assoc]
  have d0 : (pre ++ (wrec r ++ rest)).drop pre.length = num r.length ++ (r ++ (tail4 (chk r) ++ rest)) := by rw [hx, List.drop_left]
  have d1 : (pre ++ (wrec r ++ rest)).drop (pre.length + (num r.length).length) = r ++ (tail4 (chk r) ++ rest) := by rw [← List.drop_drop, d0, List.drop_left]
  have d2 : (pre ++ (wrec r ++ rest)).drop (pre.length + (num r.length).length + r.length) = tail4 (chk r) ++ rest := by rw [← List.drop_drop, d1, List.drop_left]
  have e : r = ((pre ++ (wrec r ++ rest)).drop (pre.length + (num r.length).length)).take r.length := by rw [d1, List.take_left]
  have hl := wrec_len r
  have hs : pre.length + (num r.length).length + r.length + 4 = (pre ++ wrec r).length := by rw [List.length_append, hl]; omega
  have st := @Prs.step (pre ++ (wrec r ++ rest)) pre.length rs t (num r.length).length r.length (by rw [d0]; exact rd_front hr _) (by rw [hs, ← List.append_assoc, List.length_append (bs := rest)]; omega) (by rw [← e, d2, show (4 : Nat) = (tail4 (chk r)).length from rfl, List.take_left]) (by rw [hs, ← List.append_assoc]; exact h)
  rw [← e] at st
  exact st
theorem prs_of {behind : List Int} (hb : Stop behind) : ∀ (RS : List (List Int)) (pre : List Int), (∀ r ∈ RS, r.length < 2097152) → Prs (pre ++ (cat RS ++ behind)) pre.length RS (pre.length + (cat RS).length)
  | [], pre, _ => .stop (by rw [List.length_append]; omega) (by rw [cat_nil, List.nil_append, List.drop_left]; exact hb)
  | r :: rs, pre, h => by
    rw [cat_cons, List.append_assoc]
    refine prs_step (h r List.mem_cons_self) ?_
    have := prs_of hb rs (pre ++ wrec r) fun x hx => h x (List.mem_cons_of_mem _ hx)
    rw [List.length_append (as := pre), List.length_append (as := wrec r), ← Nat.add_assoc, ← List.length_append]
    exact this
def fitN : List (List Int) → Nat → Nat
  | [], _ => 0
  | r :: rs, e => if (wrec r).length ≤ e then 1 + fitN rs (e - (wrec r).length) else 0
theorem fit_le : ∀ (RS : List (List Int)) (e : Nat), fitN RS e ≤ RS.length
  | [], _ => Nat.le_refl _
  | r :: rs, e => by
    have := fit_le rs (e - (wrec r).length)
    unfold fitN
    rw [List.length_cons]
    split <;> omega
theorem prs_cut : ∀ (RS : List (List Int)) (pre : List Int) (e : Nat), (∀ r ∈ RS, r.length < 2097152) → e ≤ (cat RS).length → Prs (pre ++ (cat RS).take e) pre.length (RS.take (fitN RS e)) (pre.length + (cat (RS.take (fitN RS e))).length)
  | [], pre, e, _, _ => .stop (by rw [List.length_append]; omega) (by rw [cat_nil, List.take_nil, List.append_nil, List.drop_length]; exact stop_nil)
  | r :: rs, pre, e, h, he => by
    have hr := h r List.mem_cons_self
    unfold fitN
    rw [cat_cons] at he ⊢
    by_cases hf : (wrec r).length ≤ e
    · rw [if_pos hf, Nat.add_comm 1, List.take_succ_cons, cat_cons, List.take_append, List.take_of_length_le hf]
      refine prs_step hr ?_
      have := prs_cut rs (pre ++ wrec r) (e - (wrec r).length) (fun x hx => h x (List.mem_cons_of_mem _ hx)) (by rw [List.length_append] at he; omega)
      rw [List.length_append (as := wrec r), ← Nat.add_assoc, ← List.length_append]
      exact this
    · rw [if_neg hf, List.take_zero, cat_nil, List.take_append_of_le_length (by omega)]
      refine .stop (by rw [List.length_append]; omega) ?_
      rw [List.drop_left]
      exact stop_cut hr (by omega)
/-- the sizes of the beginnings -/
def szF : Nat → List (List Int) → List Nat
  | o, [] => [o]
  | o, r :: rs => o :: szF (o + (wrec r).length) rs
theorem szF_snoc : ∀ (o : Nat) (rs : List (List Int)) (r : List Int), szF o (rs ++ [r]) = szF o rs ++ [o + (cat (rs ++ [r])).length]
  | o, [], r => by
    show [o, o + (wrec r).length] = [o] ++ [o + (cat ([] ++ [r])).length]
    rw [List.nil_append, cat_cons, cat_nil, List.append_nil]
    rfl
  | o, x :: rs, r => by
    show o :: szF (o + (wrec x).length) (rs ++ [r]) = o :: szF (o + (wrec x).length) rs ++ [o + (cat (x :: (rs ++ [r]))).length]
    rw [szF_snoc, cat_cons, List.length_append, Nat.add_assoc]
    rfl
theorem szF_len : ∀ (o : Nat) (rs : List (List Int)), (szF o rs).length = rs.length + 1
  | _, [] => rfl
  | o, x :: rs => by
    show (szF _ rs).length + 1 = _
    rw [szF_len]
    rfl
theorem szF_at : ∀ (o : Nat) (rs : List (List Int)) (i : Nat), i ≤ rs.length → (szF o rs)[i]? = some (o + (cat (rs.take i)).length)
  | o, [], 0, _ => rfl
  | o, _ :: _, 0, _ => rfl
  | o, x :: rs, i + 1, h => by
    show (szF (o + (wrec x).length) rs)[i]? = _
    rw [szF_at _ rs i (Nat.le_of_succ_le_succ h), List.take_succ_cons, cat_cons, List.length_append, Nat.add_assoc]
theorem szF_ge : ∀ (o : Nat) (rs : List (List Int)) (x : Nat), x ∈ szF o rs → o ≤ x
  | o, [], x, h => by rw [List.mem_singleton.mp h]; exact Nat.le_refl _
  | o, r :: rs, x, h => by
    rcases List.mem_cons.mp h with rfl | h
    · exact Nat.le_refl _
    · have := szF_ge _ rs x h
      omega
theorem szF_count : ∀ (o : Nat) (rs : List (List Int)) (e : Nat), ((szF o rs).filter fun x : Nat => decide ((x : Int) ≤ ((o + e : Nat) : Int))).length = fitN rs e + 1
  | o, [], e => by
    show ((([o] : List Nat)).filter _).length = 0 + 1
    rw [List.filter_cons_of_pos (by rw [decide_eq_true_iff]; omega)]
    rfl
  | o, r :: rs, e => by
    show ((o :: szF (o + (wrec r).length) rs).filter _).length = _
    rw [List.filter_cons_of_pos (by rw [decide_eq_true_iff]; omega), List.length_cons]
    unfold fitN
    by_cases h : (wrec r).length ≤ e
    · rw [if_pos h, show o + e = o + (wrec r).length + (e - (wrec r).length) by omega, szF_count]
      omega
    · rw [if_neg h, List.filter_eq_nil_iff.mpr]
      · rfl
      · intro x hx
        have := szF_ge _ _ _ hx
        rw [decide_eq_true_iff]
        omega
theorem cat_len : ∀ (RS : List (List Int)), (∀ r ∈ RS, r.length ≤ 2001) → (cat RS).length ≤ 2008 * RS.length
  | [], _ => Nat.le_refl _
  | r :: rs, h => by
    have h1 := cat_len rs fun x hx => h x (List.mem_cons_of_mem _ hx)
    have h2 := h r List.mem_cons_self
    have h3 := num_len (show r.length < 2097152 by omega)
    have h4 := wrec_len r
    rw [cat_cons, List.length_append, List.length_cons]
    omega
end K11

set_option Elab.async false
set_option linter.all false
set_option maxRecDepth 100000
set_option maxHeartbeats 4000000
namespace K11
open PySem PySem.Spec PyProof.Rows L2 Cw
/-! ### small closers, each at its own key -/
local macro_rules | `(tactic| walk_at "oadd") => `(tactic| first | exact o_add | exact o_addS (by walk_at "sz") | exact o_cat (by walk_at "ll") (by walk_at "ll") (by walk_at "sz"))
local macro_rules | `(tactic| walk_at "osub") => `(tactic| exact o_sub)
local macro_rules | `(tactic| walk_at "omul") => `(tactic| first | exact o_mul (by walk_at "sd") | exact o_rep (by walk_at "ll") (by walk_at "sd") (by walk_at "sd") (by walk_at "sz"))
local macro_rules | `(tactic| walk_at "odiv") => `(tactic| first | exact o_div (by walk_at "sd") | exact o_divW (by walk_at "sd"))
local macro_rules | `(tactic| walk_at "olt") => `(tactic| exact o_lt)
local macro_rules | `(tactic| walk_at "ole") => `(tactic| exact o_le)
local macro_rules | `(tactic| walk_at "ogt") => `(tactic| exact o_gt)
local macro_rules | `(tactic| walk_at "oge") => `(tactic| exact o_ge)
local macro_rules | `(tactic| walk_at "oeq") => `(tactic| first | exact o_eqI | exact o_eqNI | exact o_eqS | exact o_eqB | exact o_eqR (Room.units (by assumption)) (by walk_at "dr") (by walk_at "dr") (by walk_at "sh") (by walk_at "sh"))
local macro_rules | `(tactic| walk_at "one") => `(tactic| first | exact o_neI | exact o_neS | exact o_neB | exact o_neR (Room.units (by assumption)) (by walk_at "dr") (by walk_at "dr") (by walk_at "sh") (by walk_at "sh"))
local macro_rules | `(tactic| walk_at "ois") => `(tactic| exact o_isN)
local macro_rules | `(tactic| walk_at "oisn") => `(tactic| exact o_notN)
local macro_rules | `(tactic| walk_at "iadd") => `(tactic| exact o_iadd)
local macro_rules | `(tactic| walk_at "isub") => `(tactic| exact o_isub)
local macro_rules | `(tactic| walk_at "lk") => `(tactic| first | assumption | exact updL_same | (refine Eq.trans (updL_ne (by first | assumption | (apply Ne.symm; assumption))) ?_; walk_at "lk"))
local macro_rules | `(tactic| walk_at "ll") => `(tactic| first | exact LL.dt | assumption | exact LL.h (by walk_at "lk"))
local macro_rules | `(tactic| walk_at "lr") => `(tactic| first | exact LL.dt | assumption | exact LR.h (by walk_at "lk"))
local macro_rules | `(tactic| walk_at "dr") => `(tactic| first | exact DD.dt | assumption | exact DD.ofLL (by walk_at "lk"))
local macro_rules | `(tactic| walk_at "sd") => `(tactic| first | omega | assumption | decide)
local macro_rules | `(tactic| walk_at "rg") => `(tactic| first | omega | assumption | decide)
local macro_rules | `(tactic| walk_at "sz") => `(tactic| first | assumption | (rw [sizeLine_eq]; first | omega | (simp; omega)))
local macro_rules | `(tactic| walk_at "osl") => `(tactic| first | exact s_str (by walk_at "sz") | exact s_lst (by walk_at "ll"))
local macro_rules | `(tactic| walk_at "c_len") => `(tactic| first | exact c_lenT | exact c_lenS (by walk_at "sz") | exact c_lenL (by walk_at "ll") | exact c_lenR (by walk_at "lr") | exact c_lenF (by assumption))
local macro_rules | `(tactic| walk_at "c_int") => `(tactic| first | exact c_int | exact c_intB)
local macro_rules | `(tactic| walk_at "c_min") => `(tactic| exact c_min rfl)
local macro_rules | `(tactic| walk_at "c_max") => `(tactic| exact c_max rfl)
local macro_rules | `(tactic| walk_at "c_ord") => `(tactic| exact c_ord (by walk_at "sz"))
local macro_rules | `(tactic| walk_at "c_list") => `(tactic| first | exact c_listT | exact c_list (by walk_at "ll") | exact c_listF (by assumption))
local macro_rules | `(tactic| walk_at "c_tuple") => `(tactic| first | exact c_tupleT | exact c_tuple (by walk_at "ll"))
local macro_rules | `(tactic| walk_at "c_isinstance") => `(tactic| exact c_isi (by walk_at "dr") (by decide))
local macro_rules | `(tactic| walk_at "few") => `(tactic| first | decide | exact Nat.le_of_ble_eq_true rfl | (rw [sizeLine_eq]; exact Nat.le_of_ble_eq_true rfl) | assumption)
local macro_rules | `(tactic| walk_at "fl") => `(tactic| first | assumption | rfl)
local macro_rules | `(tactic| walk_at "nf") => `(tactic| first | rfl | decide +kernel)
local macro_rules | `(tactic| walk_at "at") => `(tactic| first | assumption | rfl | exact atI_nat (by assumption))
local macro_rules | `(tactic| walk_at "oix") => `(tactic| first | exact i_tup (by walk_at "at") | exact i_lst (by walk_at "ll") (by walk_at "at") | exact i_lstR (by walk_at "lr") (by walk_at "at") | exact i_str (by walk_at "sz") (by walk_at "at") | exact i_lstF (by assumption) (by walk_at "at"))
local macro_rules | `(tactic| walk_at "ixn") => `(tactic| first | assumption | rfl)
local macro_rules | `(tactic| walk_at "okd") => `(tactic| first | rfl | assumption)
local macro_rules | `(tactic| walk_at "wr") => `(tactic| first | assumption | omega)
local macro_rules | `(tactic| walk_at "shn") => `(tactic| first | exact fun z => absurd z (by assumption) | exact fun z => absurd rfl z | exact fun _ => ⟨rfl, rfl⟩)
local macro_rules | `(tactic| walk_at "onin") => `(tactic| exact o_notIn2S)
local macro_rules | `(tactic| walk_at "okp") => `(tactic| first | assumption | exact nxt_p (by walk_at "okp"))

local macro_rules | `(tactic| walk_at "sh") => `(tactic| first | exact PySem.W.ke_shaped_ints _ | (rw [cut_map]; exact PySem.W.ke_shaped_ints _))
theorem wrec_nil : wrec [] = [0, 0, 0, 0, 7] := by
  unfold wrec
  rw [num_lt (by decide)]
  rfl
theorem w0_dd {L : Led} : DD L (.dt (.list ((wrec []).map PyData.int))) (.list [.int 0, .int 0, .int 0, .int 0, .int 7]) := by
  rw [wrec_nil]
  exact DD.dt
local macro_rules | `(tactic| walk_at "dr") => `(tactic| exact w0_dd)
theorem okL (n : Nat) (l : List Int) : okD (n + 1) (lst l) = true := by
  show (l.map PyData.int).all (okD n) = true
  rw [List.all_map, List.all_eq_true]
  intro x _
  cases n <;> rfl
theorem okT (RS : List (List Int)) (n : Int) : okD 3 (.tuple [.list (RS.map lst), .int n]) = true := by
  show (((RS.map lst).all (okD 1)) && true) = true
  rw [Bool.and_true, List.all_map, List.all_eq_true]
  intro x _
  exact okL 0 x
abbrev nats (l : List Nat) : List PyData := l.map fun n : Nat => PyData.int (n : Int)
section
variable {P : Program} {w : World} {K : PySem.W.Frag} {mg : Str → Option Value} {base : Heap} {C D0 : Addr}
def sp_law (K : PySem.W.Frag) : Fs := fun as L Q _ => ∃ a ns, as = [.vl (.ref a)] ∧ Scr K L a ns ∧ ns.length ≤ 63 ∧ ∀ L', Q (.dt (.bool true)) L'
def gsz : Yd → PyData := fun y => match y with | .r (.dt v) => v | _ => .none
def tsz (e : Int) : Yd → Bool := fun y => match y with | .r (.dt (.int v)) => decide (v ≤ e) | _ => false
theorem gt_sz (e : Nat) : ∀ l : List Nat, ((((nats l).map fun d => Yd.r (.dt d)).filter (tsz (e : Int))).map gsz).length = (l.filter fun x : Nat => decide ((x : Int) ≤ (e : Int))).length
  | [] => rfl
  | x :: l => by
    have ih := gt_sz e l
    rw [List.length_map] at ih ⊢
    show (((Yd.r (.dt (.int (x : Int)))) :: ((nats l).map fun d => Yd.r (.dt d))).filter (tsz (e : Int))).length = _
    rw [List.filter_cons, List.filter_cons]
    show (if decide ((x : Int) ≤ (e : Int)) = true then _ else _ : List Yd).length = _
    split
    · rw [List.length_cons, List.length_cons, ih]
    · exact ih
theorem ok_law {f : Addr} {fd : FuncData} (F : Fun K "law" "law" s_law f fd) (T : TxR K mg C D0)
    (G_law_draws : FnM P w K mg base 2 "_law_draws" P_law_draws (sp_draws K)) (G_law_next : FnM P w K mg base 3 "_law_next" P_law_next sp_next) (G_law_same : FnM P w K mg base 5 "_law_same" P_law_same (sp_same 3))
    (G_law_bytes : FnM P w K mg base 4 "_law_bytes" P_law_bytes sp_bytes) (G_law_behind : FnM P w K mg base 5 "_law_behind" P_law_behind sp_behind)
    (G_law_record : FnM P w K mg base 2 "_law_record" P_law_record sp_rec) (G_law_checksum : FnM P w K mg base 1 "_law_checksum" P_law_checksum sp_chk)
    (G_checksum : FnM P w K mg base 1 "checksum" P_checksum sp_chk) (G_write_record : FnM P w K mg base 2 "write_record" P_write_record sp_rec) (G_read_records' : FnM P w K mg base 4 "read_records" P_read_records sp_reads) :
    FnOk P w K mg base CX0 6 f fd P_law (lift (sp_law K)) := by
  have G_read_records := G_read_records'.forget
  refine fnok0 F sc_law (fun as L Q XC h => by obtain ⟨_, _, rfl, _⟩ := h; rfl) ?_
  intro cdv A outer s0 H E hr as L Q XC h
  obtain ⟨a, ns, rfl, scr, hlen, q⟩ := h
  generalize hd : draws ns = d at *
  -- behind the records
  have main : ∀ (RS : List (List Int)) (i' : Int) (L : Led) (s : Addr), RS.length ≤ 10 → (∀ r ∈ RS, Byt r ∧ r.length ≤ 2001) → L s = some (St d i') → -1 ≤ i' → MSs (y0 P w K mg base N_law "law" (defScope s_law) f cdv A outer s0 H E) ((defBody s_law).drop 2) (fun x L' => Q (.dt .none) L') { rt := Q } [some (.vl (.ref a)), some (.vl (.ref s)), some (.dt (.list (RS.map lst))), none, none, none, none, none, none, none, none, none] L := by
    intro RS i' L s hRl hRb hs hi'
    have hcl := cat_len RS fun r hr => (hRb r hr).2
    have hcl2 : (cat RS).length ≤ 20080 := by omega
    have hRn : ∀ r ∈ RS, r.length < 2097152 := fun r hr => by have := (hRb r hr).2; omega
    refine mss_cons (ms_set 3 sc_law.nd rfl (by first | exact .inl rfl | exact .inr rfl) (EX.to (ex_lst ad_nil (by walk_at "few")) ?_))
    refine mss_cons (ms_set 4 sc_law.nd rfl (.inl rfl) (me_lstH (ax_cons ex_int ax_nil) (by walk_at "few") (fun p hp => ?_)))
    refine mss_cons (ms_for (tgt := (.n 5)) rfl (ix_data (ex_var 2 rfl rfl (.inl rfl))) (pgn_name 5 sc_law.nd rfl (by first | exact .inl rfl | exact .inr rfl)) (fun i ρ L' => ∃ rc ps, ρ = [some (.vl (.ref a)), some (.vl (.ref s)), some (.dt (.list (RS.map lst))), some (.dt (lst (cat (RS.take i)))), some (.vl (.ref p)), rc, ps, none, none, none, none, none] ∧ L' = updL L p (.lst ((nats (szF 0 (RS.take i))).map Rv.dt))) ⟨none, none, rfl, rfl⟩ (fun _ _ _ _ _ => trivial) ?_ ?_)
    · intro i y ρ L' hy hI
      obtain ⟨rc0, ps0, rfl, rfl⟩ := hI
      rw [List.getElem?_map, List.getElem?_map] at hy
      cases hg : RS[i]? with
      | none => rw [hg] at hy; cases hy
      | some rc =>
        rw [hg] at hy
        cases hy
        refine ⟨_, rfl, ?_⟩
        have hrc := (hRb rc (List.mem_of_getElem? hg)).2
        have hrc2 : rc.length ≤ 1000000 := by omega
        have htk := take_snoc hg
        have hil : i < RS.length := by
          by_cases z : i < RS.length
          · exact z
          · rw [List.getElem?_eq_none (by omega)] at hg; cases hg
        have hct : (cat (RS.take i)).length ≤ 20080 := by
          have h1 := cat_len (RS.take i) fun r hr => (hRb r (List.mem_of_mem_take hr)).2
          rw [List.length_take] at h1
          omega
        have hwl := wrec_len rc
        have hnl := num_len (show rc.length < 2097152 by omega)
        have hz1 : ((cat (RS.take i)).map PyData.int).length + ((wrec rc).map PyData.int).length ≤ sizeLine := by rw [List.length_map, List.length_map, sizeLine_eq]; omega
        have hz2 : ((nats (szF 0 (RS.take i))).map Rv.dt).length < sizeLine := by rw [List.length_map, List.length_map, szF_len, List.length_take, sizeLine_eq]; omega
        have hk1 := okL 2 (wrec rc)
        refine mss_cons (ms_set 6 sc_law.nd rfl (by first | exact .inl rfl | exact .inr rfl) (EX.to (ex_callTy (ax_cons (ex_var 5 rfl rfl (.inl rfl)) ax_nil) (by walk_at "c_list") (by rfl) T.m_list (by decide +kernel)) ?_))
        refine mss_cons (ms_ifx (tx_w (wx_or (tx_not (tx_val (ex_call G_law_same (hr.mono (by decide)) (by rfl) (ax_cons (ex_call G_checksum (hr.mono (by decide)) (by rfl) (ax_cons (ex_var 6 rfl rfl (.inl rfl)) ax_nil) ⟨_, rc, rfl, LL.dt, rfl, rfl⟩) (ax_cons (ex_call G_law_checksum (hr.mono (by decide)) (by rfl) (ax_cons (ex_var 5 rfl rfl (.inl rfl)) ax_nil) ⟨_, rc, rfl, LL.dt, rfl, rfl⟩) ax_nil)) ⟨_, _, _, rfl, DD.dt, DD.dt, by walk_at "okd", rfl, rfl⟩))) (fun _ => (wx_or1 (tx_not (tx_val (ex_call G_law_same (hr.mono (by decide)) (by rfl) (ax_cons (ex_call G_write_record (hr.mono (by decide)) (by rfl) (ax_cons (ex_var 6 rfl rfl (.inl rfl)) ax_nil) ⟨_, rc, rfl, LL.dt, hrc2, rfl, rfl⟩) (ax_cons (ex_call G_law_record (hr.mono (by decide)) (by rfl) (ax_cons (ex_var 5 rfl rfl (.inl rfl)) ax_nil) ⟨_, rc, rfl, LL.dt, hrc2, rfl, rfl⟩) ax_nil)) ⟨_, _, _, rfl, DD.dt, DD.dt, by walk_at "okd", rfl, rfl⟩))))))) (fun hT => ?_) (fun hF => ?_))
        · cases hT
        refine mss_nil (mss_cons (ms_ifx (tx_cmp (ex_var 6 rfl rfl (.inl rfl)) (ex_var 5 rfl rfl (.inl rfl)) (by walk_at "one") (nomark _)) (fun hT => ?_) (fun hF => ?_)))
        · rw [eqv_intsD, decide_eq_true rfl] at hT
          cases hT
        refine mss_nil (mss_cons (ms_set 3 sc_law.nd rfl (by first | exact .inl rfl | exact .inr rfl) (EX.to (ex_bin (ex_var 3 rfl rfl (.inl rfl)) (ex_call G_law_record (hr.mono (by decide)) (by rfl) (ax_cons (ex_var 5 rfl rfl (.inl rfl)) ax_nil) ⟨_, rc, rfl, LL.dt, hrc2, rfl, rfl⟩) (by walk_at "oadd")) ?_)))
        have e1 : (cat (RS.take i)).map PyData.int ++ (wrec rc).map PyData.int = (cat (RS.take (i + 1))).map PyData.int := by rw [htk, cat_snoc, List.map_append]
        rw [e1]
        refine mss_cons (ms_expr (EX.to (ex_append (ex_var 4 rfl rfl (.inl rfl)) (by walk_at "lk") (ex_callB (ax_cons (ex_var 3 rfl rfl (.inl rfl)) ax_nil) (by walk_at "c_len") (by rfl) T.m_len PySem.boot_len) (by walk_at "lk") (by walk_at "sz")) ?_))
        refine mss_nil ⟨_, _, rfl, ?_⟩
        rw [updL_updL, htk, szF_snoc, ← htk, Nat.zero_add, List.length_map]
        congr 2
        unfold nats
        rw [List.map_append, List.map_append]
        rfl
    · intro ρ L' hI
      obtain ⟨rc0, ps0, rfl, rfl⟩ := hI
      rw [List.length_map, List.length_map, List.take_length]
      refine MSs.settle 4 rfl updL_same ?_
      refine MSs.le (L' := L) (ρ' := _) ?_ (fun a m h => by unfold delL; rw [if_neg (ne_led h hp), updL_ne (ne_led h hp)]; exact h) ⟨rfl, fun _ _ e => e⟩
      refine mss_cons (ms_set 7 sc_law.nd rfl (.inl rfl) (me_catD (ex_var 3 rfl rfl (.inl rfl)) (me_call G_law_behind (hr.mono (by decide)) (by rfl) (MA.imp (ax_cons (ex_var 1 rfl rfl (by first | exact .inl rfl | exact .inr (.inl rfl) | exact .inr (.inr rfl))) ax_nil) fun rs L1 h => ?_))))
      obtain ⟨e1, e2⟩ := h
      subst e1 e2
      refine ⟨s, d, i', rfl, hs, hi', fun bh i2 hst hbl hi2 => ⟨(cat RS).map PyData.int, bh.map PyData.int, LL.dt, LL.dt, by rw [List.length_map, List.length_map, sizeLine_eq]; omega, ?_⟩⟩
      rw [← List.map_append]
      have hP := prs_of hst RS [] hRn
      rw [List.nil_append, List.length_nil, Nat.zero_add] at hP
      have hWl : (cat RS ++ bh).length ≤ 100000 := by rw [List.length_append]; omega
      have hs2 : updL L1 s (St d i2) s = some (St d i2) := updL_same
      generalize hW : cat RS ++ bh = W at *
      refine mss_cons (ms_set 6 sc_law.nd rfl (by first | exact .inl rfl | exact .inr rfl) (EX.to (ex_callTy (ax_cons (ex_var 7 rfl rfl (.inl rfl)) ax_nil) (by walk_at "c_list") (by rfl) T.m_list (by decide +kernel)) ?_))
      refine mss_cons (ms_ifx (tx_w (wx_or (tx_not (tx_val (ex_call G_law_same (hr.mono (by decide)) (by rfl) (ax_cons (ex_call G_read_records (hr.mono (by decide)) (by rfl) (ax_cons (ex_var 6 rfl rfl (.inl rfl)) ax_nil) ⟨_, W, RS, (cat RS).length, rfl, LL.dt, hWl, hP, fun L' l => ⟨_, l, rfl, rfl⟩⟩) (ax_cons (ex_tup (ad_cons (ex_var 2 rfl rfl (.inl rfl)) (ad_cons (ex_callB (ax_cons (ex_var 3 rfl rfl (.inl rfl)) ax_nil) (by walk_at "c_len") (by rfl) T.m_len PySem.boot_len) ad_nil)) (by walk_at "few")) ax_nil)) ⟨_, _, .tuple [.list (RS.map lst), .int ((cat RS).length : Int)], rfl, DD.dt, by rw [List.length_map]; exact DD.dt, okT _ _, rfl, rfl⟩))) (fun _ => (wx_or1 (tx_cmp (ex_var 6 rfl rfl (.inl rfl)) (ex_var 7 rfl rfl (.inl rfl)) (by walk_at "one") (nomark _)))))) (fun hT => ?_) (fun hF => ?_))
      · rw [eqv_intsD, decide_eq_true rfl] at hT
        cases hT
      refine mss_nil (mss_cons (ms_for (tgt := (.n 8)) rfl (ix_range1 (ax_cons ex_int ax_nil) (by walk_at "sd") (by walk_at "sd") (by rfl) T.m_range) (pgn_name 8 sc_law.nd rfl (by first | exact .inl rfl | exact .inr rfl)) (fun i ρ L' => ∃ rc ps k e c i3, ρ = [some (.vl (.ref a)), some (.vl (.ref s)), some (.dt (.list (RS.map lst))), some (.dt (lst (cat RS))), some (.dt (.list (nats (szF 0 RS)))), rc, ps, some (.dt (lst W)), k, e, c, none] ∧ L' = updL L1 s (St d i3) ∧ -1 ≤ i3) ⟨_, _, _, _, _, i2, rfl, rfl, hi2⟩ (fun _ _ _ _ _ => trivial) ?_ ?_))
      · intro i y ρ L' hy hI
        obtain ⟨rc, ps, k, e, c, i3, rfl, rfl, hi3⟩ := hI
        obtain ⟨hk, rfl⟩ := rgY_at hy
        refine ⟨_, rfl, ?_⟩
        have hs3 : updL L1 s (St d i3) s = some (St d i3) := updL_same
        have hpos : 0 < (((cat RS).map PyData.int).length : Int) + 1 := by omega
        refine mss_cons (ms_set 9 sc_law.nd rfl (by first | exact .inl rfl | exact .inr rfl) (EX.to (ex_call G_law_next (hr.mono (by decide)) (by rfl) (ax_cons (ex_var 1 rfl rfl (by first | exact .inl rfl | exact .inr (.inl rfl) | exact .inr (.inr rfl))) (ax_cons (ex_bin (ex_callB (ax_cons (ex_var 3 rfl rfl (.inl rfl)) ax_nil) (by walk_at "c_len") (by rfl) T.m_len PySem.boot_len) ex_int (by walk_at "oadd")) ax_nil)) ⟨_, _, _, _, rfl, by walk_at "lk", by walk_at "sd", by walk_at "sd", rfl, rfl⟩) ?_))
        rw [updL_updL]
        have h1 := Int.emod_nonneg (lawAt d (i3 + 1)) (show (((cat RS).map PyData.int).length : Int) + 1 ≠ 0 by omega)
        have h2 := Int.emod_lt_of_pos (lawAt d (i3 + 1)) hpos
        generalize lawAt d (i3 + 1) % ((((cat RS).map PyData.int).length : Int) + 1) = e at *
        obtain ⟨e, rfl⟩ : ∃ j : Nat, e = j := ⟨e.toNat, by omega⟩
        rw [List.length_map] at h2
        have he : e ≤ (cat RS).length := by omega
        have hzs : ((nats (szF 0 RS)).map fun d => Yd.r (.dt d)).length ≤ sizeLine := by rw [List.length_map, List.length_map, szF_len, sizeLine_eq]; omega
        refine mss_cons (ms_set 10 sc_law.nd rfl (.inl rfl) (EX.to (ex_bin (ex_callB (ax_cons (me_lcf (tgt := (.n 11)) (own := [("size", 11)]) gsz (tsz (e : Int)) (by rfl) sc_law.nd (ix_data (ex_var 4 rfl rfl (.inl rfl))) trivial (blkOk_by (by rfl)) rfl (fun s H C cl fp => (pgn_name 11 sc_law.nd rfl (by first | exact .inl rfl | exact .inr rfl))) hzs (fun j y hy => ?_) ⟨rfl, rfl⟩) ax_nil) (c_lenL LL.dt) (by rfl) T.m_len PySem.boot_len) ex_int o_sub) ?_))
        · rw [List.getElem?_map, List.getElem?_map] at hy
          cases hg : (szF 0 RS)[j]? with
          | none => rw [hg] at hy; cases hy
          | some z =>
            rw [hg] at hy
            cases hy
            exact ⟨_, rfl, fun s H C cl fp => (tx_cmp (ex_var 11 rfl rfl (by first | exact .inl rfl | exact .inr (.inl rfl) | exact .inr (.inr rfl))) (ex_var 9 rfl rfl (by first | exact .inl rfl | exact .inr (.inl rfl) | exact .inr (.inr rfl))) (by walk_at "ole") (nomark _)), fun _ s H C cl fp => (ex_var 11 rfl rfl (by first | exact .inl rfl | exact .inr (.inl rfl) | exact .inr (.inr rfl)))⟩
        have hcnt := szF_count 0 RS e
        rw [Nat.zero_add] at hcnt
        rw [gt_sz, hcnt, show ((fitN RS e + 1 : Nat) : Int) - 1 = ((fitN RS e : Nat) : Int) by omega]
        have hfl := fit_le RS e
        have hat : atI (nats (szF 0 RS)) ((fitN RS e : Nat) : Int) = some (.int ((cat (RS.take (fitN RS e))).length : Int)) := atI_nat (by unfold nats; rw [List.getElem?_map, szF_at 0 RS _ hfl, Nat.zero_add]; rfl)
        refine mss_cons (ms_set 6 sc_law.nd rfl (by first | exact .inl rfl | exact .inr rfl) (EX.to (ex_slice (ex_var 3 rfl rfl (.inl rfl)) px_none (px_some (ex_var 9 rfl rfl (by first | exact .inl rfl | exact .inr (.inl rfl) | exact .inr (.inr rfl)))) (by walk_at "osl")) ?_))
        rw [cut_map, cut_to]
        have hPc := prs_cut RS [] e hRn he
        rw [List.nil_append, List.length_nil, Nat.zero_add] at hPc
        have hWc : ((cat RS).take e).length ≤ 100000 := by rw [List.length_take]; omega
        refine mss_cons (ms_ifx (tx_w (wx_or (tx_not (tx_val (ex_call G_law_same (hr.mono (by decide)) (by rfl) (ax_cons (ex_call G_read_records (hr.mono (by decide)) (by rfl) (ax_cons (ex_var 6 rfl rfl (.inl rfl)) ax_nil) ⟨_, (cat RS).take e, RS.take (fitN RS e), (cat (RS.take (fitN RS e))).length, rfl, LL.dt, hWc, hPc, fun L' l => ⟨_, l, rfl, rfl⟩⟩) (ax_cons (ex_tup (ad_cons (ex_slice (ex_var 2 rfl rfl (.inl rfl)) px_none (px_some (ex_var 10 rfl rfl (.inl rfl))) (by walk_at "osl")) (ad_cons (ex_ix (ex_var 4 rfl rfl (.inl rfl)) (ex_var 10 rfl rfl (.inl rfl)) (by walk_at "oix") (fun _ _ => rfl)) ad_nil)) (by walk_at "few")) ax_nil)) ⟨_, _, .tuple [.list ((RS.take (fitN RS e)).map lst), .int ((cat (RS.take (fitN RS e))).length : Int)], rfl, DD.dt, by rw [cut_map, cut_to]; exact DD.dt, okT _ _, rfl, rfl⟩))) (fun _ => (wx_or1 (tx_cmp (ex_var 6 rfl rfl (.inl rfl)) (ex_slice (ex_var 3 rfl rfl (.inl rfl)) px_none (px_some (ex_var 9 rfl rfl (by first | exact .inl rfl | exact .inr (.inl rfl) | exact .inr (.inr rfl)))) (by walk_at "osl")) (by walk_at "one") (nomark _)))))) (fun hT => ?_) (fun hF => ?_))
        · rw [cut_map, cut_to, eqv_intsD, decide_eq_true rfl] at hT
          cases hT
        exact mss_nil (mss_nil ⟨_, _, _, _, _, i3 + 1, rfl, rfl, by omega⟩)
      · intro ρ L' hI
        obtain ⟨rc, ps, k, e, c, i3, rfl, rfl, hi3⟩ := hI
        refine mss_cons (ms_ret (EX.to (ex_and (ex_call G_law_same (hr.mono (by decide)) (by rfl) (ax_cons (ex_call G_read_records (hr.mono (by decide)) (by rfl) (ax_cons (ex_lst ad_nil (by walk_at "few")) ax_nil) ⟨_, [], [], 0, rfl, LL.dt, by decide, .stop (Nat.le_refl _) stop_nil, fun L' l => ⟨_, l, rfl, rfl⟩⟩) (ax_cons (ex_tup (ad_cons (ex_lst ad_nil (by walk_at "few")) (ad_cons ex_int ad_nil)) (by walk_at "few")) ax_nil)) ⟨_, _, _, rfl, by walk_at "dr", by walk_at "dr", by walk_at "okd", rfl, rfl⟩) (fun _ => (ex_one (ex_call G_law_same (hr.mono (by decide)) (by rfl) (ax_cons (ex_call G_write_record (hr.mono (by decide)) (by rfl) (ax_cons (ex_lst ad_nil (by walk_at "few")) ax_nil) ⟨_, [], rfl, LL.dt, by decide, rfl, rfl⟩) (ax_cons (ex_lst (ad_cons ex_int (ad_cons ex_int (ad_cons ex_int (ad_cons ex_int (ad_cons ex_int ad_nil))))) (by walk_at "few")) ax_nil)) ⟨_, _, _, rfl, by walk_at "dr", by walk_at "dr", by walk_at "okd", rfl, rfl⟩)))) ?_))
        exact q _
  refine mss_cons (ms_set 1 sc_law.nd rfl (.inr rfl) (me_lstH (ax_cons (ex_call G_law_draws (hr.mono (by decide)) (by rfl) (ax_cons (ex_var 0 rfl rfl (.inl rfl)) ax_nil) ⟨_, _, rfl, scr, hlen, rfl, rfl⟩) (ax_cons ex_int ax_nil)) (by walk_at "few") (fun s hs => ?_)))
  rw [hd]
  have hs1 : updL L s (.lst [.dt (.list (d.map PyData.int)), .dt (.int 20)]) s = some (St d 20) := updL_same
  refine mss_cons (ms_setlc (tgt := (.n 8)) (own := [("k", 8)]) (i := 2) (by rfl) sc_law.nd rfl rfl (by rfl) (ix_range1 (ax_cons (ex_call G_law_next (hr.mono (by decide)) (by rfl) (ax_cons (ex_var 1 rfl rfl (by first | exact .inl rfl | exact .inr (.inl rfl) | exact .inr (.inr rfl))) (ax_cons ex_int ax_nil)) ⟨_, _, _, _, rfl, by walk_at "lk", by walk_at "sd", by walk_at "sd", rfl, rfl⟩) ax_nil) (by walk_at "sd") (by walk_at "sd") (by rfl) T.m_range) (blkOk_by (by rfl)) rfl (fun s H C cl fp => (pgn_name 8 sc_law.nd rfl (by first | exact .inl rfl | exact .inr rfl))) ?_
    (fun k acc L' => ∃ (RS : List (List Int)) (i3 : Int), acc = (RS.map lst).map Rv.dt ∧ RS.length = k ∧ -1 ≤ i3 ∧ (∀ r ∈ RS, Byt r ∧ r.length ≤ 2001) ∧ L' = updL L s (St d i3)) ⟨[], _, rfl, rfl, by omega, (fun _ h => nomatch h), updL_updL⟩ (fun _ _ _ _ _ => trivial) ?_ ?_)
  · rw [rgY_len, sizeLine_eq]; omega
  · intro k y acc L' hy hI
    obtain ⟨RS, i3, rfl, hl, h3, hby, rfl⟩ := hI
    obtain ⟨hk, rfl⟩ := rgY_at hy
    refine ⟨_, rfl, fun b L2 => b = true ∧ L2 = updL L s (St d i3), fun _ _ _ _ _ => mts_nil ⟨rfl, rfl⟩, fun b L2 hb2 => ?_⟩
    obtain ⟨rfl, rfl⟩ := hb2
    refine ⟨fun _ s9 H9 C9 cl9 fp9 => me_call G_law_bytes (hr.mono (by decide)) (by rfl) (MA.imp (ax_cons (ex_var 1 rfl rfl (by first | exact .inl rfl | exact .inr (.inl rfl) | exact .inr (.inr rfl))) ax_nil) fun rs L1 h => ?_), fun z => by cases z⟩
    obtain ⟨e1, e2⟩ := h
    subst e1 e2
    refine ⟨s, d, i3, rfl, updL_same, h3, fun bs i4 hbb hbl hi4 => ⟨RS ++ [bs], i4, by rw [List.map_append, List.map_append]; rfl, by rw [List.length_append, hl]; rfl, hi4, ?_, updL_updL⟩⟩
    intro r hr2
    rcases List.mem_append.mp hr2 with h1 | h1
    · exact hby r h1
    · rw [List.mem_singleton.mp h1]; exact ⟨hbb, hbl⟩
  · intro acc L' hI D' _
    obtain ⟨RS, i3, rfl, hl, h3, hby, rfl⟩ := hI
    rw [rgY_len] at hl
    exact .inl ⟨RS.map lst, rfl, main RS i3 _ s (by omega) hby updL_same h3⟩
end
end K11

set_option Elab.async false
set_option linter.all false
set_option maxRecDepth 100000
set_option maxHeartbeats 4000000

namespace K11
open PySem PySem.Spec PyProof.Rows L2 Cw
def spL (K : PySem.W.Frag) : Sp := lift (sp_law K)
/-- an error of the class at S is what «except S» names -/
theorem exm_self {K : PySem.W.Frag} {S : Addr} (h1 : PySem.W.subIn K (.ref S) (.type "BaseException") = some true) (h2 : PySem.W.isClsIn K S = true) (h3 : PySem.W.typeIn K (.ref S) = some (.type "type")) (h4 : PySem.W.subIn K (.ref S) (.ref S) = some true) :
    PySem.W.exmOne K (.ref S) (.ref S) = some true := by
  have e1 : (PySem.W.subIn K (.ref S) (.type "BaseException") == some true) = true := by rw [h1] <;> rfl
  have e2 : ((PySem.W.clsIn K S).isSome && PySem.W.typeIn K (.ref S) == some (.type "type")) = true := by
    have h2' : (PySem.W.clsIn K S).isSome = true := h2
    rw [h2', h3] <;> rfl
  show (if (PySem.W.subIn K (.ref S) (.type "BaseException") == some true) = true then (if ((PySem.W.clsIn K S).isSome && PySem.W.typeIn K (.ref S) == some (.type "type")) = true then PySem.W.subIn K (.ref S) (.ref S) else none) else none) = some true
  rw [if_pos e1, if_pos e2]
  exact h4
theorem all_mk {l : PySem.W.OpenLaw} {w : World} {K : PySem.W.Frag} {h : Heap} {mg : Str → Option Value} {fa : Addr} (X : K.In h) (G : h.Ns mainGlobals mg) (hfa : mg "law" = some (.ref fa))
    {D0 : Addr} {tN tC : _} (aN : PySem.W.nsIn K mainGlobals "NUMBER_BYTES" = some (some (.int 60 tN))) (aC : PySem.W.nsIn K mainGlobals "CHECKSUM_LIMIT" = some (some (.int 4294967296 tC))) (aD : PySem.W.nsIn K mainGlobals "DamagedPacket" = some (some (.ref D0)))
    (xF : PySem.W.excIn K D0 [.type "ValueError", .type "Exception", .type "BaseException", .type "object"] "ValueError.__new__" = true) (kF : PySem.W.keepIn K (.ref D0) = true) (bF : PySem.W.subIn K (.ref D0) (.type "BaseException") = some true) (tF : PySem.W.typeIn K (.ref D0) = some (.type "type")) (iF : PySem.W.isClsIn K D0 = true) (sF : PySem.W.subIn K (.ref D0) (.ref D0) = some true)
    {C_Reader f_law_mix f_law_draws f_law_at f_law_is_integer f_law_same f_law_next f_law_number f_law_checksum f_law_record f_law_bytes f_law_behind f_law f_write_number f_checksum f_write_record f_read_size f_read_records f_Reader_init f_Reader_read_byte f_Reader_read_number : Addr} {od_law_mix an_law_mix od_law_draws an_law_draws od_law_at an_law_at od_law_is_integer an_law_is_integer od_law_same an_law_same od_law_next an_law_next od_law_number an_law_number od_law_checksum an_law_checksum od_law_record an_law_record od_law_bytes an_law_bytes od_law_behind an_law_behind od_law an_law od_write_number an_write_number od_checksum an_checksum od_write_record an_write_record od_read_size an_read_size od_read_records an_read_records od_Reader_init an_Reader_init od_Reader_read_byte an_Reader_read_byte od_Reader_read_number an_Reader_read_number : Option Addr} {sl_law_mix sl_law_draws sl_law_at sl_law_is_integer sl_law_same sl_law_next sl_law_number sl_law_checksum sl_law_record sl_law_bytes sl_law_behind sl_law sl_write_number sl_checksum sl_write_record sl_read_size sl_read_records sl_Reader_init sl_Reader_read_byte sl_Reader_read_number : Array (Option Value)} {oc_law_mix kV_law_mix dc_law_mix pm_law_mix cd_law_mix ct_law_mix oc_law_draws kV_law_draws dc_law_draws pm_law_draws cd_law_draws ct_law_draws oc_law_at kV_law_at dc_law_at pm_law_at cd_law_at ct_law_at oc_law_is_integer kV_law_is_integer dc_law_is_integer pm_law_is_integer cd_law_is_integer ct_law_is_integer oc_law_same kV_law_same dc_law_same pm_law_same cd_law_same ct_law_same oc_law_next kV_law_next dc_law_next pm_law_next cd_law_next ct_law_next oc_law_number kV_law_number dc_law_number pm_law_number cd_law_number ct_law_number oc_law_checksum kV_law_checksum dc_law_checksum pm_law_checksum cd_law_checksum ct_law_checksum oc_law_record kV_law_record dc_law_record pm_law_record cd_law_record ct_law_record oc_law_bytes kV_law_bytes dc_law_bytes pm_law_bytes cd_law_bytes ct_law_bytes oc_law_behind kV_law_behind dc_law_behind pm_law_behind cd_law_behind ct_law_behind oc_law kV_law dc_law pm_law cd_law ct_law oc_write_number kV_write_number dc_write_number pm_write_number cd_write_number ct_write_number oc_checksum kV_checksum dc_checksum pm_checksum cd_checksum ct_checksum oc_write_record kV_write_record dc_write_record pm_write_record cd_write_record ct_write_record oc_read_size kV_read_size dc_read_size pm_read_size cd_read_size ct_read_size oc_read_records kV_read_records dc_read_records pm_read_records cd_read_records ct_read_records oc_Reader_init kV_Reader_init dc_Reader_init pm_Reader_init cd_Reader_init ct_Reader_init oc_Reader_read_byte kV_Reader_read_byte dc_Reader_read_byte pm_Reader_read_byte cd_Reader_read_byte ct_Reader_read_byte oc_Reader_read_number kV_Reader_read_number dc_Reader_read_number pm_Reader_read_number cd_Reader_read_number ct_Reader_read_number : Value}
    (aC_Reader : PySem.W.nsIn K mainGlobals "Reader" = some (some (.ref C_Reader)))
    (a_law_mix : PySem.W.nsIn K mainGlobals "_law_mix" = some (some (.ref f_law_mix)))
    (l_law_mix : K.lookup f_law_mix = some ⟨oc_law_mix, od_law_mix, .func (PySem.W.fnOf "_law_mix" "_law_mix" (defArgs s_law_mix) (defBody s_law_mix) (defScope s_law_mix) .none kV_law_mix dc_law_mix pm_law_mix an_law_mix cd_law_mix ct_law_mix), sl_law_mix⟩) (c_law_mix : PySem.W.codeIn K cd_law_mix "_law_mix" = true) (k_law_mix : PySem.W.keepIn K (.ref f_law_mix) = true)
    (a_law_draws : PySem.W.nsIn K mainGlobals "_law_draws" = some (some (.ref f_law_draws)))
    (l_law_draws : K.lookup f_law_draws = some ⟨oc_law_draws, od_law_draws, .func (PySem.W.fnOf "_law_draws" "_law_draws" (defArgs s_law_draws) (defBody s_law_draws) (defScope s_law_draws) .none kV_law_draws dc_law_draws pm_law_draws an_law_draws cd_law_draws ct_law_draws), sl_law_draws⟩) (c_law_draws : PySem.W.codeIn K cd_law_draws "_law_draws" = true) (k_law_draws : PySem.W.keepIn K (.ref f_law_draws) = true)
    (a_law_at : PySem.W.nsIn K mainGlobals "_law_at" = some (some (.ref f_law_at)))
    (l_law_at : K.lookup f_law_at = some ⟨oc_law_at, od_law_at, .func (PySem.W.fnOf "_law_at" "_law_at" (defArgs s_law_at) (defBody s_law_at) (defScope s_law_at) .none kV_law_at dc_law_at pm_law_at an_law_at cd_law_at ct_law_at), sl_law_at⟩) (c_law_at : PySem.W.codeIn K cd_law_at "_law_at" = true) (k_law_at : PySem.W.keepIn K (.ref f_law_at) = true)
    (a_law_is_integer : PySem.W.nsIn K mainGlobals "_law_is_integer" = some (some (.ref f_law_is_integer)))
    (l_law_is_integer : K.lookup f_law_is_integer = some ⟨oc_law_is_integer, od_law_is_integer, .func (PySem.W.fnOf "_law_is_integer" "_law_is_integer" (defArgs s_law_is_integer) (defBody s_law_is_integer) (defScope s_law_is_integer) .none kV_law_is_integer dc_law_is_integer pm_law_is_integer an_law_is_integer cd_law_is_integer ct_law_is_integer), sl_law_is_integer⟩) (c_law_is_integer : PySem.W.codeIn K cd_law_is_integer "_law_is_integer" = true) (k_law_is_integer : PySem.W.keepIn K (.ref f_law_is_integer) = true)
    (a_law_same : PySem.W.nsIn K mainGlobals "_law_same" = some (some (.ref f_law_same)))
    (l_law_same : K.lookup f_law_same = some ⟨oc_law_same, od_law_same, .func (PySem.W.fnOf "_law_same" "_law_same" (defArgs s_law_same) (defBody s_law_same) (defScope s_law_same) .none kV_law_same dc_law_same pm_law_same an_law_same cd_law_same ct_law_same), sl_law_same⟩) (c_law_same : PySem.W.codeIn K cd_law_same "_law_same" = true) (k_law_same : PySem.W.keepIn K (.ref f_law_same) = true)
    (a_law_next : PySem.W.nsIn K mainGlobals "_law_next" = some (some (.ref f_law_next)))
    (l_law_next : K.lookup f_law_next = some ⟨oc_law_next, od_law_next, .func (PySem.W.fnOf "_law_next" "_law_next" (defArgs s_law_next) (defBody s_law_next) (defScope s_law_next) .none kV_law_next dc_law_next pm_law_next an_law_next cd_law_next ct_law_next), sl_law_next⟩) (c_law_next : PySem.W.codeIn K cd_law_next "_law_next" = true) (k_law_next : PySem.W.keepIn K (.ref f_law_next) = true)
    (a_law_number : PySem.W.nsIn K mainGlobals "_law_number" = some (some (.ref f_law_number)))
    (l_law_number : K.lookup f_law_number = some ⟨oc_law_number, od_law_number, .func (PySem.W.fnOf "_law_number" "_law_number" (defArgs s_law_number) (defBody s_law_number) (defScope s_law_number) .none kV_law_number dc_law_number pm_law_number an_law_number cd_law_number ct_law_number), sl_law_number⟩) (c_law_number : PySem.W.codeIn K cd_law_number "_law_number" = true) (k_law_number : PySem.W.keepIn K (.ref f_law_number) = true)
    (a_law_checksum : PySem.W.nsIn K mainGlobals "_law_checksum" = some (some (.ref f_law_checksum)))
    (l_law_checksum : K.lookup f_law_checksum = some ⟨oc_law_checksum, od_law_checksum, .func (PySem.W.fnOf "_law_checksum" "_law_checksum" (defArgs s_law_checksum) (defBody s_law_checksum) (defScope s_law_checksum) .none kV_law_checksum dc_law_checksum pm_law_checksum an_law_checksum cd_law_checksum ct_law_checksum), sl_law_checksum⟩) (c_law_checksum : PySem.W.codeIn K cd_law_checksum "_law_checksum" = true) (k_law_checksum : PySem.W.keepIn K (.ref f_law_checksum) = true)
    (a_law_record : PySem.W.nsIn K mainGlobals "_law_record" = some (some (.ref f_law_record)))
    (l_law_record : K.lookup f_law_record = some ⟨oc_law_record, od_law_record, .func (PySem.W.fnOf "_law_record" "_law_record" (defArgs s_law_record) (defBody s_law_record) (defScope s_law_record) .none kV_law_record dc_law_record pm_law_record an_law_record cd_law_record ct_law_record), sl_law_record⟩) (c_law_record : PySem.W.codeIn K cd_law_record "_law_record" = true) (k_law_record : PySem.W.keepIn K (.ref f_law_record) = true)
    (a_law_bytes : PySem.W.nsIn K mainGlobals "_law_bytes" = some (some (.ref f_law_bytes)))
    (l_law_bytes : K.lookup f_law_bytes = some ⟨oc_law_bytes, od_law_bytes, .func (PySem.W.fnOf "_law_bytes" "_law_bytes" (defArgs s_law_bytes) (defBody s_law_bytes) (defScope s_law_bytes) .none kV_law_bytes dc_law_bytes pm_law_bytes an_law_bytes cd_law_bytes ct_law_bytes), sl_law_bytes⟩) (c_law_bytes : PySem.W.codeIn K cd_law_bytes "_law_bytes" = true) (k_law_bytes : PySem.W.keepIn K (.ref f_law_bytes) = true)
    (a_law_behind : PySem.W.nsIn K mainGlobals "_law_behind" = some (some (.ref f_law_behind)))
    (l_law_behind : K.lookup f_law_behind = some ⟨oc_law_behind, od_law_behind, .func (PySem.W.fnOf "_law_behind" "_law_behind" (defArgs s_law_behind) (defBody s_law_behind) (defScope s_law_behind) .none kV_law_behind dc_law_behind pm_law_behind an_law_behind cd_law_behind ct_law_behind), sl_law_behind⟩) (c_law_behind : PySem.W.codeIn K cd_law_behind "_law_behind" = true) (k_law_behind : PySem.W.keepIn K (.ref f_law_behind) = true)
    (a_law : PySem.W.nsIn K mainGlobals "law" = some (some (.ref f_law)))
    (l_law : K.lookup f_law = some ⟨oc_law, od_law, .func (PySem.W.fnOf "law" "law" (defArgs s_law) (defBody s_law) (defScope s_law) .none kV_law dc_law pm_law an_law cd_law ct_law), sl_law⟩) (c_law : PySem.W.codeIn K cd_law "law" = true) (k_law : PySem.W.keepIn K (.ref f_law) = true)
    (a_write_number : PySem.W.nsIn K mainGlobals "write_number" = some (some (.ref f_write_number)))
    (l_write_number : K.lookup f_write_number = some ⟨oc_write_number, od_write_number, .func (PySem.W.fnOf "write_number" "write_number" (defArgs s_write_number) (defBody s_write_number) (defScope s_write_number) .none kV_write_number dc_write_number pm_write_number an_write_number cd_write_number ct_write_number), sl_write_number⟩) (c_write_number : PySem.W.codeIn K cd_write_number "write_number" = true) (k_write_number : PySem.W.keepIn K (.ref f_write_number) = true)
    (a_checksum : PySem.W.nsIn K mainGlobals "checksum" = some (some (.ref f_checksum)))
    (l_checksum : K.lookup f_checksum = some ⟨oc_checksum, od_checksum, .func (PySem.W.fnOf "checksum" "checksum" (defArgs s_checksum) (defBody s_checksum) (defScope s_checksum) .none kV_checksum dc_checksum pm_checksum an_checksum cd_checksum ct_checksum), sl_checksum⟩) (c_checksum : PySem.W.codeIn K cd_checksum "checksum" = true) (k_checksum : PySem.W.keepIn K (.ref f_checksum) = true)
    (a_write_record : PySem.W.nsIn K mainGlobals "write_record" = some (some (.ref f_write_record)))
    (l_write_record : K.lookup f_write_record = some ⟨oc_write_record, od_write_record, .func (PySem.W.fnOf "write_record" "write_record" (defArgs s_write_record) (defBody s_write_record) (defScope s_write_record) .none kV_write_record dc_write_record pm_write_record an_write_record cd_write_record ct_write_record), sl_write_record⟩) (c_write_record : PySem.W.codeIn K cd_write_record "write_record" = true) (k_write_record : PySem.W.keepIn K (.ref f_write_record) = true)
    (a_read_size : PySem.W.nsIn K mainGlobals "_read_size" = some (some (.ref f_read_size)))
    (l_read_size : K.lookup f_read_size = some ⟨oc_read_size, od_read_size, .func (PySem.W.fnOf "_read_size" "_read_size" (defArgs s_read_size) (defBody s_read_size) (defScope s_read_size) .none kV_read_size dc_read_size pm_read_size an_read_size cd_read_size ct_read_size), sl_read_size⟩) (c_read_size : PySem.W.codeIn K cd_read_size "_read_size" = true) (k_read_size : PySem.W.keepIn K (.ref f_read_size) = true)
    (a_read_records : PySem.W.nsIn K mainGlobals "read_records" = some (some (.ref f_read_records)))
    (l_read_records : K.lookup f_read_records = some ⟨oc_read_records, od_read_records, .func (PySem.W.fnOf "read_records" "read_records" (defArgs s_read_records) (defBody s_read_records) (defScope s_read_records) .none kV_read_records dc_read_records pm_read_records an_read_records cd_read_records ct_read_records), sl_read_records⟩) (c_read_records : PySem.W.codeIn K cd_read_records "read_records" = true) (k_read_records : PySem.W.keepIn K (.ref f_read_records) = true)
    (a_Reader_init : PySem.W.findIn K (.ref C_Reader) "__init__" = some (some (.ref f_Reader_init))) (i_Reader_init : PySem.W.isFn K (.ref f_Reader_init) = true)
    (l_Reader_init : K.lookup f_Reader_init = some ⟨oc_Reader_init, od_Reader_init, .func (PySem.W.fnOf "__init__" "Reader.__init__" (defArgs s_Reader_init) (defBody s_Reader_init) (defScope s_Reader_init) .none kV_Reader_init dc_Reader_init pm_Reader_init an_Reader_init cd_Reader_init ct_Reader_init), sl_Reader_init⟩) (c_Reader_init : PySem.W.codeIn K cd_Reader_init "Reader.__init__" = true) (k_Reader_init : PySem.W.keepIn K (.ref f_Reader_init) = true)
    (a_Reader_read_byte : PySem.W.findIn K (.ref C_Reader) "read_byte" = some (some (.ref f_Reader_read_byte))) (i_Reader_read_byte : PySem.W.isFn K (.ref f_Reader_read_byte) = true)
    (l_Reader_read_byte : K.lookup f_Reader_read_byte = some ⟨oc_Reader_read_byte, od_Reader_read_byte, .func (PySem.W.fnOf "read_byte" "Reader.read_byte" (defArgs s_Reader_read_byte) (defBody s_Reader_read_byte) (defScope s_Reader_read_byte) .none kV_Reader_read_byte dc_Reader_read_byte pm_Reader_read_byte an_Reader_read_byte cd_Reader_read_byte ct_Reader_read_byte), sl_Reader_read_byte⟩) (c_Reader_read_byte : PySem.W.codeIn K cd_Reader_read_byte "Reader.read_byte" = true) (k_Reader_read_byte : PySem.W.keepIn K (.ref f_Reader_read_byte) = true)
    (a_Reader_read_number : PySem.W.findIn K (.ref C_Reader) "read_number" = some (some (.ref f_Reader_read_number))) (i_Reader_read_number : PySem.W.isFn K (.ref f_Reader_read_number) = true)
    (l_Reader_read_number : K.lookup f_Reader_read_number = some ⟨oc_Reader_read_number, od_Reader_read_number, .func (PySem.W.fnOf "read_number" "Reader.read_number" (defArgs s_Reader_read_number) (defBody s_Reader_read_number) (defScope s_Reader_read_number) .none kV_Reader_read_number dc_Reader_read_number pm_Reader_read_number an_Reader_read_number cd_Reader_read_number ct_Reader_read_number), sl_Reader_read_number⟩) (c_Reader_read_number : PySem.W.codeIn K cd_Reader_read_number "Reader.read_number" = true) (k_Reader_read_number : PySem.W.keepIn K (.ref f_Reader_read_number) = true)
    (pg_Reader : PySem.W.plainGet K C_Reader Str.empty = true) (hd_Reader : PySem.W.hasDictIn K C_Reader = true) (po_Reader : PySem.W.plainOver K C_Reader = true) (sa_Reader : PySem.W.findIn K (.ref C_Reader) "__setattr__" = some (some (.builtin "object.__setattr__"))) (mk_Reader : PySem.W.makesIn K C_Reader = true) (kc_Reader : PySem.W.keepIn K (.ref C_Reader) = true)
    (n_Reader_at : PySem.W.findIn K (.ref C_Reader) "at" = some none)
    (n_Reader_data : PySem.W.findIn K (.ref C_Reader) "data" = some none)
    (z_isinstance : PySem.W.nsIn K mainGlobals "isinstance" = some none)
    (z_bool : PySem.W.nsIn K mainGlobals "bool" = some none)
    (z_str : PySem.W.nsIn K mainGlobals "str" = some none)
    (z_list : PySem.W.nsIn K mainGlobals "list" = some none)
    (z_tuple : PySem.W.nsIn K mainGlobals "tuple" = some none)
    (z_int : PySem.W.nsIn K mainGlobals "int" = some none)
    (z_len : PySem.W.nsIn K mainGlobals "len" = some none)
    (z_min : PySem.W.nsIn K mainGlobals "min" = some none)
    (z_range : PySem.W.nsIn K mainGlobals "range" = some none) :
    ∃ fd : FuncData, (∀ (s : Shared) (v : Value), BindsTo s fd ⟨[v], []⟩ [("script", v)]) ∧ ∀ base : Heap, K.In base → base.Ns mainGlobals mg → FnOk l.prog w K mg base CX0 6 fa fd ["script"] (spL K) := by
  have e := hfa.symm.trans (PySem.W.mg_of X G a_law)
  cases e
  have F_law_mix := fun_mk (st := s_law_mix) l_law_mix c_law_mix k_law_mix
  have b_law_mix := F_law_mix.binds (ps := P_law_mix) fun _ _ _ _ _ _ us hl => match us, hl with | [_, _], _ => rfl
  have m_law_mix := PySem.W.mg_of X G a_law_mix
  have F_law_draws := fun_mk (st := s_law_draws) l_law_draws c_law_draws k_law_draws
  have b_law_draws := F_law_draws.binds (ps := P_law_draws) fun _ _ _ _ _ _ us hl => match us, hl with | [_], _ => rfl
  have m_law_draws := PySem.W.mg_of X G a_law_draws
  have F_law_at := fun_mk (st := s_law_at) l_law_at c_law_at k_law_at
  have b_law_at := F_law_at.binds (ps := P_law_at) fun _ _ _ _ _ _ us hl => match us, hl with | [_, _], _ => rfl
  have m_law_at := PySem.W.mg_of X G a_law_at
  have F_law_is_integer := fun_mk (st := s_law_is_integer) l_law_is_integer c_law_is_integer k_law_is_integer
  have b_law_is_integer := F_law_is_integer.binds (ps := P_law_is_integer) fun _ _ _ _ _ _ us hl => match us, hl with | [_], _ => rfl
  have m_law_is_integer := PySem.W.mg_of X G a_law_is_integer
  have F_law_same := fun_mk (st := s_law_same) l_law_same c_law_same k_law_same
  have b_law_same := F_law_same.binds (ps := P_law_same) fun _ _ _ _ _ _ us hl => match us, hl with | [_, _], _ => rfl
  have m_law_same := PySem.W.mg_of X G a_law_same
  have F_law_next := fun_mk (st := s_law_next) l_law_next c_law_next k_law_next
  have b_law_next := F_law_next.binds (ps := P_law_next) fun _ _ _ _ _ _ us hl => match us, hl with | [_, _], _ => rfl
  have m_law_next := PySem.W.mg_of X G a_law_next
  have F_law_number := fun_mk (st := s_law_number) l_law_number c_law_number k_law_number
  have b_law_number := F_law_number.binds (ps := P_law_number) fun _ _ _ _ _ _ us hl => match us, hl with | [_], _ => rfl
  have m_law_number := PySem.W.mg_of X G a_law_number
  have F_law_checksum := fun_mk (st := s_law_checksum) l_law_checksum c_law_checksum k_law_checksum
  have b_law_checksum := F_law_checksum.binds (ps := P_law_checksum) fun _ _ _ _ _ _ us hl => match us, hl with | [_], _ => rfl
  have m_law_checksum := PySem.W.mg_of X G a_law_checksum
  have F_law_record := fun_mk (st := s_law_record) l_law_record c_law_record k_law_record
  have b_law_record := F_law_record.binds (ps := P_law_record) fun _ _ _ _ _ _ us hl => match us, hl with | [_], _ => rfl
  have m_law_record := PySem.W.mg_of X G a_law_record
  have F_law_bytes := fun_mk (st := s_law_bytes) l_law_bytes c_law_bytes k_law_bytes
  have b_law_bytes := F_law_bytes.binds (ps := P_law_bytes) fun _ _ _ _ _ _ us hl => match us, hl with | [_], _ => rfl
  have m_law_bytes := PySem.W.mg_of X G a_law_bytes
  have F_law_behind := fun_mk (st := s_law_behind) l_law_behind c_law_behind k_law_behind
  have b_law_behind := F_law_behind.binds (ps := P_law_behind) fun _ _ _ _ _ _ us hl => match us, hl with | [_], _ => rfl
  have m_law_behind := PySem.W.mg_of X G a_law_behind
  have F_law := fun_mk (st := s_law) l_law c_law k_law
  have b_law := F_law.binds (ps := P_law) fun _ _ _ _ _ _ us hl => match us, hl with | [_], _ => rfl
  have m_law := PySem.W.mg_of X G a_law
  have F_write_number := fun_mk (st := s_write_number) l_write_number c_write_number k_write_number
  have b_write_number := F_write_number.binds (ps := P_write_number) fun _ _ _ _ _ _ us hl => match us, hl with | [_], _ => rfl
  have m_write_number := PySem.W.mg_of X G a_write_number
  have F_checksum := fun_mk (st := s_checksum) l_checksum c_checksum k_checksum
  have b_checksum := F_checksum.binds (ps := P_checksum) fun _ _ _ _ _ _ us hl => match us, hl with | [_], _ => rfl
  have m_checksum := PySem.W.mg_of X G a_checksum
  have F_write_record := fun_mk (st := s_write_record) l_write_record c_write_record k_write_record
  have b_write_record := F_write_record.binds (ps := P_write_record) fun _ _ _ _ _ _ us hl => match us, hl with | [_], _ => rfl
  have m_write_record := PySem.W.mg_of X G a_write_record
  have F_read_size := fun_mk (st := s_read_size) l_read_size c_read_size k_read_size
  have b_read_size := F_read_size.binds (ps := P_read_size) fun _ _ _ _ _ _ us hl => match us, hl with | [_, _], _ => rfl
  have m_read_size := PySem.W.mg_of X G a_read_size
  have F_read_records := fun_mk (st := s_read_records) l_read_records c_read_records k_read_records
  have b_read_records := F_read_records.binds (ps := P_read_records) fun _ _ _ _ _ _ us hl => match us, hl with | [_], _ => rfl
  have m_read_records := PySem.W.mg_of X G a_read_records
  have F_Reader_init := fun_mk (st := s_Reader_init) l_Reader_init c_Reader_init k_Reader_init
  have b_Reader_init := F_Reader_init.binds (ps := P_Reader_init) fun _ _ _ _ _ _ us hl => match us, hl with | [_, _], _ => rfl
  have F_Reader_read_byte := fun_mk (st := s_Reader_read_byte) l_Reader_read_byte c_Reader_read_byte k_Reader_read_byte
  have b_Reader_read_byte := F_Reader_read_byte.binds (ps := P_Reader_read_byte) fun _ _ _ _ _ _ us hl => match us, hl with | [_], _ => rfl
  have F_Reader_read_number := fun_mk (st := s_Reader_read_number) l_Reader_read_number c_Reader_read_number k_Reader_read_number
  have b_Reader_read_number := F_Reader_read_number.binds (ps := P_Reader_read_number) fun _ _ _ _ _ _ us hl => match us, hl with | [_], _ => rfl
  have T_c_Reader : Cls K C_Reader := ⟨pg_Reader, hd_Reader, po_Reader, sa_Reader⟩
  have T : TxR K mg C_Reader D0 := ⟨⟨PySem.W.mg_none_of X G z_isinstance, PySem.W.mg_none_of X G z_bool, PySem.W.mg_none_of X G z_str, PySem.W.mg_none_of X G z_list, PySem.W.mg_none_of X G z_tuple, PySem.W.mg_none_of X G z_int, PySem.W.mg_none_of X G z_len, PySem.W.mg_none_of X G z_min, PySem.W.mg_none_of X G z_range⟩, T_c_Reader, n_Reader_data, n_Reader_at, ⟨_, PySem.W.mg_of X G aN⟩, ⟨_, PySem.W.mg_of X G aC⟩, PySem.W.mg_of X G aD, xF, kF, bF, tF, exm_self bF iF tF sF⟩
  exact ⟨PySem.W.fnOf "law" "law" (defArgs s_law) (defBody s_law) (defScope s_law) .none kV_law dc_law pm_law an_law cd_law ct_law, fun s v => .of_eq rfl, fun base _ _ => by
    have G1 : FnM l.prog w K mg base 1 "_law_mix" P_law_mix sp_mix := ⟨_, _, m_law_mix, F_law_mix.kp, b_law_mix, ok_mix F_law_mix T.toTxt⟩
    have G2 : FnM l.prog w K mg base 2 "_law_draws" P_law_draws (sp_draws K) := ⟨_, _, m_law_draws, F_law_draws.kp, b_law_draws, ok_draws F_law_draws T.toTxt G1⟩
    have G3 : FnM l.prog w K mg base 2 "_law_at" P_law_at sp_at := ⟨_, _, m_law_at, F_law_at.kp, b_law_at, ok_at F_law_at T.toTxt G1⟩
    have G4 : FnM l.prog w K mg base 1 "_law_is_integer" P_law_is_integer sp_isint := ⟨_, _, m_law_is_integer, F_law_is_integer.kp, b_law_is_integer, ok_isint F_law_is_integer T.toTxt⟩
    have G5 : ∀ n, FnM l.prog w K mg base (n + 2) "_law_same" P_law_same (sp_same n) := fun n => ⟨_, _, m_law_same, F_law_same.kp, b_law_same, ok_same n F_law_same T.toTxt m_law_same b_law_same G4⟩
    have G6 : FnM l.prog w K mg base 3 "_law_next" P_law_next sp_next := ⟨_, _, m_law_next, F_law_next.kp, b_law_next, ok_next F_law_next T.toTxt G3⟩
    have N1 : FnM l.prog w K mg base 1 "_law_number" P_law_number sp_num := ⟨_, _, m_law_number, F_law_number.kp, b_law_number, ok_lnum F_law_number T.toTxt⟩
    have N2 : FnM l.prog w K mg base 1 "write_number" P_write_number sp_num := ⟨_, _, m_write_number, F_write_number.kp, b_write_number, ok_num F_write_number T.toTxt⟩
    have C1 : FnM l.prog w K mg base 1 "_law_checksum" P_law_checksum sp_chk := ⟨_, _, m_law_checksum, F_law_checksum.kp, b_law_checksum, ok_lchk F_law_checksum T⟩
    have C2 : FnM l.prog w K mg base 1 "checksum" P_checksum sp_chk := ⟨_, _, m_checksum, F_checksum.kp, b_checksum, ok_chk F_checksum T⟩
    have R1 : FnM l.prog w K mg base 2 "_law_record" P_law_record sp_rec := ⟨_, _, m_law_record, F_law_record.kp, b_law_record, ok_lrec F_law_record T C1 N1.forget⟩
    have R2 : FnM l.prog w K mg base 2 "write_record" P_write_record sp_rec := ⟨_, _, m_write_record, F_write_record.kp, b_write_record, ok_rec F_write_record T C2 N2.forget⟩
    have B1 : FnM l.prog w K mg base 4 "_law_bytes" P_law_bytes sp_bytes := ⟨_, _, m_law_bytes, F_law_bytes.kp, b_law_bytes, ok_bytes F_law_bytes T G6⟩
    have B2 : FnM l.prog w K mg base 5 "_law_behind" P_law_behind sp_behind := ⟨_, _, m_law_behind, F_law_behind.kp, b_law_behind, ok_behind F_law_behind T G6 B1 R1 N1.forget⟩
    have M1 : MtX l.prog w K mg base 1 C_Reader "read_byte" P_Reader_read_byte (sp_byte C_Reader D0) := ⟨_, _, ⟨a_Reader_read_byte, i_Reader_read_byte, k_Reader_read_byte⟩, b_Reader_read_byte, ok_byte F_Reader_read_byte T⟩
    have M2 : MtX l.prog w K mg base 2 C_Reader "read_number" P_Reader_read_number (sp_rdn C_Reader D0) := ⟨_, _, ⟨a_Reader_read_number, i_Reader_read_number, k_Reader_read_number⟩, b_Reader_read_number, ok_rdn F_Reader_read_number T M1⟩
    have S1 : FnM l.prog w K mg base 3 "_read_size" P_read_size sp_size := ⟨_, _, m_read_size, F_read_size.kp, b_read_size, ok_size F_read_size T (PySem.W.mg_of X G aC_Reader) ⟨mk_Reader, a_Reader_init, i_Reader_init, kc_Reader⟩ (ok_init F_Reader_init T) b_Reader_init M2⟩
    have S2 : FnM l.prog w K mg base 4 "read_records" P_read_records sp_reads := ⟨_, _, m_read_records, F_read_records.kp, b_read_records, ok_reads F_read_records T S1 R2⟩
    exact ok_law F_law T G2 G6 (G5 3) B1 B2 R1 C1 C2 R2 S2⟩
theorem walk {l : PySem.W.OpenLaw} {q : Program} {loose : List Str} {XP : (Str → Option Value) → Heap → Prop} {YP : World → Heap → Prop} {d : DefRec} {K : Params → PySem.W.Frag} (hn : l.most = some 63) (hdf : d.params.defaults = [])
    (hY : ∀ (w : World) (h : Heap), YP w h → (K w.params).In h)
    (F : ∀ (w : World) (mg : Str → Option Value) (fa : Addr) (h : Heap), (K w.params).In h → h.Ns mainGlobals mg → mg d.name = some (.ref fa) →
      ∃ fd : FuncData, (∀ (s : Shared) (u : Value), BindsTo s fd ⟨[u], []⟩ [("script", u)]) ∧ ∀ base : Heap, (K w.params).In base → base.Ns mainGlobals mg → FnOk l.prog w (K w.params) mg base CX0 6 fa fd ["script"] (spL (K w.params))) :
    PySem.W.WalkO q loose XP YP l.row.toRowW d [] (fun f vs => PySem.call f vs) :=
  L2.walk_of (n := 63) (k := 6) (x := "script") (CX := fun _ => CX0) (sp := fun w => spL (K w.params)) hn (by decide) hdf ⟨rfl, by decide, by decide⟩ hY F (fun w H0 a ns hl vs hS => lift_law vs hS fun L sc => ⟨a, ns, rfl, sc, hl, fun _ => rfl⟩) fun _ _ _ _ _ z => z
end K11
open PySem PySem.W PyProof.Rows in
set_option maxRecDepth 100000 in
set_option maxHeartbeats 0 in
theorem PySem.Challenge.cw_cardwhole_k11_records_holds : PySem.Challenge.rw_cardwhole_k11_records.Holds := by
  w_on; o_law; k_head; (case hw => w_witness2)
  k_fill
  refine K11.walk (l := PySem.Challenge.rw_cardwhole_k11_records) rfl rfl (fun w h Y => PySem.W.kIn_of Y) ?F
  case F =>
    intro w mg fa h KX G hmg
    refine' K11.all_mk KX G hmg ?aN ?aC ?aD ?xF ?kF ?bF ?tF ?iF ?sF ?aC_Reader ?a_law_mix ?l_law_mix ?c_law_mix ?k_law_mix ?a_law_draws ?l_law_draws ?c_law_draws ?k_law_draws ?a_law_at ?l_law_at ?c_law_at ?k_law_at ?a_law_is_integer ?l_law_is_integer ?c_law_is_integer ?k_law_is_integer ?a_law_same ?l_law_same ?c_law_same ?k_law_same ?a_law_next ?l_law_next ?c_law_next ?k_law_next ?a_law_number ?l_law_number ?c_law_number ?k_law_number ?a_law_checksum ?l_law_checksum ?c_law_checksum ?k_law_checksum ?a_law_record ?l_law_record ?c_law_record ?k_law_record ?a_law_bytes ?l_law_bytes ?c_law_bytes ?k_law_bytes ?a_law_behind ?l_law_behind ?c_law_behind ?k_law_behind ?a_law ?l_law ?c_law ?k_law ?a_write_number ?l_write_number ?c_write_number ?k_write_number ?a_checksum ?l_checksum ?c_checksum ?k_checksum ?a_write_record ?l_write_record ?c_write_record ?k_write_record ?a_read_size ?l_read_size ?c_read_size ?k_read_size ?a_read_records ?l_read_records ?c_read_records ?k_read_records ?a_Reader_init ?i_Reader_init ?l_Reader_init ?c_Reader_init ?k_Reader_init ?a_Reader_read_byte ?i_Reader_read_byte ?l_Reader_read_byte ?c_Reader_read_byte ?k_Reader_read_byte ?a_Reader_read_number ?i_Reader_read_number ?l_Reader_read_number ?c_Reader_read_number ?k_Reader_read_number ?pg_Reader ?hd_Reader ?po_Reader ?sa_Reader ?mk_Reader ?kc_Reader ?n_Reader_at ?n_Reader_data ?z_isinstance ?z_bool ?z_str ?z_list ?z_tuple ?z_int ?z_len ?z_min ?z_range
    (case aN => k_is)
    (case aC => k_is)
    (case aD => k_is)
    (case xF => k_exc)
    (case kF => k_is)
    (case bF => k_is)
    (case tF => k_is)
    (case iF => k_is)
    (case sF => first | rfl | k_is)
    (case aC_Reader => k_is)
    (case a_law_mix => k_is)
    (case l_law_mix => k_is)
    (case c_law_mix => k_is)
    (case k_law_mix => k_is)
    (case a_law_draws => k_is)
    (case l_law_draws => k_is)
    (case c_law_draws => k_is)
    (case k_law_draws => k_is)
    (case a_law_at => k_is)
    (case l_law_at => k_is)
    (case c_law_at => k_is)
    (case k_law_at => k_is)
    (case a_law_is_integer => k_is)
    (case l_law_is_integer => k_is)
    (case c_law_is_integer => k_is)
    (case k_law_is_integer => k_is)
    (case a_law_same => k_is)
    (case l_law_same => k_is)
    (case c_law_same => k_is)
    (case k_law_same => k_is)
    (case a_law_next => k_is)
    (case l_law_next => k_is)
    (case c_law_next => k_is)
    (case k_law_next => k_is)
    (case a_law_number => k_is)
    (case l_law_number => k_is)
    (case c_law_number => k_is)
    (case k_law_number => k_is)
    (case a_law_checksum => k_is)
    (case l_law_checksum => k_is)
    (case c_law_checksum => k_is)
    (case k_law_checksum => k_is)
    (case a_law_record => k_is)
    (case l_law_record => k_is)
    (case c_law_record => k_is)
    (case k_law_record => k_is)
    (case a_law_bytes => k_is)
    (case l_law_bytes => k_is)
    (case c_law_bytes => k_is)
    (case k_law_bytes => k_is)
    (case a_law_behind => k_is)
    (case l_law_behind => k_is)
    (case c_law_behind => k_is)
    (case k_law_behind => k_is)
    (case a_law => k_is)
    (case l_law => k_is)
    (case c_law => k_is)
    (case k_law => k_is)
    (case a_write_number => k_is)
    (case l_write_number => k_is)
    (case c_write_number => k_is)
    (case k_write_number => k_is)
    (case a_checksum => k_is)
    (case l_checksum => k_is)
    (case c_checksum => k_is)
    (case k_checksum => k_is)
    (case a_write_record => k_is)
    (case l_write_record => k_is)
    (case c_write_record => k_is)
    (case k_write_record => k_is)
    (case a_read_size => k_is)
    (case l_read_size => k_is)
    (case c_read_size => k_is)
    (case k_read_size => k_is)
    (case a_read_records => k_is)
    (case l_read_records => k_is)
    (case c_read_records => k_is)
    (case k_read_records => k_is)
    (case a_Reader_init => k_is)
    (case i_Reader_init => k_is)
    (case l_Reader_init => k_is)
    (case c_Reader_init => k_is)
    (case k_Reader_init => k_is)
    (case a_Reader_read_byte => k_is)
    (case i_Reader_read_byte => k_is)
    (case l_Reader_read_byte => k_is)
    (case c_Reader_read_byte => k_is)
    (case k_Reader_read_byte => k_is)
    (case a_Reader_read_number => k_is)
    (case i_Reader_read_number => k_is)
    (case l_Reader_read_number => k_is)
    (case c_Reader_read_number => k_is)
    (case k_Reader_read_number => k_is)
    (case pg_Reader => k_is)
    (case hd_Reader => k_is)
    (case po_Reader => k_is)
    (case sa_Reader => k_is)
    (case mk_Reader => k_is)
    (case kc_Reader => k_is)
    (case n_Reader_at => k_is)
    (case n_Reader_data => k_is)
    (case z_isinstance => k_is)
    (case z_bool => k_is)
    (case z_str => k_is)
    (case z_list => k_is)
    (case z_tuple => k_is)
    (case z_int => k_is)
    (case z_len => k_is)
    (case z_min => k_is)
    (case z_range => k_is)
#print axioms PySem.Challenge.cw_cardwhole_k11_records_holds

