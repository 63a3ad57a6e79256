import PyProof.Rows.All
import Wide.All
import OpenK.AllK
import Wide.FinOn
import KE.KItem
import PySem.Challenge.RW_og0293_01
open PySem PySem.W PyProof.Rows PySem.Calls
set_option Elab.async false
set_option linter.unusedVariables false
set_option maxRecDepth 100000
namespace Mine
abbrev Sr := PySem.Str
abbrev Xp := PySem.Expr
abbrev bd_ := PySem.Challenge.pw_og0293_01.main.body
theorem gq {α : Type} {l : List α} {i : Nat} {a : α} (h : l[i]? = some a) : ∃ h : i < l.length, l[i] = a := List.getElem?_eq_some_iff.1 h
theorem mq {α : Type} {a b : α} (h : a ∈ [b]) : a = b := List.mem_singleton.1 h
theorem lb {n m : Nat} (h : Nat.ble n m = true) : n ≤ m := Nat.le_of_ble_eq_true h
inductive V where
  | none | any
  | bool (b : Bool)
  | int (i : Int)
  | str (x : Sr)
  | tup (l : List V)
  | ref (n : Nat)
  | raw (v : Value)
  deriving Inhabited
noncomputable abbrev AM := List (Addr × Addr)
mutual
def VR (am : AM) (h : Heap) : V → Value → Prop
  | .none, v => v = .none
  | .any, _ => True
  | .bool b, v => v = .bool b
  | .int i, v => ∃ t, v = .int i t
  | .str x, v => ∃ t, v = .str x t
  | .tup l, v => ∃ a vs, v = .ref a ∧ IsTup h a (List.toArray vs) ∧ VRs am h l vs
  | .ref n, v => ∃ p, am[n]? = some p ∧ v = .ref p.1
  | .raw u, v => v = u
def VRs (am : AM) (h : Heap) : List V → List Value → Prop
  | [], vs => vs = []
  | c :: cs, vs => ∃ v r, vs = v :: r ∧ VR am h c v ∧ VRs am h cs r
end
inductive CO where
  | list (l : List V)
  | inst (C : Addr) (fs : List (Sr × V))
  | dict (es : List (Int × V))
  deriving Inhabited
def FR (am : AM) (h : Heap) : List (Sr × V) → List DictEntry → Prop
  | [], es => es = []
  | (x, c) :: fs, es => ∃ e r, es = e :: r ∧ (∃ t, e.key = .str x t) ∧ VR am h c e.val ∧ FR am h fs r
def DR (am : AM) (h : Heap) (a : Addr) (fs : List (Int × V)) : Prop :=
  ∃ o es ep kvs, (a == sysModules) = false ∧ h.get? a = some o ∧ o.data = .dict es ep ∧ (∀ prog w, o.IsDictOf (intKind prog w) kvs) ∧ kvs.map (·.1) = fs.map (·.1) ∧ VRs am h (fs.map (·.2)) (kvs.map (·.2))
def OR (am : AM) (h : Heap) (p : Addr × Addr) : CO → Prop
  | .list l => p.2 = p.1 ∧ ∃ vs, h.PlainList p.1 (List.toArray vs) ∧ VRs am h l vs
  | .inst C fs => p.2 ≠ p.1 ∧ ∃ es n, h.get? p.1 = some (instObj C p.2) ∧ h.get? p.2 = some (dictOf es n) ∧ FR am h fs es
  | .dict fs => p.2 = p.1 ∧ DR am h p.1 fs
def TupKeep (h h' : Heap) : Prop := ∀ a vs, IsTup h a vs → IsTup h' a vs
mutual
theorem VR.mono {am am' : AM} {h h' : Heap} (hp : ∃ l, am' = am ++ l) (hk : TupKeep h h') : ∀ {c : V} {v : Value}, VR am h c v → VR am' h' c v
  | .none, _, x => by simpa [VR] using x
  | .any, _, _ => by simp [VR]
  | .bool _, _, x => by simpa [VR] using x
  | .int _, _, x => by simpa [VR] using x
  | .str _, _, x => by simpa [VR] using x
  | .tup l, _, x => by
    simp only [VR] at x ⊢
    obtain ⟨a, vs, e, t, r⟩ := x
    exact ⟨a, vs, e, hk _ _ t, VRs.mono hp hk r⟩
  | .ref n, _, x => by
    simp only [VR] at x ⊢
    obtain ⟨p, e, r⟩ := x
    obtain ⟨l, rfl⟩ := hp
    exact ⟨p, by rw [List.getElem?_append_left (gq e).1]; exact e, r⟩
  | .raw _, _, x => by simpa [VR] using x
theorem VRs.mono {am am' : AM} {h h' : Heap} (hp : ∃ l, am' = am ++ l) (hk : TupKeep h h') : ∀ {cs : List V} {vs : List Value}, VRs am h cs vs → VRs am' h' cs vs
  | [], _, x => by simpa [VRs] using x
  | c :: cs, _, x => by
    simp only [VRs] at x ⊢
    obtain ⟨v, r, e, x1, x2⟩ := x
    exact ⟨v, r, e, VR.mono hp hk x1, VRs.mono hp hk x2⟩
end
theorem FR.mono {am am' : AM} {h h' : Heap} (hp : ∃ l, am' = am ++ l) (hk : TupKeep h h') : ∀ {fs : List (Sr × V)} {es : List DictEntry}, FR am h fs es → FR am' h' fs es
  | [], _, x => by simpa [FR] using x
  | (y, c) :: fs, _, x => by
    simp only [FR] at x ⊢
    obtain ⟨e, r, q, k, x1, x2⟩ := x
    exact ⟨e, r, q, k, x1.mono hp hk, FR.mono hp hk x2⟩
theorem OR.mono {am am' : AM} {h h' : Heap} {p : Addr × Addr} {o : CO} (hp : ∃ l, am' = am ++ l) (hk : TupKeep h h') (h1 : h'.get? p.1 = h.get? p.1) (h2 : h'.get? p.2 = h.get? p.2)
    (x : OR am h p o) : OR am' h' p o := by
  cases o with
  | list l =>
    obtain ⟨e, vs, ⟨n, ho⟩, r⟩ := x
    exact ⟨e, vs, ⟨n, h1.trans ho⟩, r.mono hp hk⟩
  | inst C fs =>
    obtain ⟨e, es, n, a, b, r⟩ := x
    exact ⟨e, es, n, h1.trans a, h2.trans b, r.mono hp hk⟩
  | dict fs =>
    obtain ⟨e, o, es, ep, kvs, hm, ho, hd, hi, hf, r⟩ := x
    exact ⟨e, o, es, ep, kvs, hm, h1.trans ho, hd, hi, hf, r.mono hp hk⟩
def owns (am : AM) (b : Addr) : Prop := ∃ p ∈ am, b = p.1 ∨ b = p.2
def NoTup (o : Obj) : Prop := ¬ (o.cls = .type "tuple" ∧ ∃ xs n, o.data = .seq xs n)
theorem OR.alive {am : AM} {h : Heap} {p : Addr × Addr} {o : CO} (x : OR am h p o) : (∃ ob, h.get? p.1 = some ob ∧ NoTup ob) ∧ (∃ ob, h.get? p.2 = some ob ∧ NoTup ob) := by
  cases o with
  | list l =>
    obtain ⟨e, vs, ⟨n, ho⟩, r⟩ := x
    have : NoTup { cls := .type "list", data := .seq vs.toArray n } := fun q => absurd (show (Value.type "list") = .type "tuple" from q.1) (by decide)
    exact ⟨⟨_, ho, this⟩, _, e ▸ ho, this⟩
  | inst C fs =>
    obtain ⟨e, es, n, a, b, r⟩ := x
    exact ⟨⟨_, a, fun q => by cases q.1⟩, _, b, fun q => absurd (show (Value.type "dict") = .type "tuple" from q.1) (by decide)⟩
  | dict fs =>
    obtain ⟨e, o, es, ep, kvs, _, ho, hd, hi, hf, r⟩ := x
    have : NoTup o := fun q => by obtain ⟨_, xs, n, e'⟩ := q; rw [hd] at e'; cases e'
    exact ⟨⟨_, ho, this⟩, _, e ▸ ho, this⟩
structure Wd where
  prog : Program
  w : World
  K : Frag
  hZ : Heap
  os : OsState
  mg : Sr → Option Value
  mb : Sr → Option Value
structure Wd.Ok (W : Wd) : Prop where
  X : W.K.In W.hZ
  g : W.hZ.Ns mainGlobals W.mg
  b : W.hZ.Ns builtinsNs W.mb
  lim : W.hZ.NoLimit
  bui : ∀ x : Sr, x ≠ "__name__" → W.mb x = bootBuiltins x
structure Mk where
  am : AM
  h : Heap
structure Rp (W : Wd) (h : Heap) (am : AM) (σ : List CO) : Prop where
  len : am.length = σ.length
  old : ∀ b o, W.hZ.get? b = some o → h.get? b = some o
  new : ∀ p ∈ am, W.hZ.get? p.1 = none ∧ W.hZ.get? p.2 = none
  apart : am.Pairwise fun p q => p.1 ≠ q.1 ∧ p.1 ≠ q.2 ∧ p.2 ≠ q.1 ∧ p.2 ≠ q.2
  obj : ∀ (i : Nat) p o, am[i]? = some p → σ[i]? = some o → OR am h p o
structure Since (B : Mk) (own : List Addr) (h : Heap) (am : AM) : Prop where
  pre : ∃ l, am = B.am ++ l ∧ ∀ p ∈ l, B.h.get? p.1 = none ∧ B.h.get? p.2 = none
  keep : ∀ b o, B.h.get? b = some o → ¬ owns B.am b → b ∉ own → h.get? b = some o
structure Inv0 (W : Wd) (B : Mk) (own : List Addr) (h : Heap) (am : AM) (σ : List CO) : Prop where
  rp : Rp W h am σ
  since : Since B own h am
structure Fm where
  env : Env
  own : List Addr
  gs : List (Sr × V)
  fn : Bool
def GV (W : Wd) (x : Sr) (c : V) : Prop :=
  (∃ v, W.mg x = some v ∧ VR [] W.hZ c v) ∨ (W.mg x = Option.none ∧ ∃ v, W.mb x = some v ∧ VR [] W.hZ c v)
structure Fm.Ok (W : Wd) (F : Fm) : Prop where
  kind : F.env.scope.kind = .function
  glob : F.env.globals = mainGlobals
  bui : F.env.builtins = builtinsNs
  loc : F.env.locals ∈ F.own
  cellown : F.fn = true → ∀ x a, F.env.kindOf x = some .cell → F.env.cells.lookup x = some a → a ∈ F.own
  apart : F.fn = true → F.env.cells.Pairwise fun x y => x.2 ≠ y.2
  locne : F.fn = true → ∀ x ∈ F.env.cells, x.2 ≠ F.env.locals
  fresh : ∀ a ∈ F.own, W.hZ.get? a = none
  gs : ∀ p ∈ F.gs, F.env.kindOf p.1 = some .globalImplicit ∧ (p.1 == ("__debug__" : Sr)) = false ∧ GV W p.1 p.2
  fn : F.fn = true → ∀ x, F.env.kindOf x ≠ some .free
noncomputable abbrev Rho := List (Sr × Option V)
structure Loc (F : Fm) (am : AM) (h : Heap) (ρ : Rho) : Prop where
  ns : ∃ m, h.Ns F.env.locals m ∧ ∀ x c, (x, some c) ∈ ρ → F.env.kindOf x = some .local → ∃ v, m x = some v ∧ VR am h c v
  cl : ∀ x oc, (x, oc) ∈ ρ → (F.env.kindOf x = some .cell ∨ F.env.kindOf x = some .free) → ∃ a v, F.env.cells.lookup x = some a ∧ h.IsCell a v ∧ ∀ c, oc = some c → ∃ u, v = some u ∧ VR am h c u
  kinds : ∀ p ∈ ρ, F.env.kindOf p.1 = some .local ∨ F.env.kindOf p.1 = some .cell ∨ F.env.kindOf p.1 = some .free
  nodup : (ρ.map (·.1)).Nodup
  notOwned : ∀ a ∈ F.own, ¬ owns am a
  ownk : ∀ a ∈ F.own, (∃ m, h.Ns a m) ∨ ∃ v, h.IsCell a v
  locIn : F.env.locals ∈ F.own
  plain : ∀ p ∈ ρ, (p.1 == ("__debug__" : Sr)) = false ∧ (p.1 == ("__classdict__" : Sr)) = false
structure Inv (W : Wd) (B : Mk) (F : Fm) (h : Heap) (am : AM) (ρ : Rho) (σ : List CO) : Prop where
  i0 : Inv0 W B F.own h am σ
  loc : Loc F am h ρ
  ok : F.Ok W
def Rest (W : Wd) (s : Shared) : Prop := s.gens = #[] ∧ s.os = W.os
structure Room (A : Around) (d : Nat) : Prop where
  handled : A.handled = none
  depth : A.depth + 2 * d < recursionLimit
  units : A.units + 20 * (d + 5) < cLine
theorem Room.less {A : Around} {d d' : Nat} (R : Room A d) (h : d' ≤ d) : Room A d' := ⟨R.handled, by have := R.depth; lia, by have := R.units; lia⟩
theorem Room.deeper {A : Around} {d : Nat} {env : Env} (R : Room A (d + 1)) : Room (A.deeper env) d :=
  ⟨R.handled, by have := R.depth; show A.depth + 1 + 2 * d < _; lia, by have := R.units; show A.units + 3 + 20 * (d + 5) < _; lia⟩
theorem Room.room {A : Around} {d : Nat} (R : Room A d) : A.depth < recursionLimit := by have := R.depth; lia
theorem owns_append {am l : AM} {b : Addr} : owns (am ++ l) b ↔ owns am b ∨ owns l b := by
  unfold owns
  constructor
  · rintro ⟨p, hp, h⟩
    rcases List.mem_append.mp hp with q | q
    · exact .inl ⟨p, q, h⟩
    · exact .inr ⟨p, q, h⟩
  · rintro (⟨p, hp, h⟩ | ⟨p, hp, h⟩)
    · exact ⟨p, List.mem_append_left _ hp, h⟩
    · exact ⟨p, List.mem_append_right _ hp, h⟩
def Live (own : List Addr) (h : Heap) : Prop := ∀ a ∈ own, ∃ o, h.get? a = some o ∧ NoTup o
theorem Live.nil {h : Heap} : Live [] h := fun _ q => (nomatch q)
section
variable {W : Wd} {h h' : Heap} {am am' : AM} {σ σ' : List CO} {B : Mk} {own : List Addr}
theorem Rp.owned (R : Rp W h am σ) {b : Addr} (hb : owns am b) : ∃ ob, h.get? b = some ob ∧ NoTup ob := by
  obtain ⟨p, hp, e⟩ := hb
  obtain ⟨i, hi, e'⟩ := List.mem_iff_getElem.mp hp
  have hi' : i < σ.length := R.len ▸ hi
  have z := (R.obj i p σ[i] (by rw [List.getElem?_eq_some_iff]; exact ⟨hi, e'⟩) (List.getElem?_eq_some_iff.mpr ⟨hi', rfl⟩)).alive
  rcases e with rfl | rfl
  · exact z.1
  · exact z.2
theorem Rp.owned_new (R : Rp W h am σ) {b : Addr} (hb : owns am b) : W.hZ.get? b = none := by
  obtain ⟨p, hp, e⟩ := hb
  rcases e with rfl | rfl
  · exact (R.new p hp).1
  · exact (R.new p hp).2
theorem tup_noTup {a : Addr} {vs : Array Value} (t : IsTup h a vs) {o : Obj} (ho : h.get? a = some o) : ¬ NoTup o := by
  obtain ⟨o', ho', hc, n, hd⟩ := t
  rw [ho] at ho'; cases ho'
  exact fun q => q ⟨hc, _, _, hd⟩
theorem Since.refl : Since ⟨am, h⟩ own h am := ⟨⟨[], by simp, by simp⟩, fun _ _ e _ _ => e⟩
theorem Since.prefix (S : Since B own h am) : ∃ l, am = B.am ++ l := let ⟨l, e, _⟩ := S.pre; ⟨l, e⟩
theorem Since.tupKeep (S : Since ⟨am, h⟩ own h' am') (R : Rp W h am σ) (ho : Live own h) : TupKeep h h' := by
  intro a vs t
  have t' := t
  obtain ⟨o, e, r⟩ := t
  refine ⟨o, S.keep a o e (fun q => ?_) (fun q => ?_), r⟩
  · obtain ⟨o', e', n⟩ := R.owned q
    exact tup_noTup t' e' n
  · obtain ⟨o', e', n⟩ := ho a q
    exact tup_noTup t' e' n
theorem Since.fresh (S : Since B own h am) (R : Rp W h am σ) (hl : Live own h) {b : Addr} (hb : h.get? b = none) : ¬ owns am b ∧ B.h.get? b = none := by
  obtain ⟨l, e, f⟩ := S.pre
  have h1 : ¬ owns am b := fun q => by
    obtain ⟨o, ho, _⟩ := R.owned q; rw [hb] at ho; cases ho
  refine ⟨h1, ?_⟩
  cases q : B.h.get? b with
  | none => rfl
  | some o =>
    have := S.keep b o q (fun z => h1 (by rw [e]; exact owns_append.mpr (.inl z))) (fun z => by
      obtain ⟨o, ho, _⟩ := hl b z; rw [hb] at ho; cases ho)
    rw [hb] at this; cases this
theorem Since.trans (S : Since B own h am) (R : Rp W h am σ) (hl : Live own h) (S' : Since ⟨am, h⟩ own h' am') : Since B own h' am' := by
  obtain ⟨l', e', f'⟩ := S'.pre
  have fr := fun b hb => (S.fresh R hl (b := b) hb).2
  obtain ⟨l, e, f⟩ := S.pre
  refine ⟨⟨l ++ l', by rw [← List.append_assoc, ← e]; exact e', fun p hp => ?_⟩, fun b o hb h1 h2 => ?_⟩
  · rcases List.mem_append.mp hp with q | q
    · exact f p q
    · exact ⟨fr _ (f' p q).1, fr _ (f' p q).2⟩
  · have h3 : ¬ owns am b := fun q => by
      rw [e] at q
      rcases owns_append.mp q with q | ⟨p, hp, q⟩
      · exact h1 q
      · rcases q with rfl | rfl
        · rw [(f p hp).1] at hb; cases hb
        · rw [(f p hp).2] at hb; cases hb
    exact S'.keep b o (S.keep b o hb h1 h2) h3 h2
theorem Since.weaken (S : Since B [] h am) : Since B own h am := ⟨S.pre, fun b o e h1 _ => S.keep b o e h1 (fun q => nomatch q)⟩
end
section
variable {W : Wd} {h h' : Heap} {am am' : AM} {σ σ' : List CO} {B : Mk} {F : Fm} {ρ ρ' : Rho}
theorem Loc.live (L : Loc F am h ρ) : Live F.own h := fun a ha => by
  rcases L.ownk a ha with ⟨m, o, es, ep, ho, hd, _⟩ | ⟨v, o, ho, hd⟩
  · exact ⟨o, ho, fun q => by obtain ⟨_, xs, n, e⟩ := q; rw [hd] at e; cases e⟩
  · exact ⟨o, ho, fun q => by obtain ⟨_, xs, n, e⟩ := q; rw [hd] at e; cases e⟩
theorem ns_data {a : Addr} {m : Sr → Option Value} (n : h.Ns a m) : ∃ o, h.get? a = some o ∧ ∃ es ep, o.data = .dict es ep := let ⟨o, es, ep, ho, hd, _⟩ := n; ⟨o, ho, es, ep, hd⟩
theorem OR.notCell {p : Addr × Addr} {o : CO} (x : OR am h p o) : (∀ v, ¬ h.IsCell p.1 v) ∧ (∀ v, ¬ h.IsCell p.2 v) := by
  cases o with
  | list l =>
    obtain ⟨e, vs, ⟨n, ho⟩, r⟩ := x
    have : ∀ v, ¬ h.IsCell p.1 v := fun v ⟨o', ho', hd'⟩ => by rw [ho] at ho'; cases ho'; cases hd'
    exact ⟨this, e ▸ this⟩
  | inst C fs =>
    obtain ⟨e, es, n, a, b, r⟩ := x
    exact ⟨fun v ⟨o', ho', hd'⟩ => (by rw [a] at ho'; cases ho'; cases hd'), fun v ⟨o', ho', hd'⟩ => (by rw [b] at ho'; cases ho'; cases hd')⟩
  | dict fs =>
    obtain ⟨e, o, es, ep, kvs, _, a, hd, hi, hf, r⟩ := x
    have : ∀ v, ¬ h.IsCell p.1 v := fun v ⟨o', ho', hd'⟩ => by rw [a] at ho'; cases ho'; rw [hd] at hd'; cases hd'
    exact ⟨this, e ▸ this⟩
theorem Rp.cell_free (R : Rp W h am σ) {a : Addr} {v : Option Value} (c : h.IsCell a v) : ¬ owns am a := by
  rintro ⟨p, hp, e⟩
  obtain ⟨i, hi, e'⟩ := List.mem_iff_getElem.mp hp
  have hi' : i < σ.length := R.len ▸ hi
  have z := (R.obj i p σ[i] (by rw [List.getElem?_eq_some_iff]; exact ⟨hi, e'⟩) (List.getElem?_eq_some_iff.mpr ⟨hi', rfl⟩)).notCell
  rcases e with rfl | rfl
  · exact z.1 v c
  · exact z.2 v c
theorem Inv.live (I : Inv W B F h am ρ σ) : Live F.own h := I.loc.live
theorem Inv.self0 (I : Inv W B F h am ρ σ) : Inv0 W ⟨am, h⟩ [] h am σ := ⟨I.i0.rp, .refl⟩
theorem Inv.self (I : Inv W B F h am ρ σ) : Inv W ⟨am, h⟩ F h am ρ σ := ⟨⟨I.i0.rp, .refl⟩, I.loc, I.ok⟩
theorem Inv0.self {own : List Addr} (I : Inv0 W B own h am σ) : Inv0 W ⟨am, h⟩ own h am σ := ⟨I.rp, .refl⟩
theorem Loc.keeps (L : Loc F am h ρ) (hpre : ∃ l, am' = am ++ l ∧ ∀ b, owns l b → ∀ o, h.get? b ≠ some o) (tk : TupKeep h h')
    (keep : ∀ a o, h.get? a = some o → (a ∈ F.own ∨ ∃ v, h.IsCell a v) → h'.get? a = some o) : Loc F am' h' ρ := by
  obtain ⟨l, e, f⟩ := hpre
  have pr : ∃ l, am' = am ++ l := ⟨l, e⟩
  obtain ⟨m, hn, hm⟩ := L.ns
  refine ⟨⟨m, ?_, fun x c hx hk => ?_⟩, fun x oc hx hk => ?_, L.kinds, L.nodup, fun a ha => ?_, fun a ha => ?_, L.locIn, L.plain⟩
  · obtain ⟨o, es, ep, ho, r⟩ := hn
    exact ⟨o, es, ep, keep _ _ ho (.inl L.locIn), r⟩
  · obtain ⟨v, e, r⟩ := hm x c hx hk
    exact ⟨v, e, r.mono pr tk⟩
  · obtain ⟨a, v, e, hc, r⟩ := L.cl x oc hx hk
    obtain ⟨o, ho, hd⟩ := hc
    exact ⟨a, v, e, ⟨o, keep _ _ ho (.inr ⟨v, o, ho, hd⟩), hd⟩, fun c q => let ⟨u, z, y⟩ := r c q; ⟨u, z, y.mono pr tk⟩⟩
  · intro q
    subst e
    rcases owns_append.mp q with q | q
    · exact L.notOwned a ha q
    · obtain ⟨o, ho, _⟩ := L.live a ha
      exact f a q o ho
  · rcases L.ownk a ha with ⟨m, o, es, ep, ho, r⟩ | ⟨v, o, ho, hd⟩
    · exact .inl ⟨m, o, es, ep, keep _ _ ho (.inl ha), r⟩
    · exact .inr ⟨v, o, keep _ _ ho (.inl ha), hd⟩
theorem Loc.after (L : Loc F am h ρ) (R : Rp W h am σ) (S : Since ⟨am, h⟩ [] h' am') : Loc F am' h' ρ := by
  obtain ⟨l, e, f⟩ := S.pre
  refine L.keeps ⟨l, e, fun b ⟨p, hp, q⟩ o ho => ?_⟩ (S.tupKeep R Live.nil) fun a o ho z => S.keep a o ho ?_ (fun z => nomatch z)
  · rcases q with rfl | rfl
    · have := (f p hp).1; simp only at this; rw [this] at ho; cases ho
    · have := (f p hp).2; simp only at this; rw [this] at ho; cases ho
  · rcases z with z | ⟨v, z⟩
    · exact L.notOwned a z
    · exact R.cell_free z
theorem Inv.after (I : Inv W B F h am ρ σ) (I' : Inv0 W ⟨am, h⟩ [] h' am' σ') : Inv W B F h' am' ρ σ' :=
  ⟨⟨I'.rp, I.i0.since.trans I.i0.rp I.live I'.since.weaken⟩, I.loc.after I.i0.rp I'.since, I.ok⟩
theorem Inv.step (I : Inv W B F h am ρ σ) (I' : Inv W ⟨am, h⟩ F h' am' ρ' σ') : Inv W B F h' am' ρ' σ' :=
  ⟨⟨I'.i0.rp, I.i0.since.trans I.i0.rp I.live I'.i0.since⟩, I'.loc, I.ok⟩
theorem Inv.vr (I : Inv W B F h am ρ σ) (I' : Inv W ⟨am, h⟩ F h' am' ρ' σ') {c : V} {v : Value} (x : VR am h c v) : VR am' h' c v :=
  x.mono I'.i0.since.prefix (I'.i0.since.tupKeep I.i0.rp I.live)
theorem Inv.vrs (I : Inv W B F h am ρ σ) (I' : Inv W ⟨am, h⟩ F h' am' ρ' σ') {c : List V} {v : List Value} (x : VRs am h c v) : VRs am' h' c v :=
  x.mono I'.i0.since.prefix (I'.i0.since.tupKeep I.i0.rp I.live)
theorem Inv0.vr (I : Inv0 W B own h am σ) (I' : Inv0 W ⟨am, h⟩ [] h' am' σ') {c : V} {v : Value} (x : VR am h c v) : VR am' h' c v :=
  x.mono I'.since.prefix (I'.since.tupKeep I.rp Live.nil)
theorem Inv0.vrs (I : Inv0 W B own h am σ) (I' : Inv0 W ⟨am, h⟩ [] h' am' σ') {c : List V} {v : List Value} (x : VRs am h c v) : VRs am' h' c v :=
  x.mono I'.since.prefix (I'.since.tupKeep I.rp Live.nil)
theorem Inv0.step (I : Inv0 W B own h am σ) (hl : Live own h) (I' : Inv0 W ⟨am, h⟩ own h' am' σ') : Inv0 W B own h' am' σ' := ⟨I'.rp, I.since.trans I.rp hl I'.since⟩
theorem Inv0.step' (I : Inv0 W B [] h am σ) (I' : Inv0 W ⟨am, h⟩ [] h' am' σ') : Inv0 W B [] h' am' σ' := I.step Live.nil I'
theorem tupKeep_of {h h' : Heap} (hk : ∀ b o, h.get? b = some o → h'.get? b = some o) : TupKeep h h' := fun _ _ t => t.keeps hk
theorem Rp.keeps (R : Rp W h am σ) (hk : ∀ b o, h.get? b = some o → h'.get? b = some o) : Rp W h' am σ := by
  refine ⟨R.len, fun b o e => hk b o (R.old b o e), R.new, R.apart, fun i p o hi ho => ?_⟩
  have x := R.obj i p o hi ho
  obtain ⟨⟨o1, e1, _⟩, o2, e2, _⟩ := x.alive
  exact x.mono ⟨[], by simp⟩ (tupKeep_of hk) ((hk _ _ e1).trans e1.symm) ((hk _ _ e2).trans e2.symm)
theorem Inv0.keeps (I : Inv0 W B own h am σ) (hk : ∀ b o, h.get? b = some o → h'.get? b = some o) : Inv0 W B own h' am σ :=
  ⟨I.rp.keeps hk, I.since.pre, fun b o e h1 h2 => hk b o (I.since.keep b o e h1 h2)⟩
theorem Loc.keepAll (L : Loc F am h ρ) (hk : ∀ b o, h.get? b = some o → h'.get? b = some o) : Loc F am h' ρ :=
  L.keeps ⟨[], by simp, fun b ⟨p, hp, _⟩ => (nomatch hp)⟩ (tupKeep_of hk) fun a o e _ => hk a o e
theorem Inv.keeps (I : Inv W B F h am ρ σ) (hk : ∀ b o, h.get? b = some o → h'.get? b = some o) : Inv W B F h' am ρ σ := ⟨I.i0.keeps hk, I.loc.keepAll hk, I.ok⟩
theorem keep_push (h : Heap) (o : Obj) : ∀ b x, h.get? b = some x → (h.push o).get? b = some x := fun _ _ e => Heap.get?_push_of_some _ e
theorem get_fresh (h : Heap) {b : Addr} (hb : h.objs.size ≤ b) : h.get? b = none := by
  cases q : h.get? b with
  | none => rfl
  | some o => exact absurd (Heap.lt_size q) (Nat.not_lt.mpr hb)
theorem Inv0.more {p : Addr × Addr} {o : CO} (I : Inv0 W B own h am σ) (hl : Live own h) (hk : ∀ b x, h.get? b = some x → h'.get? b = some x) (f1 : h.get? p.1 = none) (f2 : h.get? p.2 = none) (x : OR am h' p o) :
    Inv0 W B own h' (am ++ [p]) (σ ++ [o]) := by
  have I2 := I.keeps hk
  have r1 := (I.since.fresh I.rp hl f1)
  have r2 := (I.since.fresh I.rp hl f2)
  refine ⟨⟨by simp [I.rp.len], I2.rp.old, fun q hq => ?_, ?_, fun i q u hi hu => ?_⟩, ?_, fun b ob e h1 h2 => I2.since.keep b ob e h1 h2⟩
  · rcases List.mem_append.mp hq with z | z
    · exact I.rp.new q z
    · rw [mq z]
      refine ⟨?_, ?_⟩
      · cases e : W.hZ.get? p.1 with
        | none => rfl
        | some ob => have := I.rp.old _ _ e; rw [f1] at this; cases this
      · cases e : W.hZ.get? p.2 with
        | none => rfl
        | some ob => have := I.rp.old _ _ e; rw [f2] at this; cases this
  · refine List.pairwise_append.mpr ⟨I.rp.apart, by simp, fun q hq p' hp' => ?_⟩
    rw [mq hp']
    have a1 : ∀ b, owns am b → b ≠ p.1 := fun b ho e => r1.1 (e ▸ ho)
    have a2 : ∀ b, owns am b → b ≠ p.2 := fun b ho e => r2.1 (e ▸ ho)
    exact ⟨a1 _ ⟨q, hq, .inl rfl⟩, a2 _ ⟨q, hq, .inl rfl⟩, a1 _ ⟨q, hq, .inr rfl⟩, a2 _ ⟨q, hq, .inr rfl⟩⟩
  · by_cases hi' : i < am.length
    · rw [List.getElem?_append_left hi'] at hi
      rw [List.getElem?_append_left (I.rp.len ▸ hi')] at hu
      have y := I2.rp.obj i q u hi hu
      exact y.mono ⟨[p], rfl⟩ (fun _ _ t => t) rfl rfl
    · have hge : am.length ≤ i := Nat.le_of_not_lt hi'
      rw [List.getElem?_append_right hge] at hi
      rw [List.getElem?_append_right (I.rp.len ▸ hge)] at hu
      rw [← I.rp.len] at hu
      cases hj : i - am.length with
      | zero =>
        rw [hj] at hi hu
        simp at hi hu
        subst hi hu
        exact x.mono ⟨[_], rfl⟩ (fun _ _ t => t) rfl rfl
      | succ j => rw [hj] at hi; simp at hi
  · obtain ⟨l, e, f⟩ := I.since.pre
    refine ⟨l ++ [p], by rw [← List.append_assoc, ← e], fun q hq => ?_⟩
    rcases List.mem_append.mp hq with z | z
    · exact f q z
    · rw [mq z]; exact ⟨r1.2, r2.2⟩
theorem Inv.more {p : Addr × Addr} {o : CO} (I : Inv W B F h am ρ σ) (hk : ∀ b x, h.get? b = some x → h'.get? b = some x) (f1 : h.get? p.1 = none) (f2 : h.get? p.2 = none) (x : OR am h' p o) :
    Inv W B F h' (am ++ [p]) ρ (σ ++ [o]) :=
  ⟨I.i0.more I.live hk f1 f2 x, I.loc.keeps ⟨[p], rfl, fun b ⟨q, hq, z⟩ ob ho => by
    rw [mq hq] at z
    rcases z with rfl | rfl
    · rw [f1] at ho; cases ho
    · rw [f2] at ho; cases ho⟩ (tupKeep_of hk) fun a o e _ => hk a o e, I.ok⟩
theorem Inv0.change {i : Nat} {p : Addr × Addr} {oO o : CO} (I : Inv0 W B own h am σ) (hi : am[i]? = some p) (_hs : σ[i]? = some oO)
    (hk : ∀ b x, b ≠ p.1 → b ≠ p.2 → h.get? b = some x → h'.get? b = some x) (x : OR am h' p o) : Inv0 W B own h' am (σ.set i o) := by
  have hmem : p ∈ am := List.mem_of_getElem? hi
  have ow1 : owns am p.1 := ⟨p, hmem, .inl rfl⟩
  have ow2 : owns am p.2 := ⟨p, hmem, .inr rfl⟩
  have tk : TupKeep h h' := fun a vs t => by
    have t' := t
    obtain ⟨ob, ho, r⟩ := t
    refine ⟨ob, hk a ob (fun e => ?_) (fun e => ?_) ho, r⟩
    · obtain ⟨o1, e1, n1⟩ := I.rp.owned ow1; exact tup_noTup t' (e ▸ e1) n1
    · obtain ⟨o1, e1, n1⟩ := I.rp.owned ow2; exact tup_noTup t' (e ▸ e1) n1
  refine ⟨⟨by rw [List.length_set]; exact I.rp.len, fun b ob e => ?_, I.rp.new, I.rp.apart, fun j q u hj hu => ?_⟩, I.since.pre, fun b ob e h1 h2 => ?_⟩
  · refine hk b ob (fun q => ?_) (fun q => ?_) (I.rp.old b ob e)
    · rw [q, I.rp.owned_new ow1] at e; cases e
    · rw [q, I.rp.owned_new ow2] at e; cases e
  · by_cases hij : i = j
    · subst hij
      rw [hi] at hj; cases hj
      rw [List.getElem?_set_self (by rw [← I.rp.len]; exact (gq hi).1)] at hu
      cases hu
      exact x
    · rw [List.getElem?_set_ne hij] at hu
      have y := I.rp.obj j q u hj hu
      obtain ⟨⟨o1, e1, _⟩, o2, e2, _⟩ := y.alive
      have ap : ∀ (i j : Nat) (p q : Addr × Addr), i < j → am[i]? = some p → am[j]? = some q → p.1 ≠ q.1 ∧ p.1 ≠ q.2 ∧ p.2 ≠ q.1 ∧ p.2 ≠ q.2 := fun i j p q hlt h1 h2 => by
        obtain ⟨l1, g1⟩ := gq h1
        obtain ⟨l2, g2⟩ := gq h2
        have := List.pairwise_iff_getElem.mp I.rp.apart i j l1 l2 hlt
        rw [g1, g2] at this
        exact this
      have z : q.1 ≠ p.1 ∧ q.1 ≠ p.2 ∧ q.2 ≠ p.1 ∧ q.2 ≠ p.2 := by
        rcases Nat.lt_or_gt_of_ne hij with hlt | hgt
        · have := ap i j p q hlt hi hj
          exact ⟨Ne.symm this.1, Ne.symm this.2.2.1, Ne.symm this.2.1, Ne.symm this.2.2.2⟩
        · exact ap j i q p hgt hj hi
      exact y.mono ⟨[], by simp⟩ tk ((hk _ _ z.1 z.2.1 e1).trans e1.symm) ((hk _ _ z.2.2.1 z.2.2.2 e2).trans e2.symm)
  · obtain ⟨l, e', f⟩ := I.since.pre
    have hb := I.since.keep b ob e h1 h2
    refine hk b ob (fun q => ?_) (fun q => ?_) hb
    · have : owns am b := q ▸ ow1
      rw [e'] at this
      rcases owns_append.mp this with z | ⟨r, hr, z⟩
      · exact h1 z
      · rcases z with z | z
        · rw [z, (f r hr).1] at e; cases e
        · rw [z, (f r hr).2] at e; cases e
    · have : owns am b := q ▸ ow2
      rw [e'] at this
      rcases owns_append.mp this with z | ⟨r, hr, z⟩
      · exact h1 z
      · rcases z with z | z
        · rw [z, (f r hr).1] at e; cases e
        · rw [z, (f r hr).2] at e; cases e
theorem Inv0.changeTK {i : Nat} {p : Addr × Addr} (R : Rp W h am σ) (hi : am[i]? = some p)
    (hk : ∀ b x, b ≠ p.1 → b ≠ p.2 → h.get? b = some x → h'.get? b = some x) : TupKeep h h' := fun a vs t => by
  have hmem : p ∈ am := List.mem_of_getElem? hi
  have t' := t
  obtain ⟨ob, ho, r⟩ := t
  refine ⟨ob, hk a ob (fun e => ?_) (fun e => ?_) ho, r⟩
  · obtain ⟨o1, e1, n1⟩ := R.owned ⟨p, hmem, .inl rfl⟩; exact tup_noTup t' (e ▸ e1) n1
  · obtain ⟨o1, e1, n1⟩ := R.owned ⟨p, hmem, .inr rfl⟩; exact tup_noTup t' (e ▸ e1) n1
theorem Inv.change {i : Nat} {p : Addr × Addr} {oO o : CO} (I : Inv W B F h am ρ σ) (hi : am[i]? = some p) (_hs : σ[i]? = some oO)
    (hk : ∀ b x, b ≠ p.1 → b ≠ p.2 → h.get? b = some x → h'.get? b = some x) (x : OR am h' p o) : Inv W B F h' am ρ (σ.set i o) := by
  have hmem : p ∈ am := List.mem_of_getElem? hi
  refine ⟨I.i0.change hi _hs hk x, I.loc.keeps ⟨[], by simp, fun b ⟨p, hp, _⟩ => (nomatch hp)⟩ (Inv0.changeTK I.i0.rp hi hk) fun a ob e z => hk a ob (fun q => ?_) (fun q => ?_) e, I.ok⟩
  · rcases z with z | ⟨v, z⟩
    · exact I.loc.notOwned a z ⟨p, hmem, .inl q⟩
    · exact I.i0.rp.cell_free z ⟨p, hmem, .inl q⟩
  · rcases z with z | ⟨v, z⟩
    · exact I.loc.notOwned a z ⟨p, hmem, .inr q⟩
    · exact I.i0.rp.cell_free z ⟨p, hmem, .inr q⟩
theorem Rp.aside (R : Rp W h am σ) {a : Addr} (hs : ∀ b x, b ≠ a → h.get? b = some x → h'.get? b = some x) (h0 : W.hZ.get? a = none) (ha : ¬ owns am a) (ht : ∀ o, h.get? a = some o → NoTup o) : Rp W h' am σ := by
  have tk : TupKeep h h' := fun b vs t => by
    have t' := t
    obtain ⟨ob, ho, r⟩ := t
    exact ⟨ob, hs b ob (fun e => tup_noTup t' ho (ht ob (e ▸ ho))) ho, r⟩
  refine ⟨R.len, fun b o e => hs b o (fun q => by rw [q, h0] at e; cases e) (R.old b o e), R.new, R.apart, fun i p o hi ho => ?_⟩
  have y := R.obj i p o hi ho
  obtain ⟨⟨o1, e1, _⟩, o2, e2, _⟩ := y.alive
  have hmem : p ∈ am := List.mem_of_getElem? hi
  exact y.mono ⟨[], by simp⟩ tk ((hs _ _ (fun q => ha ⟨p, hmem, .inl q.symm⟩) e1).trans e1.symm) ((hs _ _ (fun q => ha ⟨p, hmem, .inr q.symm⟩) e2).trans e2.symm)
theorem Inv.aside (I : Inv W B F h am ρ σ) {a : Addr} (hs : ∀ b x, b ≠ a → h.get? b = some x → h'.get? b = some x) (h0 : W.hZ.get? a = none) (hB : B.h.get? a = none) (ha : ¬ owns am a) (hF : a ∉ F.own) (hc : ∀ v, ¬ h.IsCell a v)
    (ht : ∀ o, h.get? a = some o → NoTup o) : Inv W B F h' am ρ σ := by
  have tk : TupKeep h h' := fun b vs t => by
    have t' := t
    obtain ⟨ob, ho, r⟩ := t
    exact ⟨ob, hs b ob (fun e => tup_noTup t' ho (ht ob (e ▸ ho))) ho, r⟩
  refine ⟨⟨I.i0.rp.aside hs h0 ha ht, I.i0.since.pre, fun b o e h1 h2 => hs b o (fun q => by rw [q, hB] at e; cases e) (I.i0.since.keep b o e h1 h2)⟩, ?_, I.ok⟩
  refine I.loc.keeps ⟨[], by simp, fun b ⟨p, hp, _⟩ => (nomatch hp)⟩ tk fun b ob e z => hs b ob (fun q => ?_) e
  rcases z with z | ⟨v, z⟩
  · exact hF (q ▸ z)
  · exact hc v (q ▸ z)
end
structure Sealed (p : Prop) : Prop where
  out : p
section
variable {α β γ δ : Type}
def PJ (W : Wd) (d : Nat) (F : Fm) (R : AM → Heap → γ → α → Prop) (t : Sem α) (ρ : Rho) (σ : List CO) (Q : γ → List CO → Prop) : Prop :=
  Sealed (∀ (A : Around) (B : Mk) (s : Shared) (am : AM), Room A d → Inv W B F s.heap am ρ σ → Rest W s → ∀ P : α → Shared → Prop,
    (∀ a s' am' c σ', Q c σ' → R am' s'.heap c a → Inv W B F s'.heap am' ρ σ' → Rest W s' → P a s') → wpAny (model W.prog W.w) A t P (fun _ _ => False) s)
def XJ (W : Wd) (d : Nat) (F : Fm) (R : AM → Heap → γ → α → Prop) (t : Sem α) (ρ : Rho) (σ : List CO) (Q : γ → Rho → List CO → Prop) : Prop :=
  Sealed (∀ (A : Around) (B : Mk) (s : Shared) (am : AM), Room A d → Inv W B F s.heap am ρ σ → Rest W s → ∀ P : α → Shared → Prop,
    (∀ a s' am' c ρ' σ', Q c ρ' σ' → R am' s'.heap c a → Inv W B F s'.heap am' ρ' σ' → Rest W s' → P a s') → wpAny (model W.prog W.w) A t P (fun _ _ => False) s)
def PV (W : Wd) (d : Nat) (F : Fm) (R : AM → Heap → γ → α → Prop) (t : List Value → Sem α) (cs : List V) (ρ : Rho) (σ : List CO) (Q : γ → List CO → Prop) : Prop :=
  Sealed (∀ (A : Around) (B : Mk) (s : Shared) (am : AM) (vs : List Value), Room A d → Inv W B F s.heap am ρ σ → Rest W s → VRs am s.heap cs vs → ∀ P : α → Shared → Prop,
    (∀ a s' am' c σ', Q c σ' → R am' s'.heap c a → Inv W B F s'.heap am' ρ σ' → Rest W s' → P a s') → wpAny (model W.prog W.w) A (t vs) P (fun _ _ => False) s)
end
def BR : AM → Heap → Bool → Bool → Prop := fun _ _ c b => b = c
def UR : AM → Heap → Unit → Unit → Prop := fun _ _ _ _ => True
inductive Fl where
  | next | brk | cont
  | ret (c : V)
def FlR (am : AM) (h : Heap) : Fl → Flow → Prop
  | .next, f => f = .next
  | .brk, f => f = .brk
  | .cont, f => f = .cont
  | .ret c, f => ∃ v, f = .ret v ∧ VR am h c v
noncomputable abbrev EJ (W : Wd) (d : Nat) (F : Fm) (e : Xp) := PJ W d F VR (eval e F.env)
noncomputable abbrev TJ (W : Wd) (d : Nat) (F : Fm) (e : Xp) := PJ W d F BR (isTrue e F.env (eval e F.env))
noncomputable abbrev LJ (W : Wd) (d : Nat) (F : Fm) (pos : Pos) (es : List Xp) := PJ W d F VRs (spliced (backTo pos (starEach es F.env)))
noncomputable abbrev SJ (W : Wd) (d : Nat) (F : Fm) (st : PySem.Stmt) := XJ W d F FlR (exec st F.env)
noncomputable abbrev SsJ (W : Wd) (d : Nat) (F : Fm) (sts : List PySem.Stmt) := XJ W d F FlR (execs sts F.env)
def AJ (W : Wd) (d : Nat) (F : Fm) (e : Xp) (c : V) (ρ : Rho) (σ : List CO) (Q : Rho → List CO → Prop) : Prop :=
  Sealed (∀ (A : Around) (B : Mk) (s : Shared) (am : AM) (v : Value), Room A d → Inv W B F s.heap am ρ σ → Rest W s → VR am s.heap c v → ∀ P : Unit → Shared → Prop,
    (∀ s' am' ρ' σ', Q ρ' σ' → Inv W B F s'.heap am' ρ' σ' → Rest W s' → P () s') → wpAny (model W.prog W.w) A (assign e F.env v) P (fun _ _ => False) s)
def CJ (W : Wd) (d : Nat) (f : Value) (cs : List V) (σ : List CO) (Q : V → List CO → Prop) : Prop :=
  Sealed (∀ (A : Around) (B : Mk) (s : Shared) (am : AM) (vs : List Value), Room A d → Inv0 W B [] s.heap am σ → Rest W s → VRs am s.heap cs vs → ∀ P : Value → Shared → Prop,
    (∀ v s' am' c σ', Q c σ' → VR am' s'.heap c v → Inv0 W B [] s'.heap am' σ' → Rest W s' → P v s') → wpAny (model W.prog W.w) A (call f vs) P (fun _ _ => False) s)
inductive Get : Rho → Sr → V → Prop
  | zx {x c r} : Get ((x, some c) :: r) x c
  | sx {p r x c} : Get r x c → Get (p :: r) x c
inductive Put : Rho → Sr → V → Rho → Prop
  | zx {x o c r} : Put ((x, o) :: r) x c ((x, some c) :: r)
  | sx {p r x c r'} : Put r x c r' → Put (p :: r) x c (p :: r')
inductive GetG : List (Sr × V) → Sr → V → Prop
  | zx {x c r} : GetG ((x, c) :: r) x c
  | sx {p r x c} : GetG r x c → GetG (p :: r) x c
theorem Get.i {ρ : Rho} {x : Sr} {c : V} (k : Nat) (h : ρ[k]? = some (x, some c) := by rfl) : Get ρ x c := by
  induction k generalizing ρ with
  | zero => match ρ, h with | _ :: _, h => cases h; exact .zx
  | succ k ih => match ρ, h with | _ :: _, h => exact .sx (ih h)
theorem GetG.i {g : List (Sr × V)} {x : Sr} {c : V} (k : Nat) (h : g[k]? = some (x, c) := by rfl) : GetG g x c := by
  induction k generalizing g with
  | zero => match g, h with | _ :: _, h => cases h; exact .zx
  | succ k ih => match g, h with | _ :: _, h => exact .sx (ih h)
theorem Put.i {ρ : Rho} {x : Sr} {c : V} (k : Nat) (h : (ρ[k]?).map (·.1) = some x := by rfl) : Put ρ x c (ρ.set k (x, some c)) := by
  induction k generalizing ρ with
  | zero => match ρ, h with | (_, _) :: _, h => cases h; exact .zx
  | succ k ih => match ρ, h with | _ :: _, h => exact .sx (ih h)
theorem Get.mem {ρ x c} (g : Get ρ x c) : (x, some c) ∈ ρ := by
  induction g with
  | zx => exact List.mem_cons_self
  | sx _ ih => exact List.mem_cons_of_mem _ ih
theorem GetG.mem {ρ x c} (g : GetG ρ x c) : (x, c) ∈ ρ := by
  induction g with
  | zx => exact List.mem_cons_self
  | sx _ ih => exact List.mem_cons_of_mem _ ih
theorem Put.keys {ρ x c ρ'} (p : Put ρ x c ρ') : ρ'.map (·.1) = ρ.map (·.1) := by
  induction p with
  | zx => rfl
  | sx _ ih => simp [ih]
theorem Put.old {ρ x c ρ'} (p : Put ρ x c ρ') : ∃ o, (x, o) ∈ ρ := by
  induction p with
  | zx => exact ⟨_, List.mem_cons_self⟩
  | sx _ ih => obtain ⟨o, h⟩ := ih; exact ⟨o, List.mem_cons_of_mem _ h⟩
theorem Put.new {ρ x c ρ'} (p : Put ρ x c ρ') : (x, some c) ∈ ρ' := by
  induction p with
  | zx => exact List.mem_cons_self
  | sx _ ih => exact List.mem_cons_of_mem _ ih
theorem Put.mem {ρ x c ρ'} (p : Put ρ x c ρ') {q} (h : q ∈ ρ') : q = (x, some c) ∨ q ∈ ρ := by
  induction p with
  | zx =>
    rcases List.mem_cons.mp h with h | h
    · exact .inl h
    · exact .inr (List.mem_cons_of_mem _ h)
  | sx _ ih =>
    rcases List.mem_cons.mp h with h | h
    · exact .inr (h ▸ List.mem_cons_self)
    · rcases ih h with h | h
      · exact .inl h
      · exact .inr (List.mem_cons_of_mem _ h)
theorem nodup_uniq {α β : Type} {l : List (α × β)} (hn : (l.map (·.1)).Nodup) {x : α} {a b : β} (h1 : (x, a) ∈ l) (h2 : (x, b) ∈ l) : a = b := by
  induction l with
  | nil => cases h1
  | cons p l ih =>
    simp only [List.map_cons, List.nodup_cons] at hn
    rcases List.mem_cons.mp h1 with e1 | h1 <;> rcases List.mem_cons.mp h2 with e2 | h2
    · rw [← e1] at e2; cases e2; rfl
    · exact absurd (List.mem_map.mpr ⟨_, h2, by rw [← e1]⟩) hn.1
    · exact absurd (List.mem_map.mpr ⟨_, h1, by rw [← e2]⟩) hn.1
    · exact ih hn.2 h1 h2
section
variable {W : Wd} {d : Nat} {F : Fm} {B : Mk} {h h' : Heap} {am : AM} {σ : List CO} {ρ ρ' : Rho} {x : Sr} {c : V} {v : Value}
theorem Inv.storeLocal {m : Sr → Option Value} (I : Inv W B F h am ρ σ) (p : Put ρ x c ρ') (hk : F.env.kindOf x = some .local) (hv : VR am h c v)
    (hm : h.Ns F.env.locals m ∧ ∀ x c, (x, some c) ∈ ρ → F.env.kindOf x = some .local → ∃ v, m x = some v ∧ VR am h c v)
    (hn : h'.Ns F.env.locals (fun y => if y = x then some v else m y)) (hs : Heap.SameBut F.env.locals h h') : Inv W B F h' am ρ' σ := by
  have L := I.loc
  have own := L.locIn
  have hs' : ∀ b x, b ≠ F.env.locals → h.get? b = some x → h'.get? b = some x := fun b x q e => (hs.2 b q).trans e
  obtain ⟨ob, hob, hno⟩ := L.live _ own
  have tk : TupKeep h h' := fun b vs t => by
    have t' := t
    obtain ⟨o, ho, r⟩ := t
    exact ⟨o, hs' b o (fun e => tup_noTup t' (e ▸ hob) hno) ho, r⟩
  have nd : (ρ'.map (·.1)).Nodup := by rw [p.keys]; exact L.nodup
  have cellNe : ∀ a v, h.IsCell a v → a ≠ F.env.locals := fun a v ⟨o, ho, hd⟩ e => by
    obtain ⟨o', ho', es, ep, hd'⟩ := ns_data hm.1
    rw [e, ho'] at ho; cases ho; rw [hd'] at hd; cases hd
  refine ⟨⟨I.i0.rp.aside hs' (I.ok.fresh _ own) (L.notOwned _ own) (fun o e => by rw [hob] at e; cases e; exact hno), I.i0.since.pre, fun b o e h1 h2 => ?_⟩, ⟨⟨_, hn, fun y c' hy hky => ?_⟩, fun y oc hy hky => ?_, fun q hq => ?_, nd, L.notOwned, fun a ha => ?_, own, fun q hq => ?_⟩, I.ok⟩
  · exact hs' b o (fun q => h2 (q ▸ own)) (I.i0.since.keep b o e h1 h2)
  · by_cases hyx : y = x
    · subst hyx
      have : some c' = some c := nodup_uniq nd hy p.new
      cases this
      exact ⟨v, by simp, hv.mono ⟨[], by simp⟩ tk⟩
    · rcases p.mem hy with e | hy
      · cases e; exact absurd rfl hyx
      · obtain ⟨u, e, r⟩ := hm.2 y c' hy hky
        exact ⟨u, by simp [hyx, e], r.mono ⟨[], by simp⟩ tk⟩
  · have hyx : y ≠ x := fun e => by subst e; rw [hk] at hky; rcases hky with e | e <;> cases e
    rcases p.mem hy with e | hy
    · cases e; exact absurd rfl hyx
    · obtain ⟨a, u, e, hc, r⟩ := L.cl y oc hy hky
      exact ⟨a, u, e, hc.sameBut hs (cellNe a u hc), fun c' q => let ⟨u', z, y⟩ := r c' q; ⟨u', z, y.mono ⟨[], by simp⟩ tk⟩⟩
  · rcases p.mem hq with e | hq
    · subst e; exact .inl hk
    · exact L.kinds q hq
  · by_cases e : a = F.env.locals
    · exact .inl ⟨_, e ▸ hn⟩
    · rcases L.ownk a ha with ⟨m', hn'⟩ | ⟨u, hc⟩
      · exact .inl ⟨m', hn'.sameBut hs e⟩
      · exact .inr ⟨u, hc.sameBut hs e⟩
  · rcases p.mem hq with e | hq
    · subst e
      obtain ⟨o, ho⟩ := p.old
      have z := L.plain _ ho; exact z
    · exact L.plain q hq
theorem Inv.storeCell {a : Addr} {vO : Option Value} (hfn : F.fn = true) (I : Inv W B F h am ρ σ) (p : Put ρ x c ρ') (hk : F.env.kindOf x = some .cell) (hv : VR am h c v) (hl : F.env.cells.lookup x = some a)
    (h0 : h.IsCell a vO) (hc : h'.IsCell a (some v)) (hs : Heap.SameBut a h h') : Inv W B F h' am ρ' σ := by
  have L := I.loc
  have own := I.ok.cellown hfn x a hk hl
  have hs' : ∀ b x, b ≠ a → h.get? b = some x → h'.get? b = some x := fun b x q e => (hs.2 b q).trans e
  obtain ⟨ob, hob, hno⟩ := L.live _ own
  have tk : TupKeep h h' := fun b vs t => by
    have t' := t
    obtain ⟨o, ho, r⟩ := t
    exact ⟨o, hs' b o (fun e => tup_noTup t' (e ▸ hob) hno) ho, r⟩
  have nd : (ρ'.map (·.1)).Nodup := by rw [p.keys]; exact L.nodup
  have aL : F.env.locals ≠ a := fun e => I.ok.locne hfn (x, a) (mem_of_lookup hl) e.symm
  refine ⟨⟨I.i0.rp.aside hs' (I.ok.fresh _ own) (L.notOwned _ own) (fun o e => by rw [hob] at e; cases e; exact hno), I.i0.since.pre, fun b o e h1 h2 => ?_⟩, ⟨?_, fun y oc hy hky => ?_, fun q hq => ?_, nd, L.notOwned, fun b hb => ?_, L.locIn, fun q hq => ?_⟩, I.ok⟩
  · exact hs' b o (fun q => h2 (q ▸ own)) (I.i0.since.keep b o e h1 h2)
  · obtain ⟨m, hn, hm⟩ := L.ns
    refine ⟨m, hn.sameBut hs aL, fun y c' hy hky => ?_⟩
    have hyx : y ≠ x := fun e => by subst e; rw [hk] at hky; cases hky
    rcases p.mem hy with e | hy
    · cases e; exact absurd rfl hyx
    · obtain ⟨u, e, r⟩ := hm y c' hy hky
      exact ⟨u, e, r.mono ⟨[], by simp⟩ tk⟩
  · by_cases hyx : y = x
    · subst hyx
      have e : oc = some c := nodup_uniq nd hy p.new
      subst e
      exact ⟨a, _, hl, hc, fun c' q => by cases q; exact ⟨v, rfl, hv.mono ⟨[], by simp⟩ tk⟩⟩
    · rcases p.mem hy with e | hy
      · cases e; exact absurd rfl hyx
      · obtain ⟨b, u, e, hcb, r⟩ := L.cl y oc hy hky
        have hba : b ≠ a := fun q => hyx (name_of_addr (I.ok.apart hfn) (mem_of_lookup e) (q ▸ mem_of_lookup hl))
        exact ⟨b, u, e, hcb.sameBut hs hba, fun c' q => let ⟨u', z, y⟩ := r c' q; ⟨u', z, y.mono ⟨[], by simp⟩ tk⟩⟩
  · rcases p.mem hq with e | hq
    · subst e; exact .inr (.inl hk)
    · exact L.kinds q hq
  · by_cases e : b = a
    · exact .inr ⟨_, e ▸ hc⟩
    · rcases L.ownk b hb with ⟨m', hn'⟩ | ⟨u, hcb⟩
      · exact .inl ⟨m', hn'.sameBut hs e⟩
      · exact .inr ⟨u, hcb.sameBut hs e⟩
  · rcases p.mem hq with e | hq
    · subst e
      obtain ⟨o, ho⟩ := p.old
      have z := L.plain _ ho; exact z
    · exact L.plain q hq
theorem GV.vr (g : GV W x c) (R : Rp W h am σ) : (∃ v, W.mg x = some v ∧ VR am h c v) ∨ (W.mg x = none ∧ ∃ v, W.mb x = some v ∧ VR am h c v) := by
  have tk := tupKeep_of (h := W.hZ) (h' := h) R.old
  rcases g with ⟨v, e, r⟩ | ⟨e, v, e', r⟩
  · exact .inl ⟨v, e, r.mono ⟨am, by simp⟩ tk⟩
  · exact .inr ⟨e, v, e', r.mono ⟨am, by simp⟩ tk⟩
theorem EJ.name {pos : Pos} {Q : V → List CO → Prop} (g : Get ρ x c) (h : Q c σ) : EJ W d F (.Name x pos) ρ σ Q := by
  refine .mk ?_
  intro A B s am hR I hr P hP
  have hm := g.mem
  refine wpAny_Name ?_ (I.loc.plain _ hm).1
  rcases I.loc.kinds _ hm with hk | hk | hk
  · obtain ⟨m, hn, hv⟩ := I.loc.ns
    obtain ⟨v, e, r⟩ := hv x c hm hk
    exact wpAny_loadName_local I.ok.kind hk hn e (hP v s am c σ h r I hr)
  · obtain ⟨a, u, e, hc, r⟩ := I.loc.cl x _ hm (.inl hk)
    obtain ⟨v, e', r⟩ := r c rfl
    exact wpAny_loadName_cell I.ok.kind hk e (e' ▸ hc) (hP v s am c σ h r I hr)
  · obtain ⟨a, u, e, hc, r⟩ := I.loc.cl x _ hm (.inr hk)
    obtain ⟨v, e', r⟩ := r c rfl
    exact wpAny_loadName_free I.ok.kind hk e (e' ▸ hc) (hP v s am c σ h r I hr) (I.loc.plain _ hm).2
theorem EJ.glob (hW : W.Ok) {pos : Pos} {Q : V → List CO → Prop} (g : GetG F.gs x c) (h : Q c σ) : EJ W d F (.Name x pos) ρ σ Q := by
  refine .mk ?_
  intro A B s am hR I hr P hP
  obtain ⟨hk, hd, gv⟩ := I.ok.gs _ g.mem
  have hg : s.heap.Ns F.env.globals W.mg := I.ok.glob ▸ hW.g.keeps I.i0.rp.old
  have hb : s.heap.Ns F.env.builtins W.mb := I.ok.bui ▸ hW.b.keeps I.i0.rp.old
  rcases GV.vr gv I.i0.rp with ⟨v, e, r⟩ | ⟨e, v, e', r⟩
  · exact Name_function_global I.ok.kind hk (loadGlobal_global hg e (hP v s am c σ h r I hr)) hd
  · exact Name_function_global I.ok.kind hk (loadGlobal_builtin hg e hb e' (hP v s am c σ h r I hr)) hd
theorem store {A : Around} {s : Shared} (p : Put ρ x c ρ') (I : Inv W B F s.heap am ρ σ) (hr : Rest W s) (hv : VR am s.heap c v) {P : Unit → Shared → Prop}
    (hfn : F.fn = true) (hP : ∀ s', Inv W B F s'.heap am ρ' σ → Rest W s' → P () s') : wpAny (model W.prog W.w) A (storeName F.env x v) P (fun _ _ => False) s := by
  obtain ⟨o, ho⟩ := p.old
  rcases I.loc.kinds _ ho with hk | hk | hk
  · obtain ⟨m, hn, hm⟩ := I.loc.ns
    exact wpAny_storeName_local hk hn (fun h' hn' hs => hP _ (I.storeLocal p hk hv ⟨hn, hm⟩ hn' hs) hr) (by rw [I.ok.kind]; rfl)
  · obtain ⟨a, u, e, hc, r⟩ := I.loc.cl x _ ho (.inl hk)
    exact wpAny_storeName_cell I.ok.kind hk e hc fun h' hc' hs => hP _ (I.storeCell hfn p hk hv e hc hc' hs) hr
  · exact absurd hk (I.ok.fn hfn x)
end
section
variable {W : Wd} {d : Nat} {F : Fm} {σ : List CO} {ρ ρ' : Rho} {x : Sr} {c : V} {pos pos' : Pos} {k : Nat} {α β γ δ : Type}
  {R : AM → Heap → γ → α → Prop} {R' : AM → Heap → δ → β → Prop}
theorem PJ.mono {t : Sem α} {Q Q' : γ → List CO → Prop} (h : PJ W d F R t ρ σ Q) (hq : ∀ c σ', Q c σ' → Q' c σ') : PJ W d F R t ρ σ Q' := .mk fun A B s am hR I hr P hP => h.out A B s am hR I hr P fun a s' am' c σ' q => hP a s' am' c σ' (hq _ _ q)
theorem EJ.cint {i : Int} {Q : V → List CO → Prop} (h : Q (.int i) σ) : EJ W d F (.Constant (.int i) k pos) ρ σ Q := .mk fun _A _B s am _hR I hr P hP => wpAny_Constant_int (hP _ { s with toks := s.toks + 1 } am _ σ h ⟨s.toks, rfl⟩ I hr)
theorem EJ.cnone {Q : V → List CO → Prop} (h : Q .none σ) : EJ W d F (.Constant .none k pos) ρ σ Q := .mk fun _A _B s am _hR I hr P hP => Constant_none (hP _ s am _ σ h rfl I hr)
theorem EJ.cbool {b : Bool} {Q : V → List CO → Prop} (h : Q (.bool b) σ) : EJ W d F (.Constant (.bool b) k pos) ρ σ Q := .mk fun _A _B s am _hR I hr P hP => Constant_bool (hP _ s am _ σ h rfl I hr)
theorem EJ.cstr {y : Sr} {Q : V → List CO → Prop} (h : Q (.str y) σ) : EJ W d F (.Constant (.str y) k pos) ρ σ Q := .mk fun _A _B s am _hR I hr P hP => Constant_str (hP _ { s with toks := s.toks + 1 } am _ σ h ⟨s.toks, rfl⟩ I hr)
noncomputable def OpJ (W : Wd) (d : Nat) (F : Fm) (op : Operator) (a b : V) := PV W d F VR (fun vs => match vs with | [x, y] => binaryOp op x y | _ => unsupported "") [a, b]
theorem vrs2 {am : AM} {h : Heap} {a b : V} {va vb : Value} (ha : VR am h a va) (hb : VR am h b vb) : VRs am h [a, b] [va, vb] := ⟨va, [vb], rfl, ha, vb, [], rfl, hb, rfl⟩
theorem vrs1 {am : AM} {h : Heap} {a : V} {va : Value} (ha : VR am h a va) : VRs am h [a] [va] := ⟨va, [], rfl, ha, rfl⟩
abbrev KB2 (W : Wd) (d : Nat) (F : Fm) (op : Operator) (a : V) (ρ : Rho) (Q : V → List CO → Prop) : V → List CO → Prop :=
  fun b σ => OpJ W d F op a b ρ σ Q
abbrev KB1 (W : Wd) (d : Nat) (F : Fm) (op : Operator) (r : Xp) (ρ : Rho) (Q : V → List CO → Prop) : V → List CO → Prop :=
  fun a σ => EJ W d F r ρ σ (KB2 W d F op a ρ Q)
theorem EJ.binop {l r : Xp} {op : Operator} {Q : V → List CO → Prop} (h : EJ W d F l ρ σ (KB1 W d F op r ρ Q)) : EJ W d F (.BinOp l op r pos) ρ σ Q := .mk fun A B s am hR I hr P hP => wpAny_BinOp (h.out A B s am hR I hr _ fun va sK amA a σA q ra IA rA => q.out A ⟨amA, sK.heap⟩ sK amA hR IA.self rA _ fun vb sB amB b σB qB rb IB rB =>
    qB.out A B sB amB [va, vb] hR (IA.step IB) rB (vrs2 (IA.vr IB ra) rb) P hP)
theorem OpJ.ints {op : Operator} {a b r : Int} {Q : V → List CO → Prop} (h : Q (.int r) σ)
    (go : ∀ (A : Around) (s : Shared) (t u : Tok) (P : Value → Shared → Prop), Room A d → P (.int r s.toks) { s with toks := s.toks + 1 } → wpAny (model W.prog W.w) A (binaryOp op (.int a t) (.int b u)) P (fun _ _ => False) s) : OpJ W d F op (.int a) (.int b) ρ σ Q := by
  refine .mk ?_
  intro A B s am vs hR I hr hv P hP
  obtain ⟨_, _, rfl, ⟨t, rfl⟩, _, _, rfl, ⟨u, rfl⟩, rfl⟩ := hv
  exact go A s t u P hR (hP _ { s with toks := s.toks + 1 } am _ σ h ⟨s.toks, rfl⟩ I hr)
theorem OpJ.add {a b : Int} {Q : V → List CO → Prop} (h : Q (.int (a + b)) σ) : OpJ W d F .Add (.int a) (.int b) ρ σ Q := .ints h fun _ _ _ _ _ _ q => P.add_int q
theorem OpJ.sub {a b : Int} {Q : V → List CO → Prop} (h : Q (.int (a - b)) σ) : OpJ W d F .Sub (.int a) (.int b) ρ σ Q := .ints h fun _ _ _ _ _ _ q => P.sub_int q
theorem OpJ.mul {a b : Int} {Q : V → List CO → Prop} (hm : IntMulOk a b) (h : Q (.int (a * b)) σ) : OpJ W d F .Mult (.int a) (.int b) ρ σ Q := .ints h fun _ _ _ _ _ _ q => P.mul_int q hm
theorem OpJ.fdiv {a b : Int} {Q : V → List CO → Prop} (hb : b ≠ 0) (hs : Builtin.divisionGoesByPylong a b = false) (h : Q (.int (a.fdiv b)) σ) : OpJ W d F .FloorDiv (.int a) (.int b) ρ σ Q := .ints h fun _ _ _ _ _ _ q => floordiv_int hb q (.inl hs)
theorem OpJ.fmod {a b : Int} {Q : V → List CO → Prop} (hb : b ≠ 0) (h : Q (.int (a.fmod b)) σ) : OpJ W d F .Mod (.int a) (.int b) ρ σ Q := .ints h fun _ _ _ _ _ _ q => mod_int' hb q
theorem OpJ.band {a b : Int} {Q : V → List CO → Prop} (h : Q (.int (Builtin.bitAnd a b)) σ) : OpJ W d F .BitAnd (.int a) (.int b) ρ σ Q := .ints h fun _ _ _ _ _ _ q => and_int q
theorem OpJ.bor {a b : Int} {Q : V → List CO → Prop} (h : Q (.int (Builtin.bitOr a b)) σ) : OpJ W d F .BitOr (.int a) (.int b) ρ σ Q := .ints h fun _ _ _ _ _ _ q => or_int q
theorem OpJ.bxor {a b : Int} {Q : V → List CO → Prop} (h : Q (.int (Builtin.bitXor a b)) σ) : OpJ W d F .BitXor (.int a) (.int b) ρ σ Q := .ints h fun _ _ _ _ _ _ q => xor_int q
theorem OpJ.shl {a b : Int} {Q : V → List CO → Prop} (hb : 0 ≤ b) (hb2 : b ≤ 1000000) (ha : a.natAbs < 2 ^ 64) (h : Q (.int (a * 2 ^ b.toNat)) σ) : OpJ W d F .LShift (.int a) (.int b) ρ σ Q := .ints h fun _ _ _ _ _ _ q => lshift_int_small hb hb2 ha q
theorem OpJ.pow {a b : Int} {Q : V → List CO → Prop} (hb : 0 ≤ b) (hsz : (Builtin.Int.intBits a : Int) * b ≤ 2 ^ 27) (h : Q (.int (a ^ b.toNat)) σ) : OpJ W d F .Pow (.int a) (.int b) ρ σ Q := .ints h fun _ _ _ _ _ _ q => pow_int hb hsz q
theorem EJ.neg {e : Xp} {Q : V → List CO → Prop} (h : EJ W d F e ρ σ fun a σA => ∃ i, a = .int i ∧ Q (.int (-i)) σA) : EJ W d F (.UnaryOp .USub e pos) ρ σ Q := .mk fun A B s am hR I hr P hP => wpAny_UnaryOp (h.out A B s am hR I hr _ fun va sK amA a σA q ra IA rA => by
    obtain ⟨i, rfl, q⟩ := q
    obtain ⟨t, rfl⟩ := ra
    exact PyProof.Rows.neg_int (hP _ { sK with toks := sK.toks + 1 } amA _ σA q ⟨sK.toks, rfl⟩ IA rA))
theorem EJ.inv {e : Xp} {Q : V → List CO → Prop} (h : EJ W d F e ρ σ fun a σA => ∃ i, a = .int i ∧ Q (.int (Builtin.bitNot i)) σA) : EJ W d F (.UnaryOp .Invert e pos) ρ σ Q := .mk fun A B s am hR I hr P hP => wpAny_UnaryOp (h.out A B s am hR I hr _ fun va sK amA a σA q ra IA rA => by
    obtain ⟨i, rfl, q⟩ := q
    obtain ⟨t, rfl⟩ := ra
    exact invert_int (hP _ { sK with toks := sK.toks + 1 } amA _ σA q ⟨sK.toks, rfl⟩ IA rA))
noncomputable def CmpJ (W : Wd) (d : Nat) (F : Fm) (op : CmpOp) (a b : V) := PV W d F VR (fun vs => match vs with | [x, y] => compareOp op x y | _ => unsupported "") [a, b]
abbrev KC2 (W : Wd) (d : Nat) (F : Fm) (op : CmpOp) (a : V) (ρ : Rho) (Q : V → List CO → Prop) : V → List CO → Prop :=
  fun b σ => CmpJ W d F op a b ρ σ Q
abbrev KC1 (W : Wd) (d : Nat) (F : Fm) (op : CmpOp) (r : Xp) (ρ : Rho) (Q : V → List CO → Prop) : V → List CO → Prop :=
  fun a σ => EJ W d F r ρ σ (KC2 W d F op a ρ Q)
theorem EJ.cmp {l r : Xp} {op : CmpOp} {Q : V → List CO → Prop} (h : EJ W d F l ρ σ (KC1 W d F op r ρ Q))
    (hm : behindInMarks op r = false := by with_unfolding_all rfl) : EJ W d F (.Compare l [op] [r] pos) ρ σ Q := .mk fun A B s am hR I hr P hP => wpAny_Compare1 (h.out A B s am hR I hr _ fun va sK amA a σA q ra IA rA => q.out A ⟨amA, sK.heap⟩ sK amA hR IA.self rA _ fun vb sB amB b σB qB rb IB rB =>
    qB.out A B sB amB [va, vb] hR (IA.step IB) rB (vrs2 (IA.vr IB ra) rb) P hP) hm
theorem CmpJ.ints {op : CmpOp} {a b : Int} {r : Bool} {Q : V → List CO → Prop} (h : Q (.bool r) σ)
    (go : ∀ (A : Around) (s : Shared) (t u : Tok) (P : Value → Shared → Prop), P (.bool r) s → wpAny (model W.prog W.w) A (compareOp op (.int a t) (.int b u)) P (fun _ _ => False) s) : CmpJ W d F op (.int a) (.int b) ρ σ Q := by
  refine .mk ?_
  intro A B s am vs hR I hr hv P hP
  obtain ⟨_, _, rfl, ⟨t, rfl⟩, _, _, rfl, ⟨u, rfl⟩, rfl⟩ := hv
  exact go A s t u P (hP _ s am _ σ h rfl I hr)
theorem CmpJ.lt {a b : Int} {Q : V → List CO → Prop} (h : Q (.bool (decide (a < b))) σ) : CmpJ W d F .Lt (.int a) (.int b) ρ σ Q := .ints h fun _ _ _ _ _ q => P.lt_int q
theorem CmpJ.le {a b : Int} {Q : V → List CO → Prop} (h : Q (.bool (decide (a ≤ b))) σ) : CmpJ W d F .LtE (.int a) (.int b) ρ σ Q := .ints h fun _ _ _ _ _ q => P.le_int q
theorem CmpJ.gt {a b : Int} {Q : V → List CO → Prop} (h : Q (.bool (decide (b < a))) σ) : CmpJ W d F .Gt (.int a) (.int b) ρ σ Q := .ints h fun _ _ _ _ _ q => gt_int q
theorem CmpJ.ge {a b : Int} {Q : V → List CO → Prop} (h : Q (.bool (decide (b ≤ a))) σ) : CmpJ W d F .GtE (.int a) (.int b) ρ σ Q := .ints h fun _ _ _ _ _ q => P.ge_int q
theorem CmpJ.eq {a b : Int} {Q : V → List CO → Prop} (h : Q (.bool (a == b)) σ) : CmpJ W d F .Eq (.int a) (.int b) ρ σ Q := .ints h fun _ _ _ _ _ q => P.eq_int q
theorem CmpJ.ne {a b : Int} {Q : V → List CO → Prop} (h : Q (.bool (a != b)) σ) : CmpJ W d F .NotEq (.int a) (.int b) ρ σ Q := .ints h fun _ _ _ _ _ q => P.ne_int q
noncomputable def V.isNone : V → Bool
  | .none => true
  | _ => false
noncomputable def V.told : V → Bool
  | .any | .raw _ => false
  | _ => true
theorem vr_isNone {am : AM} {h : Heap} {v : Value} : ∀ {c : V}, c.told = true → VR am h c v → (v == .none) = c.isNone
  | .none, _, r => by cases r; rfl
  | .bool _, _, r => by cases r; rfl
  | .int _, _, r => by obtain ⟨t, rfl⟩ := r; rfl
  | .str _, _, r => by obtain ⟨t, rfl⟩ := r; rfl
  | .tup _, _, r => by obtain ⟨a, vs, rfl, _⟩ := r; rfl
  | .ref _, _, r => by obtain ⟨p, _, rfl⟩ := r; rfl
theorem CmpJ.isNone {a : V} {Q : V → List CO → Prop} (ht : a.told = true) (h : Q (.bool a.isNone) σ) : CmpJ W d F .Is a .none ρ σ Q := by
  refine .mk ?_
  intro A B s am vs hR I hr hv P hP
  obtain ⟨va, _, rfl, ra, _, _, rfl, hn, rfl⟩ := hv
  cases hn
  refine is_none_gen ?_
  rw [vr_isNone ht ra]
  exact hP _ s am _ σ h rfl I hr
theorem CmpJ.nn {a : V} {Q : V → List CO → Prop} (ht : a.told = true) (h : Q (.bool (!a.isNone)) σ) : CmpJ W d F .IsNot a .none ρ σ Q := by
  refine .mk ?_
  intro A B s am vs hR I hr hv P hP
  obtain ⟨va, _, rfl, ra, _, _, rfl, hn, rfl⟩ := hv
  cases hn
  refine isnot_none_gen ?_
  rw [vr_isNone ht ra]
  exact hP _ s am _ σ h rfl I hr
noncomputable def TrJ (W : Wd) (d : Nat) (F : Fm) (a : V) := PV W d F BR (fun vs => match vs with | [x] => truthy x | _ => unsupported "") [a]
theorem TrJ.bl {b : Bool} {Q : Bool → List CO → Prop} (h : Q b σ) : TrJ W d F (.bool b) ρ σ Q := by
  refine .mk ?_
  intro A B s am vs hR I hr hv P hP
  obtain ⟨_, _, rfl, hb, rfl⟩ := hv
  cases hb
  exact wpAny_truthy_bool (hP _ s am _ σ h rfl I hr)
theorem TrJ.int {i : Int} {Q : Bool → List CO → Prop} (h : Q (i != 0) σ) : TrJ W d F (.int i) ρ σ Q := by
  refine .mk ?_
  intro A B s am vs hR I hr hv P hP
  obtain ⟨_, _, rfl, ⟨t, rfl⟩, rfl⟩ := hv
  exact PySem.P.truthy_int (hP _ s am _ σ h rfl I hr)
abbrev KT (W : Wd) (d : Nat) (F : Fm) (ρ : Rho) (Q : Bool → List CO → Prop) : V → List CO → Prop :=
  fun c σ => TrJ W d F c ρ σ Q
theorem TJ.cmp {l r : Xp} {op : CmpOp} {Q : Bool → List CO → Prop} (h : EJ W d F l ρ σ (KC1 W d F op r ρ (KT W d F ρ Q)))
    (hm : behindInMarks op r = false := by with_unfolding_all rfl) : TJ W d F (.Compare l [op] [r] pos) ρ σ Q := .mk fun A B s am hR I hr P hP => wpAny_isTrue_Compare1 (h.out A B s am hR I hr _ fun va sK amA a σA q ra IA rA => q.out A ⟨amA, sK.heap⟩ sK amA hR IA.self rA _ fun vb sB amB b σB qB rb IB rB =>
    qB.out A B sB amB [va, vb] hR (IA.step IB) rB (vrs2 (IA.vr IB ra) rb) _ fun vc sC amC c σC qC rc IC rC => qC.out A B sC amC [vc] hR IC rC (vrs1 rc) P hP) hm
abbrev KN (Q : Bool → List CO → Prop) : Bool → List CO → Prop :=
  fun b σ => Q (!b) σ
theorem TJ.not {e : Xp} {Q : Bool → List CO → Prop} (h : TJ W d F e ρ σ (KN Q)) : TJ W d F (.UnaryOp .Not e pos) ρ σ Q := .mk fun A B s am hR I hr P hP => isTrue_not (h.out A B s am hR I hr _ fun b sK amA c σA q rb IA rA => hP _ sK amA _ σA q (by cases rb; rfl) IA rA)
theorem TJ.and_nil {Q : Bool → List CO → Prop} (h : Q true σ) : TJ W d F (.BoolOp .And [] pos) ρ σ Q := .mk fun _A _B s am _hR I hr P hP => isTrue_and_nil (hP _ s am _ σ h rfl I hr)
theorem TJ.or_nil {Q : Bool → List CO → Prop} (h : Q false σ) : TJ W d F (.BoolOp .Or [] pos) ρ σ Q := .mk fun _A _B s am _hR I hr P hP => isTrue_or_nil (hP _ s am _ σ h rfl I hr)
theorem isTrue_BoolOp_whole (op : PySem.BoolOp) (es : List Xp) (env : Env) (w w' : Sem Value) : isTrue (.BoolOp op es pos) env w = isTrue (.BoolOp op es pos) env w' := rfl
abbrev KA (W : Wd) (d : Nat) (F : Fm) (pos : Pos) (es : List Xp) (ρ : Rho) (Q : Bool → List CO → Prop) : Bool → List CO → Prop :=
  fun b σ => if b then TJ W d F (.BoolOp .And es pos) ρ σ Q else Q false σ
theorem TJ.and {e : Xp} {es : List Xp} {Q : Bool → List CO → Prop} (h : TJ W d F e ρ σ (KA W d F pos es ρ Q)) : TJ W d F (.BoolOp .And (e :: es) pos) ρ σ Q := .mk fun A B s am hR I hr P hP => isTrue_and (h.out A B s am hR I hr _ fun b sK amA c σA q rb IA rA => by
    cases rb
    cases b
    · exact hP _ sK amA _ σA q rfl IA rA
    · exact q.out A B sK amA hR IA rA P hP)
abbrev KO (W : Wd) (d : Nat) (F : Fm) (pos : Pos) (es : List Xp) (ρ : Rho) (Q : Bool → List CO → Prop) : Bool → List CO → Prop :=
  fun b σ => if b then Q true σ else TJ W d F (.BoolOp .Or es pos) ρ σ Q
theorem TJ.or {e : Xp} {es : List Xp} {Q : Bool → List CO → Prop} (h : TJ W d F e ρ σ (KO W d F pos es ρ Q)) : TJ W d F (.BoolOp .Or (e :: es) pos) ρ σ Q := .mk fun A B s am hR I hr P hP => isTrue_or (h.out A B s am hR I hr _ fun b sK amA c σA q rb IA rA => by
    cases rb
    cases b
    · exact q.out A B sK amA hR IA rA P hP
    · exact hP _ sK amA _ σA q rfl IA rA)
theorem TJ.plain {e : Xp} {Q : Bool → List CO → Prop} (h : EJ W d F e ρ σ (KT W d F ρ Q))
    (he : isTrue e F.env (eval e F.env) = (do let v ← eval e F.env; standAt e.pos; holding [v] (truthy v)) := by rfl) : TJ W d F e ρ σ Q := .mk fun A B s am hR I hr P hP => isTrue_plain (h.out A B s am hR I hr _ fun v sK amA c σA q rb IA rA => q.out A B sK amA [v] hR IA rA (vrs1 rb) P hP) he
noncomputable def ChJ (W : Wd) (d : Nat) (F : Fm) (pos : Pos) (a : V) (ops : List CmpOp) (rs : List Xp) := PV W d F BR (fun vs => match vs with | [x] => testChain pos x ops (evalEach rs F.env) | _ => unsupported "") [a]
abbrev KH (W : Wd) (d : Nat) (F : Fm) (pos : Pos) (ops : List CmpOp) (rs : List Xp) (ρ : Rho) (Q : Bool → List CO → Prop) : V → List CO → Prop :=
  fun a σ => ChJ W d F pos a ops rs ρ σ Q
theorem TJ.chain {l rA rB : Xp} {opA opB : CmpOp} {ops : List CmpOp} {rs : List Xp} {Q : Bool → List CO → Prop}
    (h : EJ W d F l ρ σ (KH W d F pos (opA :: opB :: ops) (rA :: rB :: rs) ρ Q)) (hm : lastMarks (opA :: opB :: ops) (rA :: rB :: rs) = false := by with_unfolding_all rfl) :
    TJ W d F (.Compare l (opA :: opB :: ops) (rA :: rB :: rs) pos) ρ σ Q := .mk fun A B s am hR I hr P hP => isTrue_chain (h.out A B s am hR I hr _ fun va sK amA a σA q ra IA rA => q.out A B sK amA [va] hR IA rA (vrs1 ra) P hP) hm
abbrev KH3 (W : Wd) (d : Nat) (F : Fm) (pos : Pos) (b : V) (ops : List CmpOp) (rs : List Xp) (ρ : Rho) (Q : Bool → List CO → Prop) : Bool → List CO → Prop :=
  fun t σ => if t then ChJ W d F pos b ops rs ρ σ Q else Q false σ
abbrev KH1 (W : Wd) (d : Nat) (F : Fm) (pos : Pos) (op : CmpOp) (a : V) (ops : List CmpOp) (rs : List Xp) (ρ : Rho) (Q : Bool → List CO → Prop) : V → List CO → Prop :=
  fun b σ => CmpJ W d F op a b ρ σ (KT W d F ρ (KH3 W d F pos b ops rs ρ Q))
theorem ChJ.link {r r' : Xp} {op op' : CmpOp} {ops : List CmpOp} {rs : List Xp} {a : V} {Q : Bool → List CO → Prop}
    (h : EJ W d F r ρ σ (KH1 W d F pos op a (op' :: ops) (r' :: rs) ρ Q)) :
    ChJ W d F pos a (op :: op' :: ops) (r :: r' :: rs) ρ σ Q := by
  refine .mk ?_
  intro A B s am vs hR I hr hv P hP
  obtain ⟨va, _, rfl, ra, rfl⟩ := hv
  refine test_link (h.out A ⟨am, s.heap⟩ s am hR I.self hr _ fun vb sK amA b σA q rb IA rA => q.out A ⟨amA, sK.heap⟩ sK amA [va, vb] hR IA.self rA (vrs2 (I.vr IA ra) rb) _ fun vc sB amB c σB qB rc IB rB =>
    qB.out A ⟨amB, sB.heap⟩ sB amB [vc] hR IB.self rB (vrs1 rc) _ fun t sC amC t' σC qC rt IC rC => ?_)
  have JA := I.step IA
  have JB := JA.step IB
  have JC := JB.step IC
  cases rt
  cases t
  · exact hP _ sC amC _ σC qC rfl JC rC
  · exact qC.out A B sC amC [vb] hR JC rC (vrs1 (JB.vr IC (JA.vr IB rb))) P hP
theorem ChJ.last {r : Xp} {op : CmpOp} {a : V} {Q : Bool → List CO → Prop}
    (h : EJ W d F r ρ σ (KC2 W d F op a ρ (KT W d F ρ Q))) : ChJ W d F pos a [op] [r] ρ σ Q := by
  refine .mk ?_
  intro A B s am vs hR I hr hv P hP
  obtain ⟨va, _, rfl, ra, rfl⟩ := hv
  refine test_last (h.out A ⟨am, s.heap⟩ s am hR I.self hr _ fun vb sK amA b σA q rb IA rA => q.out A ⟨amA, sK.heap⟩ sK amA [va, vb] hR IA.self rA (vrs2 (I.vr IA ra) rb) _ fun vc sB amB c σB qB rc IB rB =>
    qB.out A B sB amB [vc] hR ((I.step IA).step IB) rB (vrs1 rc) P hP)
abbrev KI (W : Wd) (d : Nat) (F : Fm) (b o : Xp) (ρ : Rho) (Q : V → List CO → Prop) : Bool → List CO → Prop :=
  fun c σ => if c then EJ W d F b ρ σ Q else EJ W d F o ρ σ Q
theorem EJ.ite {t b o : Xp} {Q : V → List CO → Prop} (h : TJ W d F t ρ σ (KI W d F b o ρ Q)) : EJ W d F (.IfExp t b o pos) ρ σ Q := .mk fun A B s am hR I hr P hP => IfExp_ (h.out A B s am hR I hr _ fun c sK amA c' σA q rc IA rA => by
    cases rc
    cases c
    · exact q.out A B sK amA hR IA rA P hP
    · exact q.out A B sK amA hR IA rA P hP)
end
section
variable {am : AM} {h : Heap}
theorem VRs.length : ∀ {cs : List V} {vs : List Value}, VRs am h cs vs → vs.length = cs.length
  | [], _, x => by rw [show _ = _ from x]; rfl
  | _ :: _, _, ⟨_, _, rfl, _, x⟩ => by simp [x.length]
theorem VRs.get : ∀ {cs : List V} {vs : List Value}, VRs am h cs vs → ∀ {j : Nat} {c : V}, cs[j]? = some c → ∃ v, vs[j]? = some v ∧ VR am h c v
  | [], _, _, j, c, e => by simp at e
  | _ :: _, _, ⟨v, _, rfl, r, _⟩, 0, c, e => by simp at e; subst e; exact ⟨v, rfl, r⟩
  | _ :: _, _, ⟨_, _, rfl, _, x⟩, j + 1, c, e => by simpa using x.get (by simpa using e)
theorem VRs.nil : VRs am h [] [] := rfl
theorem VRs.cons {c : V} {cs : List V} {v : Value} {vs : List Value} (x : VR am h c v) (y : VRs am h cs vs) : VRs am h (c :: cs) (v :: vs) := ⟨v, vs, rfl, x, y⟩
theorem VRs.append : ∀ {cs : List V} {vs : List Value} {ds : List V} {us : List Value}, VRs am h cs vs → VRs am h ds us → VRs am h (cs ++ ds) (vs ++ us)
  | [], _, _, _, x, y => by rw [show _ = _ from x]; exact y
  | _ :: _, _, _, _, ⟨v, r, rfl, x1, x2⟩, y => ⟨v, r ++ _, rfl, x1, x2.append y⟩
theorem VRs.take : ∀ (n : Nat) {cs : List V} {vs : List Value}, VRs am h cs vs → VRs am h (cs.take n) (vs.take n)
  | 0, _, _, _ => by simp [VRs]
  | n + 1, [], _, x => by rw [show _ = _ from x]; simp [VRs]
  | n + 1, _ :: _, _, ⟨v, r, rfl, x1, x2⟩ => ⟨v, r.take n, rfl, x1, x2.take n⟩
theorem VRs.drop : ∀ (n : Nat) {cs : List V} {vs : List Value}, VRs am h cs vs → VRs am h (cs.drop n) (vs.drop n)
  | 0, _, _, x => x
  | n + 1, [], _, x => by rw [show _ = _ from x]; simp [VRs]
  | n + 1, _ :: _, _, ⟨v, r, rfl, x1, x2⟩ => x2.drop n
theorem VRs.set : ∀ (n : Nat) {cs : List V} {vs : List Value} {c : V} {v : Value}, VRs am h cs vs → VR am h c v → VRs am h (cs.set n c) (vs.set n v)
  | _, [], _, _, _, x, _ => by rw [show _ = _ from x]; simp [VRs]
  | 0, _ :: _, _, _, _, ⟨v, r, rfl, x1, x2⟩, y => ⟨_, r, rfl, y, x2⟩
  | n + 1, _ :: _, _, _, _, ⟨v, r, rfl, x1, x2⟩, y => ⟨v, _, rfl, x1, x2.set n y⟩
theorem VRs.replicate : ∀ (n : Nat) {c : V} {v : Value}, VR am h c v → VRs am h (List.replicate n c) (List.replicate n v)
  | 0, _, _, _ => rfl
  | n + 1, _, _, x => ⟨_, _, rfl, x, VRs.replicate n x⟩
theorem VRs.singleton {c : V} {vs : List Value} (x : VRs am h [c] vs) : ∃ v, vs = [v] ∧ VR am h c v := by
  obtain ⟨v, r, rfl, x1, x2⟩ := x
  rw [show r = [] from x2]
  exact ⟨v, rfl, x1⟩
end
noncomputable def item (l : List V) (k : Int) : Option V := (seqIndex? k l.length).bind (l[·]?)
noncomputable def slc {α : Type} (l : List α) (lo hi : Option Int) : List α := (l.drop (lo.elim 0 (clipAt l.length))).take (hi.elim l.length (clipAt l.length) - lo.elim 0 (clipAt l.length))
section
variable {W : Wd} {d : Nat} {F : Fm} {σ : List CO} {ρ ρ' : Rho} {x : Sr} {c : V} {pos pos' : Pos} {k : Nat} {B : Mk} {am : AM} {h h' : Heap}
theorem Inv.obj (I : Inv W B F h am ρ σ) {n : Nat} {o : CO} (e : σ[n]? = some o) : ∃ p, am[n]? = some p ∧ OR am h p o := by
  obtain ⟨hl, _⟩ := gq e
  have hl' : n < am.length := I.i0.rp.len ▸ hl
  exact ⟨am[n], List.getElem?_eq_some_iff.mpr ⟨hl', rfl⟩, I.i0.rp.obj n _ o (List.getElem?_eq_some_iff.mpr ⟨hl', rfl⟩) e⟩
theorem Inv.ref (I : Inv W B F h am ρ σ) {n : Nat} {o : CO} {v : Value} (e : σ[n]? = some o) (r : VR am h (.ref n) v) : ∃ p, am[n]? = some p ∧ v = .ref p.1 ∧ OR am h p o := by
  obtain ⟨p, hp, x⟩ := I.obj e
  obtain ⟨q, hq, rfl⟩ := r
  rw [hp] at hq; cases hq
  exact ⟨p, hp, rfl, x⟩
theorem LJ.nil {Q : List V → List CO → Prop} (q : Q [] σ) : LJ W d F pos [] ρ σ Q := .mk fun _A _B s am _hR I hr P hP => wpAny_pure (a := []) (hP _ s am _ σ q rfl I hr)
abbrev KLq (c : V) (Q : List V → List CO → Prop) : List V → List CO → Prop :=
  fun cs σ => Q (c :: cs) σ
abbrev KLc (W : Wd) (d : Nat) (F : Fm) (pos : Pos) (es : List Xp) (ρ : Rho) (Q : List V → List CO → Prop) : V → List CO → Prop :=
  fun c σ => LJ W d F pos es ρ σ (KLq c Q)
theorem LJ.cons {e : Xp} {es : List Xp} {Q : List V → List CO → Prop} (q : EJ W d F e ρ σ (KLc W d F pos es ρ Q))
    (he : starEach (e :: es) F.env = (false, eval e F.env) :: starEach es F.env := by rfl) : LJ W d F pos (e :: es) ρ σ Q := by
  refine .mk ?_
  intro A B s am hR I hr P hP
  rw [he]
  refine spliced_cons (q.out A B s am hR I hr _ fun v sK amA c σA qA rA IA hK => qA.out A ⟨amA, sK.heap⟩ sK amA hR IA.self hK _ fun vs sB amB cs σB qB rB IB h₂ => ?_)
  exact hP _ sB amB _ σB qB (.cons (IA.vr IB rA) rB) (IA.step IB) h₂
theorem isTup_new (h : Heap) (vs : List Value) : IsTup (h.push { cls := .type "tuple", data := .seq vs.toArray }) h.objs.size vs.toArray := ⟨_, Heap.get?_push_size _ rfl, rfl, 0, rfl⟩
theorem isList_new (h : Heap) (vs : List Value) : (h.push { cls := .type "list", data := .seq vs.toArray }).IsList h.objs.size vs.toArray := ⟨_, Heap.get?_push_size _ rfl, rfl, 0, rfl⟩
theorem VR.newTup {cs : List V} {vs : List Value} (r : VRs am h cs vs) : VR am (h.push { cls := .type "tuple", data := .seq vs.toArray }) (.tup cs) (.ref h.objs.size) :=
  ⟨_, vs, rfl, isTup_new h vs, r.mono ⟨[], by simp⟩ (tupKeep_of (keep_push h _))⟩
theorem Inv.newList {cs : List V} {vs : List Value} (I : Inv W B F h am ρ σ) (r : VRs am h cs vs) :
    Inv W B F (h.push { cls := .type "list", data := .seq vs.toArray }) (am ++ [(h.objs.size, h.objs.size)]) ρ (σ ++ [.list cs]) ∧ VR (am ++ [(h.objs.size, h.objs.size)]) (h.push { cls := .type "list", data := .seq vs.toArray }) (.ref σ.length) (.ref h.objs.size) := by
  have f := get_fresh h (Nat.le_refl h.objs.size)
  refine ⟨I.more (keep_push h _) f f ⟨rfl, vs, ⟨_, Heap.get?_push_size _ rfl⟩, r.mono ⟨[], by simp⟩ (tupKeep_of (keep_push h _))⟩, ⟨(h.objs.size, h.objs.size), ?_, rfl⟩⟩
  rw [← I.i0.rp.len, List.getElem?_append_right (Nat.le_refl _), Nat.sub_self]; rfl
abbrev KTu (Q : V → List CO → Prop) : List V → List CO → Prop :=
  fun cs σ => cs.length ≤ 100000 ∧ Q (.tup cs) σ
theorem EJ.tuple {es : List Xp} {Q : V → List CO → Prop} (q : LJ W d F pos es ρ σ (KTu Q)) : EJ W d F (.Tuple es k pos) ρ σ Q := .mk fun A B s am hR I hr P hP => Tuple_ (q.out A B s am hR I hr _ fun vs sK amA cs σA qA rA IA hK => wpAny_newTuple (hP _ { sK with heap := _ } amA _ σA qA.2 (VR.newTup rA) (IA.keeps (keep_push _ _)) hK)
    (by rw [rA.length, sizeLine_eq]; have := qA.1; lia))
abbrev KLi (Q : V → List CO → Prop) : List V → List CO → Prop :=
  fun cs σ => cs.length ≤ 100000 ∧ Q (.ref σ.length) (σ ++ [.list cs])
theorem EJ.list {es : List Xp} {Q : V → List CO → Prop} (q : LJ W d F pos es ρ σ (KLi Q)) : EJ W d F (.List es pos) ρ σ Q := .mk fun A B s am hR I hr P hP => List_ (q.out A B s am hR I hr _ fun vs sK amA cs σA qA rA IA hK => wpAny_newList (hP _ { sK with heap := _ } _ _ _ qA.2 (IA.newList rA).2 (IA.newList rA).1 hK)
    (by rw [rA.length, sizeLine_eq]; have := qA.1; lia))
noncomputable def GiJ (W : Wd) (d : Nat) (F : Fm) (value slice : Xp) (a i : V) := PV W d F VR (fun vs => match vs with | [x, y] => subscriptTail value slice x y | _ => unsupported "") [a, i]
abbrev KS2 (W : Wd) (d : Nat) (F : Fm) (value slice : Xp) (a : V) (ρ : Rho) (Q : V → List CO → Prop) : V → List CO → Prop :=
  fun i σ => GiJ W d F value slice a i ρ σ Q
abbrev KS1 (W : Wd) (d : Nat) (F : Fm) (value slice : Xp) (ρ : Rho) (Q : V → List CO → Prop) : V → List CO → Prop :=
  fun a σ => EJ W d F slice ρ σ (KS2 W d F value slice a ρ Q)
theorem EJ.sub {value slice : Xp} {Q : V → List CO → Prop} (q : EJ W d F value ρ σ (KS1 W d F value slice ρ Q)) : EJ W d F (.Subscript value slice pos) ρ σ Q := .mk fun A B s am hR I hr P hP => Subscript_ (q.out A B s am hR I hr _ fun va sK amA a σA q ra IA rA => q.out A ⟨amA, sK.heap⟩ sK amA hR IA.self rA _ fun vb sB amB b σB qB rb IB rB =>
    qB.out A B sB amB [va, vb] hR (IA.step IB) rB (vrs2 (IA.vr IB ra) rb) P hP)
theorem seqIndex_bounds {i : Int} {n j : Nat} (e : seqIndex? i n = some j) : -(n : Int) ≤ i ∧ i < n ∧ j < n ∧ (i < 0 → (i + n).toNat = j) ∧ (0 ≤ i → i.toNat = j) := by
  unfold seqIndex? at e
  by_cases hi : i < 0
  · simp only [hi, if_true, Bool.and_eq_true, decide_eq_true_eq] at e
    by_cases hc : 0 ≤ i + (n : Int) ∧ i + (n : Int) < n
    · rw [if_pos hc] at e
      have e := Option.some.inj e
      exact ⟨by lia, by lia, by lia, fun _ => e, fun q => by lia⟩
    · rw [if_neg hc] at e; cases e
  · simp only [hi, if_false, Bool.and_eq_true, decide_eq_true_eq] at e
    by_cases hc : 0 ≤ i ∧ i < (n : Int)
    · rw [if_pos hc] at e
      have e := Option.some.inj e
      exact ⟨by lia, by lia, by lia, fun q => by lia, fun _ => e⟩
    · rw [if_neg hc] at e; cases e
theorem GiJ.tup {value slice : Xp} {l : List V} {i : Int} {c : V} {Q : V → List CO → Prop} (e : item l i = some c) (hl : l.length ≤ 100000) (q : Q c σ)
    (hs : ∀ t u, subscripted slice false (.ref t) (.int i u) = operate [.ref t, .int i u] (getItem (.ref t) (.int i u)) := by intro _ _; with_unfolding_all rfl) : GiJ W d F value slice (.tup l) (.int i) ρ σ Q := by
  refine .mk ?_
  intro A B s am vs hR I hr hv P hP
  obtain ⟨_, _, rfl, ⟨t, ws, rfl, ht, rw'⟩, _, _, rfl, ⟨u, rfl⟩, rfl⟩ := hv
  unfold item at e
  obtain ⟨j, hj, hc⟩ := Option.bind_eq_some_iff.mp e
  obtain ⟨v, hv, rv⟩ := rw'.get hc
  obtain ⟨b1, b2, _⟩ := seqIndex_bounds hj
  exact item_tupleT ht (by lia) (by lia) (by rw [rw'.length]; exact hj) hv (hP _ s am _ σ q rv I hr) (hs t u)
theorem getItem_list_any {prog : Program} {w : World} {A : Around} {E : Value → Shared → Prop} {s : Shared} {l : Addr} {vs : List Value} {i : Int} {u : Tok} {j : Nat} {v : Value} {P : Value → Shared → Prop}
    (hl : s.heap.IsList l vs.toArray) (hn : vs.length ≤ 100000) (hj : seqIndex? i vs.length = some j) (hv : vs[j]? = some v) (h : P v s) : wpAny (model prog w) A (getItem (.ref l) (.int i u)) P E s := by
  obtain ⟨b1, b2, b3, b4, b5⟩ := seqIndex_bounds hj
  by_cases hi : i < 0
  · exact wpAny_getItem_list_neg hl hi (by simpa using b1) (by lia) (by rw [List.size_toArray, b4 hi]; simpa using hv) h
  · exact wpAny_getItem_list hl (by lia) (by lia) (by rw [b5 (by lia)]; simpa using hv) h
theorem GiJ.list {value slice : Xp} {n : Nat} {l : List V} {i : Int} {c : V} {Q : V → List CO → Prop} (ho : σ[n]? = some (.list l)) (e : item l i = some c) (hl : l.length ≤ 100000) (q : Q c σ)
    (hs : ∀ t u, subscripted slice false (.ref t) (.int i u) = operate [.ref t, .int i u] (getItem (.ref t) (.int i u)) := by intro _ _; with_unfolding_all rfl) : GiJ W d F value slice (.ref n) (.int i) ρ σ Q := by
  refine .mk ?_
  intro A B s am vs hR I hr hv P hP
  obtain ⟨va, _, rfl, ra, _, _, rfl, ⟨u, rfl⟩, rfl⟩ := hv
  obtain ⟨p, hp, rfl, _, ws, hL, rw'⟩ := I.ref ho ra
  unfold item at e
  obtain ⟨j, hj, hc⟩ := Option.bind_eq_some_iff.mp e
  obtain ⟨v, hv, rv⟩ := rw'.get hc
  exact tail_any hL.isList.typeIs slot_list_getitem.lookup (getItem_list_any hL.isList (by rw [rw'.length]; exact hl) (by rw [rw'.length]; exact hj) hv (hP _ s am _ σ q rv I hr)) (hs _ u)
noncomputable abbrev EPJ (W : Wd) (d : Nat) (F : Fm) (e : Option Xp) := PJ W d F VR (evalPart e F.env)
theorem EPJ.none {Q : V → List CO → Prop} (q : Q .none σ) : EPJ W d F none ρ σ Q := .mk fun _A _B s am _hR I hr P hP => wpAny_pure (a := Value.none) (hP _ s am _ σ q rfl I hr)
theorem EPJ.some {e : Xp} {Q : V → List CO → Prop} (q : EJ W d F e ρ σ Q) : EPJ W d F (some e) ρ σ Q := q
noncomputable def V.part : V → Option (Option Int)
  | .none => some Option.none
  | .int i => some (Option.some i)
  | _ => Option.none
theorem part_is {a : V} {o : Option Int} {v : Value} (e : a.part = some o) (r : VR am h a v) : IsPart v o := by
  cases a <;> cases e
  · cases r; exact .none
  · obtain ⟨t, rfl⟩ := r; exact .int _ _
noncomputable def SlJ (W : Wd) (d : Nat) (F : Fm) (value slice : Xp) (a lo hi : V) :=
  PV W d F VR (fun vs => match vs with | [x, l, u] => (do let i ← newFields "slice" [l, u, .none]; subscriptTail value slice x i) | _ => unsupported "") [a, lo, hi]
theorem vrs3 {a b c : V} {va vb vc : Value} (ha : VR am h a va) (hb : VR am h b vb) (hc : VR am h c vc) : VRs am h [a, b, c] [va, vb, vc] := .cons ha (.cons hb (.cons hc .nil))
theorem EJ.slice {value : Xp} {lo hi : Option Xp} {Q : V → List CO → Prop} (q : EJ W d F value ρ σ fun a σA => EPJ W d F lo ρ σA fun l σB => EPJ W d F hi ρ σB fun u σC => SlJ W d F value (.Slice lo hi none pos') a l u ρ σC Q) :
    EJ W d F (.Subscript value (.Slice lo hi none pos') pos) ρ σ Q := by
  refine .mk ?_
  intro A B s am hR I hr P hP
  refine Subscript_ (q.out A B s am hR I hr _ fun va sK amA a σA qA ra IA rA => wpAny_Slice (qA.out A ⟨amA, sK.heap⟩ sK amA hR IA.self rA _ fun vl sB amB l σB qB rl IB rB => qB.out A ⟨amB, sB.heap⟩ sB amB hR IB.self rB _ fun vu sC amC u σC qC ru IC rC => ?_))
  rw [evalPart_none]
  refine wpAny_pure ?_
  have JB := IA.step IB
  have z := qC.out A B sC amC [va, vl, vu] hR (JB.step IC) rC (vrs3 (JB.vr IC (IA.vr IB ra)) (JB.vr IC rl) ru) P hP
  intro Γ p hΓ
  have y := z Γ p hΓ
  simp only [Sem.wp_bind'] at y
  exact y
end
section
variable {prog : Program} {w : World} {A : Around} {E : Value → Shared → Prop} {s : Shared}
theorem adjust_upto (b n : Nat) (hb : b ≤ n) : Builtin.Slice.sliceAdjust none (some (b : Int)) 1 (n : Int) = ((0 : Int), (b : Int)) := by
  unfold Builtin.Slice.sliceAdjust
  have h1 : ¬ ((1 : Int) < 0) := by lia
  have h2 : ¬ ((b : Int) < 0) := by lia
  simp only [h1, h2, if_false]
  congr 1
  lia
theorem places_upto (b : Nat) : Builtin.Slice.slicePlaces (0 : Int) (b : Int) 1 = b := by
  unfold Builtin.Slice.slicePlaces
  have h1 : (1 : Int) > 0 := by lia
  simp only [h1, if_true, Int.ediv_one]
  split <;> lia
theorem sliceApplied_upto {sl : Addr} {b n : Nat} {u : Tok} {Q : Int × Int × Nat → Shared → Prop} (hs : s.heap.IsSliceOf sl .none (.int b u) .none) (hb : b ≤ n) (h : Q ((0 : Int), 1, b) s) :
    wpAny (model prog w) A (Builtin.Slice.sliceApplied (.ref sl) (pure (n : Int))) Q E s := by
  obtain ⟨os, hos, hcs, hds⟩ := id hs
  unfold Builtin.Slice.sliceApplied Builtin.Slice.sliceFields
  refine wpAny_bind (wpAny_bind (wpAny_field hos hds (x := .none) rfl (wpAny_bind (wpAny_field hos hds (x := .int b u) rfl (wpAny_bind (wpAny_field hos hds (x := .none) rfl (wpAny_pure ?_)))))))
  refine wpAny_bind (slicePart_none ?_)
  show wpAny _ _ (if ((1 : Int) == 0) = true then _ else _) _ _ s
  rw [if_neg (by decide)]
  refine wpAny_bind (slicePart_none (wpAny_bind (slicePart_int (wpAny_bind (wpAny_pure ?_)))))
  show wpAny _ _ (match Builtin.Slice.sliceAdjust none (some (b : Int)) 1 (n : Int) with | (lo, hi) => pure (lo, (1 : Int), Builtin.Slice.slicePlaces lo hi 1)) _ _ s
  rw [adjust_upto b n hb]
  show wpAny _ _ (pure ((0 : Int), (1 : Int), Builtin.Slice.slicePlaces (0 : Int) (b : Int) 1)) _ _ s
  rw [places_upto b]
  exact wpAny_pure h
theorem pick_upto (xs : Array Value) (b : Nat) : ((List.range b).filterMap fun (k : Nat) => xs[((0 : Int) + (k : Int) * 1).toNat]?).toArray = (xs.toList.take b).toArray := by
  have e : (fun (k : Nat) => xs[((0 : Int) + (k : Int) * 1).toNat]?) = fun k => xs[0 + k]? := by
    funext k
    have : ((0 : Int) + (k : Int) * 1).toNat = 0 + k := by lia
    rw [this]
  rw [e]
  have := pick_run xs 0 b
  rw [List.filterMap_map] at this
  have e2 : ((fun x => xs[x]?) ∘ fun x => 0 + x) = fun k => xs[0 + k]? := rfl
  rw [e2] at this
  rw [this, List.drop_zero]
theorem getItem_tuple_upto {t sl : Addr} {items : Array Value} {b : Nat} {u : Tok} {Q : Value → Shared → Prop} (ht : IsTup s.heap t items) (hs : s.heap.IsSliceOf sl .none (.int b u) .none) (hb : b < items.size)
    (h : Q (.ref s.heap.objs.size) { s with heap := s.heap.push { cls := .type "tuple", data := .seq (items.toList.take b).toArray } })
    (hsz : items.size ≤ sizeLine) : wpAny (model prog w) A (getItem (.ref t) (.ref sl)) Q E s := by
  have hdrop : sizeOk (.seq (items.toList.take b).toArray) := by
    show (items.toList.take b).toArray.size ≤ sizeLine
    rw [List.size_toArray, List.length_take, Array.length_toList]
    lia
  obtain ⟨os, hos, hcs, hds⟩ := id hs
  have hTs : s.TypeIs (.ref sl) "slice" := ⟨os, hos, hcs⟩
  unfold getItem
  try with_reducible refine wpAny_holding ?_
  first | refine wpAny_bind (wpAny_pure ?_) | skip
  refine wpAny_bind (wpAny_sequenceKey ht.typeIs (by decide) ?_)
  refine wpAny_bind (wpAny_callSpecial?_slot (name := Str.ofString "__getitem__") ht.typeIs slot_tuple_getitem
    (wpAny_call_entry slot_tuple_getitem ht.typeIs entry_tuple_getitem ?_ (args_tuple_getitem _ _)))
  show wpAny _ _ (Builtin.Tuple.tupleItemsOf (.ref t) >>= _) _ _ s
  refine wpAny_bind (tupleItemsOf_ ht ?_)
  refine wpAny_bind (wpAny_typeOf hTs ?_)
  rw [if_pos (by decide)]
  refine wpAny_bind (sliceApplied_upto hs (Nat.le_of_lt hb) ?_)
  have hno : ¬ (((0 : Int) == 0 && (1 : Int) == 1 && b == items.size) = true) := by
    have : (b == items.size) = false := by rw [beq_eq_false_iff_ne]; lia
    rw [this]; simp
  show wpAny _ _ (if ((0 : Int) == 0 && (1 : Int) == 1 && b == items.size) = true then _ else _) _ _ s
  rw [if_neg hno, pick_upto items b]
  first
    | exact wpAny_bind (m := Builtin.Tuple.tupleExact _) (wpAny_newObj_type (wpAny_pure ⟨_, rfl, wpAny_pure h⟩) hdrop)
    | exact wpAny_bind (m := Builtin.Tuple.tupleExact _) (wpAny_newObj_type (wpAny_bind (wpAny_pure (wpAny_pure ⟨_, rfl, wpAny_pure h⟩))) hdrop)
    | exact wpAny_bind (wpAny_bind (m := Builtin.Tuple.tupleExact _) (wpAny_newObj_type (wpAny_pure (wpAny_pure ⟨_, rfl, wpAny_pure h⟩)) hdrop))
    | exact wpAny_bind (wpAny_bind (m := Builtin.Tuple.tupleExact _) (wpAny_newObj_type (wpAny_pure ⟨_, rfl, wpAny_pure h⟩) hdrop))
end
section
variable {am : AM} {h : Heap}
theorem VRs.slc {cs : List V} {vs : List Value} (x : VRs am h cs vs) (lo hi : Option Int) : VRs am h (slc cs lo hi) (slicePick vs.toArray lo hi none).toList := by
  rw [slicePick_plain]
  simp only [List.size_toArray, x.length]
  exact (x.drop _).take _
end
section
variable {W : Wd} {d : Nat} {F : Fm} {σ : List CO} {ρ ρ' : Rho} {x : Sr} {c : V} {pos pos' : Pos} {k : Nat} {B : Mk} {am : AM} {h h' : Heap}
theorem SlJ.list {value slice : Xp} {n : Nat} {l : List V} {a b : V} {lo hi : Option Int} {Q : V → List CO → Prop} (ho : σ[n]? = some (.list l)) (ea : a.part = some lo) (eb : b.part = some hi) (hl : l.length ≤ 100000)
    (q : Q (.ref σ.length) (σ ++ [.list (slc l lo hi)])) (hs : ∀ t u, subscripted slice false (.ref t) (.ref u) = operate [.ref u, .ref t] (getItem (.ref t) (.ref u)) := by intro _ _; with_unfolding_all rfl) :
    SlJ W d F value slice (.ref n) a b ρ σ Q := by
  refine .mk ?_
  intro A B s am vs hR I hr hv P hP
  obtain ⟨va, _, rfl, ra, vl, _, rfl, rl, vu, _, rfl, ru, rfl⟩ := hv
  obtain ⟨p, hp, rfl, _, ws, hL, rw'⟩ := I.ref ho ra
  replace hL := hL.isList
  show wpAny _ _ (newFields "slice" [vl, vu, .none] >>= fun i => subscriptTail value slice (.ref p.1) i) _ _ s
  refine wpAny_bind (wpAny_newObj_type ?_)
  have I' := I.keeps (keep_push s.heap { cls := .type "slice", data := .fields #[vl, vu, .none] })
  have hL' := hL.push { cls := .type "slice", data := .fields #[vl, vu, .none] }
  have rw2 := rw'.mono (am' := am) ⟨[], by simp⟩ (tupKeep_of (keep_push s.heap { cls := .type "slice", data := .fields #[vl, vu, .none] }))
  have z := I'.newList (rw2.slc lo hi)
  refine tail_any (s := { s with heap := _ }) hL'.typeIs slot_list_getitem.lookup (wpAny_getItem_list_slice (s := { s with heap := _ }) hL' (Heap.IsSliceOf.new _ _ _ _) (part_is ea rl) (part_is eb ru) .none nofun ?_ ?_) (hs _ _)
  · rw [Array.toArray_toList] at z
    exact hP _ { s with heap := _ } _ _ _ q z.2 z.1 hr
  · rw [List.size_toArray, rw'.length, sizeLine_eq]; lia
theorem SlJ.tupFrom {value slice : Xp} {l : List V} {a : Nat} {Q : V → List CO → Prop} (h1 : 1 ≤ a) (ha : a ≤ l.length) (hl : l.length ≤ 100000)
    (q : Q (.tup (l.drop a)) σ) (hs : ∀ t u, subscripted slice false (.ref t) (.ref u) = operate [.ref u, .ref t] (getItem (.ref t) (.ref u)) := by intro _ _; with_unfolding_all rfl) :
    SlJ W d F value slice (.tup l) (.int a) .none ρ σ Q := by
  refine .mk ?_
  intro A B s am vs hR I hr hv P hP
  obtain ⟨va, _, rfl, ⟨t, ws, rfl, ht, rw'⟩, vl, _, rfl, ⟨u, rfl⟩, vu, _, rfl, hu, rfl⟩ := hv
  cases hu
  show wpAny _ _ (newFields "slice" [.int a u, .none, .none] >>= fun i => subscriptTail value slice (.ref t) i) _ _ s
  refine wpAny_bind (wpAny_newObj_type ?_)
  have I' := I.keeps (keep_push s.heap { cls := .type "slice", data := .fields #[.int a u, .none, .none] })
  have ht' := ht.push { cls := .type "slice", data := .fields #[.int a u, .none, .none] }
  have rw2 := rw'.mono (am' := am) ⟨[], by simp⟩ (tupKeep_of (keep_push s.heap { cls := .type "slice", data := .fields #[.int a u, .none, .none] }))
  refine tail_any (s := { s with heap := _ }) ht'.typeIs slot_tuple_getitem.lookup (getItem_tuple_from (s := { s with heap := _ }) ht' (Heap.IsSliceOf.new _ _ _ _) h1 (by rw [List.size_toArray, rw'.length]; exact ha) ?_ ?_) (hs _ _)
  · exact hP _ { s with heap := _ } _ _ _ q (VR.newTup (rw2.drop a)) (I'.keeps (keep_push _ _)) hr
  · rw [List.size_toArray, rw'.length, sizeLine_eq]; lia
theorem SlJ.tupUpto {value slice : Xp} {l : List V} {b : Nat} {Q : V → List CO → Prop} (hb : b < l.length) (hl : l.length ≤ 100000)
    (q : Q (.tup (l.take b)) σ) (hs : ∀ t u, subscripted slice false (.ref t) (.ref u) = operate [.ref u, .ref t] (getItem (.ref t) (.ref u)) := by intro _ _; with_unfolding_all rfl) :
    SlJ W d F value slice (.tup l) .none (.int b) ρ σ Q := by
  refine .mk ?_
  intro A B s am vs hR I hr hv P hP
  obtain ⟨va, _, rfl, ⟨t, ws, rfl, ht, rw'⟩, vl, _, rfl, hu, vu, _, rfl, ⟨u, rfl⟩, rfl⟩ := hv
  cases hu
  show wpAny _ _ (newFields "slice" [.none, .int b u, .none] >>= fun i => subscriptTail value slice (.ref t) i) _ _ s
  refine wpAny_bind (wpAny_newObj_type ?_)
  have I' := I.keeps (keep_push s.heap { cls := .type "slice", data := .fields #[.none, .int b u, .none] })
  have ht' := ht.push { cls := .type "slice", data := .fields #[.none, .int b u, .none] }
  have rw2 := rw'.mono (am' := am) ⟨[], by simp⟩ (tupKeep_of (keep_push s.heap { cls := .type "slice", data := .fields #[.none, .int b u, .none] }))
  refine tail_any (s := { s with heap := _ }) ht'.typeIs slot_tuple_getitem.lookup (getItem_tuple_upto (s := { s with heap := _ }) ht' (Heap.IsSliceOf.new _ _ _ _) (by rw [List.size_toArray, rw'.length]; exact hb) ?_ ?_) (hs _ _)
  · exact hP _ { s with heap := _ } _ _ _ q (VR.newTup (rw2.take b)) (I'.keeps (keep_push _ _)) hr
  · rw [List.size_toArray, rw'.length, sizeLine_eq]; lia
theorem OpJ.addList {n m : Nat} {l l' : List V} {Q : V → List CO → Prop} (h1 : σ[n]? = some (.list l)) (h2 : σ[m]? = some (.list l')) (hl : l.length + l'.length ≤ 100000)
    (q : Q (.ref σ.length) (σ ++ [.list (l ++ l')])) : OpJ W d F .Add (.ref n) (.ref m) ρ σ Q := by
  refine .mk ?_
  intro A B s am vs hR I hr hv P hP
  obtain ⟨va, _, rfl, ra, vb, _, rfl, rb, rfl⟩ := hv
  obtain ⟨p, hp, rfl, _, ws, hL, rw1⟩ := I.ref h1 ra
  obtain ⟨p', hp', rfl, _, us, hM, rw2⟩ := I.ref h2 rb
  have z := I.newList (rw1.append rw2)
  obtain ⟨⟨cls, dd, data, sl⟩, ho, hc, n, hd⟩ := id hL.isList
  obtain ⟨⟨cls2, dd2, data2, sl2⟩, ho2, hc2, n2, hd2⟩ := id hM.isList
  simp only at hc hd hc2 hd2
  subst hc hd hc2 hd2
  have e : ws.toArray ++ us.toArray = (ws ++ us).toArray := by simp
  refine concat_meets ⟨_, ho, rfl⟩ ⟨_, ho2, rfl⟩ noFill_list_add seq_list_add PySem.F.slot_list_add PySem.F.entry_list_add (PySem.F.args_list_add_2 _ _)
    (list_addW p.1 p'.1 ws.toArray us.toArray n n2 dd dd2 sl sl2 (by rw [List.size_toArray, List.size_toArray, rw1.length, rw2.length, sizeLine_eq]; lia)) ⟨ho, ho2, ?_⟩
  rw [e]
  exact hP _ { s with heap := _ } _ _ _ q z.2 z.1 hr
theorem OpJ.addTup {l l' : List V} {Q : V → List CO → Prop} (hl : l.length + l'.length ≤ 100000)
    (q : Q (.tup (l ++ l')) σ) : OpJ W d F .Add (.tup l) (.tup l') ρ σ Q := by
  refine .mk ?_
  intro A B s am vs hR I hr hv P hP
  obtain ⟨_, _, rfl, ⟨t, ws, rfl, ht, rw1⟩, _, _, rfl, ⟨t', us, rfl, ht', rw2⟩, rfl⟩ := hv
  have htt := ht
  have htt' := ht'
  obtain ⟨⟨cls, dd, data, sl⟩, ho, hc, n, hd⟩ := id ht
  obtain ⟨⟨cls2, dd2, data2, sl2⟩, ho2, hc2, n2, hd2⟩ := id ht'
  simp only at hc hd hc2 hd2
  subst hc hd hc2 hd2
  have e : ws.toArray ++ us.toArray = (ws ++ us).toArray := by simp
  by_cases hv : ws = []
  · refine concat_meets ⟨_, ho, rfl⟩ ⟨_, ho2, rfl⟩ noFill_tuple_add seq_tuple_add PySem.F.slot_tuple_add PySem.F.entry_tuple_add (PySem.F.args_tuple_add_2 _ _)
      (tuple_addW0 t t' ws.toArray us.toArray n n2 dd dd2 sl sl2 (by simp [hv])) ⟨ho, ho2, ?_⟩
    have : l = [] := List.eq_nil_of_length_eq_zero (by rw [← rw1.length, hv]; rfl)
    subst this
    exact hP _ s am _ σ q ⟨t', us, rfl, htt', rw2⟩ I hr
  · by_cases hw : us = []
    · refine concat_meets ⟨_, ho, rfl⟩ ⟨_, ho2, rfl⟩ noFill_tuple_add seq_tuple_add PySem.F.slot_tuple_add PySem.F.entry_tuple_add (PySem.F.args_tuple_add_2 _ _)
        (tuple_addW1 t t' ws.toArray us.toArray n n2 dd dd2 sl sl2 (by simpa using hv) (by simp [hw])) ⟨ho, ho2, ?_⟩
      have : l' = [] := List.eq_nil_of_length_eq_zero (by rw [← rw2.length, hw]; rfl)
      subst this
      rw [List.append_nil] at q
      exact hP _ s am _ σ q ⟨t, ws, rfl, htt, rw1⟩ I hr
    · refine concat_meets ⟨_, ho, rfl⟩ ⟨_, ho2, rfl⟩ noFill_tuple_add seq_tuple_add PySem.F.slot_tuple_add PySem.F.entry_tuple_add (PySem.F.args_tuple_add_2 _ _)
        (tuple_addW2 t t' ws.toArray us.toArray n n2 dd dd2 sl sl2 (by simpa using hv) (by simpa using hw) (by rw [List.size_toArray, List.size_toArray, rw1.length, rw2.length, sizeLine_eq]; lia)) ⟨ho, ho2, ?_⟩
      rw [e]
      exact hP _ { s with heap := _ } am _ σ q (VR.newTup (rw1.append rw2)) (I.keeps (keep_push _ _)) hr
abbrev KX2 (a : V) (ρ : Rho) (c : V) (Q : Rho → List CO → Prop) : V → List CO → Prop :=
  fun b σB => ∃ n l k, a = .ref n ∧ b = .int k ∧ σB[n]? = some (.list l) ∧ 0 ≤ k ∧ k < l.length ∧ l.length ≤ 100000 ∧ Q ρ (σB.set n (.list (l.set k.toNat c)))
abbrev KX1 (W : Wd) (d : Nat) (F : Fm) (i : Xp) (ρ : Rho) (c : V) (Q : Rho → List CO → Prop) : V → List CO → Prop :=
  fun a σA => EJ W d F i ρ σA (KX2 a ρ c Q)
theorem AJ.item {o i : Xp} {c : V} {Q : Rho → List CO → Prop}
    (q : EJ W d F o ρ σ (KX1 W d F i ρ c Q)) : AJ W d F (.Subscript o i pos) c ρ σ Q := by
  refine .mk ?_
  intro A B s am v hR I hr hv P hP
  rw [arm_assign_Subscript]
  refine wpAny_bind (wpAny_holding (q.out A ⟨am, s.heap⟩ s am hR I.self hr _ fun va sK amA a σA qA ra IA rA => wpAny_bind (wpAny_holding (qA.out A ⟨amA, sK.heap⟩ sK amA hR IA.self rA _ fun vb sB amB b σB qB rb IB rB => ?_))))
  obtain ⟨n, l, k, rfl, rfl, ho, h0, hk, hl, qB⟩ := qB
  have JA := I.step IA
  have JB := JA.step IB
  obtain ⟨p, hp, rfl, _, ws, hL, rw'⟩ := JB.ref ho (JA.vr IB ra)
  have rv := JA.vr IB (I.vr IA hv)
  obtain ⟨u, rfl⟩ := rb
  obtain ⟨nn, hob⟩ := id hL
  refine wpAny_bind (wpAny_standAt (wpAny_bind (wpAny_holding (ki_setAt hob h0 (by lia) (by rw [List.size_toArray, rw'.length]; exact hk) (wpAny_release' ?_)))))
  have hs : Heap.SameBut p.1 sB.heap (sB.heap.update p.1 (Obj.mapSeq (·.setIfInBounds k.toNat v))) := Heap.SameBut.update ..
  have hmap : Obj.mapSeq (·.setIfInBounds k.toNat v) (PySem.W.listOf ws.toArray nn) = PySem.W.listOf (ws.set k.toNat v).toArray nn := by
    simp [Obj.mapSeq, PySem.W.listOf]
  have hL' : (sB.heap.update p.1 (Obj.mapSeq (·.setIfInBounds k.toNat v))).PlainList p.1 (ws.set k.toNat v).toArray := ⟨nn, by rw [Heap.get?_update_self _ hob (by rw [hmap]; rfl), hmap]⟩
  have hks : ∀ b x, b ≠ p.1 → b ≠ p.2 → sB.heap.get? b = some x → (sB.heap.update p.1 (Obj.mapSeq (·.setIfInBounds k.toNat v))).get? b = some x := fun b x e _ g => (hs.2 b e).trans g
  refine hP { sB with heap := _ } amB _ _ qB (JB.change hp ho hks ⟨by assumption, ws.set k.toNat v, ?_, ?_⟩) rB
  · exact hL'
  · exact (rw'.set k.toNat rv).mono ⟨[], by simp⟩ (Inv0.changeTK JB.i0.rp hp hks)
end
theorem FR.keys {am : AM} {h : Heap} : ∀ {fs : List (Sr × V)} {es : List DictEntry}, FR am h fs es → ∀ e ∈ es, ∃ y t, e.key = .str y t ∧ y ∈ fs.map (·.1)
  | [], _, x => by rw [show _ = _ from x]; intro e he; cases he
  | (y, c) :: fs, _, ⟨e, r, rfl, ⟨t, hk⟩, _, x⟩ => fun e' he => by
    rcases List.mem_cons.mp he with rfl | he
    · exact ⟨y, t, hk, by simp⟩
    · obtain ⟨z, u, a, b⟩ := FR.keys x e' he
      exact ⟨z, u, a, by simp [b]⟩
theorem FR.length {am : AM} {h : Heap} : ∀ {fs : List (Sr × V)} {es : List DictEntry}, FR am h fs es → es.length = fs.length
  | [], _, x => by rw [show _ = _ from x]; rfl
  | (y, c) :: fs, _, ⟨e, r, rfl, _, _, x⟩ => by simp [FR.length x]
theorem getL_cons (x : Sr) (e : DictEntry) (es : List DictEntry) (y : Sr) (t : Tok) (hk : e.key = .str y t) : getL x (e :: es) = if y == x then some (some e.val) else getL x es := by
  unfold getL
  have h1 : e.key.isStr x = (y == x) := by rw [hk]; rfl
  have h2 : e.refKey = false := by unfold DictEntry.refKey; rw [hk]
  simp only [List.find?_cons, h1, List.any_cons, h2, Bool.false_or]
  cases y == x <;> rfl
theorem FR.get {am : AM} {h : Heap} {x : Sr} {c : V} : ∀ {fs : List (Sr × V)} {es : List DictEntry}, FR am h fs es → (fs.map (·.1)).Nodup → GetG fs x c → ∃ v, getL x es = some (some v) ∧ VR am h c v
  | [], _, _, _, g => by cases g
  | (y, c') :: fs, _, ⟨e, r, rfl, ⟨t, hk⟩, rv, xr⟩, nd, g => by
    rw [getL_cons x e r y t hk]
    cases g with
    | zx => exact ⟨e.val, by simp, rv⟩
    | sx g =>
      have hne : (y == x) = false := by
        rw [beq_eq_false_iff_ne]
        rintro rfl
        exact (List.nodup_cons.mp nd).1 (List.mem_map.mpr ⟨_, g.mem, rfl⟩)
      rw [hne]
      exact FR.get xr (List.nodup_cons.mp nd).2 g
theorem FR.miss {am : AM} {h : Heap} {x : Sr} : ∀ {fs : List (Sr × V)} {es : List DictEntry}, FR am h fs es → (fs.all fun p => !(p.1 == x)) = true → getL x es = some none
  | [], _, q, _ => by rw [show _ = _ from q]; rfl
  | (y, c') :: fs, _, ⟨e, r, rfl, ⟨t, hk⟩, rv, xr⟩, nd => by
    rw [getL_cons x e r y t hk]
    simp only [List.all_cons, Bool.and_eq_true, Bool.not_eq_true'] at nd
    rw [nd.1]
    exact FR.miss xr nd.2
noncomputable def putF (fs : List (Sr × V)) (x : Sr) (c : V) : List (Sr × V) := match fs with
  | [] => [(x, c)]
  | (y, b) :: r => if y == x then (y, c) :: r else (y, b) :: putF r x c
theorem FR.put {am : AM} {h : Heap} {x : Sr} {c : V} {v : Value} {hs : Int} {t : Tok} (rv : VR am h c v) : ∀ {fs : List (Sr × V)} {es : List DictEntry}, FR am h fs es → FR am h (putF fs x c) (putL x hs (.str x t) v es)
  | [], _, q => by rw [show _ = _ from q]; exact ⟨_, [], rfl, ⟨t, rfl⟩, rv, rfl⟩
  | (y, c') :: fs, _, ⟨e, r, rfl, ⟨u, hk⟩, re, xr⟩ => by
    unfold putF putL
    have h1 : e.key.isStr x = (y == x) := by rw [hk]; rfl
    rw [h1]
    cases y == x with
    | true => exact ⟨_, r, rfl, ⟨u, hk⟩, rv, xr⟩
    | false => exact ⟨e, _, rfl, ⟨u, hk⟩, re, FR.put rv xr⟩
theorem putF_keys (fs : List (Sr × V)) (x : Sr) (c : V) : (putF fs x c).map (·.1) = if (fs.map (·.1)).contains x then fs.map (·.1) else fs.map (·.1) ++ [x] := by
  induction fs with
  | nil => rfl
  | cons p r ih =>
    obtain ⟨y, b⟩ := p
    unfold putF
    cases hy : y == x with
    | true =>
      have : x = y := (beq_iff_eq.mp hy).symm
      subst this
      simp
    | false =>
      have hne : ¬ x = y := fun e => by subst e; simp at hy
      simp only [Bool.false_eq_true, if_false, List.map_cons, ih, List.contains_cons]
      have : (x == y) = false := by rw [beq_eq_false_iff_ne]; exact hne
      rw [this, Bool.false_or]
      split <;> simp
theorem putF_nodup {fs : List (Sr × V)} (nd : (fs.map (·.1)).Nodup) (x : Sr) (c : V) : ((putF fs x c).map (·.1)).Nodup := by
  rw [putF_keys]
  split
  · exact nd
  · rename_i hc
    refine List.nodup_append.mpr ⟨nd, by simp, fun a ha b hb e => ?_⟩
    simp at hb
    subst hb; subst e
    exact hc (by simpa using ha)
theorem putF_length (fs : List (Sr × V)) (x : Sr) (c : V) : (putF fs x c).length ≤ fs.length + 1 := by
  have := congrArg List.length (putF_keys fs x c)
  rw [List.length_map] at this
  rw [this]
  split <;> simp
theorem FR.looks {am : AM} {h : Heap} {fs : List (Sr × V)} {es : List DictEntry} (fr : FR am h fs es) (x : Sr) : (getL x es).isSome = true := by
  unfold getL
  split
  · rfl
  · rw [if_neg]; · rfl
    intro q
    obtain ⟨e, he, hk⟩ := List.any_eq_true.mp q
    obtain ⟨y, t, ek, _⟩ := fr.keys e he
    unfold DictEntry.refKey at hk
    rw [ek] at hk
    cases hk
section
variable {prog : Program} {w : World} {A : Around} {s : Shared} {K : Frag} {R : Result → Shared → Prop}
theorem osa_mine {x C dx : Addr} {ox : Obj} {name : Sr} {tk : Tok} {v : Value} {es : List DictEntry} {n : Nat} (X : K.In s.heap)
    (I : InstAt s.heap x ox C (some (dictOf es n))) (hd : ox.dict = some dx) (hp : plainOver K C = true) (ht : takerIn K C name = some none) (hh : hasDictIn K C = true) (D : s.heap.get? dx = some (dictOf es n))
    (hl : (getL name es).isSome = true) (hz : (putL name (PyData.keyHash w.params name) (.str name s.toks) v es).length ≤ 1000)
    (h : ∀ h', Heap.SameBut dx s.heap h' → h'.get? dx = some (dictOf (putL name (PyData.keyHash w.params name) (.str name s.toks) v es) (putN name es n)) → R (.ok (.ret .none)) { s with heap := h', toks := s.toks + 1 }) :
    codeAny (model prog w) A (.call (.builtin "object.__setattr__") ⟨[.ref x, .str name tk, v], []⟩) R s := by
  refine osa_open X I hp ht fun b => ?_
  obtain ⟨cd, hc, hd'⟩ := any_some hh
  have hf : (Obj.putName name (PyData.keyHash w.params name) (.str name s.toks) v (dictOf es n)).isFreed = false := by rw [putName_dict]; rfl
  have D' := Heap.get?_update_self (Obj.putName name (PyData.keyHash w.params name) (.str name s.toks) v) D hf
  rw [putName_dict] at D'
  obtain ⟨hx, hcl, hn, -⟩ := I
  obtain ⟨oc, odi, oda, osl⟩ := ox
  dsimp only at hcl hd
  subst hcl hd
  refine wpAny_bind (wpAny_pure (wpAny_bind (wpAny_bind (wpAny_loadPart hx (wpAny_bind ((looks_clsIn X hc).here ?_))))))
  rw [hd']
  refine wpAny_pure (a := some dx) (wpAny_bind (wpAny_pure (wpAny_bind ?_)))
  unfold nsSet
  refine wpAny_bind (wpAny_bind (wpAny_askSetting (wpAny_pure (wpAny_bind (wpAny_mkText (wpAny_bind (wpAny_loadPart D ?_)))))))
  dsimp only
  have c : (!es.toArray.any (·.key.isStr name) && es.toArray.any (·.refKey)) = false := by
    rw [← Array.any_toList, ← Array.any_toList]
    unfold getL at hl
    split at hl
    · rename_i en he
      rw [List.any_eq_true.mpr ⟨en, List.mem_of_find?_eq_some he, List.find?_some he⟩]; rfl
    · split at hl
      · cases hl
      · rename_i z; rw [Bool.not_eq_true] at z; show (_ && es.any _) = false; rw [z, Bool.and_false]
  rw [aRefKeyMayBeTheName_at, c]
  refine wpAny_updatePart D ?_
  refine wpAny_bind (wpAny_lookBehind D' (pastItsLine_dict (by rw [List.size_toArray, sizeLine_eq]; lia)) ?_)
  exact wpAny_pure (h _ (Heap.SameBut.update ..) D')
end
structure ClsF (K : Frag) (C : Addr) : Prop where
  sa : findIn K (.ref C) "__setattr__" = some (some (.builtin "object.__setattr__"))
  ga : findIn K (.ref C) "__getattribute__" = some (some (.builtin "object.__getattribute__"))
  gt : findIn K (.ref C) "__getattr__" = some none
  po : plainOver K C = true
  hd : hasDictIn K C = true
noncomputable def V.handed : V → Bool
  | .any | .raw _ => false
  | _ => true
theorem handed_is {am : AM} {h : Heap} {c : V} {v : Value} (e : c.handed = true) (r : VR am h c v) : handedIn v = true := by
  cases c <;> try cases e
  · cases r; rfl
  · cases r; rfl
  · obtain ⟨t, rfl⟩ := r; rfl
  · obtain ⟨t, rfl⟩ := r; rfl
  · obtain ⟨a, vs, rfl, _⟩ := r; rfl
  · obtain ⟨p, _, rfl⟩ := r; rfl
section
variable {W : Wd} {d : Nat} {F : Fm} {σ : List CO} {ρ ρ' : Rho} {x : Sr} {c : V} {pos pos' : Pos} {k : Nat} {B : Mk} {am : AM} {h h' : Heap}
theorem OR.inst {p : Addr × Addr} {C : Addr} {fs : List (Sr × V)} (x : OR am h p (.inst C fs)) : ∃ es n, InstAt h p.1 (instObj C p.2) C (some (dictOf es n)) ∧ h.get? p.2 = some (dictOf es n) ∧ FR am h fs es := by
  obtain ⟨_, es, n, a, b, r⟩ := x
  exact ⟨es, n, ⟨a, rfl, rfl, b⟩, b, r⟩
noncomputable def AtJ (W : Wd) (d : Nat) (F : Fm) (a : V) (x : Sr) := PV W d F VR (fun vs => match vs with | [o] => getAttr o x true | _ => unsupported "") [a]
abbrev KAt (W : Wd) (d : Nat) (F : Fm) (x : Sr) (ρ : Rho) (Q : V → List CO → Prop) : V → List CO → Prop :=
  fun a σA => AtJ W d F a x ρ σA Q
theorem EJ.attr {value : Xp} {Q : V → List CO → Prop} (q : EJ W d F value ρ σ (KAt W d F x ρ Q))
    (he : eval (.Attribute value x pos) F.env = (do
      let o ← eval value F.env
      standAt pos.atName
      let r ← holding [o] (getAttr o x true)
      letTemporaryGo value o r
      pure r) := by with_unfolding_all rfl) : EJ W d F (.Attribute value x pos) ρ σ Q := .mk fun A B s am hR I hr P hP => Attribute_any_ (q.out A B s am hR I hr _ fun v sK amA c σA q rb IA rA => q.out A B sK amA [v] hR IA rA (vrs1 rb) P hP) he
theorem AtJ.inst {n : Nat} {C : Addr} {fs : List (Sr × V)} {Q : V → List CO → Prop} (hW : W.Ok) (hC : ClsF W.K C) (ha : findIn W.K (.ref C) x = some none) (ho : σ[n]? = some (.inst C fs)) (nd : (fs.map (·.1)).Nodup)
    (g : GetG fs x c) (hc : c.handed = true) (q : Q c σ) : AtJ W d F (.ref n) x ρ σ Q := by
  refine .mk ?_
  intro A B s am vs hR I hr hv P hP
  obtain ⟨va, rfl, ra⟩ := hv.singleton
  obtain ⟨p, hp, rfl, o⟩ := I.ref ho ra
  obtain ⟨es, m, hI, hd, fr⟩ := o.inst
  obtain ⟨v, hg, rv⟩ := fr.get nd g
  exact get_value (hW.X.keeps I.i0.rp.old) hI hC.ga (findObj_own hC.hd ha rfl (by rw [lookIn_dict]; exact hg)) (handed_is hc rv) (hP v { s with toks := s.toks + 1 } am c σ q rv I hr)
abbrev KAa (W : Wd) (x : Sr) (c : V) (ρ : Rho) (Q : Rho → List CO → Prop) : V → List CO → Prop :=
  fun a σA => ∃ n C fs, a = .ref n ∧ σA[n]? = some (.inst C fs) ∧ ClsF W.K C ∧ takerIn W.K C x = some none ∧ fs.length ≤ 100 ∧ Q ρ (σA.set n (.inst C (putF fs x c)))
theorem AJ.attr {o : Xp} {Q : Rho → List CO → Prop} (hW : W.Ok)
    (q : EJ W d F o ρ σ (KAa W x c ρ Q)) : AJ W d F (.Attribute o x pos) c ρ σ Q := by
  refine .mk ?_
  intro A B s am v hR I hr hv P hP
  rw [arm_assign_Attribute]
  refine wpAny_bind (wpAny_holding (q.out A ⟨am, s.heap⟩ s am hR I.self hr _ fun va sK amA a σA qA ra IA rA => wpAny_bind (wpAny_standAt (wpAny_bind (wpAny_holding ?_)))))
  obtain ⟨n, C, fs, rfl, ho, hC, ht, hl, qA⟩ := qA
  have JA := I.step IA
  obtain ⟨p, hp, rfl, ob⟩ := JA.ref ho ra
  have hne := ob.1
  obtain ⟨es, m, hI, hd, fr⟩ := ob.inst
  have rv := I.vr IA hv
  have X := hW.X.keeps JA.i0.rp.old
  refine set_plain X hI hC.sa (osa_mine (s := { sK with toks := sK.toks + 1 }) X hI rfl hC.po ht hC.hd hd (fr.looks x) (by
    have := (fr.put (x := x) (hs := PyData.keyHash W.w.params x) (t := sK.toks + 1) rv).length
    rw [this]
    have := putF_length fs x c
    lia) fun h' hs hd' => wpAny_release' ?_)
  have hks : ∀ b ob, b ≠ p.1 → b ≠ p.2 → sK.heap.get? b = some ob → h'.get? b = some ob := fun b ob _ e2 g => (hs.2 b e2).trans g
  refine hP { sK with heap := h', toks := _ } amA _ _ qA (JA.change hp ho hks ⟨hne, _, _, (hs.2 p.1 (Ne.symm hne)).trans hI.at_, hd', (fr.put rv).mono ⟨[], by simp⟩ (Inv0.changeTK JA.i0.rp hp hks)⟩) rA
end
def Keeps (W : Wd) (u : Value) : Prop :=
  ∀ (M : Model) (h : Heap), (∀ b o, W.hZ.get? b = some o → h.get? b = some o) → ∃ k, (k = Keeper.frame ∨ k = Keeper.machine ∨ k = Keeper.boundFrame) ∧ Looks M h (keeperOf u) k
theorem Keeps.ofK {W : Wd} {u : Value} (hW : W.Ok) (h : keepIn W.K u = true) : Keeps W u := fun M _ hk => keeps_K h _ (hW.X.keeps hk)
theorem Keeps.builtin {W : Wd} {i : String} : Keeps W (.builtin i) := fun M h hk => ⟨.machine, .inr (.inl rfl), Looks.of_pure rfl⟩
theorem Keeps.type {W : Wd} {i : String} : Keeps W (.type i) := fun M h hk => ⟨.machine, .inr (.inl rfl), Looks.of_pure rfl⟩
section
variable {W : Wd} {d : Nat} {F : Fm} {σ : List CO} {ρ ρ' : Rho} {x : Sr} {c : V} {pos pos' np : Pos} {k : Nat} {B : Mk} {am : AM} {h h' : Heap}
theorem CJ.mono {u : Value} {cs : List V} {Q Q' : V → List CO → Prop} (q : CJ W d u cs σ Q) (hq : ∀ c σ', Q c σ' → Q' c σ') : CJ W d u cs σ Q' := .mk fun A B s am vs hR I hr hv P hP => q.out A B s am vs hR I hr hv P fun v s' am' c σ' z => hP v s' am' c σ' (hq _ _ z)
theorem CJ.up {d' : Nat} {u : Value} {cs : List V} {Q : V → List CO → Prop} (q : CJ W d' u cs σ Q) (hd : d' ≤ d) : CJ W d u cs σ Q := .mk fun A B s am vs hR I hr hv P hP => q.out A B s am vs (hR.less hd) I hr hv P hP
theorem call_tail {A : Around} {s : Shared} {u : Value} {first : List Value} {fcs : List V} {e : Xp} {es : List Xp} {Q : V → List CO → Prop} (hu : Keeps W u)
    (q : LJ W d F pos (e :: es) ρ σ fun cs σA => CJ W d u (fcs ++ cs) σA Q) (hR : Room A d) (I : Inv W B F s.heap am ρ σ) (hr : Rest W s) (hf : VRs am s.heap fcs first) {P : Value → Shared → Prop}
    (hP : ∀ v s' am' c σ', Q c σ' → VR am' s'.heap c v → Inv W B F s'.heap am' ρ σ' → Rest W s' → P v s')
    (he : starEach (e :: es) F.env = (false, eval e F.env) :: starEach es F.env) (hpl : (backTo pos (starEach es F.env)).any (·.1) = false) :
    wpAny (model W.prog W.w) A (callWith pos u first (backTo pos (starEach (e :: es) F.env)) []) P (fun _ _ => False) s := by
  unfold LJ at q
  rw [he] at q ⊢
  refine callWith_of (P := fun h => ∀ b o, W.hZ.get? b = some o → h.get? b = some o) (by show ((false || (backTo pos (starEach es F.env)).any (·.1)) || false) = false; rw [hpl]; rfl) (fun h hk => hu _ h hk) (evalArgs_plain ?_)
  refine q.out A ⟨am, s.heap⟩ s am hR I.self hr _ fun vs sK amA cs σA qA rv IA rA => ⟨IA.i0.rp.old, ?_⟩
  have J := I.step IA
  exact qA.out A ⟨amA, sK.heap⟩ sK amA (first ++ vs) hR J.self0 rA ((I.vrs IA hf).append rv) P fun v s' am' c σ' z rv' I' r' => hP v s' am' c σ' z rv' (J.after I') r'
theorem call_tail0 {A : Around} {s : Shared} {u : Value} {first : List Value} {fcs : List V} {Q : V → List CO → Prop} (hu : Keeps W u)
    (q : CJ W d u fcs σ Q) (hR : Room A d) (I : Inv W B F s.heap am ρ σ) (hr : Rest W s) (hf : VRs am s.heap fcs first) {P : Value → Shared → Prop}
    (hP : ∀ v s' am' c σ', Q c σ' → VR am' s'.heap c v → Inv W B F s'.heap am' ρ σ' → Rest W s' → P v s') :
    wpAny (model W.prog W.w) A (callWith pos u first (backTo pos (starEach [] F.env)) []) P (fun _ _ => False) s := by
  refine callWith_of (P := fun h => ∀ b o, W.hZ.get? b = some o → h.get? b = some o) rfl (fun h hk => hu _ h hk) (evalArgs_nil3 ⟨I.i0.rp.old, ?_⟩)
  show wpAny _ _ (call u (first ++ [])) _ _ _
  rw [List.append_nil]
  exact q.out A ⟨am, s.heap⟩ s am first hR I.self0 hr hf P fun v s' am' c σ' z rv' I' r' => hP v s' am' c σ' z rv' (I.after I') r'
theorem EJ.call {e : Xp} {es : List Xp} {Q : V → List CO → Prop}
    (q : EJ W d F (.Name x np) ρ σ fun c σO => ∃ u, c = .raw u ∧ Keeps W u ∧ LJ W d F pos (e :: es) ρ σO fun cs σA => CJ W d u cs σA Q)
    (he : starEach (e :: es) F.env = (false, eval e F.env) :: starEach es F.env := by rfl) (hpl : (backTo pos (starEach es F.env)).any (·.1) = false := by rfl) : EJ W d F (.Call (.Name x np) (e :: es) [] pos) ρ σ Q := .mk fun A B s am hR I hr P hP => wpAny_Call_NameR (q.out A B s am hR I hr _ fun v sK amA c σA qA rA IA hK => by
    obtain ⟨u, rfl, hu, qA⟩ := qA
    cases rA
    exact call_tail (fcs := []) hu qA hR IA hK .nil hP he hpl)
theorem EJ.call0 {Q : V → List CO → Prop}
    (q : EJ W d F (.Name x np) ρ σ fun c σO => ∃ u, c = .raw u ∧ Keeps W u ∧ CJ W d u [] σO Q) : EJ W d F (.Call (.Name x np) [] [] pos) ρ σ Q := .mk fun A B s am hR I hr P hP => wpAny_Call_NameR (q.out A B s am hR I hr _ fun v sK amA c σA qA rA IA hK => by
    obtain ⟨u, rfl, hu, qA⟩ := qA
    cases rA
    exact call_tail0 (fcs := []) hu qA hR IA hK .nil hP)
structure MethF (W : Wd) (C : Addr) (x : Sr) (u : Value) : Prop where
  cls : ClsF W.K C
  at_ : ∃ f, u = .ref f ∧ findIn W.K (.ref C) x = some (some (.ref f)) ∧ typeIn W.K (.ref f) = some (.type "function")
  keeps : Keeps W u
theorem EJ.meth {o e : Xp} {es : List Xp} {apos : Pos} {pl : Sem Bool} {Q : V → List CO → Prop} (hW : W.Ok)
    (q : EJ W d F o ρ σ fun a σO => ∃ n C fs u, a = .ref n ∧ σO[n]? = some (.inst C fs) ∧ MethF W C x u ∧ (fs.all fun p => !(p.1 == x)) = true ∧ LJ W d F pos (e :: es) ρ σO fun cs σA => CJ W d u (.ref n :: cs) σA Q)
    (he : starEach (e :: es) F.env = (false, eval e F.env) :: starEach es F.env := by rfl) (hpl : (backTo pos (starEach es F.env)).any (·.1) = false := by rfl)
    (hm : eval (.Call (.Attribute o x apos) (e :: es) [] pos) F.env = (do
      let ov ← eval o F.env
      standAt apos.atName
      let (f, first) ← holding [ov] (getMethod ov x pl)
      callWith pos f first (backTo pos (starEach (e :: es) F.env)) []) := by rfl) : EJ W d F (.Call (.Attribute o x apos) (e :: es) [] pos) ρ σ Q := .mk fun A B s am hR I hr P hP => MethodCall_ (q.out A B s am hR I hr _ fun v sK amA c σA qA rA IA hK => by
    obtain ⟨n, C, fs, u, rfl, ho, hM, hn, qA⟩ := qA
    obtain ⟨p, hp, rfl, ob⟩ := IA.ref ho rA
    obtain ⟨es', m, hI, hd, fr⟩ := ob.inst
    obtain ⟨f, rfl, hf, ht⟩ := hM.at_
    refine method_fn (hW.X.keeps IA.i0.rp.old) hI hM.cls.ga hM.cls.gt hf ht (by show (lookIn x (dictOf es' m)).map _ = _; rw [lookIn_dict, fr.miss hn]; rfl) ?_
    exact call_tail (fcs := [.ref n]) hM.keeps qA hR IA hK (.cons rA .nil) hP he hpl) hm
theorem EJ.meth0 {o : Xp} {apos : Pos} {pl : Sem Bool} {Q : V → List CO → Prop} (hW : W.Ok)
    (q : EJ W d F o ρ σ fun a σO => ∃ n C fs u, a = .ref n ∧ σO[n]? = some (.inst C fs) ∧ MethF W C x u ∧ (fs.all fun p => !(p.1 == x)) = true ∧ CJ W d u [.ref n] σO Q)
    (hm : eval (.Call (.Attribute o x apos) [] [] pos) F.env = (do
      let ov ← eval o F.env
      standAt apos.atName
      let (f, first) ← holding [ov] (getMethod ov x pl)
      callWith pos f first (backTo pos (starEach [] F.env)) []) := by rfl) : EJ W d F (.Call (.Attribute o x apos) [] [] pos) ρ σ Q := .mk fun A B s am hR I hr P hP => MethodCall_ (q.out A B s am hR I hr _ fun v sK amA c σA qA rA IA hK => by
    obtain ⟨n, C, fs, u, rfl, ho, hM, hn, qA⟩ := qA
    obtain ⟨p, hp, rfl, ob⟩ := IA.ref ho rA
    obtain ⟨es', m, hI, hd, fr⟩ := ob.inst
    obtain ⟨f, rfl, hf, ht⟩ := hM.at_
    refine method_fn (hW.X.keeps IA.i0.rp.old) hI hM.cls.ga hM.cls.gt hf ht (by show (lookIn x (dictOf es' m)).map _ = _; rw [lookIn_dict, fr.miss hn]; rfl) ?_
    exact call_tail0 (fcs := [.ref n]) hM.keeps qA hR IA hK (.cons rA .nil) hP) hm
end
structure FnD where
  params : Arguments
  body : List PySem.Stmt
  scope : Scope
noncomputable def fnD : PySem.Stmt → FnD
  | .FunctionDef _ a b _ _ _ sc _ _ _ => ⟨a, b, sc⟩
  | _ => ⟨⟨[], [], none, [], [], none, []⟩, [], ⟨.function, [], false, false, []⟩⟩
structure FnAt (W : Wd) (D : FnD) (dV : Value) (u : Value) : Prop where
  at_ : ∃ a o nm ql kV doc pm an cdv ct, u = .ref a ∧ W.hZ.get? a = some o ∧ o.data = .func (fnOf nm ql D.params D.body D.scope dV kV doc pm an cdv ct) ∧ W.hZ.CodeRec cdv ql
theorem cells_acc {x : Sr} : ∀ (names : List (Sr × NameKind)) (n : Nat) (acc : List (Sr × Addr)), (acc.lookup x).isSome = true → ((cellsFrom n names acc).lookup x).isSome = true
  | [], _, _, h => h
  | (y, k) :: r, n, acc, h => by
    unfold cellsFrom
    split
    · refine cells_acc r _ _ ?_
      rw [List.lookup_cons]
      split
      · rfl
      · exact h
    · exact cells_acc r _ _ h
theorem cells_look {x : Sr} : ∀ (names : List (Sr × NameKind)) (n : Nat) (acc : List (Sr × Addr)), names.lookup x = some .cell → ((cellsFrom n names acc).lookup x).isSome = true
  | [], _, _, h => by cases h
  | (y, k) :: r, n, acc, h => by
    rw [List.lookup_cons] at h
    unfold cellsFrom
    cases hxy : x == y with
    | true =>
      rw [hxy] at h; cases h
      simp only [beq_self_eq_true, if_true]
      refine cells_acc r _ _ ?_
      rw [List.lookup_cons, hxy]; rfl
    | false =>
      rw [hxy] at h
      split
      · exact cells_look r _ _ h
      · exact cells_look r _ _ h
theorem bindL_keep {kindOf : Sr → Option NameKind} {x : Sr} : ∀ (binds : List (Sr × Value)) (m : Sr → Option Value), x ∉ binds.map (·.1) → bindL kindOf binds m x = m x
  | [], _, _ => rfl
  | (n, v) :: r, m, h => by
    simp only [List.map_cons, List.mem_cons, not_or] at h
    unfold bindL
    rw [bindL_keep r _ h.2]
    split
    · simp [h.1]
    · rfl
theorem bindL_get {kindOf : Sr → Option NameKind} {x : Sr} {v : Value} : ∀ (binds : List (Sr × Value)) (m : Sr → Option Value), (binds.map (·.1)).Nodup → (x, v) ∈ binds → kindOf x = some .local → bindL kindOf binds m x = some v
  | [], _, _, h, _ => by cases h
  | (n, w) :: r, m, nd, h, hk => by
    unfold bindL
    simp only [List.map_cons, List.nodup_cons] at nd
    rcases List.mem_cons.mp h with e | h
    · cases e
      rw [bindL_keep r _ nd.1, if_pos hk]; simp
    · exact bindL_get r _ nd.2 h hk
theorem bindC_keep {kindOf : Sr → Option NameKind} {x : Sr} : ∀ (binds : List (Sr × Value)) (m : Sr → Option Value), x ∉ binds.map (·.1) → bindC kindOf binds m x = m x
  | [], _, _ => rfl
  | (n, v) :: r, m, h => by
    simp only [List.map_cons, List.mem_cons, not_or] at h
    unfold bindC
    rw [bindC_keep r _ h.2]
    split
    · rfl
    · simp [h.1]
theorem bindC_get {kindOf : Sr → Option NameKind} {x : Sr} {v : Value} : ∀ (binds : List (Sr × Value)) (m : Sr → Option Value), (binds.map (·.1)).Nodup → (x, v) ∈ binds → kindOf x = some .cell → bindC kindOf binds m x = some v
  | [], _, _, h, _ => by cases h
  | (n, w) :: r, m, nd, h, hk => by
    unfold bindC
    simp only [List.map_cons, List.nodup_cons] at nd
    rcases List.mem_cons.mp h with e | h
    · cases e
      rw [bindC_keep r _ nd.1, if_neg (by rw [hk]; decide)]; simp
    · exact bindC_get r _ nd.2 h hk
theorem VRs.zip {am : AM} {h : Heap} : ∀ {ps : List Sr} {cs : List V} {vs : List Value}, VRs am h cs vs → ∀ {x : Sr} {c : V}, (x, some c) ∈ ps.zip (cs.map some) → ∃ v, (x, v) ∈ ps.zip vs ∧ VR am h c v
  | [], _, _, _, _, _, q => by simp at q
  | _ :: _, [], _, _, _, _, q => by simp at q
  | p :: ps, _ :: _, _, ⟨v, r, rfl, r1, r2⟩, x, c, q => by
    simp only [List.map_cons, List.zip_cons_cons, List.mem_cons] at q ⊢
    rcases q with q | q
    · cases q; exact ⟨v, .inl rfl, r1⟩
    · obtain ⟨u, a, b⟩ := r2.zip q
      exact ⟨u, .inr a, b⟩
structure FnOk (W : Wd) (D : FnD) (ps ns : List Sr) (gs : List (Sr × V)) : Prop where
  kind : D.scope.kind = .function
  co : D.scope.isCoroutine = false
  gen : D.scope.isGenerator = false
  names : (ps ++ ns).Nodup
  kinds : ∀ x ∈ ps ++ ns, (D.scope.names.lookup x = some .local ∨ D.scope.names.lookup x = some .cell) ∧ (x == ("__debug__" : Sr)) = false ∧ (x == ("__classdict__" : Sr)) = false
  nofree : ∀ p ∈ D.scope.names, p.2 ≠ .free
  gs : ∀ p ∈ gs, D.scope.names.lookup p.1 = some .globalImplicit ∧ (p.1 == ("__debug__" : Sr)) = false ∧ GV W p.1 p.2
def BindsD (D : FnD) (W : Wd) (dV : Value) (ps : List Sr) (n : Nat) (ds : List V) : Prop :=
  ∀ (s : Shared) (vs : List Value) (nm ql : Sr) (kV doc pm : Value) (an : Option Addr) (cdv ct : Value), vs.length = n → (∀ b o, W.hZ.get? b = some o → s.heap.get? b = some o) →
    ∃ dvs, BindsTo s (fnOf nm ql D.params D.body D.scope dV kV doc pm an cdv ct) ⟨vs, []⟩ (ps.zip (vs ++ dvs)) ∧ ∀ am, VRs am s.heap ds dvs
theorem BindsD.n1 {D : FnD} {W : Wd} {dV : Value} {ps : List Sr} {ds : List V} (h : ∀ (s : Shared) vA nm ql kV doc pm an cdv ct, (∀ b o, W.hZ.get? b = some o → s.heap.get? b = some o) →
    ∃ dvs, BindsTo s (fnOf nm ql D.params D.body D.scope dV kV doc pm an cdv ct) ⟨[vA], []⟩ (ps.zip ([vA] ++ dvs)) ∧ ∀ am, VRs am s.heap ds dvs) : BindsD D W dV ps 1 ds := by
  intro s vs nm ql kV doc pm an cdv ct hv ho
  obtain ⟨vA, rfl⟩ := List.length_eq_one_iff.mp hv
  exact h s vA nm ql kV doc pm an cdv ct ho
theorem len_cons {α : Type} {n : Nat} {l : List α} (h : l.length = n + 1) : ∃ a r, l = a :: r ∧ r.length = n := by
  cases l with
  | nil => cases h
  | cons a r => exact ⟨a, r, rfl, Nat.succ.inj h⟩
theorem BindsD.n2 {D : FnD} {W : Wd} {dV : Value} {ps : List Sr} {ds : List V} (h : ∀ (s : Shared) vA vB nm ql kV doc pm an cdv ct, (∀ b o, W.hZ.get? b = some o → s.heap.get? b = some o) →
    ∃ dvs, BindsTo s (fnOf nm ql D.params D.body D.scope dV kV doc pm an cdv ct) ⟨[vA, vB], []⟩ (ps.zip ([vA, vB] ++ dvs)) ∧ ∀ am, VRs am s.heap ds dvs) : BindsD D W dV ps 2 ds := by
  intro s vs nm ql kV doc pm an cdv ct hv ho
  obtain ⟨vA, r1, rfl, hv1⟩ := len_cons hv
  obtain ⟨vB, rfl⟩ := List.length_eq_one_iff.mp hv1
  exact h s vA vB nm ql kV doc pm an cdv ct ho
theorem BindsD.n3 {D : FnD} {W : Wd} {dV : Value} {ps : List Sr} {ds : List V} (h : ∀ (s : Shared) vA vB vC nm ql kV doc pm an cdv ct, (∀ b o, W.hZ.get? b = some o → s.heap.get? b = some o) →
    ∃ dvs, BindsTo s (fnOf nm ql D.params D.body D.scope dV kV doc pm an cdv ct) ⟨[vA, vB, vC], []⟩ (ps.zip ([vA, vB, vC] ++ dvs)) ∧ ∀ am, VRs am s.heap ds dvs) : BindsD D W dV ps 3 ds := by
  intro s vs nm ql kV doc pm an cdv ct hv ho
  obtain ⟨vA, r1, rfl, hv1⟩ := len_cons hv
  obtain ⟨vB, r2, rfl, hv2⟩ := len_cons hv1
  obtain ⟨vC, rfl⟩ := List.length_eq_one_iff.mp hv2
  exact h s vA vB vC nm ql kV doc pm an cdv ct ho
theorem BindsD.n4 {D : FnD} {W : Wd} {dV : Value} {ps : List Sr} {ds : List V} (h : ∀ (s : Shared) vA vB vC vD nm ql kV doc pm an cdv ct, (∀ b o, W.hZ.get? b = some o → s.heap.get? b = some o) →
    ∃ dvs, BindsTo s (fnOf nm ql D.params D.body D.scope dV kV doc pm an cdv ct) ⟨[vA, vB, vC, vD], []⟩ (ps.zip ([vA, vB, vC, vD] ++ dvs)) ∧ ∀ am, VRs am s.heap ds dvs) : BindsD D W dV ps 4 ds := by
  intro s vs nm ql kV doc pm an cdv ct hv ho
  obtain ⟨vA, r1, rfl, hv1⟩ := len_cons hv
  obtain ⟨vB, r2, rfl, hv2⟩ := len_cons hv1
  obtain ⟨vC, r3, rfl, hv3⟩ := len_cons hv2
  obtain ⟨vD, rfl⟩ := List.length_eq_one_iff.mp hv3
  exact h s vA vB vC vD nm ql kV doc pm an cdv ct ho
theorem BindsD.n5 {D : FnD} {W : Wd} {dV : Value} {ps : List Sr} {ds : List V} (h : ∀ (s : Shared) vA vB vC vD vE nm ql kV doc pm an cdv ct, (∀ b o, W.hZ.get? b = some o → s.heap.get? b = some o) →
    ∃ dvs, BindsTo s (fnOf nm ql D.params D.body D.scope dV kV doc pm an cdv ct) ⟨[vA, vB, vC, vD, vE], []⟩ (ps.zip ([vA, vB, vC, vD, vE] ++ dvs)) ∧ ∀ am, VRs am s.heap ds dvs) : BindsD D W dV ps 5 ds := by
  intro s vs nm ql kV doc pm an cdv ct hv ho
  obtain ⟨vA, r1, rfl, hv1⟩ := len_cons hv
  obtain ⟨vB, r2, rfl, hv2⟩ := len_cons hv1
  obtain ⟨vC, r3, rfl, hv3⟩ := len_cons hv2
  obtain ⟨vD, r4, rfl, hv4⟩ := len_cons hv3
  obtain ⟨vE, rfl⟩ := List.length_eq_one_iff.mp hv4
  exact h s vA vB vC vD vE nm ql kV doc pm an cdv ct ho
theorem BindsD.n6 {D : FnD} {W : Wd} {dV : Value} {ps : List Sr} {ds : List V} (h : ∀ (s : Shared) vA vB vC vD vE vF nm ql kV doc pm an cdv ct, (∀ b o, W.hZ.get? b = some o → s.heap.get? b = some o) →
    ∃ dvs, BindsTo s (fnOf nm ql D.params D.body D.scope dV kV doc pm an cdv ct) ⟨[vA, vB, vC, vD, vE, vF], []⟩ (ps.zip ([vA, vB, vC, vD, vE, vF] ++ dvs)) ∧ ∀ am, VRs am s.heap ds dvs) : BindsD D W dV ps 6 ds := by
  intro s vs nm ql kV doc pm an cdv ct hv ho
  obtain ⟨vA, r1, rfl, hv1⟩ := len_cons hv
  obtain ⟨vB, r2, rfl, hv2⟩ := len_cons hv1
  obtain ⟨vC, r3, rfl, hv3⟩ := len_cons hv2
  obtain ⟨vD, r4, rfl, hv4⟩ := len_cons hv3
  obtain ⟨vE, r5, rfl, hv5⟩ := len_cons hv4
  obtain ⟨vF, rfl⟩ := List.length_eq_one_iff.mp hv5
  exact h s vA vB vC vD vE vF nm ql kV doc pm an cdv ct ho
noncomputable def fmOf (D : FnD) (nm ql : Sr) (dV kV doc pm : Value) (an : Option Addr) (cdv ct : Value) (L a : Addr) (gs : List (Sr × V)) : Fm :=
  ⟨callEnvC (fnOf nm ql D.params D.body D.scope dV kV doc pm an cdv ct) L a, L :: (cellsFrom (L + 1) D.scope.names []).filterMap (fun p => (cellsFrom (L + 1) D.scope.names []).lookup p.1), gs, true⟩
structure FrD where
  nm : Sr
  ql : Sr
  kV : Value
  doc : Value
  pm : Value
  an : Option Addr
  cdv : Value
  ct : Value
  L : Addr
  a : Addr
noncomputable def fmR (D : FnD) (dV : Value) (gs : List (Sr × V)) (r : FrD) : Fm := fmOf D r.nm r.ql dV r.kV r.doc r.pm r.an r.cdv r.ct r.L r.a gs
def RetQ (Q : V → List CO → Prop) : Fl → Rho → List CO → Prop
  | .ret c, _, σ => Q c σ
  | .next, _, σ => Q .none σ
  | _, _, _ => False
def CJc (W : Wd) (d : Nat) (f : Value) (cs : List V) (σ : List CO) (Q : V → List CO → Prop) : Prop :=
  Sealed (∀ (A : Around) (B : Mk) (s : Shared) (am : AM) (vs : List Value), Room A d → Inv0 W B [] s.heap am σ → Rest W s → VRs am s.heap cs vs → ∀ R : Result → Shared → Prop,
    (∀ v s' am' c σ', Q c σ' → VR am' s'.heap c v → Inv0 W B [] s'.heap am' σ' → Rest W s' → R (.ok (.ret v)) s') → codeAny (model W.prog W.w) A (.call f ⟨vs, []⟩) R s)
theorem CJc.call {W : Wd} {d : Nat} {f : Value} {cs : List V} {σ : List CO} {Q : V → List CO → Prop} (q : CJc W d f cs σ Q) : CJ W d f cs σ Q := .mk fun A B s am vs hR I hr hv P hP => wpAny_call (q.out A B s am vs hR I hr hv _ hP)
theorem CJc.up {W : Wd} {d d' : Nat} {u : Value} {cs : List V} {σ : List CO} {Q : V → List CO → Prop} (q : CJc W d' u cs σ Q) (hd : d' ≤ d) : CJc W d u cs σ Q := .mk fun A B s am vs hR I hr hv R hP => q.out A B s am vs (hR.less hd) I hr hv R hP
theorem CJc.fn {W : Wd} {d : Nat} {D : FnD} {dV u : Value} {ps ns : List Sr} {gs : List (Sr × V)} {cs ds : List V} {σ : List CO} {Q : V → List CO → Prop} (ρO : Rho) (hW : W.Ok)
    (hu : FnAt W D dV u) (ok : FnOk W D ps ns gs) (hb : BindsD D W dV ps cs.length ds) (hlen : ps.length = cs.length + ds.length) (hρ : ρO = ps.zip ((cs ++ ds).map some) ++ ns.map (·, none))
    (q : ∀ r : FrD, SsJ W d (fmR D dV gs r) D.body ρO σ (RetQ Q)) :
    CJc W (d + 1) u cs σ Q := by
  replace q : ∀ nm ql kV doc pm an cdv ct L a, SsJ W d (fmOf D nm ql dV kV doc pm an cdv ct L a gs) D.body ρO σ (RetQ Q) := fun nm ql kV doc pm an cdv ct L a => q ⟨nm, ql, kV, doc, pm, an, cdv, ct, L, a⟩
  refine .mk ?_
  intro A B s am vs hR I hr hv R hP
  obtain ⟨a, o, nm, ql, kV, doc, pm, an, cdv, ct, rfl, ho, hd, hcd⟩ := hu.at_
  have hold := I.rp.old
  obtain ⟨dvs, hbind, hds⟩ := hb s vs nm ql kV doc pm an cdv ct hv.length hold
  have hall : VRs am s.heap (cs ++ ds) (vs ++ dvs) := hv.append (hds am)
  have hkeys : (ps.zip (vs ++ dvs)).map (·.1) = ps := by
    rw [List.map_fst_zip]
    rw [hall.length, List.length_append]; lia
  have ndp : ps.Nodup := (List.nodup_append.mp ok.names).1
  refine codeAny_call_function (fd := fnOf nm ql D.params D.body D.scope dV kV doc pm an cdv ct) (body := D.body) hR.room (hold _ _ ho) hd ok.co ok.gen rfl ?_ (hbind _ _ _ _ ?_)
  · obtain ⟨c, oc, cvs, tq, hc, hoc, hdc, hq⟩ := hcd
    exact ⟨c, oc, cvs, tq, hc, hold _ _ hoc, hdc, hq⟩
  have mem_ps : ∀ y ∈ ps.zip (vs ++ dvs), y.1 ∈ ps := fun y hy => (List.of_mem_zip hy).1
  refine wpAny_newFunctionEnv_cells ok.kind (fun y hy => ?_) fun env henv sK X => ?_
  · rcases (ok.kinds y.1 (List.mem_append_left _ (mem_ps y hy))).1 with e | e
    · exact .inl e
    · exact .inr ⟨e, cells_look _ _ _ e⟩
  have henv' : env = callEnvC (fnOf nm ql D.params D.body D.scope dV kV doc pm an cdv ct) s.heap.objs.size a := henv
  subst henv'
  refine ⟨hW.lim.keeps (fun b o e => X.toInCall.keep b o (hold b o e)), codeAny_func ?_⟩
  have tk : TupKeep s.heap sK.heap := tupKeep_of X.toInCall.keep
  have pr : ∃ l, am = am ++ l := ⟨[], by simp⟩
  have hge : ∀ b ∈ (fmOf D nm ql dV kV doc pm an cdv ct s.heap.objs.size a gs).own, s.heap.objs.size ≤ b ∧ (b = s.heap.objs.size ∨ ∃ n, (cellsFrom (s.heap.objs.size + 1) D.scope.names []).lookup n = some b) := by
    intro b hb
    rcases List.mem_cons.mp hb with e | hb
    · exact ⟨Nat.le_of_eq e.symm, .inl e⟩
    · obtain ⟨p, _, e⟩ := List.mem_filterMap.mp hb
      exact ⟨Nat.le_of_lt (X.above _ _ (mem_of_lookup e)), .inr ⟨_, e⟩⟩
  have notOld : ∀ b, s.heap.objs.size ≤ b → s.heap.get? b = none := fun b hb => get_fresh s.heap hb
  have hI : Inv W ⟨am, s.heap⟩ (fmOf D nm ql dV kV doc pm an cdv ct s.heap.objs.size a gs) sK.heap am ρO σ := by
    refine ⟨⟨I.rp.keeps X.toInCall.keep, ⟨[], by simp, by simp⟩, fun b o e _ _ => X.toInCall.keep b o e⟩, ⟨⟨_, X.toInCall.ns, fun x c hx hk => ?_⟩, fun x oc hx hk => ?_, fun p hp => ?_, ?_, fun b hb => ?_, fun b hb => ?_, List.mem_cons_self, fun p hp => ?_⟩, ?_⟩
    · subst hρ
      rcases List.mem_append.mp hx with hx | hx
      · obtain ⟨v, m1, m2⟩ := hall.zip hx
        exact ⟨v, bindL_get _ _ (by rw [hkeys]; exact ndp) m1 hk, m2.mono pr tk⟩
      · obtain ⟨y, _, e⟩ := List.mem_map.mp hx; cases e
    · rcases hk with hk | hk
      · obtain ⟨c, hc⟩ := Option.isSome_iff_exists.mp (cells_look D.scope.names (s.heap.objs.size + 1) [] hk)
        refine ⟨c, _, hc, X.cell x c hc, fun c' e => ?_⟩
        subst e
        subst hρ
        rcases List.mem_append.mp hx with hx | hx
        · obtain ⟨v, m1, m2⟩ := hall.zip hx
          exact ⟨v, bindC_get _ _ (by rw [hkeys]; exact ndp) m1 hk, m2.mono pr tk⟩
        · obtain ⟨y, _, e⟩ := List.mem_map.mp hx; cases e
      · exfalso
        have hxm : x ∈ ps ++ ns := by
          subst hρ
          rcases List.mem_append.mp hx with hx | hx
          · exact List.mem_append_left _ (List.of_mem_zip hx).1
          · obtain ⟨y, hy, e⟩ := List.mem_map.mp hx; cases e; exact List.mem_append_right _ hy
        rcases (ok.kinds x hxm).1 with e | e
        · have : D.scope.names.lookup x = some .free := hk
          rw [e] at this; cases this
        · have : D.scope.names.lookup x = some .free := hk
          rw [e] at this; cases this
    · have hxm : p.1 ∈ ps ++ ns := by
        subst hρ
        rcases List.mem_append.mp hp with hx | hx
        · exact List.mem_append_left _ (List.of_mem_zip hx).1
        · obtain ⟨y, hy, e⟩ := List.mem_map.mp hx; cases e; exact List.mem_append_right _ hy
      rcases (ok.kinds p.1 hxm).1 with e | e
      · exact .inl e
      · exact .inr (.inl e)
    · subst hρ
      have e1 : (ps.zip ((cs ++ ds).map some)).map (·.1) = ps := by
        rw [List.map_fst_zip]
        rw [List.length_map, List.length_append]; lia
      rw [List.map_append, e1, List.map_map]
      have e2 : ((fun x : Sr × Option V => x.1) ∘ fun x => (x, none)) = id := rfl
      rw [e2, List.map_id]
      exact ok.names
    · intro q
      obtain ⟨ob, hob, _⟩ := I.rp.owned q
      rw [notOld b (hge b hb).1] at hob; cases hob
    · rcases (hge b hb).2 with e | ⟨n, e⟩
      · exact .inl ⟨_, e ▸ X.toInCall.ns⟩
      · exact .inr ⟨_, X.cell n b e⟩
    · have hxm : p.1 ∈ ps ++ ns := by
        subst hρ
        rcases List.mem_append.mp hp with hx | hx
        · exact List.mem_append_left _ (List.of_mem_zip hx).1
        · obtain ⟨y, hy, e⟩ := List.mem_map.mp hx; cases e; exact List.mem_append_right _ hy
      exact (ok.kinds p.1 hxm).2
    · refine ⟨ok.kind, rfl, rfl, List.mem_cons_self, fun _ x b hk hl => ?_, fun _ => X.apart, fun _ y hy => Nat.ne_of_gt (X.above y.1 y.2 hy), fun b hb => ?_, fun p hp => ok.gs p hp, fun _ x q => ok.nofree _ (mem_of_lookup (show D.scope.names.lookup x = some .free from q)) rfl⟩
      · exact List.mem_cons_of_mem _ (List.mem_filterMap.mpr ⟨(x, b), mem_of_lookup hl, hl⟩)
      · cases e : W.hZ.get? b with
        | none => rfl
        | some ob => have := hold _ _ e; rw [notOld b (hge b hb).1] at this; cases this
  obtain ⟨hK, tkA, hsA, _⟩ := X.done
  have hrA : Rest W sK := by rw [hsA]; exact hr
  refine wpAny_mono ((q nm ql kV doc pm an cdv ct s.heap.objs.size a).out (A.deeper _) ⟨am, s.heap⟩ sK am hR.deeper hI hrA (fun f s' => R (.ok (.ret (match f with | .ret v => v | _ => .none))) s') fun f s' am' c ρ' σ' hq hf I' r' => ?_) (fun f s' z => ?_) fun _ _ z => z.elim
  · have S : Since ⟨am, s.heap⟩ [] s'.heap am' := ⟨I'.i0.since.pre, fun b o e h1 _ => I'.i0.since.keep b o e h1 fun hb => by
      rw [notOld b (hge b hb).1] at e; cases e⟩
    have J : Inv0 W B [] s'.heap am' σ' := I.step' ⟨I'.i0.rp, S⟩
    cases c with
    | next => cases hf; exact hP _ s' am' _ σ' hq rfl J r'
    | ret c => obtain ⟨v, rfl, rv⟩ := hf; exact hP _ s' am' _ σ' hq rv J r'
    | brk => exact hq.elim
    | cont => exact hq.elim
  · exact z
theorem CJ.fn {W : Wd} {d : Nat} {D : FnD} {dV u : Value} {ps ns : List Sr} {gs : List (Sr × V)} {cs ds : List V} {σ : List CO} {Q : V → List CO → Prop} (ρO : Rho) (hW : W.Ok)
    (hu : FnAt W D dV u) (ok : FnOk W D ps ns gs) (hb : BindsD D W dV ps cs.length ds) (hlen : ps.length = cs.length + ds.length) (hρ : ρO = ps.zip ((cs ++ ds).map some) ++ ns.map (·, none))
    (q : ∀ r : FrD, SsJ W d (fmR D dV gs r) D.body ρO σ (RetQ Q)) :
    CJ W (d + 1) u cs σ Q := (CJc.fn ρO hW hu ok hb hlen hρ ‹_›).call
section
variable {W : Wd} {d : Nat} {F : Fm} {σ : List CO} {ρ ρ' : Rho} {x : Sr} {c : V} {pos pos' np : Pos} {k : Nat} {B : Mk} {am : AM} {h h' : Heap}
theorem SsJ.nl {Q : Fl → Rho → List CO → Prop} (q : Q .next ρ σ) : SsJ W d F [] ρ σ Q := .mk fun _A _B s am _hR I hr P hP => wpAny_execs_nil (hP _ s am _ ρ σ q rfl I hr)
def SeqQ (W : Wd) (d : Nat) (F : Fm) (sts : List PySem.Stmt) (Q : Fl → Rho → List CO → Prop) : Fl → Rho → List CO → Prop
  | .next, ρ, σ => SsJ W d F sts ρ σ Q
  | .brk, ρ, σ => Q .brk ρ σ
  | .cont, ρ, σ => Q .cont ρ σ
  | .ret c, ρ, σ => Q (.ret c) ρ σ
theorem SsJ.cs {st : PySem.Stmt} {sts : List PySem.Stmt} {Q : Fl → Rho → List CO → Prop}
    (q : SJ W d F st ρ σ (SeqQ W d F sts Q)) : SsJ W d F (st :: sts) ρ σ Q := .mk fun A B s am hR I hr P hP => wpAny_execs_cons (q.out A B s am hR I hr _ fun f sK amA c ρA σA qA rA IA hK => by
    cases c with
    | next => cases rA; exact Sealed.out qA A B sK amA hR IA hK P hP
    | brk => cases rA; exact hP _ sK amA _ ρA σA qA rfl IA hK
    | cont => cases rA; exact hP _ sK amA _ ρA σA qA rfl IA hK
    | ret c => obtain ⟨v, rfl, rv⟩ := rA; exact hP _ sK amA (.ret c) ρA σA qA ⟨v, rfl, rv⟩ IA hK)
abbrev KR (ρ : Rho) (Q : Fl → Rho → List CO → Prop) : V → List CO → Prop :=
  fun c σ => Q (.ret c) ρ σ
theorem SJ.ret {e : Xp} {Q : Fl → Rho → List CO → Prop} (q : EJ W d F e ρ σ (KR ρ Q)) : SJ W d F (.Return (some e) pos) ρ σ Q := .mk fun A B s am hR I hr P hP => wpAny_Return_some (q.out A B s am hR I hr _ fun v sK amA c σA qA rA IA hK => hP _ sK amA (.ret c) ρ σA qA ⟨v, rfl, rA⟩ IA hK)
theorem SJ.retNone {Q : Fl → Rho → List CO → Prop} (q : Q (.ret .none) ρ σ) : SJ W d F (.Return none pos) ρ σ Q := .mk fun A B s am hR I hr P hP => wpAny_Return_none (hP _ s am (.ret .none) ρ σ q ⟨.none, rfl, rfl⟩ I hr)
theorem SJ.cont {Q : Fl → Rho → List CO → Prop} (q : Q .cont ρ σ) : SJ W d F (.Continue pos) ρ σ Q := .mk fun A B s am hR I hr P hP => wpAny_Continue (hP _ s am _ ρ σ q rfl I hr)
theorem SJ.pass {Q : Fl → Rho → List CO → Prop} (q : Q .next ρ σ) : SJ W d F (.Pass pos) ρ σ Q := .mk fun A B s am hR I hr P hP => wpAny_Pass (hP _ s am _ ρ σ q rfl I hr)
abbrev KE (ρ : Rho) (Q : Fl → Rho → List CO → Prop) : V → List CO → Prop :=
  fun _ σ => Q .next ρ σ
theorem SJ.expr {e : Xp} {Q : Fl → Rho → List CO → Prop} (q : EJ W d F e ρ σ (KE ρ Q))
    (hi : interactive F.env = false := by rfl) (hs : swapsWith e none pos.line F.env = pure false := by rfl) : SJ W d F (.Expr e pos) ρ σ Q := .mk fun A B s am hR I hr P hP => wpAny_Expr_any (q.out A B s am hR I hr _ fun v sK amA c σA qA rA IA hK => hP _ sK amA _ ρ σA qA rfl IA hK) hi hs
abbrev KSi (W : Wd) (d : Nat) (F : Fm) (b o : List PySem.Stmt) (ρ : Rho) (Q : Fl → Rho → List CO → Prop) : Bool → List CO → Prop :=
  fun c σ => if c then SsJ W d F b ρ σ Q else SsJ W d F o ρ σ Q
theorem SJ.ite {t : Xp} {b o : List PySem.Stmt} {Q : Fl → Rho → List CO → Prop} (q : TJ W d F t ρ σ (KSi W d F b o ρ Q)) : SJ W d F (.If t b o pos) ρ σ Q := .mk fun A B s am hR I hr P hP => wpAny_If (q.out A B s am hR I hr _ fun c sK amA c' σA q rc IA rA => by
    cases rc
    cases c
    · exact q.out A B sK amA hR IA rA P hP
    · exact q.out A B sK amA hR IA rA P hP)
theorem AJ.nm {Q : Rho → List CO → Prop} (p : Put ρ x c ρ') (hf : F.fn = true) (q : Q ρ' σ) : AJ W d F (.Name x pos) c ρ σ Q := .mk fun A B s am v hR I hr hv P hP => wpAny_assign_Name (store p I hr hv hf fun s' I' r' => hP s' am ρ' σ q I' r')
abbrev KNx (Q : Fl → Rho → List CO → Prop) : Rho → List CO → Prop :=
  fun ρ σ => Q .next ρ σ
abbrev KAs (W : Wd) (d : Nat) (F : Fm) (t : Xp) (ρ : Rho) (Q : Fl → Rho → List CO → Prop) : V → List CO → Prop :=
  fun c σ => AJ W d F t c ρ σ (KNx Q)
theorem SJ.sn {e t : Xp} {Q : Fl → Rho → List CO → Prop} (q : EJ W d F e ρ σ (KAs W d F t ρ Q))
    (hs : swapsWithSole [t] e pos.line F.env = pure false := by rfl) (hw : swappedStores [t] e F.env = pure none := by rfl)
    (ha : (assignEach [t] F.env).map (·.2) = [assign t F.env] := by rfl) : SJ W d F (.Assign [t] e pos) ρ σ Q := .mk fun A B s am hR I hr P hP => wpAny_Assign_stores (q.out A B s am hR I hr _ fun v sK amA c σA qA rA IA hK => by
    rw [ha]
    exact qA.out A B sK amA v hR IA hK rA _ fun sB amB ρB σB qB IB h₂ => hP _ sB amB _ ρB σB qB rfl IB h₂) hs hw
def AsJ (W : Wd) (d : Nat) (F : Fm) (ts : List Xp) (cs : List V) (ρ : Rho) (σ : List CO) (Q : Rho → List CO → Prop) : Prop :=
  Sealed (∀ (A : Around) (B : Mk) (s : Shared) (am : AM) (vs : List Value), Room A d → Inv W B F s.heap am ρ σ → Rest W s → VRs am s.heap cs vs → ∀ P : Unit → Shared → Prop,
    (∀ s' am' ρ' σ', Q ρ' σ' → Inv W B F s'.heap am' ρ' σ' → Rest W s' → P () s') → wpAny (model W.prog W.w) A (assignInOrder ((assignEach ts F.env).map (·.2)) vs) P (fun _ _ => False) s)
theorem AsJ.nil {Q : Rho → List CO → Prop} (q : Q ρ σ) : AsJ W d F [] [] ρ σ Q := .mk fun A B s am vs hR I hr hv P hP => by
  rw [show vs = [] from hv]
  exact wpAny_assignInOrder_none (hP s am ρ σ q I hr)
abbrev KAj (W : Wd) (d : Nat) (F : Fm) (ts : List Xp) (cs : List V) (Q : Rho → List CO → Prop) : Rho → List CO → Prop :=
  fun ρ σ => AsJ W d F ts cs ρ σ Q
theorem AsJ.cons {t : Xp} {ts : List Xp} {cs : List V} {Q : Rho → List CO → Prop} (q : AJ W d F t c ρ σ (KAj W d F ts cs Q))
    (ha : assignEach (t :: ts) F.env = (false, assign t F.env) :: assignEach ts F.env := by rfl) : AsJ W d F (t :: ts) (c :: cs) ρ σ Q := .mk fun A B s am vs hR I hr hv P hP => by
  obtain ⟨v, r, rfl, r1, r2⟩ := hv
  rw [ha]
  refine wpAny_assignInOrder_more (q.out A ⟨am, s.heap⟩ s am v hR I.self hr r1 _ fun sK amA ρA σA qA IA hK => ?_)
  exact qA.out A B sK amA r hR (I.step IA) hK (I.vrs IA r2) P hP
theorem keeps_ext {h h' : Heap} (he : Heap.ExtBut h.objs.size h h') : ∀ b o, h.get? b = some o → h'.get? b = some o := fun b o e => he b o (Nat.ne_of_lt (Heap.lt_size e)) e
theorem AJ.tuple {ts : List Xp} {cs : List V} {Q : Rho → List CO → Prop} (q : AsJ W d F ts cs ρ σ Q)
    (hn : (assignEach ts F.env).length = cs.length := by rfl) (hst : (assignEach ts F.env).findIdx? (·.1) = none := by rfl) : AJ W d F (.Tuple ts k pos) (.tup cs) ρ σ Q := .mk fun A B s am v hR I hr hv P hP => by
  obtain ⟨a, vs, rfl, ht, rv⟩ := hv
  rw [arm_assign_Tuple]
  refine wpAny_bind (wpAny_standAt ?_)
  unfold unpack
  rw [hst, hn, ← rv.length, ← List.size_toArray]
  refine wpAny_bind (wpAny_holding (unpackItems_tuple hR.handled ht fun h' he => ?_))
  have hk := keeps_ext he
  exact q.out A B { s with heap := h' } am vs hR (I.keeps hk) hr (rv.mono ⟨[], by simp⟩ (tupKeep_of hk)) P hP
inductive PutAll : Rho → List Sr → List V → Rho → Prop
  | nil {r : Rho} : PutAll r [] [] r
  | cons {r : Rho} {y : Sr} {b : V} {rA : Rho} {xs : List Sr} {cs : List V} {rB : Rho} : Put r y b rA → PutAll rA xs cs rB → PutAll r (y :: xs) (b :: cs) rB
theorem puts_go {A : Around} {P : Unit → Shared → Prop} {xs : List Sr} {cs : List V} {r r' : Rho} (ps : PutAll r xs cs r') : ∀ {vs : List Value} {s : Shared}, F.fn = true → Inv W B F s.heap am r σ → Rest W s → VRs am s.heap cs vs →
    (∀ s', Inv W B F s'.heap am r' σ → Rest W s' → P () s') → wpAny (model W.prog W.w) A (assignInOrder (xs.map fun n => bindName F.env n) vs) P (fun _ _ => False) s := by
  induction ps generalizing B with
  | nil =>
    intro vs s hf I hr hv hP
    rw [show vs = [] from hv]
    exact wpAny_assignInOrder_none (hP s I hr)
  | cons p ps ih =>
    intro vs s hf I hr hv hP
    obtain ⟨v, r, rfl, r1, r2⟩ := hv
    refine wpAny_assignInOrder_more (wpAny_bindName (store (B := ⟨am, s.heap⟩) p I.self hr r1 hf fun sK IA hK => ?_))
    exact ih hf (I.step IA) hK (I.vrs IA r2) hP
theorem VRs.reverse {am : AM} {h : Heap} : ∀ {cs : List V} {vs : List Value}, VRs am h cs vs → VRs am h cs.reverse vs.reverse
  | [], _, x => by rw [show _ = _ from x]; rfl
  | c :: cs, _, ⟨v, r, rfl, r1, r2⟩ => by
    rw [List.reverse_cons, List.reverse_cons]
    exact r2.reverse.append (.cons r1 .nil)
theorem SJ.assignSwap {ts : List Xp} {e : Xp} {names : List Sr} {Q : Fl → Rho → List CO → Prop}
    (q : EJ W d F e ρ σ fun c σA => ∃ cs ρB, c = .tup cs ∧ names.length = cs.length ∧ PutAll ρ names.reverse cs.reverse ρB ∧ Q .next ρB σA) (hf : F.fn = true)
    (hs : swapsWithSole [.Tuple ts k pos'] e pos.line F.env = pure false := by rfl) (hw : swappedStores [.Tuple ts k pos'] e F.env = pure (some names) := by rfl) : SJ W d F (.Assign [.Tuple ts k pos'] e pos) ρ σ Q := .mk fun A B s am hR I hr P hP => Assign_Tuple_swapped (q.out A B s am hR I hr _ fun v sK amA c σA qA rA IA hK => by
    obtain ⟨cs, ρB, rfl, hn, hp, qA⟩ := qA
    obtain ⟨a, vs, rfl, ht, rv⟩ := rA
    rw [hn, ← rv.length, ← List.size_toArray]
    refine unpackItems_tuple hR.handled ht fun h' he => ?_
    have hk := keeps_ext he
    exact puts_go (s := { sK with heap := h' }) hp hf (IA.keeps hk) hK (rv.mono ⟨[], by simp⟩ (tupKeep_of hk)).reverse fun s' I' r' => hP _ s' amA _ ρB σA qA rfl I' r') hs hw
end
section
variable {W : Wd} {d : Nat} {F : Fm} {σ : List CO} {ρ ρ' : Rho} {x : Sr} {c : V} {pos pos' np : Pos} {k : Nat} {B : Mk} {am am' : AM} {h h' : Heap}
structure ItS (W : Wd) (target : Xp) (it : Value) (own : List Addr) (cs : List V) (Src : List CO → Prop) (amO : AM) (St : Nat → Heap → Prop) : Prop where
  frame : ∀ i h h', St i h → (∀ b ∈ own, ∀ o, h.get? b = some o → h'.get? b = some o) → TupKeep h h' → St i h'
  kind : ∀ i h, St i h → ∀ a ∈ own, ∃ o vs, h.get? a = some o ∧ o.data = .fields vs
  self : ∀ A i (s : Shared) (Q : Value → Shared → Prop), St i s.heap → Q it s → wpAny (model W.prog W.w) A (pyIter it) Q (fun _ _ => False) s
  turn : ∀ A i (s : Shared) am σ c (P : Value → Shared → Prop), A.handled = none → (∃ l, am = amO ++ l) → Rp W s.heap am σ → Src σ → St i s.heap → cs[i]? = some c →
    (∀ v h' tk, (∀ b o, b ∉ own → s.heap.get? b = some o → h'.get? b = some o) → VR am h' c v → St (i + 1) h' → P v { s with heap := h', toks := tk }) →
    wpAny (model W.prog W.w) A (pyNext it) (fun r sK => match r with | some v => wpAny (model W.prog W.w) A (letOwnedTupleGo target it v) (fun _ sB => P v sB) (fun _ _ => False) sK | none => False) (fun _ _ => False) s
  done : ∀ A (s : Shared) am σ (P : Shared → Prop), A.handled = none → (∃ l, am = amO ++ l) → Rp W s.heap am σ → Src σ → St cs.length s.heap →
    (∀ h' tk, (∀ b o, b ∉ own → s.heap.get? b = some o → h'.get? b = some o) → P { s with heap := h', toks := tk }) →
    wpAny (model W.prog W.w) A (pyNext it) (fun r sK => match r with | some _ => False | none => P sK) (fun _ _ => False) s
def IsFields (h : Heap) (a : Addr) : Prop := ∃ o vs, h.get? a = some o ∧ o.data = .fields vs
theorem OR.notFields {p : Addr × Addr} {o : CO} (x : OR am h p o) : ¬ IsFields h p.1 ∧ ¬ IsFields h p.2 := by
  cases o with
  | list l =>
    obtain ⟨e, vs, ⟨n, ho⟩, r⟩ := x
    have : ¬ IsFields h p.1 := fun ⟨o', ws, ho', hd'⟩ => by rw [ho] at ho'; cases ho'; cases hd'
    exact ⟨this, e ▸ this⟩
  | inst C fs =>
    obtain ⟨e, es, n, a, b, r⟩ := x
    exact ⟨fun ⟨o', ws, ho', hd'⟩ => (by rw [a] at ho'; cases ho'; cases hd'), fun ⟨o', ws, ho', hd'⟩ => (by rw [b] at ho'; cases ho'; cases hd')⟩
  | dict fs =>
    obtain ⟨e, o, es, ep, kvs, _, a, hd, hi, hf, r⟩ := x
    have : ¬ IsFields h p.1 := fun ⟨o', ws, ho', hd'⟩ => by rw [a] at ho'; cases ho'; rw [hd] at hd'; cases hd'
    exact ⟨this, e ▸ this⟩
theorem Rp.fields_free (R : Rp W h am σ) {a : Addr} (c : IsFields h a) : ¬ owns am a := by
  rintro ⟨p, hp, e⟩
  obtain ⟨i, hi, e'⟩ := List.mem_iff_getElem.mp hp
  have hi' : i < σ.length := R.len ▸ hi
  have z := (R.obj i p σ[i] (by rw [List.getElem?_eq_some_iff]; exact ⟨hi, e'⟩) (List.getElem?_eq_some_iff.mpr ⟨hi', rfl⟩)).notFields
  rcases e with rfl | rfl
  · exact z.1 c
  · exact z.2 c
theorem aside_tk {own : List Addr} (hs : ∀ b x, b ∉ own → h.get? b = some x → h'.get? b = some x) (hf : ∀ a ∈ own, IsFields h a) : TupKeep h h' := fun b vs t => by
  have t' := t
  obtain ⟨ob, ho, hc, n, hd⟩ := t
  refine ⟨ob, hs b ob (fun e => ?_) ho, hc, n, hd⟩
  obtain ⟨o', ws, ho', hd'⟩ := hf b e
  rw [ho] at ho'; cases ho'; rw [hd] at hd'; cases hd'
theorem Inv.asides {own : List Addr} (I : Inv W B F h am ρ σ) (hs : ∀ b x, b ∉ own → h.get? b = some x → h'.get? b = some x) (hf : ∀ a ∈ own, IsFields h a)
    (h0 : ∀ a ∈ own, W.hZ.get? a = none) (hB : ∀ a ∈ own, B.h.get? a = none) (hF : ∀ a ∈ own, a ∉ F.own) : Inv W B F h' am ρ σ := by
  have tk := aside_tk hs hf
  have nf : ∀ a ∈ own, ¬ owns am a := fun a ha => I.i0.rp.fields_free (hf a ha)
  refine ⟨⟨⟨I.i0.rp.len, fun b o e => hs b o (fun q => by have := h0 b q; rw [this] at e; cases e) (I.i0.rp.old b o e), I.i0.rp.new, I.i0.rp.apart, fun i p o hi ho => ?_⟩, I.i0.since.pre,
    fun b o e h1 h2 => hs b o (fun q => by have := hB b q; rw [this] at e; cases e) (I.i0.since.keep b o e h1 h2)⟩, ?_, I.ok⟩
  · have y := I.i0.rp.obj i p o hi ho
    obtain ⟨⟨o1, e1, _⟩, o2, e2, _⟩ := y.alive
    have hmem : p ∈ am := List.mem_of_getElem? hi
    exact y.mono ⟨[], by simp⟩ tk ((hs _ _ (fun q => nf _ q ⟨p, hmem, .inl rfl⟩) e1).trans e1.symm) ((hs _ _ (fun q => nf _ q ⟨p, hmem, .inr rfl⟩) e2).trans e2.symm)
  · refine I.loc.keeps ⟨[], by simp, fun b ⟨p, hp, _⟩ => (nomatch hp)⟩ tk fun b ob e z => hs b ob (fun q => ?_) e
    rcases z with z | ⟨v, o, ho, hd⟩
    · exact hF b q z
    · obtain ⟨o', ws, ho', hd'⟩ := hf b q
      rw [ho] at ho'; cases ho'; rw [hd] at hd'; cases hd'
def ItE (W : Wd) (d : Nat) (F : Fm) (target e : Xp) (ρ : Rho) (σ : List CO) (Q : List V → (List CO → Prop) → List CO → Prop) : Prop :=
  Sealed (∀ (A : Around) (B : Mk) (s : Shared) (am : AM), Room A d → Inv W B F s.heap am ρ σ → Rest W s → ∀ P : Value → Shared → Prop,
    (∀ it s' am' cs Src σ' own St hK, Q cs Src σ' → Src σ' → ItS W target it own cs Src am' St → St 0 s'.heap → Inv W B F hK am' ρ σ' → (∀ a ∈ own, hK.get? a = none) → (∀ b o, hK.get? b = some o → s'.heap.get? b = some o) → Rest W s' → P it s') →
    wpAny (model W.prog W.w) A (eval e F.env) (fun x sK => wpAny (model W.prog W.w) A (pyIter x) P (fun _ _ => False) sK) (fun _ _ => False) s)
def LoopJ (W : Wd) (d : Nat) (F : Fm) (target : Xp) (body : List PySem.Stmt) (Src : List CO → Prop) (Q : Fl → Rho → List CO → Prop) : List V → Rho → List CO → Prop
  | [], ρ, σ => Q .next ρ σ
  | c :: cs, ρ, σ => AJ W d F target c ρ σ fun ρA σA => SsJ W d F body ρA σA fun f ρB σB => match f with
    | .next => Src σB ∧ LoopJ W d F target body Src Q cs ρB σB
    | .cont => Src σB ∧ LoopJ W d F target body Src Q cs ρB σB
    | .brk => Q .next ρB σB
    | .ret c => Q (.ret c) ρB σB
abbrev KFo (W : Wd) (d : Nat) (F : Fm) (target : Xp) (body : List PySem.Stmt) (ρ : Rho) (Q : Fl → Rho → List CO → Prop) : List V → (List CO → Prop) → List CO → Prop :=
  fun cs Src σ => LoopJ W d F target body Src Q cs ρ σ
theorem SJ.for {target iter : Xp} {body : List PySem.Stmt} {Q : Fl → Rho → List CO → Prop} (q : ItE W d F target iter ρ σ (KFo W d F target body ρ Q))
    (hs : ∀ x, foldedSetIterable iter F.env x = pure x := by intro _; rfl) : SJ W d F (.For target iter body [] pos) ρ σ Q := by
  refine .mk ?_
  intro A B s am hR I hr P hP
  refine wpAny_For (q.out A ⟨am, s.heap⟩ s am hR I.self hr _ fun it sK amA cs Src σA own St hhA hq hsrc hit hst IO hfr hkk hK => ?_) hs
  have IA := IO.keeps hkk
  have hfresh : ∀ a ∈ own, s.heap.get? a = none := fun a ha => (IO.i0.since.fresh IO.i0.rp IO.live (hfr a ha)).2
  have o0 : ∀ a ∈ own, W.hZ.get? a = none := fun a ha => by
    cases e : W.hZ.get? a with
    | none => rfl
    | some o => have := I.i0.rp.old _ _ e; rw [hfresh a ha] at this; cases this
  have oF : ∀ a ∈ own, a ∉ F.own := fun a ha q => by
    obtain ⟨o, ho, _⟩ := I.live a q
    rw [hfresh a ha] at ho; cases ho
  refine codeAny_forLoop_any (fun n s' => ∃ i am' ρ' σ', i + n = cs.length ∧ LoopJ W d F target body Src Q (cs.drop i) ρ' σ' ∧ Src σ' ∧ St i s'.heap ∧ Inv W ⟨am, s.heap⟩ F s'.heap am' ρ' σ' ∧ Rest W s' ∧ ∃ l, am' = amA ++ l)
    ?_ cs.length ⟨0, amA, ρ, σA, by lia, by simpa using hq, hsrc, hst, IA, hK, [], by simp⟩
  rintro n s' ⟨i, am', ρ', σ', hn, hL, hsrc', hst', I', r', hpre⟩
  cases n with
  | zero =>
    have hi : i = cs.length := by lia
    subst hi
    rw [List.drop_length] at hL
    refine wpAny_mono (hit.done A s' am' σ' (fun sB => sB.gens = #[] ∧ sB.os = W.os ∧ Inv W ⟨am, s.heap⟩ F sB.heap am' ρ' σ') hR.handled hpre I'.i0.rp hsrc' hst' fun h₂ tk hk => ?_) (fun r sB z => ?_) fun _ _ z => z.elim
    · exact ⟨r'.1, r'.2, I'.asides hk (hit.kind _ _ hst') o0 hfresh oF⟩
    · cases r with
      | some v => exact z.elim
      | none =>
        obtain ⟨z1, z2, z3⟩ := z
        exact wpAny_execs_nil (hP _ sB am' .next ρ' σ' hL rfl (I.step z3) ⟨z1, z2⟩)
  | succ n =>
    have hi : i < cs.length := by lia
    have hd : cs.drop i = cs[i] :: cs.drop (i + 1) := List.drop_eq_getElem_cons hi
    rw [hd] at hL
    refine wpAny_mono (hit.turn A i s' am' σ' cs[i] (fun v sB => sB.gens = #[] ∧ sB.os = W.os ∧ Inv W ⟨am, s.heap⟩ F sB.heap am' ρ' σ' ∧ VR am' sB.heap cs[i] v ∧ St (i + 1) sB.heap) hR.handled hpre I'.i0.rp hsrc' hst' (List.getElem?_eq_getElem hi) fun v h₂ tk hk rv stB => ?_) (fun r sB z => ?_) fun _ _ z => z.elim
    · exact ⟨r'.1, r'.2, I'.asides hk (hit.kind _ _ hst') o0 hfresh oF, rv, stB⟩
    · cases r with
      | none => exact z.elim
      | some v =>
        refine wpAny_mono z (fun _ sC y => ?_) fun _ _ y => y.elim
        obtain ⟨y1, y2, J, rv, stC⟩ := y
        refine wpAny_mono (hL.out A ⟨am', sC.heap⟩ sC am' v hR J.self ⟨y1, y2⟩ rv _ fun sD amD ρD σD qD ID h₄ => wpAny_mono (qD.out A ⟨am', sC.heap⟩ sD amD hR ID h₄ _ fun f sE amE cE ρE σE qE rE IE h₅ => ?_) (fun _ _ w => w) fun _ _ w => w.elim) (fun _ _ w => w) fun _ _ w => w.elim
        have preE : ∃ l, amE = amA ++ l := by
          obtain ⟨l, e, _⟩ := IE.i0.since.pre
          obtain ⟨l', e'⟩ := hpre
          exact ⟨l' ++ l, by rw [e, e', List.append_assoc]⟩
        have JE := J.step IE
        have keepOwn : ∀ b ∈ own, ∀ o, sC.heap.get? b = some o → sE.heap.get? b = some o := fun b hb o e =>
          IE.i0.since.keep b o e (J.i0.rp.fields_free (hit.kind _ _ stC b hb)) (oF b hb)
        have stE := hit.frame _ _ _ stC keepOwn (IE.i0.since.tupKeep J.i0.rp J.live)
        cases cE with
        | next => cases rE; exact ⟨n, by lia, i + 1, amE, ρE, σE, by lia, qE.2, qE.1, stE, JE, h₅, preE⟩
        | cont => cases rE; exact ⟨n, by lia, i + 1, amE, ρE, σE, by lia, qE.2, qE.1, stE, JE, h₅, preE⟩
        | brk => cases rE; exact hP _ sE amE .next ρE σE qE rfl (I.step JE) h₅
        | ret c => obtain ⟨u, rfl, ru⟩ := rE; exact hP _ sE amE (.ret c) ρE σE qE ⟨u, rfl, ru⟩ (I.step JE) h₅
end
section
variable {W : Wd} {d : Nat} {F : Fm} {σ : List CO} {ρ ρ' : Rho} {x : Sr} {c : V} {pos pos' np : Pos} {k : Nat} {B : Mk} {am am' : AM} {h h' : Heap} {target : Xp}
def ItOut (W : Wd) (target : Xp) (σ : List CO) (Q : List V → (List CO → Prop) → List CO → Prop) (am : AM) (s : Shared) (it : Value) (s' : Shared) : Prop :=
  ∃ cs Src own St, Q cs Src σ ∧ Src σ ∧ ItS W target it own cs Src am St ∧ St 0 s'.heap ∧ (∀ a ∈ own, s.heap.get? a = none) ∧ (∀ b o, s.heap.get? b = some o → s'.heap.get? b = some o) ∧ s'.gens = s.gens ∧ s'.os = s.os
def ItV (W : Wd) (target : Xp) (c : V) (σ : List CO) (Q : List V → (List CO → Prop) → List CO → Prop) : Prop :=
  Sealed (∀ A (s : Shared) am v (P : Value → Shared → Prop), A.handled = none → Rp W s.heap am σ → VR am s.heap c v → (∀ it s', ItOut W target σ Q am s it s' → P it s') → wpAny (model W.prog W.w) A (pyIter v) P (fun _ _ => False) s)
def ItC (W : Wd) (target : Xp) (u : Value) (cs : List V) (σ : List CO) (Q : List V → (List CO → Prop) → List CO → Prop) : Prop :=
  Sealed (∀ A (s : Shared) am vs (P : Value → Shared → Prop), A.handled = none → Rp W s.heap am σ → VRs am s.heap cs vs → (∀ it s', ItOut W target σ Q am s it s' → P it s') →
    wpAny (model W.prog W.w) A (call u vs) (fun x sK => wpAny (model W.prog W.w) A (pyIter x) P (fun _ _ => False) sK) (fun _ _ => False) s)
theorem ItOut.use {s sK s' : Shared} {it : Value} {Q : List V → (List CO → Prop) → List CO → Prop} {amA : AM} {P : Value → Shared → Prop} (I : Inv W B F s.heap am ρ σ) {σA : List CO}
    (IA : Inv W ⟨am, s.heap⟩ F sK.heap amA ρ σA) (hK : Rest W sK) (o : ItOut W target σA Q amA sK it s')
    (hP : ∀ it s' am' cs Src σ' own St hK, Q cs Src σ' → Src σ' → ItS W target it own cs Src am' St → St 0 s'.heap → Inv W B F hK am' ρ σ' → (∀ a ∈ own, hK.get? a = none) → (∀ b o, hK.get? b = some o → s'.heap.get? b = some o) → Rest W s' → P it s') : P it s' := by
  obtain ⟨cs, Src, own, St, q, hs, hit, h0, hf, hk, hg, ho⟩ := o
  exact hP it s' amA cs Src σA own St sK.heap q hs hit h0 (I.step IA) hf hk ⟨hg.trans hK.1, ho.trans hK.2⟩
abbrev KIv (W : Wd) (target : Xp) (Q : List V → (List CO → Prop) → List CO → Prop) : V → List CO → Prop :=
  fun c σ => ItV W target c σ Q
theorem ItE.of {e : Xp} {Q : List V → (List CO → Prop) → List CO → Prop} (q : EJ W d F e ρ σ (KIv W target Q)) : ItE W d F target e ρ σ Q := .mk fun A B s am hR I hr P hP => q.out A ⟨am, s.heap⟩ s am hR I.self hr _ fun v sK amA c σA qA rA IA hK => qA.out A sK amA v P hR.handled IA.i0.rp rA fun it s' o => o.use I IA hK hP
abbrev KIc (W : Wd) (target : Xp) (u : Value) (Q : List V → (List CO → Prop) → List CO → Prop) : List V → List CO → Prop :=
  fun cs σ => ItC W target u cs σ Q
theorem ItE.call {e : Xp} {es : List Xp} {Q : List V → (List CO → Prop) → List CO → Prop}
    (q : EJ W d F (.Name x np) ρ σ fun c σO => ∃ u, c = .raw u ∧ Keeps W u ∧ LJ W d F pos (e :: es) ρ σO (KIc W target u Q))
    (he : starEach (e :: es) F.env = (false, eval e F.env) :: starEach es F.env := by rfl) (hpl : (backTo pos (starEach es F.env)).any (·.1) = false := by rfl) :
    ItE W d F target (.Call (.Name x np) (e :: es) [] pos) ρ σ Q := .mk fun A B s am hR I hr P hP => wpAny_Call_NameR (q.out A ⟨am, s.heap⟩ s am hR I.self hr _ fun v sK amA c σA qA rA IA hK => by
    obtain ⟨u, rfl, hu, qA⟩ := qA
    cases rA
    unfold LJ at qA
    rw [he] at qA ⊢
    refine callWith_of (P := fun h => ∀ b o, W.hZ.get? b = some o → h.get? b = some o) (by show ((false || (backTo pos (starEach es F.env)).any (·.1)) || false) = false; rw [hpl]; rfl) (fun h hk => hu _ h hk) (evalArgs_plain ?_)
    refine qA.out A ⟨amA, sK.heap⟩ sK amA hR IA.self hK _ fun vs sB amB cs σB qB rv IB rB => ⟨IB.i0.rp.old, ?_⟩
    exact qB.out A sB amB _ P hR.handled IB.i0.rp rv fun it s' o => o.use I (IA.step IB) rB hP)
theorem letGo_in {A : Around} {s : Shared} {I : Addr} {v : Value} {o : Obj} {n : String} {Q : Unit → Shared → Prop} {E : Value → Shared → Prop} (ho : s.heap.get? I = some o) (hc : o.cls = .type n)
    (hn : ["enumerate", "zip", "dict_itemiterator", "dict_reverseitemiterator", "odict_iterator", "itertools.zip_longest", "itertools.pairwise"].contains n = false) (hQ : Q () s) :
    wpAny (model W.prog W.w) A (letOwnedTupleGo (.Tuple [] default default) (.ref I) v) Q E s := by
  cases v <;> try exact wpAny_pure hQ
  refine wpAny_bind (wpAny_load ho ?_)
  obtain ⟨cl, di, da, sl⟩ := o
  cases hc
  cases da <;> try exact wpAny_pure hQ
  dsimp only
  rw [hn]
  exact wpAny_pure hQ
theorem letGo_iter {A : Around} {s : Shared} {I : Addr} {v : Value} {o : Obj} {n : String} {Q : Unit → Shared → Prop} {E : Value → Shared → Prop} (ho : s.heap.get? I = some o) (hc : o.cls = .type n)
    (hn : ["enumerate", "zip", "dict_itemiterator", "dict_reverseitemiterator", "odict_iterator", "itertools.zip_longest", "itertools.pairwise"].contains n = false) (hQ : Q () s) :
    wpAny (model W.prog W.w) A (letOwnedTupleGo target (.ref I) v) Q E s := by
  cases target <;> first | exact letGo_in ho hc hn hQ | exact wpAny_pure hQ
abbrev SrcL (n : Nat) (l : List V) : List CO → Prop := fun τ => τ[n]? = some (.list l)
theorem ItV.list {n : Nat} {l : List V} {Q : List V → (List CO → Prop) → List CO → Prop} (hn : σ[n]? = some (.list l)) (q : Q l (SrcL n l) σ) : ItV W target (.ref n) σ Q := by
  refine .mk ?_
  intro A s am v P hh R hv hP
  obtain ⟨p, hp, rfl⟩ := hv
  obtain ⟨e, vs, hl, rv⟩ := R.obj n p _ hp hn
  replace hl := hl.isList
  refine wpAny_pyIter_list hl (hP _ _ ⟨l, _, [s.heap.objs.size], fun i h => h.IsListIter s.heap.objs.size p.1 i, q, hn, ?_, ⟨_, Heap.get?_push_size _ rfl, rfl, rfl⟩, fun a ha => ?_, keep_push _ _, rfl, rfl⟩)
  · refine ⟨fun i h h' ⟨o, ho, r⟩ hk _ => ⟨o, hk _ (List.mem_singleton.mpr rfl) o ho, r⟩, fun i h ⟨o, ho, hc, hd⟩ a ha => ?_, fun A i s Q hi hQ => wpAny_pyIter_listiter hi hQ, fun A i sK amA σA c PA hh ⟨l', e'⟩ RA hs hi hc hPA => ?_, fun A sK amA σA PA hh ⟨l', e'⟩ RA hs hi hPA => ?_⟩
    · rw [mq ha]; exact ⟨o, _, ho, hd⟩
    · have hpA : amA[n]? = some p := by rw [e', List.getElem?_append_left (gq hp).1]; exact hp
      obtain ⟨_, ws, hlA, rvA⟩ := RA.obj n p _ hpA hs
      replace hlA := hlA.isList
      obtain ⟨u, hu, ru⟩ := rvA.get hc
      refine wpAny_pyNext_list_item hi hlA (x := u) (by simpa using hu) fun h' hit' hsb => ?_
      have kp : ∀ b o, b ∉ [s.heap.objs.size] → sK.heap.get? b = some o → h'.get? b = some o := fun b o hb e => hsb.extBut b o (fun q => hb (q ▸ List.mem_singleton.mpr rfl)) e
      obtain ⟨oi, hoi, hci, hdi⟩ := id hi
      have tk : TupKeep sK.heap h' := aside_tk kp fun a ha => by rw [mq ha]; exact ⟨oi, _, hoi, hdi⟩
      obtain ⟨o', ho', hc', _⟩ := id hit'
      exact letGo_iter ho' hc' (by decide) (hPA u h' _ kp (ru.mono ⟨[], by simp⟩ tk) hit')
    · have hpA : amA[n]? = some p := by rw [e', List.getElem?_append_left (gq hp).1]; exact hp
      obtain ⟨_, ws, hlA, rvA⟩ := RA.obj n p _ hpA hs
      replace hlA := hlA.isList
      exact wpAny_pyNext_list_end hh hi hlA (by simp [rvA.length]) fun h' he => hPA h' _ fun b o hb e => he b o (fun q => hb (q ▸ List.mem_singleton.mpr rfl)) e
  · rw [mq ha]; exact get_fresh _ (Nat.le_refl _)
theorem tupiter_self {A : Around} {s : Shared} {it t : Addr} {i : Nat} {Q : Value → Shared → Prop} {E : Value → Shared → Prop} (hit : IsTupIter s.heap it t i) (h : Q (.ref it) s) : wpAny (model W.prog W.w) A (pyIter (.ref it)) Q E s := by
  refine wpAny_pyIter_slot hit.typeIs F.slot_tuple_iterator_iter (wpAny_call_entry F.slot_tuple_iterator_iter hit.typeIs F.entry_tuple_iterator_iter ?_ (F.args_tuple_iterator_iter_1 _))
  show wpAny _ _ (ret (.ref it)) _ _ s
  exact wpAny_pure ⟨_, rfl, "tuple_iterator", _, hit.typeIs, slot_tupleiter_next.lookup, h⟩
theorem ItV.tup {l : List V} {Q : List V → (List CO → Prop) → List CO → Prop} (q : Q l (fun _ => True) σ) : ItV W target (.tup l) σ Q := by
  refine .mk ?_
  intro A s am v P hh R hv hP
  obtain ⟨a, vs, rfl, ht, rv⟩ := hv
  have tk0 := tupKeep_of (keep_push s.heap { cls := .type "tuple_iterator", data := .fields #[.ref a, .int 0 0] })
  refine iter_tuple ht (hP _ _ ⟨l, _, [s.heap.objs.size], fun i h => IsTupIter h s.heap.objs.size a i ∧ IsTup h a vs.toArray ∧ VRs am h l vs, q, trivial, ?_,
    ⟨⟨_, Heap.get?_push_size _ rfl, rfl, rfl⟩, tk0 _ _ ht, rv.mono ⟨[], by simp⟩ tk0⟩, fun a ha => ?_, keep_push _ _, rfl, rfl⟩)
  · refine ⟨fun i h h' ⟨⟨o, ho, r⟩, r2, r3⟩ hk tk => ⟨⟨o, hk _ (List.mem_singleton.mpr rfl) o ho, r⟩, tk _ _ r2, r3.mono ⟨[], by simp⟩ tk⟩, fun i h ⟨⟨o, ho, hc, hd⟩, _⟩ a ha => ?_, fun A i s Q hi hQ => tupiter_self hi.1 hQ, fun A i sK amA σA c PA hh e' RA hs hi hc hPA => ?_, fun A sK amA σA PA hh e' RA hs hi hPA => ?_⟩
    · rw [mq ha]; exact ⟨o, _, ho, hd⟩
    · obtain ⟨u, hu, ru⟩ := hi.2.2.get hc
      refine next_tuple_item hi.1 hi.2.1 (x := u) (by simpa using hu) fun h' hit' hsb => ?_
      have kp : ∀ b o, b ∉ [s.heap.objs.size] → sK.heap.get? b = some o → h'.get? b = some o := fun b o hb e => hsb.extBut b o (fun q => hb (q ▸ List.mem_singleton.mpr rfl)) e
      obtain ⟨oi, hoi, hci, hdi⟩ := id hi.1
      have tk : TupKeep sK.heap h' := aside_tk kp fun a ha => by rw [mq ha]; exact ⟨oi, _, hoi, hdi⟩
      obtain ⟨o', ho', hc', _⟩ := id hit'
      exact letGo_iter ho' hc' (by decide) (hPA u h' _ kp (ru.mono e' tk) ⟨hit', tk _ _ hi.2.1, hi.2.2.mono ⟨[], by simp⟩ tk⟩)
    · exact next_tuple_end hh hi.1 hi.2.1 (by simp [hi.2.2.length]) fun h' he => hPA h' _ fun b o hb e => he b o (fun q => hb (q ▸ List.mem_singleton.mpr rfl)) e
  · rw [mq ha]; exact get_fresh _ (Nat.le_refl _)
noncomputable def rangeV (a b c : Int) : List V := (List.range (Builtin.Range.rangeSize a b c).toNat).map fun (i : Nat) => V.int (a + i * c)
theorem range_go {A : Around} {sO s : Shared} {r : Addr} {a b c : Int} {t u v : Tok} {Q : List V → (List CO → Prop) → List CO → Prop} {P : Value → Shared → Prop} (hr : IsRange s.heap r a b c t u v) (hsm : Builtin.Range.small a b c = true) (h0 : 0 ≤ Builtin.Range.rangeSize a b c)
    (hkO : ∀ b o, sO.heap.get? b = some o → s.heap.get? b = some o) (hg : s.gens = sO.gens) (ho : s.os = sO.os)
    (q : Q (rangeV a b c) (fun _ => True) σ) (hP : ∀ it s', ItOut W target σ Q am sO it s' → P it s') : wpAny (model W.prog W.w) A (pyIter (.ref r)) P (fun _ _ => False) s := by
  have fr : ∀ b, s.heap.get? b = none → sO.heap.get? b = none := fun b e => by
    cases e' : sO.heap.get? b with
    | none => rfl
    | some o => rw [hkO b o e'] at e; cases e
  refine wpAny_pyIter_range hr hsm (hP _ _ ⟨_, _, [s.heap.objs.size], fun i h => IsRangeIter h s.heap.objs.size (a + (i : Nat) * c) (Builtin.Range.rangeSize a b c - (i : Nat)) c, q, trivial, ?_, ?_, fun a ha => ?_, fun b o e => keep_push _ _ b o (hkO b o e), hg, ho⟩)
  · refine ⟨fun i h h' e hk _ => hk _ (List.mem_singleton.mpr rfl) _ e, fun i h e a ha => ?_, fun A i s Q hi hQ => wpAny_pyIter_rangeiter hi hQ, fun A i sK amA σA c' PA hh e' RA hs hi hc hPA => ?_, fun A sK amA σA PA hh e' RA hs hi hPA => ?_⟩
    · rw [mq ha]; exact ⟨_, _, e, rfl⟩
    · have hlt : i < (Builtin.Range.rangeSize a b c).toNat := by
        have := (gq hc).1
        simpa [rangeV] using this
      have hv : c' = V.int (a + i * c) := by
        have := hc
        simp [rangeV, hlt] at this
        exact this.symm
      subst hv
      refine wpAny_pyNext_range_item hi (by lia) fun h' hit' hsb => ?_
      have kp : ∀ b o, b ∉ [s.heap.objs.size] → sK.heap.get? b = some o → h'.get? b = some o := fun b o hb e => hsb.extBut b o (fun q => hb (q ▸ List.mem_singleton.mpr rfl)) e
      refine letGo_iter hit' rfl (by decide) (hPA _ h' _ kp ⟨_, rfl⟩ ?_)
      have e1 : a + ((i + 1 : Nat) : Int) * c = a + (i : Int) * c + c := by push_cast; rw [Int.add_mul, Int.one_mul, Int.add_assoc]
      have e2 : Builtin.Range.rangeSize a b c - ((i + 1 : Nat) : Int) = Builtin.Range.rangeSize a b c - (i : Int) - 1 := by push_cast; lia
      show IsRangeIter h' _ (a + ((i + 1 : Nat) : Int) * c) (Builtin.Range.rangeSize a b c - ((i + 1 : Nat) : Int)) c
      rw [e1, e2]
      exact hit'
    · exact wpAny_pyNext_range_end hh hi (by simp [rangeV]; lia) fun h' he => hPA h' _ fun b o hb e => he b o (fun q => hb (q ▸ List.mem_singleton.mpr rfl)) e
  · have := Heap.get?_push_size s.heap (o := { cls := .type "range_iterator", data := .fields #[rawInt a, rawInt (Builtin.Range.rangeSize a b c), rawInt c] }) rfl
    simpa [IsRangeIter] using this
  · rw [mq ha]; exact fr _ (get_fresh _ (Nat.le_refl _))
theorem ItC.range1 {b : Int} {Q : List V → (List CO → Prop) → List CO → Prop} (hs : Builtin.Range.small 0 b 1 = true) (q : Q (rangeV 0 b 1) (fun _ => True) σ) : ItC W target (.type "range") [.int b] σ Q := by
  refine .mk ?_
  rintro A s am _ P hh R ⟨_, _, rfl, ⟨u, rfl⟩, rfl⟩ hP
  exact call_range_1 (range_go (IsRange.new ..) hs (by rw [rangeSize_one]; split <;> lia) (keep_push _ _) rfl rfl q hP)
theorem ItC.range2 {a b : Int} {Q : List V → (List CO → Prop) → List CO → Prop} (hs : Builtin.Range.small a b 1 = true) (q : Q (rangeV a b 1) (fun _ => True) σ) : ItC W target (.type "range") [.int a, .int b] σ Q := by
  refine .mk ?_
  rintro A s am _ P hh R ⟨_, _, rfl, ⟨u, rfl⟩, _, _, rfl, ⟨w, rfl⟩, rfl⟩ hP
  exact call_range_2 (range_go (IsRange.new ..) hs (by rw [rangeSize_one]; split <;> lia) (keep_push _ _) rfl rfl q hP)
theorem ItC.range3 {a b c : Int} {Q : List V → (List CO → Prop) → List CO → Prop} (hc : c ≠ 0) (hs : Builtin.Range.small a b c = true) (h0 : 0 ≤ Builtin.Range.rangeSize a b c) (hp : Builtin.divisionGoesByPylong (b - a) c = false) (q : Q (rangeV a b c) (fun _ => True) σ) : ItC W target (.type "range") [.int a, .int b, .int c] σ Q := by
  refine .mk ?_
  rintro A s am _ P hh R ⟨_, _, rfl, ⟨u, rfl⟩, _, _, rfl, ⟨w, rfl⟩, _, _, rfl, ⟨t, rfl⟩, rfl⟩ hP
  exact call_range_3 hc (range_go (IsRange.new ..) hs h0 (keep_push _ _) rfl rfl q hP) (.inl hp)
noncomputable def enumV (l : List V) : List V := l.mapIdx fun i c => V.tup [.int (i : Nat), c]
theorem ItC.enum {elts : List Xp} {n : Nat} {l : List V} {Q : List V → (List CO → Prop) → List CO → Prop} (hn : σ[n]? = some (.list l)) (q : Q (enumV l) (SrcL n l) σ) : ItC W (.Tuple elts k pos) (.type "enumerate") [.ref n] σ Q := by
  refine .mk ?_
  rintro A s am _ P hh R ⟨_, _, rfl, ⟨p, hp, rfl⟩, rfl⟩ hP
  obtain ⟨e, vs, hl, rv⟩ := R.obj n p _ hp hn
  replace hl := hl.isList
  refine call_enumerate_list hl fun h' hen hit hsz hk => wpAny_pyIter_enum hen (hP _ _ ⟨_, _, [s.heap.objs.size + 1, s.heap.objs.size], fun i h => (∃ old, IsEnum h (s.heap.objs.size + 1) s.heap.objs.size (i : Nat) old) ∧ h.IsListIter s.heap.objs.size p.1 i, q, hn, ?_, ⟨⟨_, hen⟩, hit⟩, fun a ha => ?_, hk, rfl, rfl⟩)
  · have hne : s.heap.objs.size + 1 ≠ s.heap.objs.size := Nat.succ_ne_self _
    refine ⟨fun i h h' ⟨⟨old, e⟩, o, ho, r⟩ hk _ => ⟨⟨old, hk _ (by simp) _ e⟩, o, hk _ (by simp) o ho, r⟩, fun i h ⟨⟨old, e⟩, o, ho, hc, hd⟩ a ha => ?_, fun A i s Q ⟨⟨old, e⟩, _⟩ hQ => wpAny_pyIter_enum e hQ, fun A i sK amA σA c PA hh ⟨l', e'⟩ RA hs hi hc hPA => ?_, fun A sK amA σA PA hh ⟨l', e'⟩ RA hs hi hPA => ?_⟩
    · rcases List.mem_cons.mp ha with rfl | ha
      · exact ⟨_, _, e, rfl⟩
      · rw [mq ha]; exact ⟨o, _, ho, hd⟩
    · have hpA : amA[n]? = some p := by rw [e', List.getElem?_append_left (gq hp).1]; exact hp
      obtain ⟨_, ws, hlA, rvA⟩ := RA.obj n p _ hpA hs
      replace hlA := hlA.isList
      obtain ⟨⟨old, he⟩, hi⟩ := hi
      have hlt : i < l.length := by
        have := (gq hc).1
        simpa [enumV] using this
      obtain ⟨u, hu, ru⟩ := rvA.get (List.getElem?_eq_getElem hlt)
      have hc' : c = V.tup [.int (i : Nat), l[i]] := by
        simp [enumV, hlt] at hc
        exact hc.symm
      subst hc'
      obtain ⟨oi, hoi, hci, hdi⟩ := id hi
      refine wpAny_pyNext_enum_item he hi hlA (x := u) (by simpa using hu) hne fun hK heo hitA htup hszA hkA => ?_
      refine wpAny_letOwnedTupleGo_enum heo fun h₂ henB hsB => ?_
      replace hsB : Heap.SameBut (s.heap.objs.size + 1) hK h₂ := hsB
      have kp : ∀ b o, b ∉ [s.heap.objs.size + 1, s.heap.objs.size] → sK.heap.get? b = some o → h₂.get? b = some o := fun b o hb e =>
        hsB.extBut b o (fun q => hb (by simp [q])) (hkA b o (fun q => hb (by simp [q])) (fun q => hb (by simp [q])) e)
      have tk : TupKeep sK.heap h₂ := aside_tk kp fun a ha => by
        rcases List.mem_cons.mp ha with rfl | ha
        · exact ⟨_, _, he, rfl⟩
        · rw [mq ha]; exact ⟨oi, _, hoi, hdi⟩
      have hT : sK.heap.objs.size ≠ s.heap.objs.size + 1 := Nat.ne_of_gt (Heap.lt_size he)
      refine hPA _ h₂ _ kp ⟨_, _, rfl, ⟨_, hsB.extBut _ _ hT htup, rfl, _, rfl⟩, .cons ⟨_, rfl⟩ (.cons (ru.mono ⟨[], by simp⟩ tk) .nil)⟩ ⟨⟨u, by simpa using henB⟩, ?_⟩
      obtain ⟨o, ho, r⟩ := hitA
      exact ⟨o, hsB.extBut _ _ (Ne.symm hne) ho, r⟩
    · have hpA : amA[n]? = some p := by rw [e', List.getElem?_append_left (gq hp).1]; exact hp
      obtain ⟨_, ws, hlA, rvA⟩ := RA.obj n p _ hpA hs
      replace hlA := hlA.isList
      obtain ⟨⟨old, he⟩, hi⟩ := hi
      exact wpAny_pyNext_enum_end hh he hi hlA (by simp [rvA.length, enumV]) fun h' he => hPA h' _ fun b o hb e => he b o (fun q => hb (by simp [q])) e
  · have : s.heap.objs.size ≤ a := by
      rcases List.mem_cons.mp ha with rfl | ha
      · exact Nat.le_succ _
      · rw [mq ha]; exact Nat.le_refl _
    exact get_fresh _ this
end
section
variable {W : Wd} {d : Nat} {F : Fm} {σ : List CO} {ρ ρ' : Rho} {x : Sr} {c : V} {pos pos' np : Pos} {k : Nat} {B : Mk} {am am' : AM} {h h' : Heap} {target : Xp}
noncomputable def cmpF (F : Fm) (scope : Scope) (cl : List (Sr × Addr)) (C : Addr) (gs : List (Sr × V)) : Fm := ⟨compEnvC scope cl C F.env, [C], gs, false⟩
noncomputable def capR (caps : List (Sr × V)) : Rho := caps.map fun p => (p.1, some p.2)
def CompL (W : Wd) (d : Nat) (F' : Fm) (elt : Xp) (y : Sr) (caps : List (Sr × V)) (Src : List CO → Prop) (n : Nat) (Q : List CO → Prop) : List V → List V → List CO → Prop
  | [], _, σ => Q σ
  | c :: cs, acc, σ => EJ W d F' elt ((y, some c) :: capR caps) σ fun e σ' => σ'[n]? = some (.list acc) ∧ Src (σ'.set n (.list (acc ++ [e]))) ∧ CompL W d F' elt y caps Src n Q cs (acc ++ [e]) (σ'.set n (.list (acc ++ [e])))
theorem Inv.newListAt {D : Addr} (I : Inv W B F h am ρ σ) (hD : h.get? D = none) (hk : ∀ b x, h.get? b = some x → h'.get? b = some x) (hl : h'.PlainList D (List.toArray [])) : Inv W B F h' (am ++ [(D, D)]) ρ (σ ++ [.list []]) :=
  I.more hk hD hD ⟨rfl, [], hl, rfl⟩
theorem append_go {A : Around} {s : Shared} {n : Nat} {acc : List V} {v : Value} {P : Value → Shared → Prop} {p : Addr × Addr} (I : Inv W B F s.heap am ρ σ) (hr : Rest W s) (hp : am[n]? = some p) (hn : σ[n]? = some (.list acc)) (hv : VR am s.heap c v) (hsz : acc.length ≤ sizeLine)
    (hP : ∀ h', Inv W B F h' am ρ (σ.set n (.list (acc ++ [c]))) → (∀ b o, b ≠ p.1 → s.heap.get? b = some o → h'.get? b = some o) → P .none { s with heap := h' }) : wpAny (model W.prog W.w) A (PySem.call (.builtin "list.append") [.ref p.1, v]) P (fun _ _ => False) s := by
  obtain ⟨e, vs, hl, rv⟩ := I.i0.rp.obj n p _ hp hn
  refine wpAny_list_append_plain (hsz := by simp [rv.length]; exact hsz) hl fun h' hl' hs => ?_
  have hk : ∀ b o, b ≠ p.1 → s.heap.get? b = some o → h'.get? b = some o := fun b o q z => hs.extBut b o q z
  have tk : TupKeep s.heap h' := Inv0.changeTK I.i0.rp hp fun b o q _ z => hk b o q z
  refine hP h' (I.change hp hn (fun b o q _ z => hk b o q z) ⟨e, vs ++ [v], by simpa using hl', (rv.mono ⟨[], by simp⟩ tk).append (.cons (hv.mono ⟨[], by simp⟩ tk) .nil)⟩) hk
theorem Put.put0 {y : Sr} {o : Option V} {r : Rho} : Put ((y, o) :: r) y c ((y, some c) :: r) := .zx
theorem compLoop_any {prog : Program} {w : World} {A : Around} {R : Result → Shared → Prop} {s : Shared} {elt target iter : Xp} {scope : Scope} {pos : Pos} {it acc : Value} {env : Env} (I : Nat → Shared → Prop)
    (turn : ∀ n s, I n s → wpAny (model prog w) A (pyNext it) (fun r sK => match r with
      | none => R (.ok .next) sK
      | some v => wpAny (model prog w) A (letOwnedTupleGo target it v) (fun _ sA' => wpAny (model prog w) A (assign target env v) (fun _ sB => wpAny (model prog w) A (eval elt env) (fun x sD =>
              wpAny (model prog w) A (PySem.call (.builtin "list.append") [acc, x]) (fun _ sE => ∃ m, m < n ∧ I m sE) (notedBy (model prog w) A env fun e s' => R (.error e) s') sD) (notedBy (model prog w) A env fun e s' => R (.error e) s') sB)
              (notedBy (model prog w) A env fun e s' => R (.error e) s') sA') (notedBy (model prog w) A env fun e s' => R (.error e) s') sK) (notedBy (model prog w) A env fun e s' => R (.error e) s') s)
    (n : Nat) (h : I n s) : codeAny (model prog w) A (.compLoop (.ListComp elt [⟨target, iter, [], 0⟩] scope pos) 0 it acc env) R s := by
  refine codeAny_loop rfl I (fun n s hI => ?_) n h
  show wpAny _ A ((compTurn (.ListComp elt [⟨target, iter, [], 0⟩] scope pos) 0 it acc env).onRaise (fun x => do noteFrame x env; theTreesLotGoes x)) _ _ s
  refine wpAny_noted ?_
  rw [compTurn_list]
  refine wpAny_bind (wpAny_standAt (wpAny_bind (wpAny_mono (turn n s hI) (fun r sK hK => ?_) fun _ _ h' => h')))
  cases r with
  | none => exact wpAny_pure hK
  | some v =>
    refine wpAny_bind (wpAny_mono hK (fun _ sA' hA' => wpAny_bind (wpAny_mono hA' (fun _ sB h₂ => wpAny_bind (wpAny_tests_nil ?_)) fun _ _ h' => h')) fun _ _ h' => h')
    exact wpAny_bind (wpAny_bind (wpAny_mono h₂ (fun x sD h₄ => wpAny_bind (wpAny_mono h₄ (fun _ sE h₅ => wpAny_pure (wpAny_pure ⟨rfl, h₅⟩)) fun _ _ h' => h')) fun _ _ h' => h'))
theorem comp_go {A : Around} {R : Result → Shared → Prop} {elt iter : Xp} {y : Sr} {px : Pos} {scope : Scope} {F' : Fm} {caps : List (Sr × V)} {it : Value} {own : List Addr} {cs : List V} {Src : List CO → Prop} {St : Nat → Heap → Prop}
    {amA : AM} {hK : Heap} {D : Addr} {n : Nat} {sD : Shared} {σC : List CO} {QF : List CO → Prop} (hy : F'.env.kindOf y = some .local) (hR : Room A d)
    (hit : ItS W (.Name y px) it own cs Src amA St) (hfr : ∀ a ∈ own, hK.get? a = none) (h0 : ∀ a ∈ own, W.hZ.get? a = none) (hF' : ∀ a ∈ own, a ∉ F'.own) (hst : St 0 sD.heap) (hsz : cs.length ≤ sizeLine)
    (I : Inv W ⟨amA, hK⟩ F' sD.heap (amA ++ [(D, D)]) ((y, none) :: capR caps) σC) (hr : Rest W sD) (hn : n = amA.length) (hσ : σC[n]? = some (.list [])) (hs : Src σC) (q : CompL W d F' elt y caps Src n QF cs [] σC)
    (hRR : ∀ s' am' σ' o, QF σ' → Inv W ⟨amA, hK⟩ F' s'.heap am' ((y, o) :: capR caps) σ' → Rest W s' → (∃ l, am' = (amA ++ [(D, D)]) ++ l) → R (.ok .next) s') :
    codeAny (model W.prog W.w) A (.compStart (.ListComp elt [⟨.Name y px, iter, [], 0⟩] scope pos) 0 it (.ref D) F'.env) R sD := by
  have loop : codeAny (model W.prog W.w) A (.compLoop (.ListComp elt [⟨.Name y px, iter, [], 0⟩] scope pos) 0 it (.ref D) F'.env) R sD := by
    refine compLoop_any (fun m s' => ∃ i am' σ' o acc, i + m = cs.length ∧ acc.length ≤ i ∧ CompL W d F' elt y caps Src n QF (cs.drop i) acc σ' ∧ σ'[n]? = some (.list acc) ∧ Src σ' ∧ St i s'.heap ∧
      Inv W ⟨amA, hK⟩ F' s'.heap am' ((y, o) :: capR caps) σ' ∧ Rest W s' ∧ ∃ l, am' = (amA ++ [(D, D)]) ++ l) ?_ cs.length ⟨0, _, σC, none, [], by lia, Nat.le_refl _, by simpa using q, hσ, hs, hst, I, hr, [], by simp⟩
    rintro m s' ⟨i, am', σ', o, acc, hm, hacc, hL, hσ', hs', hst', I', r', l, hl⟩
    have pre1 : ∃ l, am' = amA ++ l := ⟨[(D, D)] ++ l, by rw [hl, List.append_assoc]⟩
    cases m with
    | zero =>
      have hi : i = cs.length := by lia
      subst hi
      rw [List.drop_length] at hL
      refine wpAny_mono (hit.done A s' am' σ' (fun sB => sB.gens = #[] ∧ sB.os = W.os ∧ Inv W ⟨amA, hK⟩ F' sB.heap am' ((y, o) :: capR caps) σ') hR.handled pre1 I'.i0.rp hs' hst' fun h₂ tk hk => ?_) (fun r sB z => ?_) fun _ _ z => z.elim
      · exact ⟨r'.1, r'.2, I'.asides hk (hit.kind _ _ hst') h0 hfr hF'⟩
      · cases r with
        | some v => exact z.elim
        | none => exact hRR sB am' σ' o hL z.2.2 ⟨z.1, z.2.1⟩ ⟨l, hl⟩
    | succ m =>
      have hi : i < cs.length := by lia
      have hd : cs.drop i = cs[i] :: cs.drop (i + 1) := List.drop_eq_getElem_cons hi
      rw [hd] at hL
      refine wpAny_mono (hit.turn A i s' am' σ' cs[i] (fun v sB => sB.gens = #[] ∧ sB.os = W.os ∧ Inv W ⟨amA, hK⟩ F' sB.heap am' ((y, o) :: capR caps) σ' ∧ VR am' sB.heap cs[i] v ∧ St (i + 1) sB.heap) hR.handled pre1 I'.i0.rp hs' hst' (List.getElem?_eq_getElem hi) fun v h₂ tk hk rv stB => ?_) (fun r sB z => ?_) fun _ _ z => z.elim
      · exact ⟨r'.1, r'.2, I'.asides hk (hit.kind _ _ hst') h0 hfr hF', rv, stB⟩
      · cases r with
        | none => exact z.elim
        | some v =>
          refine wpAny_mono z (fun _ sB z => ?_) fun _ _ w => False.elim w
          obtain ⟨y1, y2, J, rv, stB⟩ := z
          obtain ⟨mm, hns, hmm⟩ := J.loc.ns
          refine wpAny_assign_Name (wpAny_storeName_local hy hns (fun h₃ hnsC hsC => ?_) (by rw [J.ok.kind]; rfl))
          have JC := J.self.storeLocal Put.put0 hy rv ⟨hns, hmm⟩ hnsC hsC
          have stC : St (i + 1) h₃ := hit.frame _ _ _ stB (fun b hb o e => hsC.extBut b o (fun e' => hF' b hb (e' ▸ J.loc.locIn)) e) (JC.i0.since.tupKeep J.i0.rp J.live)
          refine wpAny_mono (hL.out A ⟨am', h₃⟩ { sB with heap := h₃, toks := sB.toks + 1 } am' hR (J.step JC).self ⟨y1, y2⟩ _ fun e sD amD cD σD qD rD ID h₄ => ?_) (fun _ _ w => w) fun _ _ w => False.elim w
          obtain ⟨hσD, hsD, qD⟩ := qD
          have hp : amD[n]? = some (D, D) := by
            obtain ⟨l', e', _⟩ := ID.i0.since.pre
            rw [e', hl, hn]; simp
          have JD := (J.step JC).step ID
          have stD : St (i + 1) sD.heap := hit.frame _ _ _ stC (fun b hb o e => ID.i0.since.keep b o e ((J.step JC).i0.rp.fields_free (hit.kind _ _ stC b hb)) (hF' b hb)) (ID.i0.since.tupKeep (J.step JC).i0.rp (J.step JC).live)
          refine wpAny_mono (append_go JD h₄ hp hσD rD (by lia) fun h₅ IE hkE => ?_) (fun _ _ w => w) fun _ _ w => False.elim w
          have notD : ∀ b ∈ own, b ≠ D := fun b hb e => JD.i0.rp.fields_free (hit.kind _ _ stD b hb) ⟨_, List.mem_of_getElem? hp, .inl e⟩
          refine ⟨m, by lia, i + 1, amD, _, some cs[i], acc ++ [cD], by lia, by simp; lia, qD, ?_, hsD, ?_, IE, h₄, ?_⟩
          · rw [List.getElem?_set_self]
            exact (gq hσD).1
          · exact hit.frame _ _ _ stD (fun b hb o e => hkE b o (notD b hb) e) (Inv0.changeTK JD.i0.rp hp fun b o q1 _ z => hkE b o q1 z)
          · obtain ⟨l', e', _⟩ := ID.i0.since.pre
            exact ⟨l ++ l', by rw [e', hl, List.append_assoc]⟩
  refine codeAny_compStart_list loop ?_
  refine wpAny_mono (hit.self A 0 sD (fun it' s' => it' = it ∧ s' = sD) hst ⟨rfl, rfl⟩) (fun it' s' w => ?_) (fun _ _ w => False.elim w)
  obtain ⟨rfl, rfl⟩ := w
  exact loop
structure CmpOk (W : Wd) (F : Fm) (scope : Scope) (y : Sr) (cl : List (Sr × Addr)) (caps : List (Sr × V)) (gs : List (Sr × V)) (ρ : Rho) : Prop where
  clos : closureFor scope F.env = pure cl
  kind : scope.kind = .function
  cell : ∀ z ∈ scope.names, z.2 ≠ .cell
  names : ∀ z ∈ scope.names, z.2 = .local → scope.names.lookup z.1 = some .local
  yl : scope.names.lookup y = some .local
  cap : ∀ p ∈ caps, Get ρ p.1 p.2 ∧ F.env.kindOf p.1 = some .cell ∧ cl.lookup p.1 = F.env.cells.lookup p.1 ∧ (relabel scope F.env).names.lookup p.1 = some .cell
  nd : (y :: caps.map (·.1)).Nodup
  gs : ∀ p ∈ gs, (relabel scope F.env).names.lookup p.1 = some .globalImplicit ∧ (p.1 == ("__debug__" : Sr)) = false ∧ GV W p.1 p.2
  plain : (y == ("__debug__" : Sr)) = false ∧ (y == ("__classdict__" : Sr)) = false
theorem Inv.afterC {C : Addr} {hK : Heap} {amA : AM} {ρ' : Rho} {F' : Fm} {s' : Heap} (I : Inv W B F hK amA ρ σ) {σ' : List CO} (hC : hK.get? C = none) (hF' : F'.own = [C]) (I' : Inv W ⟨amA, hK⟩ F' s' am' ρ' σ') : Inv W B F s' am' ρ σ' := by
  refine I.after ⟨I'.i0.rp, I'.i0.since.pre, fun b o e h1 _ => I'.i0.since.keep b o e h1 fun hb => ?_⟩
  rw [hF'] at hb
  rw [mq hb, show (Mk.mk amA hK).h.get? C = none from hC] at e
  cases e
theorem comp_heart {A : Around} {elt iter : Xp} {y : Sr} {px : Pos} {scope : Scope} {cl : List (Sr × Addr)} {caps gs : List (Sr × V)} {it : Value} {own : List Addr} {cs : List V} {Src : List CO → Prop} {St : Nat → Heap → Prop}
    {hK : Heap} {sB : Shared} {QF : List CO → Prop} {use : Option (Value → Sem Unit)} {P : Value → Shared → Prop} (ok : CmpOk W F scope y cl caps gs ρ) (hR : Room A d)
    (hit : ItS W (.Name y px) it own cs Src am St) (hst : St 0 sB.heap) (hsz : cs.length ≤ sizeLine) (I : Inv W B F hK am ρ σ) (hfr : ∀ a ∈ own, hK.get? a = none) (hk : ∀ b o, hK.get? b = some o → sB.heap.get? b = some o) (hr : Rest W sB)
    (hs : Src (σ ++ [.list []])) (q : ∀ C, CompL W d (cmpF F scope cl C gs) elt y caps Src σ.length QF cs [] (σ ++ [.list []]))
    (hP : ∀ D C s' am' σ', QF σ' → Inv W B F s'.heap am' ρ σ' → Rest W s' → (∃ l, am' = (am ++ [(D, D)]) ++ l) → (∃ m, s'.heap.Ns C m) → B.h.get? C = none → W.hZ.get? C = none → ¬ owns am' C → C ∉ F.own →
      compPost (model W.prog W.w) A (fun _ _ => False) use P (.ref D) C (.ok .next) s') :
    wpAny (model W.prog W.w) A (newList []) (fun acc sC => wpAny (model W.prog W.w) A (newFunctionEnv scope F.env.globals cl [] F.env.qual none .none (some F.env)) (fun cenv sD =>
      codeAny (model W.prog W.w) A (.compStart (.ListComp elt [⟨.Name y px, iter, [], 0⟩] scope pos) 0 it acc { cenv with scope := relabel scope F.env }) (compPost (model W.prog W.w) A (fun _ _ => False) use P acc cenv.locals) sD) (fun _ _ => False) sC) (fun _ _ => False) sB := by
  refine wpAny_newObj_type (hd := by size_fits) (wpAny_newFunctionEnv ok.cell (by intro z hz; simp at hz) (fun h₄ hnsD hsbD => ?_) ok.kind)
  dsimp only at hnsD hsbD ⊢
  generalize hH2 : sB.heap.push { cls := .type "list", dict := none, data := .seq ([] : List Value).toArray } = H2 at hnsD hsbD ⊢
  have hC : H2.objs.size = sB.heap.objs.size + 1 := by rw [← hH2, Heap.size_push]
  have hDC : sB.heap.objs.size ≠ H2.objs.size := by rw [hC]; exact Nat.ne_of_lt (Nat.lt_succ_self _)
  have old : ∀ b o, sB.heap.get? b = some o → h₄.get? b = some o := fun b o e => by
    have hb : b < sB.heap.objs.size := Heap.lt_size e
    exact hsbD.extBut b o (by rw [hC]; exact Nat.ne_of_lt (Nat.lt_succ_of_lt hb)) (Heap.get?_push_of_some _ (hH2 ▸ Heap.get?_push_of_some _ e))
  have oldA : ∀ b o, hK.get? b = some o → h₄.get? b = some o := fun b o e => old b o (hk b o e)
  have noneA : ∀ b, sB.heap.objs.size ≤ b → hK.get? b = none := fun b hb => by
    cases e : hK.get? b with
    | none => rfl
    | some o => exact absurd (Heap.lt_size (hk b o e)) (Nat.not_lt.mpr hb)
  have hD1 := noneA sB.heap.objs.size (Nat.le_refl _)
  have hC1 := noneA H2.objs.size (by rw [hC]; exact Nat.le_succ _)
  have hacc : h₄.PlainList sB.heap.objs.size (List.toArray []) := ⟨_, hsbD.extBut _ _ hDC (Heap.get?_push_of_some _ (hH2 ▸ Heap.get?_push_size _ rfl))⟩
  have none0 : ∀ a, hK.get? a = none → W.hZ.get? a = none := fun a ha => by
    cases e : W.hZ.get? a with
    | none => rfl
    | some o => have := I.i0.rp.old _ _ e; rw [ha] at this; cases this
  have notIn : ∀ a, hK.get? a = none → a ∉ F.own := fun a ha q => by
    obtain ⟨o, ho, _⟩ := I.live a q
    rw [ha] at ho; cases ho
  have J := I.self.newListAt hD1 oldA hacc
  have tk : TupKeep hK h₄ := tupKeep_of oldA
  have ownNe : ∀ a ∈ own, a ≠ H2.objs.size := fun a ha e => by
    obtain ⟨o, vs, ho, _⟩ := hit.kind _ _ hst a ha
    have := Heap.lt_size ho
    rw [e, hC] at this
    exact absurd this (Nat.not_lt.mpr (Nat.le_succ _))
  have hI : Inv W ⟨am, hK⟩ (cmpF F scope cl H2.objs.size gs) h₄ (am ++ [(sB.heap.objs.size, sB.heap.objs.size)]) ((y, none) :: capR caps) (σ ++ [.list []]) := by
    refine ⟨⟨J.i0.rp, J.i0.since.pre, fun b o e h1 h2 => oldA b o e⟩, ⟨⟨_, hnsD, fun x c hx hkx => ?_⟩, fun x oc hx hkx => ?_, fun p hp => ?_, ?_, fun a ha => ?_, fun a ha => ?_, List.mem_singleton.mpr rfl, fun p hp => ?_⟩, ?_⟩
    · rcases List.mem_cons.mp hx with e | hx
      · cases e
      · obtain ⟨p, hp, e⟩ := List.mem_map.mp hx
        cases e
        have := (ok.cap p hp).2.2.2
        rw [show (cmpF F scope cl H2.objs.size gs).env.kindOf p.1 = (relabel scope F.env).names.lookup p.1 from rfl, this] at hkx
        cases hkx
    · rcases List.mem_cons.mp hx with e | hx
      · cases e
        have : (cmpF F scope cl H2.objs.size gs).env.kindOf y = some .local := lookup_relabel_local ok.yl
        rw [this] at hkx
        rcases hkx with e | e <;> cases e
      · obtain ⟨p, hp, e⟩ := List.mem_map.mp hx
        cases e
        obtain ⟨g, kc, hl, _⟩ := ok.cap p hp
        obtain ⟨a, v, e1, e2, e3⟩ := I.loc.cl _ _ g.mem (.inl kc)
        obtain ⟨o, ho, hd⟩ := e2
        exact ⟨a, v, hl.trans e1, ⟨o, oldA _ _ ho, hd⟩, fun c' q => let ⟨u, z, w⟩ := e3 c' q; ⟨u, z, w.mono ⟨_, rfl⟩ tk⟩⟩
    · rcases List.mem_cons.mp hp with e | hp
      · subst e; exact .inl (lookup_relabel_local ok.yl)
      · obtain ⟨p', hp', e⟩ := List.mem_map.mp hp
        cases e
        exact .inr (.inl (ok.cap p' hp').2.2.2)
    · have : ((y, (none : Option V)) :: capR caps).map (·.1) = y :: caps.map (·.1) := by simp [capR, Function.comp_def]
      rw [this]; exact ok.nd
    · rw [mq ha]
      intro q
      obtain ⟨p, hp, e⟩ := q
      rcases List.mem_append.mp hp with hp | hp
      · obtain ⟨o, ho, _⟩ := I.i0.rp.owned ⟨p, hp, e⟩
        rw [hC1] at ho; cases ho
      · rw [mq hp] at e
        rcases e with e | e <;> exact hDC e.symm
    · rw [mq ha]; exact .inl ⟨_, hnsD⟩
    · rcases List.mem_cons.mp hp with e | hp
      · subst e; exact ok.plain
      · obtain ⟨p', hp', e⟩ := List.mem_map.mp hp
        cases e
        exact I.loc.plain _ (ok.cap p' hp').1.mem
    · refine ⟨ok.kind, I.ok.glob, I.ok.bui, List.mem_singleton.mpr rfl, fun q => (nomatch q), fun q => (nomatch q), fun q => (nomatch q), fun a ha => ?_, ok.gs, fun q => (nomatch q)⟩
      rw [mq ha]; exact none0 _ hC1
  refine comp_go (F' := cmpF F scope cl H2.objs.size gs) (hy := lookup_relabel_local ok.yl) hR hit hfr (fun a ha => none0 a (hfr a ha)) (fun a ha q => ownNe a ha (mq q)) (hit.frame _ _ _ hst (fun b _ o e => old b o e) (tupKeep_of old)) hsz hI hr rfl
    (by rw [I.i0.rp.len]; simp) hs (by have := q H2.objs.size; rw [← I.i0.rp.len] at this; exact this) fun s' am' σ' o hq I' r' pre => ?_
  obtain ⟨m, hm, _⟩ := I'.loc.ns
  exact hP _ _ s' am' σ' hq (I.afterC hC1 rfl I') r' pre ⟨m, hm⟩ (I.i0.since.fresh I.i0.rp I.live hC1).2 (none0 _ hC1) (I'.loc.notOwned _ (List.mem_singleton.mpr rfl)) (notIn _ hC1)
theorem EJ.comp {elt iter : Xp} {y : Sr} {px : Pos} {scope : Scope} {Q : V → List CO → Prop} (cl : List (Sr × Addr)) (caps gs : List (Sr × V)) (ok : CmpOk W F scope y cl caps gs ρ)
    (q : ItE W d F (.Name y px) iter ρ σ fun cs Src σA => cs.length ≤ sizeLine ∧ Src (σA ++ [.list []]) ∧ ∀ C, CompL W d (cmpF F scope cl C gs) elt y caps Src σA.length (Q (.ref σA.length)) cs [] (σA ++ [.list []]))
    (hs : ∀ x, foldedSetIterable iter F.env x = pure x := by intro _; rfl) : EJ W d F (.ListComp elt [⟨.Name y px, iter, [], 0⟩] scope pos) ρ σ Q := by
  refine .mk ?_
  intro A B s am hR I hr P hP
  rw [eval_ListComp]
  refine wpAny_comprehension_free (use := none) rfl hs ok.clos ok.kind ok.names (q.out A B s am hR I hr _ fun it sB amB cs Src σB own St hK qB hsrc hit hst IA hfr hk h₂ => ?_)
  obtain ⟨hsz, hs2, qB⟩ := qB
  refine comp_heart (use := none) ok hR hit hst hsz IA hfr hk h₂ hs2 qB fun D C s' am' σ' hq I' r' pre ⟨m, hm⟩ hB h0 hown hF => ?_
  refine ⟨m, hm, fun h' hs' => ?_⟩
  obtain ⟨oC, es, ep, hoC, hdC, _⟩ := id hm
  have I'' : Inv W B F h' am' ρ σ' := I'.aside (a := C) (fun b o hb e => hs'.extBut b o hb e) h0 hB hown hF (fun v ⟨o, ho, hd⟩ => by rw [hoC] at ho; cases ho; rw [hdC] at hd; cases hd)
    fun o ho => fun ⟨_, xs, n, e⟩ => by rw [hoC] at ho; cases ho; rw [hdC] at e; cases e
  obtain ⟨l, hl⟩ := pre
  exact hP (.ref D) _ am' (.ref σB.length) σ' hq ⟨(D, D), by rw [hl, ← IA.i0.rp.len]; simp, rfl⟩ I'' r'
theorem SJ.assignComp {elt iter : Xp} {y z : Sr} {px pz spos : Pos} {scope : Scope} {Q : Fl → Rho → List CO → Prop} (cl : List (Sr × Addr)) (caps gs : List (Sr × V)) (ok : CmpOk W F scope y cl caps gs ρ)
    (hfn : F.fn = true) (hsw : swapsWith (.ListComp elt [⟨.Name y px, iter, [], 0⟩] scope pos) (some (.Name z pz)) spos.line F.env = pure true)
    (q : ItE W d F (.Name y px) iter ρ σ fun cs Src σA => cs.length ≤ sizeLine ∧ Src (σA ++ [.list []]) ∧ ∃ ρ', Put ρ z (.ref σA.length) ρ' ∧ ∀ C, CompL W d (cmpF F scope cl C gs) elt y caps Src σA.length (fun σ' => Q .next ρ' σ') cs [] (σA ++ [.list []]))
    (hs : ∀ x, foldedSetIterable iter F.env x = pure x := by intro _; rfl) : SJ W d F (.Assign [.Name z pz] (.ListComp elt [⟨.Name y px, iter, [], 0⟩] scope pos) spos) ρ σ Q := by
  refine .mk ?_
  intro A B s am hR I hr P hP
  rw [exec_Assign_Name_used _ _ _ _ hsw]
  refine wpAny_bind (wpAny_standAt (wpAny_bind ?_))
  show wpAny _ A (do let _ ← comprehension (.ListComp elt [⟨.Name y px, iter, [], 0⟩] scope pos) scope F.env _ (newList []) false (eval iter F.env) (some (PySem.assign (.Name z pz) F.env))) _ _ s
  refine wpAny_bind (wpAny_mono (wpAny_comprehension_free (use := some (PySem.assign (.Name z pz) F.env)) (Q := fun _ s' => P .next s') rfl hs ok.clos ok.kind ok.names
    (q.out A B s am hR I hr _ fun it sB amB cs Src σB own St hK qB hsrc hit hst IA hfr hk h₂ => ?_)) (fun _ s' hq => wpAny_pure (wpAny_pure hq)) fun _ _ e => e)
  obtain ⟨hsz, hs2, ρ', hput, qB⟩ := qB
  refine comp_heart (use := some _) ok hR hit hst hsz IA hfr hk h₂ hs2 qB fun D C s' am' σ' hq I' r' pre ⟨m, hm⟩ hB h0 hown hF => ?_
  obtain ⟨l, hl⟩ := pre
  refine wpAny_assign_Name (store (B := ⟨am', s'.heap⟩) hput I'.self r' (⟨(D, D), by rw [hl, ← IA.i0.rp.len]; simp, rfl⟩ : VR am' s'.heap (.ref σB.length) (.ref D)) hfn fun s'' J r'' => ?_)
  obtain ⟨oC, es, ep, hoC, hdC, hrest⟩ := id hm
  have hC'' : s''.heap.get? C = some oC := J.i0.since.keep C oC hoC hown hF
  refine ⟨m, ⟨oC, es, ep, hC'', hdC, hrest⟩, fun h' hs' => ?_⟩
  have I'' : Inv W B F h' am' ρ' σ' := (I'.step J).aside (a := C) (fun b o hb e => hs'.extBut b o hb e) h0 hB hown hF (fun v ⟨o, ho, hd⟩ => by rw [hC''] at ho; cases ho; rw [hdC] at hd; cases hd)
    fun o ho => fun ⟨_, xs, n, e⟩ => by rw [hC''] at ho; cases ho; rw [hdC] at e; cases e
  exact hP .next _ am' .next ρ' σ' hq rfl I'' r''
end
section
variable {W : Wd} {d : Nat} {F : Fm} {σ : List CO} {ρ ρ' : Rho} {x : Sr} {c : V} {pos pos' np : Pos} {k : Nat} {B : Mk} {am am' : AM} {h h' : Heap}
theorem CJ.lenList {n : Nat} {l : List V} {Q : V → List CO → Prop} (hn : σ[n]? = some (.list l)) (hl : l.length ≤ 100000) (q : Q (.int l.length) σ) : CJ W d (.builtin "len") [.ref n] σ Q := by
  refine .mk ?_
  rintro A B s am _ hR I hr ⟨_, _, rfl, ⟨p, hp, rfl⟩, rfl⟩ P hP
  obtain ⟨e, vs, hL, rv⟩ := I.rp.obj n p _ hp hn
  refine len_list hL.isList (by rw [List.size_toArray, rv.length]; lia) ?_
  rw [List.size_toArray, rv.length]
  exact hP _ { s with toks := _ } am _ σ q ⟨_, rfl⟩ I hr
theorem CJ.lenTup {l : List V} {Q : V → List CO → Prop} (hl : l.length ≤ 100000) (q : Q (.int l.length) σ) : CJ W d (.builtin "len") [.tup l] σ Q := by
  refine .mk ?_
  rintro A B s am _ hR I hr ⟨_, _, rfl, ⟨a, vs, rfl, ht, rv⟩, rfl⟩ P hP
  refine len_tuple ht (by rw [List.size_toArray, rv.length]; lia) ?_
  rw [List.size_toArray, rv.length]
  exact hP _ { s with toks := _ } am _ σ q ⟨_, rfl⟩ I hr
theorem CJ.min2 {a b : Int} {Q : V → List CO → Prop} (q : Q (.int (if b < a then b else a)) σ) : CJ W d (.builtin "min") [.int a, .int b] σ Q := by
  refine .mk ?_
  rintro A B s am _ hR I hr ⟨_, _, rfl, ⟨t, rfl⟩, _, _, rfl, ⟨u, rfl⟩, rfl⟩ P hP
  refine min_two_ints hR.handled fun h' tk hk => hP _ { s with heap := h', toks := tk } am _ σ q ?_ (I.keeps hk) hr
  split <;> exact ⟨_, rfl⟩
theorem CJ.max2 {a b : Int} {Q : V → List CO → Prop} (q : Q (.int (if b > a then b else a)) σ) : CJ W d (.builtin "max") [.int a, .int b] σ Q := by
  refine .mk ?_
  rintro A B s am _ hR I hr ⟨_, _, rfl, ⟨t, rfl⟩, _, _, rfl, ⟨u, rfl⟩, rfl⟩ P hP
  refine max_two_ints hR.handled fun h' tk hk => hP _ { s with heap := h', toks := tk } am _ σ q ?_ (I.keeps hk) hr
  split <;> exact ⟨_, rfl⟩
theorem CJ.tupleList {n : Nat} {l : List V} {Q : V → List CO → Prop} (hn : σ[n]? = some (.list l)) (hl : l.length ≤ 100000) (q : Q (.tup l) σ) : CJ W d (.type "tuple") [.ref n] σ Q := by
  refine .mk ?_
  rintro A B s am _ hR I hr ⟨_, _, rfl, ⟨p, hp, rfl⟩, rfl⟩ P hP
  obtain ⟨e, vs, hL, rv⟩ := I.rp.obj n p _ hp hn
  refine call_tuple_list hL.isList (fun h' hk => ?_) (by rw [List.size_toArray, rv.length, sizeLine_eq]; lia)
  exact hP _ { s with heap := _ } am _ σ q (VR.newTup (rv.mono ⟨[], by simp⟩ (tupKeep_of hk))) ((I.keeps hk).keeps (keep_push _ _)) hr
theorem CJ.tupleTup {l : List V} {Q : V → List CO → Prop} (q : Q (.tup l) σ) : CJ W d (.type "tuple") [.tup l] σ Q := by
  refine .mk ?_
  rintro A B s am _ hR I hr ⟨_, _, rfl, ⟨a, vs, rfl, ht, rv⟩, rfl⟩ P hP
  exact call_tuple_same ht (hP _ s am _ σ q ⟨a, vs, rfl, ht, rv⟩ I hr)
theorem CJ.listList {n : Nat} {l : List V} {Q : V → List CO → Prop} (hn : σ[n]? = some (.list l)) (hl : l.length ≤ 100000) (q : Q (.ref σ.length) (σ ++ [.list l])) : CJ W d (.type "list") [.ref n] σ Q := by
  refine .mk ?_
  rintro A B s am _ hR I hr ⟨_, _, rfl, ⟨p, hp, rfl⟩, rfl⟩ P hP
  obtain ⟨e, vs, hL, rv⟩ := I.rp.obj n p _ hp hn
  obtain ⟨o, ho, hc, nn, hd⟩ := hL.isList
  have f := get_fresh s.heap (Nat.le_refl s.heap.objs.size)
  refine call_list_seq p.1 (.inl rfl) ho hc hd (fun h' c' hk hD => ?_) (by rw [List.size_toArray, rv.length, sizeLine_eq]; lia)
  refine hP _ { s with heap := h' } (am ++ [(s.heap.objs.size, s.heap.objs.size)]) _ _ q ⟨(s.heap.objs.size, s.heap.objs.size), ?_, rfl⟩ (I.more Live.nil hk f f ⟨rfl, vs, ⟨_, hD⟩, rv.mono ⟨[], by simp⟩ (tupKeep_of hk)⟩) hr
  rw [← I.rp.len, List.getElem?_append_right (Nat.le_refl _), Nat.sub_self]; rfl
theorem CJ.append {n : Nat} {l : List V} {Q : V → List CO → Prop} (hn : σ[n]? = some (.list l)) (hl : l.length ≤ 100000) (q : Q .none (σ.set n (.list (l ++ [c])))) : CJ W d (.builtin "list.append") [.ref n, c] σ Q := by
  refine .mk ?_
  rintro A B s am _ hR I hr ⟨_, _, rfl, ⟨p, hp, rfl⟩, v, _, rfl, rc, rfl⟩ P hP
  obtain ⟨e, vs, hL, rv⟩ := I.rp.obj n p _ hp hn
  refine wpAny_list_append_plain (hsz := by rw [List.size_toArray, rv.length, sizeLine_eq]; lia) hL fun h' hl' hs => ?_
  have hk : ∀ b o, b ≠ p.1 → b ≠ p.2 → s.heap.get? b = some o → h'.get? b = some o := fun b o q _ z => hs.extBut b o q z
  have tk : TupKeep s.heap h' := Inv0.changeTK I.rp hp hk
  exact hP _ { s with heap := h' } am _ _ q rfl (I.change hp hn hk ⟨e, vs ++ [v], by simpa using hl', (rv.mono ⟨[], by simp⟩ tk).append (.cons (rc.mono ⟨[], by simp⟩ tk) .nil)⟩) hr
theorem EJ.append {o e : Xp} {apos : Pos} {pl : Sem Bool} {Q : V → List CO → Prop}
    (q : EJ W d F o ρ σ fun a σO => ∃ n l, a = .ref n ∧ σO[n]? = some (.list l) ∧ EJ W d F e ρ σO fun c σA => ∃ l', σA[n]? = some (.list l') ∧ l'.length ≤ 100000 ∧ Q .none (σA.set n (.list (l' ++ [c]))))
    (he : starEach [e] F.env = (false, eval e F.env) :: starEach [] F.env := by rfl)
    (hm : eval (.Call (.Attribute o "append" apos) [e] [] pos) F.env = (do
      let ov ← eval o F.env
      standAt apos.atName
      let (f, first) ← holding [ov] (getMethod ov "append" pl)
      callWith pos f first (backTo pos (starEach [e] F.env)) []) := by rfl) : EJ W d F (.Call (.Attribute o "append" apos) [e] [] pos) ρ σ Q := by
  refine .mk ?_
  intro A B s am hR I hr P hP
  refine MethodCall_ (q.out A B s am hR I hr _ fun v sK amA c σA qA rA IA hK => ?_) hm
  obtain ⟨n, l, rfl, hn, qA⟩ := qA
  obtain ⟨p, hp, rfl, _, vs, ⟨nn, hob⟩, rv⟩ := IA.ref hn rA
  refine getMethod_list_append hob rfl rfl ?_
  refine call_tail (fcs := [.ref n]) Keeps.builtin (LJ.cons (he := he) (PJ.mono qA fun c σ' z => LJ.nil ?_)) hR IA hK (.cons rA .nil) hP he rfl
  obtain ⟨l', z1, z2, z3⟩ := z
  exact CJ.append z1 z2 z3
theorem rep_is {α : Type} : ∀ (k : Nat) (x : α), (List.replicate k [x]).flatten = List.replicate k x
  | 0, _ => rfl
  | k + 1, x => by rw [List.replicate_succ, List.flatten_cons, rep_is k x]; rfl
theorem OpJ.mulList {n : Nat} {c : V} {i : Int} {Q : V → List CO → Prop} (hn : σ[n]? = some (.list [c])) (h0 : 0 ≤ i) (h1 : i ≤ 100000) (q : Q (.ref σ.length) (σ ++ [.list (List.replicate i.toNat c)])) : OpJ W d F .Mult (.ref n) (.int i) ρ σ Q := by
  refine .mk ?_
  intro A B s am vs hR I hr hv P hP
  obtain ⟨va, _, rfl, ra, _, _, rfl, ⟨u, rfl⟩, rfl⟩ := hv
  obtain ⟨p, hp, rfl, _, ws, ⟨nn, hob⟩, rw'⟩ := I.ref hn ra
  obtain ⟨v, rfl, rv⟩ := rw'.singleton
  have z := I.newList (VRs.replicate i.toNat rv)
  have hsz : (([v] : List Value).toArray.size : Nat) = 1 := rfl
  refine wpAny_binaryOp_repeat_ref (T := "list") (U := "int") (by decide) ⟨_, hob, rfl⟩ (fun s' => typeIs_int s' i u) noFill_list_mul PySem.F.fills_int_mul PySem.F.slot_int_rmul repeat_list PySem.F.slot_int_index.lookup
    (call_meets PySem.F.slot_int_rmul (typeIs_int s i u) PySem.F.entry_int_rmul (PySem.F.args_int_rmul_2 _ _) (int___rmul___int_list i u p.1 [v].toArray nn)
      ⟨hob, rfl, ⟨_, hob, rfl⟩, call_meets PySem.F.slot_list_mul ⟨_, hob, rfl⟩ PySem.F.entry_list_mul (PySem.F.args_list_mul_2 _ _)
        (AutoListH.list___mul___list_int_3 p.1 [v].toArray nn i u (by simp [Builtin.List.listFitsIndex]; lia) (by rw [hsz]; lia) (by rw [hsz]; simp [Builtin.List.listTooLong, sizeLine]; lia))
        ⟨hob, ?_⟩⟩)
  have e : List.foldl (fun x1 x2 => x1 ++ x2) #[] (List.replicate (if ([v] : List Value).toArray.isEmpty = true then 0 else i.toNat) [v].toArray) = (List.replicate i.toNat v).toArray := by
    rw [if_neg (by simp), listMul_foldl]
    simp
  rw [e]
  exact hP _ { s with heap := _ } _ _ _ q z.2 z.1 hr
mutual
inductive DV (σ : List CO) : V → PyData → Prop
  | none : DV σ .none .none
  | bool {b} : DV σ (.bool b) (.bool b)
  | int {i} : DV σ (.int i) (.int i)
  | str {y} : DV σ (.str y) (.str y)
  | tup {l ds} : DVs σ l ds → DV σ (.tup l) (.tuple ds)
  | list {n l ds} : σ[n]? = some (.list l) → DVs σ l ds → DV σ (.ref n) (.list ds)
inductive DVs (σ : List CO) : List V → List PyData → Prop
  | nil : DVs σ [] []
  | cons {c l d ds} : DV σ c d → DVs σ l ds → DVs σ (c :: l) (d :: ds)
end
mutual
theorem DV.reads {σ : List CO} (R : Rp W h am σ) {c : V} {d : PyData} (x : DV σ c d) {v : Value} (r : VR am h c v) : ∃ as, Reads h v d as := by
  cases x with
  | none => cases r; exact ⟨_, .none⟩
  | bool => cases r; exact ⟨_, .bool _⟩
  | int => obtain ⟨t, rfl⟩ := r; exact ⟨_, .int _ t⟩
  | str => obtain ⟨t, rfl⟩ := r; exact ⟨_, .str _ t⟩
  | tup y =>
    obtain ⟨a, vs, rfl, ⟨o, ho, hc, n, hd⟩, rv⟩ := r
    obtain ⟨as, z⟩ := DVs.reads R y rv
    exact ⟨_, .tuple ho hc hd (by simpa using z)⟩
  | list e y =>
    obtain ⟨p, hp, rfl⟩ := r
    obtain ⟨_, vs, ⟨n, ho⟩, rv⟩ := R.obj _ p _ hp e
    obtain ⟨as, z⟩ := DVs.reads R y rv
    exact ⟨_, .list ho rfl rfl (by simpa using z)⟩
theorem DVs.reads {σ : List CO} (R : Rp W h am σ) {cs : List V} {ds : List PyData} (x : DVs σ cs ds) {vs : List Value} (r : VRs am h cs vs) : ∃ as, ReadsAll h vs ds as := by
  cases x with
  | nil => rw [show vs = [] from r]; exact ⟨_, .nil⟩
  | cons y z =>
    obtain ⟨v, w, rfl, r1, r2⟩ := r
    obtain ⟨as, a1⟩ := DV.reads R y r1
    obtain ⟨bs, a2⟩ := DVs.reads R z r2
    exact ⟨_, .cons a1 a2⟩
end
theorem Room.far {A : Around} {d : Nat} (R : Room A d) : A.units + 65 < cLine := by have := R.units; lia
theorem CmpJ.eqD {a b : V} {da db : PyData} {Q : V → List CO → Prop} (xa : DV σ a da) (xb : DV σ b db) (ha : SeqAt.shaped da = true) (hb : SeqAt.shaped db = true) (q : Q (.bool (PyData.eqv da db)) σ) : CmpJ W d F .Eq a b ρ σ Q := by
  refine .mk ?_
  intro A B s am vs hR I hr hv P hP
  obtain ⟨va, _, rfl, ra, vb, _, rfl, rb, rfl⟩ := hv
  obtain ⟨as, r1⟩ := xa.reads I.i0.rp ra
  obtain ⟨bs, r2⟩ := xb.reads I.i0.rp rb
  exact eq_dataH r1 r2 ha hb (by have := hR.far; lia) (hP _ s am _ σ q rfl I hr)
theorem CmpJ.neD {a b : V} {da db : PyData} {Q : V → List CO → Prop} (xa : DV σ a da) (xb : DV σ b db) (ha : SeqAt.shaped da = true) (hb : SeqAt.shaped db = true) (q : Q (.bool (!PyData.eqv da db)) σ) : CmpJ W d F .NotEq a b ρ σ Q := by
  refine .mk ?_
  intro A B s am vs hR I hr hv P hP
  obtain ⟨va, _, rfl, ra, vb, _, rfl, rb, rfl⟩ := hv
  obtain ⟨as, r1⟩ := xa.reads I.i0.rp ra
  obtain ⟨bs, r2⟩ := xb.reads I.i0.rp rb
  exact ne_dataH r1 r2 ha hb (by have := hR.far; lia) (hP _ s am _ σ q rfl I hr)
theorem ints_are : ∀ {ns : List Int} {vs : List Value}, VRs am h (ns.map V.int) vs → IntsAre vs ns
  | [], _, x => by rw [show _ = _ from x]; exact .nil
  | n :: ns, _, ⟨_, _, rfl, ⟨t, rfl⟩, x⟩ => .cons _ t (ints_are x)
theorem CmpJ.inTup {i : Int} {l : List V} {Q : V → List CO → Prop} (ns : List Int) (hl : l = ns.map V.int) (q : Q (.bool (ns.any (· == i))) σ) : CmpJ W d F .In (.int i) (.tup l) ρ σ Q := by
  subst hl
  refine .mk ?_
  intro A B s am vs hR I hr hv P hP
  obtain ⟨va, _, rfl, ⟨u, rfl⟩, vb, _, rfl, ⟨a, ws, rfl, ht, rv⟩, rfl⟩ := hv
  exact in_tuple_ints ht (by simpa using ints_are rv) (hP _ s am _ σ q rfl I hr)
theorem pairs_any {p p' : Program} {w w' : World} : ∀ {es : List DictEntry} {kvs : List (Int × Value)}, Pairs (intKind p w) es kvs → Pairs (intKind p' w') es kvs
  | _, _, .nil => .nil
  | _, _, .cons h1 h2 h3 => .cons h1 h2 (pairs_any h3)
theorem isDict_any {p : Program} {w : World} {o : Obj} {kvs : List (Int × Value)} (x : o.IsDictOf (intKind p w) kvs) : ∀ p' w', o.IsDictOf (intKind p' w') kvs :=
  fun p' w' => let ⟨es, ep, h1, h2, h3, h4, h5⟩ := x; ⟨es, ep, h1, h2, h3, pairs_any h4, h5⟩
theorem val_at {fs : List (Int × V)} : ∀ {kvs : List (Int × Value)}, kvs.map (·.1) = fs.map (·.1) → VRs am h (fs.map (·.2)) (kvs.map (·.2)) → ∀ (i : Int),
    (valueAt kvs i).isSome = (fs.lookup i).isSome ∧ ∀ c, fs.lookup i = some c → ∃ v, valueAt kvs i = some v ∧ VR am h c v := by
  induction fs with
  | nil =>
    intro kvs hk _ i
    have : kvs = [] := List.map_eq_nil_iff.mp hk
    subst this
    exact ⟨rfl, fun c e => by simp at e⟩
  | cons f fs ih =>
    intro kvs hk hv i
    cases kvs with
    | nil => simp at hk
    | cons kv kvs =>
      simp only [List.map_cons, List.cons.injEq] at hk
      obtain ⟨v, r, e, r1, r2⟩ := hv
      simp only [List.map_cons, List.cons.injEq] at e
      obtain ⟨rfl, rfl⟩ := e
      have z := ih hk.2 r2 i
      obtain ⟨a, b⟩ := f
      by_cases e : a = i
      · subst e
        have e1 : kv.1 = a := hk.1
        simp [valueAt, List.find?_cons, List.lookup_cons, e1]
        exact r1
      · have e1 : ¬ kv.1 = i := fun q => e (hk.1.symm.trans q)
        have e2 : (i == a) = false := by simpa using fun q : i = a => e q.symm
        simp only [valueAt, List.find?_cons, decide_eq_false e1, List.lookup_cons, e2] at z ⊢
        exact z
theorem CmpJ.inDict {i : Int} {n : Nat} {fs : List (Int × V)} {Q : V → List CO → Prop} (hn : σ[n]? = some (.dict fs)) (q : Q (.bool (fs.lookup i).isSome) σ) : CmpJ W d F .In (.int i) (.ref n) ρ σ Q := by
  refine .mk ?_
  intro A B s am vs hR I hr hv P hP
  obtain ⟨va, _, rfl, ⟨u, rfl⟩, vb, _, rfl, rb, rfl⟩ := hv
  obtain ⟨p, hp, rfl, _, o, es, ep, kvs, hm, ho, hd, hi, hf, rv⟩ := I.ref hn rb
  have z := val_at hf rv i
  refine wpAny_in_of (intKind_is _ _ i u) hm (Heap.dictOf_iff.mpr ⟨o, ho, hi W.prog W.w⟩).mapOf ?_
  rw [z.1]
  exact hP _ { s with toks := _ } am _ σ q rfl I hr
theorem GiJ.dict {value slice : Xp} {i : Int} {n : Nat} {fs : List (Int × V)} {Q : V → List CO → Prop} (hn : σ[n]? = some (.dict fs)) (e : fs.lookup i = some c) (q : Q c σ)
    (hs : ∀ t u, subscripted slice false (.ref t) (.int i u) = operate [.ref t, .int i u] (getItem (.ref t) (.int i u)) := by intro _ _; with_unfolding_all rfl) : GiJ W d F value slice (.ref n) (.int i) ρ σ Q := by
  refine .mk ?_
  intro A B s am vs hR I hr hv P hP
  obtain ⟨va, _, rfl, ra, vb, _, rfl, ⟨u, rfl⟩, rfl⟩ := hv
  obtain ⟨p, hp, rfl, _, o, es, ep, kvs, hm, ho, hd, hi, hf, rv⟩ := I.ref hn ra
  obtain ⟨v, hv, r⟩ := (val_at hf rv i).2 c e
  have M := (Heap.dictOf_iff.mpr ⟨o, ho, hi W.prog W.w⟩).mapOf
  exact tail_any M.typeIs slot_dict_getitem.lookup (wpAny_getItem_of (intKind_is _ _ i u) M hv (hP _ { s with toks := _ } am _ σ q r I hr)) (hs _ u)
theorem notMods (hW : W.Ok) (R : Rp W h am σ) : (h.objs.size == sysModules) = false := by
  obtain ⟨o, _, _, ho, _⟩ := hW.g
  have : mainGlobals < h.objs.size := Heap.lt_size (R.old _ _ ho)
  rw [beq_eq_false_iff_ne]
  intro q
  rw [q] at this
  exact absurd this (by decide)
theorem EJ.dict0 (hW : W.Ok) {Q : V → List CO → Prop} (q : Q (.ref σ.length) (σ ++ [.dict []])) : EJ W d F (.Dict [] [] pos) ρ σ Q := by
  refine .mk ?_
  intro A B s am hR I hr P hP
  have f := get_fresh s.heap (Nat.le_refl s.heap.objs.size)
  have z : (s.heap.push { cls := .type "dict", data := .dict #[] }).DictOf (intKind W.prog W.w) s.heap.objs.size [] := Heap.DictOf.new _
  obtain ⟨o, ho, hi⟩ := Heap.dictOf_iff.mp z
  obtain ⟨es, ep, hx, hd, hrest⟩ := id hi
  refine wpAny_Dict_empty (hP _ { s with heap := _ } (am ++ [(s.heap.objs.size, s.heap.objs.size)]) _ _ q ⟨(s.heap.objs.size, s.heap.objs.size), ?_, rfl⟩
    (I.more (keep_push _ _) f f ⟨rfl, o, es, ep, [], notMods hW I.i0.rp, ho, hd, isDict_any hi, rfl, rfl⟩) hr)
  rw [← I.i0.rp.len, List.getElem?_append_right (Nat.le_refl _), Nat.sub_self]; rfl
end
section
variable {W : Wd} {d : Nat} {F : Fm} {σ : List CO} {ρ ρ' : Rho} {x : Sr} {c : V} {pos pos' np : Pos} {k : Nat} {B : Mk} {am am' : AM} {h h' : Heap}
noncomputable def toldInt : Xp → Option Int
  | .Constant c _ _ => match c with
    | .int a => some a
    | _ => none
  | _ => none
theorem toldInt_is {e : Xp} {a : Int} (h : toldInt e = some a) : ∃ k p, e = .Constant (.int a) k p := by
  unfold toldInt at h
  split at h
  · split at h
    · cases h; exact ⟨_, _, rfl⟩
    · cases h
  · cases h
noncomputable def toldInts (ks : List (Option Xp)) (vs : List Xp) : Option (List (Int × Int)) := match ks with
  | [] => match vs with
    | [] => some []
    | _ :: _ => none
  | k :: ks => match vs with
    | [] => none
    | v :: vs => (k.bind toldInt).bind fun a => (toldInt v).bind fun b => (toldInts ks vs).map ((a, b) :: ·)
theorem told_go {prog : Program} {w : World} {A : Around} {E : Value → Shared → Prop} {env : Env} {pos : Pos} : ∀ {ks : List (Option Xp)} {vs : List Xp} {l : List (Int × Int)}, toldInts ks vs = some l → ∀ {s : Shared} {Q : List (Value × Value) → Shared → Prop},
    (∀ (ws : List (Value × Value)) tk kvs, ws.length = l.length → Carries (intKind prog w) ws kvs → kvs.map (·.1) = l.map (·.1) → VRs [] s.heap (l.map fun p => V.int p.2) (kvs.map (·.2)) → Q ws { s with toks := tk }) →
      wpAny (model prog w) A (evalPairs (pairTrees ks vs env pos)) Q E s := by
  intro ks
  induction ks with
  | nil =>
    intro vs l e s Q h
    cases vs with
    | nil =>
      cases e
      exact pairTrees_nil_walk (h [] s.toks [] rfl trivial rfl rfl)
    | cons v vs => cases e
  | cons k ks ih =>
    intro vs l e s Q h
    cases vs with
    | nil => cases e
    | cons v vs =>
      unfold toldInts at e
      obtain ⟨a, ea, e1⟩ := Option.bind_eq_some_iff.mp e
      obtain ⟨ke, rfl, ea2⟩ := Option.bind_eq_some_iff.mp ea
      obtain ⟨b, eb, e2⟩ := Option.bind_eq_some_iff.mp e1
      obtain ⟨l', e', rfl⟩ := Option.map_eq_some_iff.mp e2
      obtain ⟨_, _, rfl⟩ := toldInt_is ea2
      obtain ⟨_, _, rfl⟩ := toldInt_is eb
      refine pairTrees_cons_walk (wpAny_Constant_int (wpAny_Constant_int (ih e' fun ws tk kvs hl h1 h2 h3 => ?_)))
      exact h ((.int a s.toks, .int b (s.toks + 1)) :: ws) tk ((a, .int b (s.toks + 1)) :: kvs) (by simp [hl]) (by exact ⟨intKind_is _ _ _ _, rfl, h1⟩) (by simp [h2]) (.cons ⟨_, rfl⟩ h3)
theorem vrs_any {am : AM} {h h' : Heap} : ∀ {l : List (Int × Int)} {vs : List Value}, VRs [] h (l.map fun p => V.int p.2) vs → VRs am h' (l.map fun p => V.int p.2) vs
  | [], _, x => x
  | _ :: l, _, ⟨v, r, e, x1, x⟩ => ⟨v, r, e, by obtain ⟨t, e⟩ := x1; exact ⟨t, e⟩, vrs_any x⟩
theorem stored_new {kvs : List (Int × Value)} {k : Int} {v : Value} (h : k ∉ kvs.map (·.1)) : stored kvs k v = kvs ++ [(k, v)] := by
  unfold stored
  rw [if_neg]
  simp only [List.any_eq_true, decide_eq_true_eq, not_exists, not_and]
  intro p hp e
  exact h (List.mem_map.mpr ⟨p, hp, e⟩)
theorem merged_new : ∀ {more kvs : List (Int × Value)}, ((kvs ++ more).map (·.1)).Nodup → merged kvs more = kvs ++ more
  | [], kvs, _ => by simp [merged]
  | p :: more, kvs, h => by
    have h1 : p.1 ∉ kvs.map (·.1) := by
      simp only [List.map_append, List.map_cons] at h
      have := (List.nodup_append.mp h).2.2
      intro q
      exact this _ q _ List.mem_cons_self rfl
    show merged (stored kvs p.1 p.2) more = _
    rw [stored_new h1, merged_new (by simpa using h)]
    simp
theorem EJ.dictInts (hW : W.Ok) {keys : List (Option Xp)} {values : List Xp} {l : List (Int × Int)} {Q : V → List CO → Prop} (e : toldInts keys values = some l) (nd : (l.map (·.1)).Nodup)
    (hall : keys.all (·.isSome) = true) (hl : keys.length = values.length) (h0 : keys ≠ []) (hlen : keys.length ≤ 15) (q : Q (.ref σ.length) (σ ++ [.dict (l.map fun p => (p.1, V.int p.2))])) : EJ W d F (.Dict keys values pos) ρ σ Q := by
  refine .mk ?_
  intro A B s am hR I hr P hP
  have f := get_fresh s.heap (Nat.le_refl s.heap.objs.size)
  refine wpAny_Dict_walk (knd := intKind W.prog W.w) hall hl h0 hlen (told_go e fun ws tk kvs h1 h2 h3 h4 => ⟨kvs, h2, Heap.DictOf.new _, fun h' hd hs => ?_⟩)
  have e1 : merged [] kvs = kvs := merged_new (kvs := []) (by simpa [h3] using nd)
  rw [e1] at hd
  obtain ⟨o, ho, hi⟩ := Heap.dictOf_iff.mp hd
  obtain ⟨es, ep, hx, hdd, hrest⟩ := id hi
  have hk : ∀ b x, s.heap.get? b = some x → h'.get? b = some x := fun b x e => hs.extBut b x (Nat.ne_of_lt (Heap.lt_size e)) (keep_push _ _ b x e)
  refine hP _ { s with heap := h', toks := _ } (am ++ [(s.heap.objs.size, s.heap.objs.size)]) _ _ q ⟨(s.heap.objs.size, s.heap.objs.size), ?_, rfl⟩
    (I.more hk f f ⟨rfl, o, es, ep, kvs, notMods hW I.i0.rp, ho, hdd, isDict_any hi, by rw [h3, List.map_map]; rfl, by rw [List.map_map]; exact vrs_any h4⟩) hr
  rw [← I.i0.rp.len, List.getElem?_append_right (Nat.le_refl _), Nat.sub_self]; rfl
end
section
variable {W : Wd} {d : Nat} {F : Fm} {σ : List CO} {ρ ρ' : Rho} {x : Sr} {c : V} {pos pos' np : Pos} {k : Nat} {B : Mk} {am am' : AM} {h h' : Heap}
theorem Room.under {A : Around} {C : Addr} {rest : List Value} {kw : List (Sr × Value)} (R : Room A (d + 1)) : Room (A.under (.builtin "type.__call__" ⟨.ref C :: rest, kw⟩)) d := by
  refine ⟨R.handled, ?_, ?_⟩
  · have := R.depth
    have e : (Code.builtin "type.__call__" ⟨.ref C :: rest, kw⟩).weight ≤ 2 := by rw [show (Code.builtin "type.__call__" ⟨.ref C :: rest, kw⟩).weight = 1 by kernel_rfl]; decide
    show A.depth + (Code.builtin "type.__call__" ⟨.ref C :: rest, kw⟩).weight + _ < _
    lia
  · have := R.units
    have e : (Code.builtin "type.__call__" ⟨.ref C :: rest, kw⟩).cUnits ≤ 20 := by rw [show (Code.builtin "type.__call__" ⟨.ref C :: rest, kw⟩).cUnits = 1 by kernel_rfl]; decide
    show A.units + (Code.builtin "type.__call__" ⟨.ref C :: rest, kw⟩).cUnits + _ < _
    lia
structure MakeF (W : Wd) (C : Addr) (u : Value) : Prop where
  makes : makesIn W.K C = true
  init : ∃ f, u = .ref f ∧ findIn W.K (.ref C) "__init__" = some (some (.ref f)) ∧ typeIn W.K (.ref f) = some (.type "function")
abbrev KCl (k : Nat) (Q : V → List CO → Prop) : V → List CO → Prop :=
  fun c σ => c = .none ∧ Q (.ref k) σ
theorem CJ.cls {C : Addr} {u : Value} {cs : List V} {Q : V → List CO → Prop} (hW : W.Ok) (hm : MakeF W C u)
    (q : CJc W d u (.ref σ.length :: cs) (σ ++ [.inst C []]) (KCl σ.length Q)) : CJ W (d + 1) (.ref C) cs σ Q := by
  refine .mk ?_
  intro A B s am vs hR I hr hv P hP
  obtain ⟨f, rfl, hi, hf⟩ := hm.init
  have X := hW.X.keeps I.rp.old
  obtain ⟨hh, g, dr, t, os⟩ := s
  have k1 : ∀ b o, hh.get? b = some o → ((hh.push emptyDict).push (instObj C hh.objs.size)).get? b = some o := fun b o e => Heap.get?_push_of_some _ (Heap.get?_push_of_some _ e)
  have hx : ((hh.push emptyDict).push (instObj C hh.objs.size)).get? (hh.objs.size + 1) = some (instObj C hh.objs.size) := by heap_get
  have hd : ((hh.push emptyDict).push (instObj C hh.objs.size)).get? hh.objs.size = some emptyDict := by heap_get
  have f1 := get_fresh hh (Nat.le_succ hh.objs.size)
  have f2 := get_fresh hh (Nat.le_refl hh.objs.size)
  have I' : Inv0 W B [] ((hh.push emptyDict).push (instObj C hh.objs.size)) (am ++ [(hh.objs.size + 1, hh.objs.size)]) (σ ++ [.inst C []]) :=
    I.more Live.nil k1 f1 f2 ⟨Nat.ne_of_lt (Nat.lt_succ_self _), [], 0, hx, hd, rfl⟩
  have hself : VR (am ++ [(hh.objs.size + 1, hh.objs.size)]) ((hh.push emptyDict).push (instObj C hh.objs.size)) (.ref σ.length) (.ref (hh.objs.size + 1)) :=
    ⟨(hh.objs.size + 1, hh.objs.size), by rw [← I.rp.len, List.getElem?_append_right (Nat.le_refl _), Nat.sub_self]; rfl, rfl⟩
  refine wpAny_call (make_core (makes_of X hm.makes) (looks_findIn X hi) (fun self => bind_fn X self hf) (.inl rfl) ?_)
  refine q.out _ ⟨am ++ [(hh.objs.size + 1, hh.objs.size)], _⟩ ⟨_, g, dr, t, os⟩ _ _ hR.under I'.self hr (.cons hself (hv.mono ⟨_, rfl⟩ (tupKeep_of k1))) _ fun v s' am' c σ' hq rv J r' => ?_
  obtain ⟨rfl, hq⟩ := hq
  obtain ⟨l, e⟩ := J.since.prefix
  exact ⟨rv, hP _ s' am' _ σ' hq (hself.mono ⟨l, e⟩ (J.since.tupKeep I'.rp Live.nil)) (I'.step' J) r'⟩
end
section
variable {W : Wd} {d : Nat} {F : Fm} {σ : List CO} {ρ ρ' : Rho} {x : Sr} {c : V} {pos pos' np : Pos} {k : Nat} {B : Mk} {am am' : AM} {h h' : Heap}
theorem OpJ.shr {a b : Int} {Q : V → List CO → Prop} (hb : 0 ≤ b) (h : Q (.int (a.fdiv (2 ^ b.toNat))) σ) : OpJ W d F .RShift (.int a) (.int b) ρ σ Q := .ints h fun _ _ _ _ _ _ q => rshift_int hb q
abbrev KOr2 (W : Wd) (d : Nat) (F : Fm) (c : V) (e : Xp) (ρ : Rho) (Q : V → List CO → Prop) : Bool → List CO → Prop :=
  fun b σ => if b then Q c σ else EJ W d F e ρ σ Q
abbrev KOr1 (W : Wd) (d : Nat) (F : Fm) (e : Xp) (ρ : Rho) (Q : V → List CO → Prop) : V → List CO → Prop :=
  fun c σ => TrJ W d F c ρ σ (KOr2 W d F c e ρ Q)
theorem EJ.or {eA eB : Xp} {rest : List Xp} {Q : V → List CO → Prop}
    (q : EJ W d F eA ρ σ (KOr1 W d F (.BoolOp .Or (eB :: rest) pos) ρ Q)) : EJ W d F (.BoolOp .Or (eA :: eB :: rest) pos) ρ σ Q := .mk fun A B s am hR I hr P hP => BoolOp_or (q.out A ⟨am, s.heap⟩ s am hR I.self hr _ fun v sK amA c σA qA rA IA hK => qA.out A ⟨amA, sK.heap⟩ sK amA [v] hR IA.self hK (vrs1 rA) _ fun b sB amB b' σB qB rb IB h₂ => by
    have J := (I.step IA).step IB
    cases rb
    cases b
    · exact qB.out A B sB amB hR J h₂ P hP
    · exact hP v sB amB c σB qB (IA.vr IB rA) J h₂)
theorem EJ.one {e : Xp} {op : PySem.BoolOp} {Q : V → List CO → Prop} (q : EJ W d F e ρ σ Q) : EJ W d F (.BoolOp op [e] pos) ρ σ Q := .mk fun A B s am hR I hr P hP => BoolOp_one (q.out A B s am hR I hr P hP)
abbrev KAn2 (W : Wd) (d : Nat) (F : Fm) (c : V) (e : Xp) (ρ : Rho) (Q : V → List CO → Prop) : Bool → List CO → Prop :=
  fun b σ => if b then EJ W d F e ρ σ Q else Q c σ
abbrev KAn1 (W : Wd) (d : Nat) (F : Fm) (e : Xp) (ρ : Rho) (Q : V → List CO → Prop) : V → List CO → Prop :=
  fun c σ => TrJ W d F c ρ σ (KAn2 W d F c e ρ Q)
theorem EJ.and {eA eB : Xp} {rest : List Xp} {Q : V → List CO → Prop}
    (q : EJ W d F eA ρ σ (KAn1 W d F (.BoolOp .And (eB :: rest) pos) ρ Q)) : EJ W d F (.BoolOp .And (eA :: eB :: rest) pos) ρ σ Q := .mk fun A B s am hR I hr P hP => BoolOp_and (q.out A ⟨am, s.heap⟩ s am hR I.self hr _ fun v sK amA c σA qA rA IA hK => qA.out A ⟨amA, sK.heap⟩ sK amA [v] hR IA.self hK (vrs1 rA) _ fun b sB amB b' σB qB rb IB h₂ => by
    have J := (I.step IA).step IB
    cases rb
    cases b
    · exact hP v sB amB c σB qB (IA.vr IB rA) J h₂
    · exact qB.out A B sB amB hR J h₂ P hP)
noncomputable def CvJ (W : Wd) (d : Nat) (F : Fm) (pos : Pos) (a : V) (ops : List CmpOp) (rs : List Xp) := PV W d F VR (fun vs => match vs with | [x] => compareChain pos x ops (evalEach rs F.env) | _ => unsupported "") [a]
abbrev KV1 (W : Wd) (d : Nat) (F : Fm) (pos : Pos) (ops : List CmpOp) (rs : List Xp) (ρ : Rho) (Q : V → List CO → Prop) : V → List CO → Prop :=
  fun a σ => CvJ W d F pos a ops rs ρ σ Q
theorem EJ.chain {l rA rB : Xp} {opA opB : CmpOp} {ops : List CmpOp} {rs : List Xp} {Q : V → List CO → Prop}
    (h : EJ W d F l ρ σ (KV1 W d F pos (opA :: opB :: ops) (rA :: rB :: rs) ρ Q)) (hm : lastMarks (opA :: opB :: ops) (rA :: rB :: rs) = false := by with_unfolding_all rfl) :
    EJ W d F (.Compare l (opA :: opB :: ops) (rA :: rB :: rs) pos) ρ σ Q := .mk fun A B s am hR I hr P hP => Compare_chain (h.out A B s am hR I hr _ fun va sK amA a σA q ra IA rA => q.out A B sK amA [va] hR IA rA (vrs1 ra) P hP) hm
abbrev KV3 (W : Wd) (d : Nat) (F : Fm) (pos : Pos) (b c : V) (ops : List CmpOp) (rs : List Xp) (ρ : Rho) (Q : V → List CO → Prop) : Bool → List CO → Prop :=
  fun t σ => if t then CvJ W d F pos b ops rs ρ σ Q else Q c σ
abbrev KV2c (W : Wd) (d : Nat) (F : Fm) (pos : Pos) (b : V) (ops : List CmpOp) (rs : List Xp) (ρ : Rho) (Q : V → List CO → Prop) : V → List CO → Prop :=
  fun c σ => TrJ W d F c ρ σ (KV3 W d F pos b c ops rs ρ Q)
abbrev KV2 (W : Wd) (d : Nat) (F : Fm) (pos : Pos) (op : CmpOp) (a : V) (ops : List CmpOp) (rs : List Xp) (ρ : Rho) (Q : V → List CO → Prop) : V → List CO → Prop :=
  fun b σ => CmpJ W d F op a b ρ σ (KV2c W d F pos b ops rs ρ Q)
theorem CvJ.link {r r' : Xp} {op op' : CmpOp} {ops : List CmpOp} {rs : List Xp} {a : V} {Q : V → List CO → Prop}
    (h : EJ W d F r ρ σ (KV2 W d F pos op a (op' :: ops) (r' :: rs) ρ Q)) :
    CvJ W d F pos a (op :: op' :: ops) (r :: r' :: rs) ρ σ Q := by
  refine .mk ?_
  intro A B s am vs hR I hr hv P hP
  obtain ⟨va, _, rfl, ra, rfl⟩ := hv
  refine chain_link (h.out A ⟨am, s.heap⟩ s am hR I.self hr _ fun vb sK amA b σA q rb IA rA => q.out A ⟨amA, sK.heap⟩ sK amA [va, vb] hR IA.self rA (vrs2 (I.vr IA ra) rb) _ fun vc sB amB c σB qB rc IB rB =>
    qB.out A ⟨amB, sB.heap⟩ sB amB [vc] hR IB.self rB (vrs1 rc) _ fun t sC amC t' σC qC rt IC rC => ?_)
  have JA := I.step IA
  have JB := JA.step IB
  have JC := JB.step IC
  cases rt
  cases t
  · exact hP _ sC amC _ σC qC (JB.vr IC rc) JC rC
  · exact qC.out A B sC amC [vb] hR JC rC (vrs1 (JB.vr IC (JA.vr IB rb))) P hP
theorem CvJ.last {r : Xp} {op : CmpOp} {a : V} {Q : V → List CO → Prop}
    (h : EJ W d F r ρ σ (KC2 W d F op a ρ Q)) : CvJ W d F pos a [op] [r] ρ σ Q := by
  refine .mk ?_
  intro A B s am vs hR I hr hv P hP
  obtain ⟨va, _, rfl, ra, rfl⟩ := hv
  refine chain_last (h.out A ⟨am, s.heap⟩ s am hR I.self hr _ fun vb sK amA b σA q rb IA rA => q.out A ⟨amA, sK.heap⟩ sK amA [va, vb] hR IA.self rA (vrs2 (I.vr IA ra) rb) _ fun vc sB amB c σB qB rc IB rB => ?_)
  exact hP vc sB amB c σB qB rc ((I.step IA).step IB) rB
theorem dd {k n d : Nat} (h : Nat.ble k n = true := by rfl) : k ≤ d + n := Nat.le_trans (Nat.le_of_ble_eq_true h) (Nat.le_add_left n d)
theorem iteB {c : Bool} {p q : Prop} (h1 : c = true → p) (h2 : c = false → q) : if c = true then p else q := by
  cases c
  · exact h2 rfl
  · exact h1 rfl
theorem iteT {p q : Prop} (h : p) : if true = true then p else q := h
theorem iteF {p q : Prop} (h : q) : if false = true then p else q := h
theorem iteY {c : Bool} {p q : Prop} (hc : c = true) (h : p) : if c = true then p else q := by rw [if_pos hc]; exact h
theorem iteN {c : Bool} {p q : Prop} (hc : c = false) (h : q) : if c = true then p else q := by rw [if_neg (by simp [hc])]; exact h
abbrev KLp (Src : List CO → Prop) (I : Rho → List CO → Prop) (Q : Fl → Rho → List CO → Prop) : Fl → Rho → List CO → Prop :=
  fun f ρ σ => match f with
  | .next => Src σ ∧ I ρ σ
  | .cont => Src σ ∧ I ρ σ
  | .brk => Q .next ρ σ
  | .ret c => Q (.ret c) ρ σ
abbrev KBd (W : Wd) (d : Nat) (F : Fm) (body : List PySem.Stmt) (Q : Fl → Rho → List CO → Prop) : Rho → List CO → Prop :=
  fun ρ σ => SsJ W d F body ρ σ Q
theorem LoopJ.idx {target : Xp} {body : List PySem.Stmt} {Src : List CO → Prop} {Q : Fl → Rho → List CO → Prop} {cs : List V} (I : Nat → Rho → List CO → Prop) (h0 : I 0 ρ σ)
    (hs : ∀ i c ρ σ, cs[i]? = some c → I i ρ σ → AJ W d F target c ρ σ (KBd W d F body (KLp Src (I (i + 1)) Q)))
    (hq : ∀ ρ σ, I cs.length ρ σ → Q .next ρ σ) : LoopJ W d F target body Src Q cs ρ σ := by
  have key : ∀ (ds : List V) (n : Nat) (ρ : Rho) (σ : List CO), cs.drop n = ds → n ≤ cs.length → I n ρ σ → LoopJ W d F target body Src Q ds ρ σ := by
    intro ds
    induction ds with
    | nil =>
      intro n ρ σ hd hn hI
      have : n = cs.length := by
        have := congrArg List.length hd
        simp at this
        lia
      exact hq ρ σ (this ▸ hI)
    | cons c ds ih =>
      intro n ρ σ hd hn hI
      have hlt : n < cs.length := by
        have := congrArg List.length hd
        simp at this
        lia
      have hc : cs[n]? = some c := by
        have := congrArg (·[0]?) hd
        simpa using this
      have hd' : cs.drop (n + 1) = ds := by
        have := congrArg (List.drop 1) hd
        simpa [Nat.add_comm] using this
      refine .mk ?_
      intro A B s am v hR IO hr hv P hP
      refine (hs n c ρ σ hc hI).out A B s am v hR IO hr hv P fun s' am' ρ' σ' qA IA rA => hP s' am' ρ' σ' ?_ IA rA
      refine .mk ?_
      intro A B s am hR IO hr P hP
      refine qA.out A B s am hR IO hr P fun f s' am' c ρ'' σ'' qB rf IB rB => hP f s' am' c ρ'' σ'' ?_ rf IB rB
      cases c with
      | next => exact ⟨qB.1, ih (n + 1) _ _ hd' hlt qB.2⟩
      | cont => exact ⟨qB.1, ih (n + 1) _ _ hd' hlt qB.2⟩
      | brk => exact qB
      | ret c => exact qB
  exact key cs 0 ρ σ rfl (Nat.zero_le _) h0
abbrev KCp (n : Nat) (acc : List V) (Src : List CO → Prop) (I : List V → List CO → Prop) : V → List CO → Prop :=
  fun e σ' => σ'[n]? = some (.list acc) ∧ Src (σ'.set n (.list (acc ++ [e]))) ∧ I (acc ++ [e]) (σ'.set n (.list (acc ++ [e])))
theorem CompL.idx {F' : Fm} {elt : Xp} {y : Sr} {caps : List (Sr × V)} {Src : List CO → Prop} {n : Nat} {Q : List CO → Prop} {cs : List V} (I : Nat → List V → List CO → Prop) (h0 : I 0 [] σ)
    (hs : ∀ i c acc σ, cs[i]? = some c → I i acc σ → EJ W d F' elt ((y, some c) :: capR caps) σ (KCp n acc Src (I (i + 1))))
    (hq : ∀ acc σ, I cs.length acc σ → Q σ) : CompL W d F' elt y caps Src n Q cs [] σ := by
  have key : ∀ (ds : List V) (i : Nat) (acc : List V) (σ : List CO), cs.drop i = ds → i ≤ cs.length → I i acc σ → CompL W d F' elt y caps Src n Q ds acc σ := by
    intro ds
    induction ds with
    | nil =>
      intro i acc σ hd hn hI
      have : i = cs.length := by
        have := congrArg List.length hd
        simp at this
        lia
      exact hq acc σ (this ▸ hI)
    | cons c ds ih =>
      intro i acc σ hd hn hI
      have hlt : i < cs.length := by
        have := congrArg List.length hd
        simp at this
        lia
      have hc : cs[i]? = some c := by
        have := congrArg (·[0]?) hd
        simpa using this
      have hd' : cs.drop (i + 1) = ds := by
        have := congrArg (List.drop 1) hd
        simpa [Nat.add_comm] using this
      refine .mk ?_
      intro A B s am hR IO hr P hP
      refine (hs i c acc σ hc hI).out A B s am hR IO hr P fun v s' am' e σ' qA rv IA rA => hP v s' am' e σ' ?_ rv IA rA
      exact ⟨qA.1, qA.2.1, ih (i + 1) _ _ hd' hlt qA.2.2⟩
  exact key cs 0 [] σ rfl (Nat.zero_le _) h0
theorem kA {o : CO} {n : Nat} {l : List CO} (h : σ[n]? = some o) : (σ ++ l)[n]? = some o := by
  rw [List.getElem?_append_left (gq h).1]; exact h
theorem kN {o : CO} {l : List CO} : (σ ++ o :: l)[σ.length]? = some o := by simp
theorem get_ne {o o' : CO} {n m : Nat} (h : σ[n]? = some o) (hn : m ≠ n) : (σ.set m o')[n]? = some o := by
  rw [List.getElem?_set_ne hn]; exact h
theorem kS {o o' : CO} {n : Nat} (h : σ[n]? = some o) : (σ.set n o')[n]? = some o' := by
  rw [List.getElem?_set_self (gq h).1]
def Same (σ σ' : List CO) (js : List Nat) : Prop := σ.length ≤ σ'.length ∧ ∀ i o, i ∉ js → σ[i]? = some o → σ'[i]? = some o
theorem Same.refl {js : List Nat} : Same σ σ js := ⟨Nat.le_refl _, fun _ _ _ e => e⟩
theorem Same.app {js : List Nat} {l : List CO} : Same σ (σ ++ l) js := ⟨by simp, fun _ _ _ e => kA e⟩
theorem Same.trans {σA σB : List CO} {js : List Nat} (a : Same σ σA js) (b : Same σA σB js) : Same σ σB js := ⟨Nat.le_trans a.1 b.1, fun i o h e => b.2 i o h (a.2 i o h e)⟩
theorem Same.set {n : Nat} {o : CO} {js : List Nat} (h : n ∈ js) : Same σ (σ.set n o) js := ⟨by simp, fun i o' hi e => get_ne e fun q => hi (q ▸ h)⟩
theorem Same.weak {σ' : List CO} {js ks : List Nat} (a : Same σ σ' js) (h : ∀ j ∈ js, j ∈ ks) : Same σ σ' ks := ⟨a.1, fun i o hi e => a.2 i o (fun q => hi (h i q)) e⟩
theorem Same.get {σ' : List CO} {js : List Nat} {i : Nat} {o : CO} (a : Same σ σ' js) (e : σ[i]? = some o) (h : i ∉ js) : σ'[i]? = some o := a.2 i o h e
def GVs (W : Wd) : List (Sr × V) → Prop
  | [] => True
  | p :: r => GV W p.1 p.2 ∧ GVs W r
theorem GVs.mem {W : Wd} : ∀ {l : List (Sr × V)}, GVs W l → ∀ p ∈ l, GV W p.1 p.2
  | q :: r, h, p, hp => by
    rcases List.mem_cons.mp hp with e | hp
    · exact e ▸ h.1
    · exact h.2.mem p hp
def CapOk (F : Fm) (cl : List (Sr × Addr)) (ρ : Rho) : List (Sr × V) → Prop
  | [] => True
  | p :: r => Get ρ p.1 p.2 ∧ cl.lookup p.1 = F.env.cells.lookup p.1 ∧ CapOk F cl ρ r
theorem CapOk.mem {cl : List (Sr × Addr)} : ∀ {l : List (Sr × V)}, CapOk F cl ρ l → ∀ p ∈ l, Get ρ p.1 p.2 ∧ cl.lookup p.1 = F.env.cells.lookup p.1
  | q :: r, h, p, hp => by
    rcases List.mem_cons.mp hp with e | hp
    · exact e ▸ ⟨h.1, h.2.1⟩
    · exact h.2.2.mem p hp
noncomputable def relN (sc out : Scope) : List (Sr × NameKind) := sc.names.map fun (n, k) => if (k == .free && out.kind == .function && out.names.lookup n == some .cell) then (n, .cell) else (n, k)
noncomputable def cmpB (sc out : Scope) (y : Sr) (cn gn : List Sr) : Bool :=
  decide (sc.kind = .function) && sc.names.all (fun z => decide (z.2 ≠ .cell)) && sc.names.all (fun z => !decide (z.2 = .local) || decide (sc.names.lookup z.1 = some .local)) && decide (sc.names.lookup y = some .local) &&
    cn.all (fun n => decide (out.names.lookup n = some .cell) && decide ((relN sc out).lookup n = some .cell)) && decide (y :: cn).Nodup &&
    gn.all (fun n => decide ((relN sc out).lookup n = some .globalImplicit) && !(n == ("__debug__" : Sr))) && !(y == ("__debug__" : Sr)) && !(y == ("__classdict__" : Sr))
theorem CmpOk.fm {D : FnD} {dV : Value} {r : FrD} {gs : List (Sr × V)} {scope : Scope} {y : Sr} {cl : List (Sr × Addr)} {caps gs' : List (Sr × V)} (cn gn : List Sr)
    (hclos : closureFor scope (fmR D dV gs r).env = pure cl) (hb : cmpB scope D.scope y cn gn = true) (hcn : caps.map (·.1) = cn) (hgn : gs'.map (·.1) = gn)
    (hcap : CapOk (fmR D dV gs r) cl ρ caps) (hg : GVs W gs') : CmpOk W (fmR D dV gs r) scope y cl caps gs' ρ := by
  unfold cmpB at hb
  subst hcn hgn
  simp only [Bool.and_eq_true, Bool.or_eq_true, decide_eq_true_eq, Bool.not_eq_true', List.all_eq_true, List.mem_map, forall_exists_index, and_imp, decide_eq_false_iff_not] at hb
  obtain ⟨⟨⟨⟨⟨⟨⟨⟨h1, h2⟩, h3⟩, h4⟩, h5⟩, h6⟩, h7⟩, h8⟩, h9⟩ := hb
  refine ⟨hclos, h1, h2, fun z hz e => (h3 z hz).resolve_left (fun q => q e), h4, fun p hp => ?_, h6, fun p hp => ?_, h8, h9⟩
  · exact ⟨(hcap.mem p hp).1, (h5 p.1 p hp rfl).1, (hcap.mem p hp).2, (h5 p.1 p hp rfl).2⟩
  · exact ⟨(h7 p.1 p hp rfl).1, (h7 p.1 p hp rfl).2, hg.mem p hp⟩
end
section
variable {W : Wd} {d : Nat} {F : Fm} {σ : List CO} {ρ ρ' : Rho} {x : Sr} {c : V} {pos pos' np : Pos} {k : Nat}
structure Ev (W : Wd) (d : Nat) (F : Fm) (ρ : Rho) (σ : List CO) (e : Xp) (c : V) : Prop where
  out : ∀ Q : V → List CO → Prop, Q c σ → EJ W d F e ρ σ Q
structure LEv (W : Wd) (d : Nat) (F : Fm) (ρ : Rho) (σ : List CO) (pos : Pos) (es : List Xp) (cs : List V) : Prop where
  out : ∀ Q : List V → List CO → Prop, Q cs σ → LJ W d F pos es ρ σ Q
theorem EJ.of {e : Xp} {Q : V → List CO → Prop} (h : Ev W d F ρ σ e c) (q : Q c σ) : EJ W d F e ρ σ Q := h.out Q q
theorem LJ.of {es : List Xp} {cs : List V} {Q : List V → List CO → Prop} (h : LEv W d F ρ σ pos es cs) (q : Q cs σ) : LJ W d F pos es ρ σ Q := h.out Q q
theorem LEv.nl : LEv W d F ρ σ pos [] [] := ⟨fun _ q => LJ.nil q⟩
theorem LEv.cs {e : Xp} {es : List Xp} {cs : List V} (h : Ev W d F ρ σ e c) (t : LEv W d F ρ σ pos es cs) (he : starEach (e :: es) F.env = (false, eval e F.env) :: starEach es F.env := by rfl) : LEv W d F ρ σ pos (e :: es) (c :: cs) := ⟨fun Q q => LJ.cons (h.out _ (t.out _ q)) he⟩
theorem Ev.ci {i : Int} : Ev W d F ρ σ (.Constant (.int i) k pos) (.int i) := ⟨fun _ q => EJ.cint q⟩
theorem Ev.cnone : Ev W d F ρ σ (.Constant .none k pos) .none := ⟨fun _ q => EJ.cnone q⟩
theorem Ev.cbool {b : Bool} : Ev W d F ρ σ (.Constant (.bool b) k pos) (.bool b) := ⟨fun _ q => EJ.cbool q⟩
theorem Ev.cstr {y : Sr} : Ev W d F ρ σ (.Constant (.str y) k pos) (.str y) := ⟨fun _ q => EJ.cstr q⟩
theorem Ev.nm (g : Get ρ x c) : Ev W d F ρ σ (.Name x pos) c := ⟨fun _ q => EJ.name g q⟩
theorem Ev.gl (hW : W.Ok) (g : GetG F.gs x c) : Ev W d F ρ σ (.Name x pos) c := ⟨fun _ q => EJ.glob hW g q⟩
theorem Ev.tu {es : List Xp} {cs : List V} (h : LEv W d F ρ σ pos es cs) (hl : cs.length ≤ 100000) : Ev W d F ρ σ (.Tuple es k pos) (.tup cs) := ⟨fun _ q => EJ.tuple (h.out _ ⟨hl, q⟩)⟩
theorem Ev.bin {l r : Xp} {op : Operator} {a b : V} (hK : Ev W d F ρ σ l a) (h₂ : Ev W d F ρ σ r b) (h₃ : ∀ Q : V → List CO → Prop, Q c σ → OpJ W d F op a b ρ σ Q) : Ev W d F ρ σ (.BinOp l op r pos) c :=
  ⟨fun Q q => EJ.binop (hK.out _ (h₂.out _ (h₃ Q q)))⟩
theorem Ev.ad {l r : Xp} {a b : Int} (hK : Ev W d F ρ σ l (.int a)) (h₂ : Ev W d F ρ σ r (.int b)) : Ev W d F ρ σ (.BinOp l .Add r pos) (.int (a + b)) := .bin hK h₂ fun _ q => OpJ.add q
theorem Ev.sb {l r : Xp} {a b : Int} (hK : Ev W d F ρ σ l (.int a)) (h₂ : Ev W d F ρ σ r (.int b)) : Ev W d F ρ σ (.BinOp l .Sub r pos) (.int (a - b)) := .bin hK h₂ fun _ q => OpJ.sub q
theorem Ev.mul {l r : Xp} {a b : Int} (hK : Ev W d F ρ σ l (.int a)) (h₂ : Ev W d F ρ σ r (.int b)) (hm : IntMulOk a b) : Ev W d F ρ σ (.BinOp l .Mult r pos) (.int (a * b)) := .bin hK h₂ fun _ q => OpJ.mul hm q
theorem Ev.fdiv {l r : Xp} {a b : Int} (hK : Ev W d F ρ σ l (.int a)) (h₂ : Ev W d F ρ σ r (.int b)) (hb : b ≠ 0) (hs : Builtin.divisionGoesByPylong a b = false) : Ev W d F ρ σ (.BinOp l .FloorDiv r pos) (.int (a.fdiv b)) := .bin hK h₂ fun _ q => OpJ.fdiv hb hs q
theorem Ev.fmod {l r : Xp} {a b : Int} (hK : Ev W d F ρ σ l (.int a)) (h₂ : Ev W d F ρ σ r (.int b)) (hb : b ≠ 0) : Ev W d F ρ σ (.BinOp l .Mod r pos) (.int (a.fmod b)) := .bin hK h₂ fun _ q => OpJ.fmod hb q
theorem Ev.pow {l r : Xp} {a b : Int} (hK : Ev W d F ρ σ l (.int a)) (h₂ : Ev W d F ρ σ r (.int b)) (hb : 0 ≤ b) (hs : (Builtin.Int.intBits a : Int) * b ≤ 2 ^ 27) : Ev W d F ρ σ (.BinOp l .Pow r pos) (.int (a ^ b.toNat)) := .bin hK h₂ fun _ q => OpJ.pow hb hs q
theorem Ev.shl {l r : Xp} {a b : Int} (hK : Ev W d F ρ σ l (.int a)) (h₂ : Ev W d F ρ σ r (.int b)) (hb : 0 ≤ b) (hb2 : b ≤ 1000000) (ha : a.natAbs < 2 ^ 64) : Ev W d F ρ σ (.BinOp l .LShift r pos) (.int (a * 2 ^ b.toNat)) := .bin hK h₂ fun _ q => OpJ.shl hb hb2 ha q
theorem Ev.shr {l r : Xp} {a b : Int} (hK : Ev W d F ρ σ l (.int a)) (h₂ : Ev W d F ρ σ r (.int b)) (hb : 0 ≤ b) : Ev W d F ρ σ (.BinOp l .RShift r pos) (.int (a.fdiv (2 ^ b.toNat))) := .bin hK h₂ fun _ q => OpJ.shr hb q
theorem Ev.band {l r : Xp} {a b : Int} (hK : Ev W d F ρ σ l (.int a)) (h₂ : Ev W d F ρ σ r (.int b)) : Ev W d F ρ σ (.BinOp l .BitAnd r pos) (.int (Builtin.bitAnd a b)) := .bin hK h₂ fun _ q => OpJ.band q
theorem Ev.bor {l r : Xp} {a b : Int} (hK : Ev W d F ρ σ l (.int a)) (h₂ : Ev W d F ρ σ r (.int b)) : Ev W d F ρ σ (.BinOp l .BitOr r pos) (.int (Builtin.bitOr a b)) := .bin hK h₂ fun _ q => OpJ.bor q
theorem Ev.bxor {l r : Xp} {a b : Int} (hK : Ev W d F ρ σ l (.int a)) (h₂ : Ev W d F ρ σ r (.int b)) : Ev W d F ρ σ (.BinOp l .BitXor r pos) (.int (Builtin.bitXor a b)) := .bin hK h₂ fun _ q => OpJ.bxor q
theorem Ev.addTup {eA eB : Xp} {l l' : List V} (hK : Ev W d F ρ σ eA (.tup l)) (h₂ : Ev W d F ρ σ eB (.tup l')) (hl : l.length + l'.length ≤ 100000) : Ev W d F ρ σ (.BinOp eA .Add eB pos) (.tup (l ++ l')) := .bin hK h₂ fun _ q => OpJ.addTup hl q
theorem Ev.neg {e : Xp} {i : Int} (h : Ev W d F ρ σ e (.int i)) : Ev W d F ρ σ (.UnaryOp .USub e pos) (.int (-i)) := ⟨fun _ q => EJ.neg (h.out _ ⟨i, rfl, q⟩)⟩
theorem Ev.inv {e : Xp} {i : Int} (h : Ev W d F ρ σ e (.int i)) : Ev W d F ρ σ (.UnaryOp .Invert e pos) (.int (Builtin.bitNot i)) := ⟨fun _ q => EJ.inv (h.out _ ⟨i, rfl, q⟩)⟩
structure CmpE (W : Wd) (d : Nat) (F : Fm) (ρ : Rho) (σ : List CO) (op : CmpOp) (a b : V) (t : Bool) : Prop where
  out : ∀ Q : V → List CO → Prop, Q (.bool t) σ → CmpJ W d F op a b ρ σ Q
theorem CmpE.lt {a b : Int} : CmpE W d F ρ σ .Lt (.int a) (.int b) (decide (a < b)) := ⟨fun _ q => CmpJ.lt q⟩
theorem CmpE.le {a b : Int} : CmpE W d F ρ σ .LtE (.int a) (.int b) (decide (a ≤ b)) := ⟨fun _ q => CmpJ.le q⟩
theorem CmpE.gt {a b : Int} : CmpE W d F ρ σ .Gt (.int a) (.int b) (decide (b < a)) := ⟨fun _ q => CmpJ.gt q⟩
theorem CmpE.ge {a b : Int} : CmpE W d F ρ σ .GtE (.int a) (.int b) (decide (b ≤ a)) := ⟨fun _ q => CmpJ.ge q⟩
theorem CmpE.eq {a b : Int} : CmpE W d F ρ σ .Eq (.int a) (.int b) (a == b) := ⟨fun _ q => CmpJ.eq q⟩
theorem CmpE.ne {a b : Int} : CmpE W d F ρ σ .NotEq (.int a) (.int b) (a != b) := ⟨fun _ q => CmpJ.ne q⟩
theorem CmpE.isNone {a : V} (ht : a.told = true) : CmpE W d F ρ σ .Is a .none a.isNone := ⟨fun _ q => CmpJ.isNone ht q⟩
theorem CmpE.isNotNone {a : V} (ht : a.told = true) : CmpE W d F ρ σ .IsNot a .none (!a.isNone) := ⟨fun _ q => CmpJ.nn ht q⟩
theorem CmpE.inTup {i : Int} {l : List V} (ns : List Int) (hl : l = ns.map V.int) : CmpE W d F ρ σ .In (.int i) (.tup l) (ns.any (· == i)) := ⟨fun _ q => CmpJ.inTup ns hl q⟩
theorem CmpE.inDict {i : Int} {n : Nat} {fs : List (Int × V)} (hn : σ[n]? = some (.dict fs)) : CmpE W d F ρ σ .In (.int i) (.ref n) (fs.lookup i).isSome := ⟨fun _ q => CmpJ.inDict hn q⟩
theorem Ev.cmp {l r : Xp} {op : CmpOp} {a b : V} {t : Bool} (hK : Ev W d F ρ σ l a) (h₂ : Ev W d F ρ σ r b) (h₃ : CmpE W d F ρ σ op a b t) (hm : behindInMarks op r = false := by with_unfolding_all rfl) : Ev W d F ρ σ (.Compare l [op] [r] pos) (.bool t) :=
  ⟨fun Q q => EJ.cmp (hK.out _ (h₂.out _ (h₃.out Q q))) hm⟩
theorem Ev.ta {value : Xp} {n : Nat} {C : Addr} {fs : List (Sr × V)} (hW : W.Ok) (hC : ClsF W.K C) (h : Ev W d F ρ σ value (.ref n)) (ha : findIn W.K (.ref C) x = some none) (ho : σ[n]? = some (.inst C fs)) (nd : (fs.map (·.1)).Nodup)
    (g : GetG fs x c) (hh : c.handed = true)
    (he : eval (.Attribute value x pos) F.env = (do
      let o ← eval value F.env
      standAt pos.atName
      let r ← holding [o] (getAttr o x true)
      letTemporaryGo value o r
      pure r) := by with_unfolding_all rfl) : Ev W d F ρ σ (.Attribute value x pos) c := ⟨fun Q q => EJ.attr (h.out _ (AtJ.inst hW hC ha ho nd g hh q)) he⟩
theorem Ev.subTup {value slice : Xp} {l : List V} {i : Int} (hK : Ev W d F ρ σ value (.tup l)) (h₂ : Ev W d F ρ σ slice (.int i)) (e : item l i = some c) (hl : l.length ≤ 100000)
    (hs : ∀ t u, subscripted slice false (.ref t) (.int i u) = operate [.ref t, .int i u] (getItem (.ref t) (.int i u)) := by intro _ _; with_unfolding_all rfl) : Ev W d F ρ σ (.Subscript value slice pos) c :=
  ⟨fun Q q => EJ.sub (hK.out _ (h₂.out _ (GiJ.tup e hl q hs)))⟩
theorem Ev.subList {value slice : Xp} {n : Nat} {l : List V} {i : Int} (hK : Ev W d F ρ σ value (.ref n)) (h₂ : Ev W d F ρ σ slice (.int i)) (ho : σ[n]? = some (.list l)) (e : item l i = some c) (hl : l.length ≤ 100000)
    (hs : ∀ t u, subscripted slice false (.ref t) (.int i u) = operate [.ref t, .int i u] (getItem (.ref t) (.int i u)) := by intro _ _; with_unfolding_all rfl) : Ev W d F ρ σ (.Subscript value slice pos) c :=
  ⟨fun Q q => EJ.sub (hK.out _ (h₂.out _ (GiJ.list ho e hl q hs)))⟩
theorem Ev.subDict {value slice : Xp} {n : Nat} {fs : List (Int × V)} {i : Int} (hK : Ev W d F ρ σ value (.ref n)) (h₂ : Ev W d F ρ σ slice (.int i)) (ho : σ[n]? = some (.dict fs)) (e : fs.lookup i = some c)
    (hs : ∀ t u, subscripted slice false (.ref t) (.int i u) = operate [.ref t, .int i u] (getItem (.ref t) (.int i u)) := by intro _ _; with_unfolding_all rfl) : Ev W d F ρ σ (.Subscript value slice pos) c :=
  ⟨fun Q q => EJ.sub (hK.out _ (h₂.out _ (GiJ.dict ho e q hs)))⟩
theorem EJ.ce {e : Xp} {es : List Xp} {u : Value} {cs : List V} {Q : V → List CO → Prop} (hf : Ev W d F ρ σ (.Name x np) (.raw u)) (hk : Keeps W u) (h : LEv W d F ρ σ pos (e :: es) cs) (q : CJ W d u cs σ Q)
    (he : starEach (e :: es) F.env = (false, eval e F.env) :: starEach es F.env := by rfl) (hpl : (backTo pos (starEach es F.env)).any (·.1) = false := by rfl) : EJ W d F (.Call (.Name x np) (e :: es) [] pos) ρ σ Q :=
  EJ.call (hf.out _ ⟨u, rfl, hk, h.out _ q⟩) he hpl
structure CE (W : Wd) (d : Nat) (u : Value) (cs : List V) (σ : List CO) (c : V) : Prop where
  out : ∀ Q : V → List CO → Prop, Q c σ → CJ W d u cs σ Q
theorem Ev.call {e : Xp} {es : List Xp} {u : Value} {cs : List V} (hf : Ev W d F ρ σ (.Name x np) (.raw u)) (hk : Keeps W u) (h : LEv W d F ρ σ pos (e :: es) cs) (q : CE W d u cs σ c)
    (he : starEach (e :: es) F.env = (false, eval e F.env) :: starEach es F.env := by rfl) (hpl : (backTo pos (starEach es F.env)).any (·.1) = false := by rfl) : Ev W d F ρ σ (.Call (.Name x np) (e :: es) [] pos) c :=
  ⟨fun Q z => EJ.ce hf hk h (q.out Q z) he hpl⟩
theorem CE.lenList {n : Nat} {l : List V} (hn : σ[n]? = some (.list l)) (hl : l.length ≤ 100000) : CE W d (.builtin "len") [.ref n] σ (.int l.length) := ⟨fun _ q => CJ.lenList hn hl q⟩
theorem CE.lenTup {l : List V} (hl : l.length ≤ 100000) : CE W d (.builtin "len") [.tup l] σ (.int l.length) := ⟨fun _ q => CJ.lenTup hl q⟩
theorem CE.min2 {a b : Int} : CE W d (.builtin "min") [.int a, .int b] σ (.int (if b < a then b else a)) := ⟨fun _ q => CJ.min2 q⟩
theorem CE.max2 {a b : Int} : CE W d (.builtin "max") [.int a, .int b] σ (.int (if b > a then b else a)) := ⟨fun _ q => CJ.max2 q⟩
theorem CE.tupleList {n : Nat} {l : List V} (hn : σ[n]? = some (.list l)) (hl : l.length ≤ 100000) : CE W d (.type "tuple") [.ref n] σ (.tup l) := ⟨fun _ q => CJ.tupleList hn hl q⟩
theorem CE.tupleTup {l : List V} : CE W d (.type "tuple") [.tup l] σ (.tup l) := ⟨fun _ q => CJ.tupleTup q⟩
theorem EJ.methE {o e : Xp} {es : List Xp} {apos : Pos} {pl : Sem Bool} {n : Nat} {C : Addr} {fs : List (Sr × V)} {u : Value} {cs : List V} {Q : V → List CO → Prop} (hW : W.Ok)
    (ho : Ev W d F ρ σ o (.ref n)) (hn : σ[n]? = some (.inst C fs)) (hM : MethF W C x u) (ha : (fs.all fun p => !(p.1 == x)) = true) (h : LEv W d F ρ σ pos (e :: es) cs) (q : CJ W d u (.ref n :: cs) σ Q)
    (he : starEach (e :: es) F.env = (false, eval e F.env) :: starEach es F.env := by rfl) (hpl : (backTo pos (starEach es F.env)).any (·.1) = false := by rfl)
    (hm : eval (.Call (.Attribute o x apos) (e :: es) [] pos) F.env = (do
      let ov ← eval o F.env
      standAt apos.atName
      let (f, first) ← holding [ov] (getMethod ov x pl)
      callWith pos f first (backTo pos (starEach (e :: es) F.env)) []) := by rfl) : EJ W d F (.Call (.Attribute o x apos) (e :: es) [] pos) ρ σ Q :=
  EJ.meth hW (ho.out _ ⟨n, C, fs, u, rfl, hn, hM, ha, h.out _ q⟩) he hpl hm
theorem EJ.meth0E {o : Xp} {apos : Pos} {pl : Sem Bool} {n : Nat} {C : Addr} {fs : List (Sr × V)} {u : Value} {Q : V → List CO → Prop} (hW : W.Ok)
    (ho : Ev W d F ρ σ o (.ref n)) (hn : σ[n]? = some (.inst C fs)) (hM : MethF W C x u) (ha : (fs.all fun p => !(p.1 == x)) = true) (q : CJ W d u [.ref n] σ Q)
    (hm : eval (.Call (.Attribute o x apos) [] [] pos) F.env = (do
      let ov ← eval o F.env
      standAt apos.atName
      let (f, first) ← holding [ov] (getMethod ov x pl)
      callWith pos f first (backTo pos (starEach [] F.env)) []) := by rfl) : EJ W d F (.Call (.Attribute o x apos) [] [] pos) ρ σ Q :=
  EJ.meth0 hW (ho.out _ ⟨n, C, fs, u, rfl, hn, hM, ha, q⟩) hm
structure TEv (W : Wd) (d : Nat) (F : Fm) (ρ : Rho) (σ : List CO) (e : Xp) (t : Bool) : Prop where
  out : ∀ Q : Bool → List CO → Prop, Q t σ → TJ W d F e ρ σ Q
theorem TJ.of {e : Xp} {t : Bool} {Q : Bool → List CO → Prop} (h : TEv W d F ρ σ e t) (q : Q t σ) : TJ W d F e ρ σ Q := h.out Q q
theorem TEv.cmp {l r : Xp} {op : CmpOp} {a b : V} {t : Bool} (hK : Ev W d F ρ σ l a) (h₂ : Ev W d F ρ σ r b) (h₃ : CmpE W d F ρ σ op a b t) (hm : behindInMarks op r = false := by with_unfolding_all rfl) : TEv W d F ρ σ (.Compare l [op] [r] pos) t :=
  ⟨fun Q q => TJ.cmp (hK.out _ (h₂.out _ (h₃.out _ (TrJ.bl q)))) hm⟩
theorem TEv.not {e : Xp} {t : Bool} (h : TEv W d F ρ σ e t) : TEv W d F ρ σ (.UnaryOp .Not e pos) (!t) := ⟨fun Q q => TJ.not (h.out _ q)⟩
theorem TEv.bool {e : Xp} {t : Bool} (h : Ev W d F ρ σ e (.bool t))
    (he : isTrue e F.env (eval e F.env) = (do let v ← eval e F.env; standAt e.pos; holding [v] (truthy v)) := by rfl) : TEv W d F ρ σ e t := ⟨fun Q q => TJ.plain (h.out _ (TrJ.bl q)) he⟩
theorem SJ.iteT {t : Xp} {v : Bool} {b o : List PySem.Stmt} {Q : Fl → Rho → List CO → Prop} (h : TEv W d F ρ σ t v) (hv : v = true) (q : SsJ W d F b ρ σ Q) : SJ W d F (.If t b o pos) ρ σ Q := SJ.ite (h.out _ (iteY hv q))
theorem SJ.iteF {t : Xp} {v : Bool} {b o : List PySem.Stmt} {Q : Fl → Rho → List CO → Prop} (h : TEv W d F ρ σ t v) (hv : v = false) (q : SsJ W d F o ρ σ Q) : SJ W d F (.If t b o pos) ρ σ Q := SJ.ite (h.out _ (iteN hv q))
theorem SJ.iteB {t : Xp} {v : Bool} {b o : List PySem.Stmt} {Q : Fl → Rho → List CO → Prop} (h : TEv W d F ρ σ t v) (q : v = true → SsJ W d F b ρ σ Q) (q' : v = false → SsJ W d F o ρ σ Q) : SJ W d F (.If t b o pos) ρ σ Q := SJ.ite (h.out _ (Mine.iteB q q'))
theorem SJ.retE {e : Xp} {Q : Fl → Rho → List CO → Prop} (h : Ev W d F ρ σ e c) (q : Q (.ret c) ρ σ) : SJ W d F (.Return (some e) pos) ρ σ Q := SJ.ret (h.out _ q)
theorem SJ.setE {e : Xp} {Q : Fl → Rho → List CO → Prop} (h : Ev W d F ρ σ e c) (p : Put ρ x c ρ') (hf : F.fn = true) (q : Q .next ρ' σ) (hs : swapsWith e (some (.Name x np)) pos.line F.env = pure false := by rfl) : SJ W d F (.Assign [.Name x np] e pos) ρ σ Q :=
  SJ.sn (h.out _ (AJ.nm p hf q)) hs
theorem ItE.ofE {target e : Xp} {Q : List V → (List CO → Prop) → List CO → Prop} (h : Ev W d F ρ σ e c) (q : ItV W target c σ Q) : ItE W d F target e ρ σ Q := ItE.of (h.out _ q)
theorem ItE.callE {target e : Xp} {es : List Xp} {u : Value} {cs : List V} {Q : List V → (List CO → Prop) → List CO → Prop} (hf : Ev W d F ρ σ (.Name x np) (.raw u)) (hk : Keeps W u) (h : LEv W d F ρ σ pos (e :: es) cs) (q : ItC W target u cs σ Q)
    (he : starEach (e :: es) F.env = (false, eval e F.env) :: starEach es F.env := by rfl) (hpl : (backTo pos (starEach es F.env)).any (·.1) = false := by rfl) : ItE W d F target (.Call (.Name x np) (e :: es) [] pos) ρ σ Q :=
  ItE.call (hf.out _ ⟨u, rfl, hk, h.out _ q⟩) he hpl
theorem AJ.ta {o : Xp} {n : Nat} {C : Addr} {fs : List (Sr × V)} {Q : Rho → List CO → Prop} (hW : W.Ok) (h : Ev W d F ρ σ o (.ref n)) (hn : σ[n]? = some (.inst C fs)) (hC : ClsF W.K C) (ht : takerIn W.K C x = some none) (hl : fs.length ≤ 100)
    (q : Q ρ (σ.set n (.inst C (putF fs x c)))) : AJ W d F (.Attribute o x pos) c ρ σ Q := AJ.attr hW (h.out _ ⟨n, C, fs, rfl, hn, hC, ht, hl, q⟩)
theorem AJ.itemE {o i : Xp} {n : Nat} {l : List V} {j : Int} {Q : Rho → List CO → Prop} (hK : Ev W d F ρ σ o (.ref n)) (h₂ : Ev W d F ρ σ i (.int j)) (hn : σ[n]? = some (.list l)) (h0 : 0 ≤ j) (h1 : j < l.length) (hl : l.length ≤ 100000)
    (q : Q ρ (σ.set n (.list (l.set j.toNat c)))) : AJ W d F (.Subscript o i pos) c ρ σ Q := AJ.item (hK.out _ (h₂.out _ ⟨n, l, j, rfl, rfl, hn, h0, h1, hl, q⟩))
end
local macro_rules | `(tactic| and_intros) => `(tactic| first | assumption | exact kN | exact kA (by assumption) | exact kA kN | exact kA (kA kN) | exact kS (kA kN) | exact kA (kS (kA kN)) | exact kS (kA (kS (kA kN))) | exact kS (kA (kA kN)) | exact kA (kA (kA kN)))
local macro_rules | `(tactic| nofun) => `(tactic| first | assumption | exact kA (by assumption) | exact kA (kA ‹_›))
noncomputable def stAt : List PySem.Stmt → Nat → PySem.Stmt
  | [], _ => .Pass default
  | x :: _, 0 => x
  | _ :: r, n + 1 => stAt r n
noncomputable def clsBody : PySem.Stmt → List PySem.Stmt
  | .ClassDef _ _ _ b _ _ _ _ _ _ _ => b
  | _ => []
noncomputable def D_pen_with : FnD := fnD (stAt bd_ 16)
noncomputable def u_pen_with : Value := .ref 69
noncomputable def D_under_of : FnD := fnD (stAt bd_ 17)
noncomputable def u_under_of : Value := .ref 76
noncomputable def D_flags_with_under : FnD := fnD (stAt bd_ 18)
noncomputable def u_flags_with_under : Value := .ref 83
noncomputable def D_erased_pen : FnD := fnD (stAt bd_ 19)
noncomputable def u_erased_pen : Value := .ref 90
noncomputable def D_blank_cell : FnD := fnD (stAt bd_ 20)
noncomputable def u_blank_cell : Value := .ref 97
noncomputable def D_plain_of : FnD := fnD (stAt bd_ 23)
noncomputable def u_plain_of : Value := .ref 111
noncomputable def D_value_of : FnD := fnD (stAt bd_ 24)
noncomputable def u_value_of : Value := .ref 118
noncomputable def D_values_of : FnD := fnD (stAt bd_ 25)
noncomputable def u_values_of : Value := .ref 123
noncomputable def D_edit_limits : FnD := fnD (stAt bd_ 28)
noncomputable def u_edit_limits : Value := .ref 135
noncomputable def D_area_of : FnD := fnD (stAt bd_ 29)
noncomputable def u_area_of : Value := .ref 143
noncomputable def d_area_of : Addr := 136
noncomputable def D_erase_rectangle : FnD := fnD (stAt bd_ 30)
noncomputable def u_erase_rectangle : Value := .ref 151
noncomputable def d_erase_rectangle : Addr := 144
noncomputable def D_fill_rectangle : FnD := fnD (stAt bd_ 31)
noncomputable def u_fill_rectangle : Value := .ref 158
noncomputable def D_copy_rectangle : FnD := fnD (stAt bd_ 32)
noncomputable def u_copy_rectangle : Value := .ref 165
noncomputable def D_edit_stretches : FnD := fnD (stAt bd_ 33)
noncomputable def u_edit_stretches : Value := .ref 170
noncomputable def D_edit_turned : FnD := fnD (stAt bd_ 34)
noncomputable def u_edit_turned : Value := .ref 177
noncomputable def D_edit_toggled : FnD := fnD (stAt bd_ 35)
noncomputable def u_edit_toggled : Value := .ref 184
noncomputable def D_edit_pens : FnD := fnD (stAt bd_ 36)
noncomputable def u_edit_pens : Value := .ref 191
noncomputable def D_change_rectangle : FnD := fnD (stAt bd_ 37)
noncomputable def u_change_rectangle : Value := .ref 198
noncomputable def D_reverse_rectangle : FnD := fnD (stAt bd_ 38)
noncomputable def u_reverse_rectangle : Value := .ref 205
noncomputable def D_Charsets_init : FnD := fnD (stAt (clsBody (stAt bd_ 42)) 0)
noncomputable def u_Charsets_init : Value := .ref 220
noncomputable def d_Charsets_init : Addr := 213
noncomputable def D_Charsets_reset : FnD := fnD (stAt (clsBody (stAt bd_ 42)) 2)
noncomputable def u_Charsets_reset : Value := .ref 234
noncomputable def D_Cursor_init : FnD := fnD (stAt (clsBody (stAt bd_ 45)) 0)
noncomputable def u_Cursor_init : Value := .ref 312
noncomputable def D_Cursor_go : FnD := fnD (stAt (clsBody (stAt bd_ 45)) 2)
noncomputable def u_Cursor_go : Value := .ref 326
noncomputable def D_Cursor_place : FnD := fnD (stAt (clsBody (stAt bd_ 45)) 3)
noncomputable def u_Cursor_place : Value := .ref 333
noncomputable def D_Margins_init : FnD := fnD (stAt (clsBody (stAt bd_ 46)) 0)
noncomputable def u_Margins_init : Value := .ref 361
noncomputable def D_Margins_set_rows : FnD := fnD (stAt (clsBody (stAt bd_ 46)) 1)
noncomputable def u_Margins_set_rows : Value := .ref 368
noncomputable def D_Margins_set_columns : FnD := fnD (stAt (clsBody (stAt bd_ 46)) 2)
noncomputable def u_Margins_set_columns : Value := .ref 375
noncomputable def D_Margins_area : FnD := fnD (stAt (clsBody (stAt bd_ 46)) 6)
noncomputable def u_Margins_area : Value := .ref 403
noncomputable def D_Tabs_init : FnD := fnD (stAt (clsBody (stAt bd_ 47)) 0)
noncomputable def u_Tabs_init : Value := .ref 494
noncomputable def D_Tabs_put_eighths : FnD := fnD (stAt (clsBody (stAt bd_ 47)) 1)
noncomputable def u_Tabs_put_eighths : Value := .ref 501
noncomputable def D_line_blanks : FnD := fnD (stAt bd_ 50)
noncomputable def u_line_blanks : Value := .ref 587
noncomputable def D_right_half : FnD := fnD (stAt bd_ 51)
noncomputable def u_right_half : Value := .ref 594
noncomputable def D_line_part : FnD := fnD (stAt bd_ 52)
noncomputable def u_line_part : Value := .ref 601
noncomputable def D_Line_init : FnD := fnD (stAt (clsBody (stAt bd_ 55)) 0)
noncomputable def u_Line_init : Value := .ref 629
noncomputable def D_Line_part : FnD := fnD (stAt (clsBody (stAt bd_ 55)) 3)
noncomputable def u_Line_part : Value := .ref 651
noncomputable def D_Line_put : FnD := fnD (stAt (clsBody (stAt bd_ 55)) 4)
noncomputable def u_Line_put : Value := .ref 658
noncomputable def D_Line_erase : FnD := fnD (stAt (clsBody (stAt bd_ 55)) 6)
noncomputable def u_Line_erase : Value := .ref 673
noncomputable def d_Line_erase : Addr := 666
noncomputable def D_Grid_init : FnD := fnD (stAt (clsBody (stAt bd_ 57)) 0)
noncomputable def u_Grid_init : Value := .ref 756
noncomputable def D_Grid_line : FnD := fnD (stAt (clsBody (stAt bd_ 57)) 1)
noncomputable def u_Grid_line : Value := .ref 763
noncomputable def D_Grid_cells_of : FnD := fnD (stAt (clsBody (stAt bd_ 57)) 11)
noncomputable def u_Grid_cells_of : Value := .ref 831
noncomputable def D_Grid_put_cells : FnD := fnD (stAt (clsBody (stAt bd_ 57)) 12)
noncomputable def u_Grid_put_cells : Value := .ref 838
noncomputable def D_Grid_erase_area : FnD := fnD (stAt (clsBody (stAt bd_ 57)) 13)
noncomputable def u_Grid_erase_area : Value := .ref 846
noncomputable def d_Grid_erase_area : Addr := 839
noncomputable def D_Grid_fill_area : FnD := fnD (stAt (clsBody (stAt bd_ 57)) 14)
noncomputable def u_Grid_fill_area : Value := .ref 853
noncomputable def D_Grid_copy_area : FnD := fnD (stAt (clsBody (stAt bd_ 57)) 15)
noncomputable def u_Grid_copy_area : Value := .ref 858
noncomputable def D_grid_cut : FnD := fnD (stAt bd_ 58)
noncomputable def u_grid_cut : Value := .ref 898
noncomputable def D_grid_mended : FnD := fnD (stAt bd_ 60)
noncomputable def u_grid_mended : Value := .ref 912
noncomputable def D_Screen_init : FnD := fnD (stAt (clsBody (stAt bd_ 63)) 0)
noncomputable def u_Screen_init : Value := .ref 928
noncomputable def d_Screen_init : Addr := 921
noncomputable def D_law_draw : FnD := fnD (stAt bd_ 67)
noncomputable def u_law_draw : Value := .ref 1189
noncomputable def D_law_empty : FnD := fnD (stAt bd_ 68)
noncomputable def u_law_empty : Value := .ref 1196
noncomputable def D_law_pen : FnD := fnD (stAt bd_ 69)
noncomputable def u_law_pen : Value := .ref 1203
noncomputable def D_law_cut : FnD := fnD (stAt bd_ 70)
noncomputable def u_law_cut : Value := .ref 1210
noncomputable def D_law_over : FnD := fnD (stAt bd_ 71)
noncomputable def u_law_over : Value := .ref 1217
noncomputable def D_law_put : FnD := fnD (stAt bd_ 72)
noncomputable def u_law_put : Value := .ref 1224
noncomputable def D_law_limits : FnD := fnD (stAt bd_ 73)
noncomputable def u_law_limits : Value := .ref 1231
noncomputable def D_law_values : FnD := fnD (stAt bd_ 74)
noncomputable def u_law_values : Value := .ref 1236
noncomputable def D_law_place : FnD := fnD (stAt bd_ 75)
noncomputable def u_law_place : Value := .ref 1243
noncomputable def D_law_area : FnD := fnD (stAt bd_ 76)
noncomputable def u_law_area : Value := .ref 1250
noncomputable def D_law_filled : FnD := fnD (stAt bd_ 77)
noncomputable def u_law_filled : Value := .ref 1255
noncomputable def D_law_spared : FnD := fnD (stAt bd_ 78)
noncomputable def u_law_spared : Value := .ref 1260
noncomputable def D_law_copied : FnD := fnD (stAt bd_ 79)
noncomputable def u_law_copied : Value := .ref 1265
noncomputable def D_law_turned : FnD := fnD (stAt bd_ 80)
noncomputable def u_law_turned : Value := .ref 1272
noncomputable def D_law_repenned : FnD := fnD (stAt bd_ 81)
noncomputable def u_law_repenned : Value := .ref 1277
noncomputable def D_law_deed : FnD := fnD (stAt bd_ 82)
noncomputable def u_law_deed : Value := .ref 1282
noncomputable def D_law_law : FnD := fnD (stAt bd_ 83)
noncomputable def u_law_law : Value := .ref 1287
noncomputable def c_Charsets : Addr := 294
noncomputable def c_Cursor : Addr := 343
noncomputable def c_Margins : Addr := 476
noncomputable def c_Tabs : Addr := 575
noncomputable def c_Line : Addr := 740
noncomputable def c_Grid : Addr := 887
noncomputable def c_Screen : Addr := 1178
noncomputable def r_ASCII_SET : Value := .bytes #[66] 491
noncomputable def r_SUPPLEMENT_SET : Value := .bytes #[37, 53] 493
structure AttF (W : Wd) (C : Addr) (x : Sr) : Prop where
  find : findIn W.K (.ref C) x = some none
  take : takerIn W.K C x = some none
structure Ctx (W : Wd) : Prop where
  ok : W.Ok
  f_pen_with : FnAt W D_pen_with .none u_pen_with
  g_pen_with : GV W "pen_with" (.raw u_pen_with)
  k_pen_with : Keeps W u_pen_with
  f_under_of : FnAt W D_under_of .none u_under_of
  g_under_of : GV W "under_of" (.raw u_under_of)
  k_under_of : Keeps W u_under_of
  f_flags_with_under : FnAt W D_flags_with_under .none u_flags_with_under
  g_flags_with_under : GV W "flags_with_under" (.raw u_flags_with_under)
  k_flags_with_under : Keeps W u_flags_with_under
  f_erased_pen : FnAt W D_erased_pen .none u_erased_pen
  g_erased_pen : GV W "erased_pen" (.raw u_erased_pen)
  k_erased_pen : Keeps W u_erased_pen
  f_blank_cell : FnAt W D_blank_cell .none u_blank_cell
  g_blank_cell : GV W "blank_cell" (.raw u_blank_cell)
  k_blank_cell : Keeps W u_blank_cell
  f_plain_of : FnAt W D_plain_of .none u_plain_of
  g_plain_of : GV W "plain_of" (.raw u_plain_of)
  k_plain_of : Keeps W u_plain_of
  f_value_of : FnAt W D_value_of .none u_value_of
  g_value_of : GV W "value_of" (.raw u_value_of)
  k_value_of : Keeps W u_value_of
  f_values_of : FnAt W D_values_of .none u_values_of
  g_values_of : GV W "values_of" (.raw u_values_of)
  k_values_of : Keeps W u_values_of
  f_edit_limits : FnAt W D_edit_limits .none u_edit_limits
  g_edit_limits : GV W "edit_limits" (.raw u_edit_limits)
  k_edit_limits : Keeps W u_edit_limits
  f_area_of : FnAt W D_area_of (.ref d_area_of) u_area_of
  t_area_of : ∃ o n, W.hZ.get? d_area_of = some o ∧ o.data = .seq #[.int 0 361] n
  g_area_of : GV W "area_of" (.raw u_area_of)
  k_area_of : Keeps W u_area_of
  f_erase_rectangle : FnAt W D_erase_rectangle (.ref d_erase_rectangle) u_erase_rectangle
  t_erase_rectangle : ∃ o n, W.hZ.get? d_erase_rectangle = some o ∧ o.data = .seq #[.bool false] n
  g_erase_rectangle : GV W "erase_rectangle" (.raw u_erase_rectangle)
  k_erase_rectangle : Keeps W u_erase_rectangle
  f_fill_rectangle : FnAt W D_fill_rectangle .none u_fill_rectangle
  g_fill_rectangle : GV W "fill_rectangle" (.raw u_fill_rectangle)
  k_fill_rectangle : Keeps W u_fill_rectangle
  f_copy_rectangle : FnAt W D_copy_rectangle .none u_copy_rectangle
  g_copy_rectangle : GV W "copy_rectangle" (.raw u_copy_rectangle)
  k_copy_rectangle : Keeps W u_copy_rectangle
  f_edit_stretches : FnAt W D_edit_stretches .none u_edit_stretches
  g_edit_stretches : GV W "edit_stretches" (.raw u_edit_stretches)
  k_edit_stretches : Keeps W u_edit_stretches
  f_edit_turned : FnAt W D_edit_turned .none u_edit_turned
  g_edit_turned : GV W "edit_turned" (.raw u_edit_turned)
  k_edit_turned : Keeps W u_edit_turned
  f_edit_toggled : FnAt W D_edit_toggled .none u_edit_toggled
  g_edit_toggled : GV W "edit_toggled" (.raw u_edit_toggled)
  k_edit_toggled : Keeps W u_edit_toggled
  f_edit_pens : FnAt W D_edit_pens .none u_edit_pens
  g_edit_pens : GV W "edit_pens" (.raw u_edit_pens)
  k_edit_pens : Keeps W u_edit_pens
  f_change_rectangle : FnAt W D_change_rectangle .none u_change_rectangle
  g_change_rectangle : GV W "change_rectangle" (.raw u_change_rectangle)
  k_change_rectangle : Keeps W u_change_rectangle
  f_reverse_rectangle : FnAt W D_reverse_rectangle .none u_reverse_rectangle
  g_reverse_rectangle : GV W "reverse_rectangle" (.raw u_reverse_rectangle)
  k_reverse_rectangle : Keeps W u_reverse_rectangle
  f_Charsets_init : FnAt W D_Charsets_init (.ref d_Charsets_init) u_Charsets_init
  t_Charsets_init : ∃ o n, W.hZ.get? d_Charsets_init = some o ∧ o.data = .seq #[.none] n
  f_Charsets_reset : FnAt W D_Charsets_reset .none u_Charsets_reset
  f_Cursor_init : FnAt W D_Cursor_init .none u_Cursor_init
  f_Cursor_go : FnAt W D_Cursor_go .none u_Cursor_go
  f_Cursor_place : FnAt W D_Cursor_place .none u_Cursor_place
  f_Margins_init : FnAt W D_Margins_init .none u_Margins_init
  f_Margins_set_rows : FnAt W D_Margins_set_rows .none u_Margins_set_rows
  f_Margins_set_columns : FnAt W D_Margins_set_columns .none u_Margins_set_columns
  f_Margins_area : FnAt W D_Margins_area .none u_Margins_area
  f_Tabs_init : FnAt W D_Tabs_init .none u_Tabs_init
  f_Tabs_put_eighths : FnAt W D_Tabs_put_eighths .none u_Tabs_put_eighths
  f_line_blanks : FnAt W D_line_blanks .none u_line_blanks
  g_line_blanks : GV W "line_blanks" (.raw u_line_blanks)
  k_line_blanks : Keeps W u_line_blanks
  f_right_half : FnAt W D_right_half .none u_right_half
  g_right_half : GV W "right_half" (.raw u_right_half)
  k_right_half : Keeps W u_right_half
  f_line_part : FnAt W D_line_part .none u_line_part
  g_line_part : GV W "line_part" (.raw u_line_part)
  k_line_part : Keeps W u_line_part
  f_Line_init : FnAt W D_Line_init .none u_Line_init
  f_Line_part : FnAt W D_Line_part .none u_Line_part
  f_Line_put : FnAt W D_Line_put .none u_Line_put
  f_Line_erase : FnAt W D_Line_erase (.ref d_Line_erase) u_Line_erase
  t_Line_erase : ∃ o n, W.hZ.get? d_Line_erase = some o ∧ o.data = .seq #[.bool false] n
  f_Grid_init : FnAt W D_Grid_init .none u_Grid_init
  f_Grid_line : FnAt W D_Grid_line .none u_Grid_line
  f_Grid_cells_of : FnAt W D_Grid_cells_of .none u_Grid_cells_of
  f_Grid_put_cells : FnAt W D_Grid_put_cells .none u_Grid_put_cells
  f_Grid_erase_area : FnAt W D_Grid_erase_area (.ref d_Grid_erase_area) u_Grid_erase_area
  t_Grid_erase_area : ∃ o n, W.hZ.get? d_Grid_erase_area = some o ∧ o.data = .seq #[.bool false] n
  f_Grid_fill_area : FnAt W D_Grid_fill_area .none u_Grid_fill_area
  f_Grid_copy_area : FnAt W D_Grid_copy_area .none u_Grid_copy_area
  f_grid_cut : FnAt W D_grid_cut .none u_grid_cut
  g_grid_cut : GV W "grid_cut" (.raw u_grid_cut)
  k_grid_cut : Keeps W u_grid_cut
  f_grid_mended : FnAt W D_grid_mended .none u_grid_mended
  g_grid_mended : GV W "grid_mended" (.raw u_grid_mended)
  k_grid_mended : Keeps W u_grid_mended
  f_Screen_init : FnAt W D_Screen_init (.ref d_Screen_init) u_Screen_init
  t_Screen_init : ∃ o n, W.hZ.get? d_Screen_init = some o ∧ o.data = .seq #[.none] n
  f_law_draw : FnAt W D_law_draw .none u_law_draw
  g_law_draw : GV W "_law_draw" (.raw u_law_draw)
  k_law_draw : Keeps W u_law_draw
  f_law_empty : FnAt W D_law_empty .none u_law_empty
  g_law_empty : GV W "_law_empty" (.raw u_law_empty)
  k_law_empty : Keeps W u_law_empty
  f_law_pen : FnAt W D_law_pen .none u_law_pen
  g_law_pen : GV W "_law_pen" (.raw u_law_pen)
  k_law_pen : Keeps W u_law_pen
  f_law_cut : FnAt W D_law_cut .none u_law_cut
  g_law_cut : GV W "_law_cut" (.raw u_law_cut)
  k_law_cut : Keeps W u_law_cut
  f_law_over : FnAt W D_law_over .none u_law_over
  g_law_over : GV W "_law_over" (.raw u_law_over)
  k_law_over : Keeps W u_law_over
  f_law_put : FnAt W D_law_put .none u_law_put
  g_law_put : GV W "_law_put" (.raw u_law_put)
  k_law_put : Keeps W u_law_put
  f_law_limits : FnAt W D_law_limits .none u_law_limits
  g_law_limits : GV W "_law_limits" (.raw u_law_limits)
  k_law_limits : Keeps W u_law_limits
  f_law_values : FnAt W D_law_values .none u_law_values
  g_law_values : GV W "_law_values" (.raw u_law_values)
  k_law_values : Keeps W u_law_values
  f_law_place : FnAt W D_law_place .none u_law_place
  g_law_place : GV W "_law_place" (.raw u_law_place)
  k_law_place : Keeps W u_law_place
  f_law_area : FnAt W D_law_area .none u_law_area
  g_law_area : GV W "_law_area" (.raw u_law_area)
  k_law_area : Keeps W u_law_area
  f_law_filled : FnAt W D_law_filled .none u_law_filled
  g_law_filled : GV W "_law_filled" (.raw u_law_filled)
  k_law_filled : Keeps W u_law_filled
  f_law_spared : FnAt W D_law_spared .none u_law_spared
  g_law_spared : GV W "_law_spared" (.raw u_law_spared)
  k_law_spared : Keeps W u_law_spared
  f_law_copied : FnAt W D_law_copied .none u_law_copied
  g_law_copied : GV W "_law_copied" (.raw u_law_copied)
  k_law_copied : Keeps W u_law_copied
  f_law_turned : FnAt W D_law_turned .none u_law_turned
  g_law_turned : GV W "_law_turned" (.raw u_law_turned)
  k_law_turned : Keeps W u_law_turned
  f_law_repenned : FnAt W D_law_repenned .none u_law_repenned
  g_law_repenned : GV W "_law_repenned" (.raw u_law_repenned)
  k_law_repenned : Keeps W u_law_repenned
  f_law_deed : FnAt W D_law_deed .none u_law_deed
  g_law_deed : GV W "_law_deed" (.raw u_law_deed)
  k_law_deed : Keeps W u_law_deed
  f_law_law : FnAt W D_law_law .none u_law_law
  g_law_law : GV W "law" (.raw u_law_law)
  k_law_law : Keeps W u_law_law
  o_Charsets : ClsF W.K c_Charsets
  g_Charsets : GV W "Charsets" (.raw (.ref c_Charsets))
  k_Charsets : Keeps W (.ref c_Charsets)
  m_Charsets : MakeF W c_Charsets u_Charsets_init
  a_Charsets_made : AttF W c_Charsets "made"
  a_Charsets_names : AttF W c_Charsets "names"
  a_Charsets_left : AttF W c_Charsets "left"
  a_Charsets_right : AttF W c_Charsets "right"
  a_Charsets_shift : AttF W c_Charsets "shift"
  m_Charsets_reset : MethF W c_Charsets "reset" u_Charsets_reset
  o_Cursor : ClsF W.K c_Cursor
  g_Cursor : GV W "Cursor" (.raw (.ref c_Cursor))
  k_Cursor : Keeps W (.ref c_Cursor)
  m_Cursor : MakeF W c_Cursor u_Cursor_init
  a_Cursor_row : AttF W c_Cursor "row"
  a_Cursor_column : AttF W c_Cursor "column"
  a_Cursor_is_waiting : AttF W c_Cursor "is_waiting"
  a_Cursor_pen : AttF W c_Cursor "pen"
  a_Cursor_is_origin : AttF W c_Cursor "is_origin"
  a_Cursor_is_guarding : AttF W c_Cursor "is_guarding"
  m_Cursor_go : MethF W c_Cursor "go" u_Cursor_go
  m_Cursor_place : MethF W c_Cursor "place" u_Cursor_place
  o_Margins : ClsF W.K c_Margins
  g_Margins : GV W "Margins" (.raw (.ref c_Margins))
  k_Margins : Keeps W (.ref c_Margins)
  m_Margins : MakeF W c_Margins u_Margins_init
  a_Margins_rows : AttF W c_Margins "rows"
  a_Margins_columns : AttF W c_Margins "columns"
  a_Margins_top : AttF W c_Margins "top"
  a_Margins_bottom : AttF W c_Margins "bottom"
  a_Margins_left : AttF W c_Margins "left"
  a_Margins_right : AttF W c_Margins "right"
  m_Margins_set_rows : MethF W c_Margins "set_rows" u_Margins_set_rows
  m_Margins_set_columns : MethF W c_Margins "set_columns" u_Margins_set_columns
  m_Margins_area : MethF W c_Margins "area" u_Margins_area
  o_Tabs : ClsF W.K c_Tabs
  g_Tabs : GV W "Tabs" (.raw (.ref c_Tabs))
  k_Tabs : Keeps W (.ref c_Tabs)
  m_Tabs : MakeF W c_Tabs u_Tabs_init
  a_Tabs_columns : AttF W c_Tabs "columns"
  a_Tabs_stops : AttF W c_Tabs "stops"
  m_Tabs_put_eighths : MethF W c_Tabs "put_eighths" u_Tabs_put_eighths
  o_Line : ClsF W.K c_Line
  g_Line : GV W "Line" (.raw (.ref c_Line))
  k_Line : Keeps W (.ref c_Line)
  m_Line : MakeF W c_Line u_Line_init
  a_Line_cells : AttF W c_Line "cells"
  a_Line_is_wrapped : AttF W c_Line "is_wrapped"
  a_Line_size : AttF W c_Line "size"
  m_Line_part : MethF W c_Line "part" u_Line_part
  m_Line_put : MethF W c_Line "put" u_Line_put
  m_Line_erase : MethF W c_Line "erase" u_Line_erase
  o_Grid : ClsF W.K c_Grid
  g_Grid : GV W "Grid" (.raw (.ref c_Grid))
  k_Grid : Keeps W (.ref c_Grid)
  m_Grid : MakeF W c_Grid u_Grid_init
  a_Grid_rows : AttF W c_Grid "rows"
  a_Grid_columns : AttF W c_Grid "columns"
  a_Grid_lines : AttF W c_Grid "lines"
  m_Grid_line : MethF W c_Grid "line" u_Grid_line
  m_Grid_cells_of : MethF W c_Grid "cells_of" u_Grid_cells_of
  m_Grid_put_cells : MethF W c_Grid "put_cells" u_Grid_put_cells
  m_Grid_erase_area : MethF W c_Grid "erase_area" u_Grid_erase_area
  m_Grid_fill_area : MethF W c_Grid "fill_area" u_Grid_fill_area
  m_Grid_copy_area : MethF W c_Grid "copy_area" u_Grid_copy_area
  o_Screen : ClsF W.K c_Screen
  g_Screen : GV W "Screen" (.raw (.ref c_Screen))
  k_Screen : Keeps W (.ref c_Screen)
  m_Screen : MakeF W c_Screen u_Screen_init
  a_Screen_rows : AttF W c_Screen "rows"
  a_Screen_columns : AttF W c_Screen "columns"
  a_Screen_modes : AttF W c_Screen "modes"
  a_Screen_widths : AttF W c_Screen "widths"
  a_Screen_history : AttF W c_Screen "history"
  a_Screen_grid : AttF W c_Screen "grid"
  a_Screen_cursor : AttF W c_Screen "cursor"
  a_Screen_margins : AttF W c_Screen "margins"
  a_Screen_tabs : AttF W c_Screen "tabs"
  a_Screen_charsets : AttF W c_Screen "charsets"
  a_Screen_saved : AttF W c_Screen "saved"
  a_Screen_last : AttF W c_Screen "last"
  a_Screen_has_right : AttF W c_Screen "has_right"
  g_ASCII_SET : GV W "ASCII_SET" (.raw r_ASCII_SET)
  g_SUPPLEMENT_SET : GV W "SUPPLEMENT_SET" (.raw r_SUPPLEMENT_SET)
  g_BOLD : GV W "BOLD" (.int 1)
  g_BLINK : GV W "BLINK" (.int 8)
  g_INVERSE : GV W "INVERSE" (.int 32)
  g_HIDDEN : GV W "HIDDEN" (.int 64)
  g_UNDER_SHIFT : GV W "UNDER_SHIFT" (.int 9)
  g_UNDER_MASK : GV W "UNDER_MASK" (.int 3584)
  g_NO_COLOUR : GV W "NO_COLOUR" (.int (-1))
  g_PLAIN : GV W "PLAIN" (.tup [.int 0, .int (-1), .int (-1), .int (-1), .int 0])
  g_FLAGS : GV W "FLAGS" (.int 0)
  g_BACK : GV W "BACK" (.int 2)
  g_BLANK : GV W "BLANK" (.int 32)
  g_EDIT_FLAGS : GV W "EDIT_FLAGS" (.tup [.tup [.int 1, .int 1], .tup [.int 5, .int 8], .tup [.int 7, .int 32], .tup [.int 8, .int 64]])
  g_TAB_WIDTH : GV W "TAB_WIDTH" (.int 8)
  g_LINE_SIZES : GV W "LINE_SIZES" (.tup [.str "single", .str "wide", .str "top", .str "bottom"])
  g_law_rows : GV W "_law_rows" (.int 3)
  g_law_wide : GV W "_law_wide" (.int 6)
  g_max : GV W "max" (.raw (.builtin "max"))
  g_min : GV W "min" (.raw (.builtin "min"))
  g_len : GV W "len" (.raw (.builtin "len"))
  g_list : GV W "list" (.raw (.type "list"))
  g_tuple : GV W "tuple" (.raw (.type "tuple"))
  g_range : GV W "range" (.raw (.type "range"))
  g_enumerate : GV W "enumerate" (.raw (.type "enumerate"))
theorem all_keys {f : Sr → Bool} {fs : List (Sr × V)} {ks : List Sr} (h : fs.map (·.1) = ks) (e : ks.all f = true) : (fs.all fun p => f p.1) = true := by
  subst h; rw [List.all_map] at e; exact e
noncomputable abbrev keys_Charsets : List Sr := ["made", "names", "left", "right", "shift"]
theorem nd_Charsets {l : List Sr} (h : l = keys_Charsets) : l.Nodup := by subst h; decide +kernel
theorem na_Charsets_reset {fs : List (Sr × V)} (h : fs.map (·.1) = keys_Charsets) : (fs.all fun p => !(p.1 == ("reset" : Sr))) = true := all_keys (f := fun x => !(x == ("reset" : Sr))) h (by decide +kernel)
noncomputable abbrev keys_Cursor : List Sr := ["row", "column", "is_waiting", "pen", "is_origin", "is_guarding"]
theorem nd_Cursor {l : List Sr} (h : l = keys_Cursor) : l.Nodup := by subst h; decide +kernel
theorem na_Cursor_go {fs : List (Sr × V)} (h : fs.map (·.1) = keys_Cursor) : (fs.all fun p => !(p.1 == ("go" : Sr))) = true := all_keys (f := fun x => !(x == ("go" : Sr))) h (by decide +kernel)
theorem na_Cursor_place {fs : List (Sr × V)} (h : fs.map (·.1) = keys_Cursor) : (fs.all fun p => !(p.1 == ("place" : Sr))) = true := all_keys (f := fun x => !(x == ("place" : Sr))) h (by decide +kernel)
noncomputable abbrev keys_Margins : List Sr := ["rows", "columns", "top", "bottom", "left", "right"]
theorem nd_Margins {l : List Sr} (h : l = keys_Margins) : l.Nodup := by subst h; decide +kernel
theorem na_Margins_set_rows {fs : List (Sr × V)} (h : fs.map (·.1) = keys_Margins) : (fs.all fun p => !(p.1 == ("set_rows" : Sr))) = true := all_keys (f := fun x => !(x == ("set_rows" : Sr))) h (by decide +kernel)
theorem na_Margins_set_columns {fs : List (Sr × V)} (h : fs.map (·.1) = keys_Margins) : (fs.all fun p => !(p.1 == ("set_columns" : Sr))) = true := all_keys (f := fun x => !(x == ("set_columns" : Sr))) h (by decide +kernel)
theorem na_Margins_area {fs : List (Sr × V)} (h : fs.map (·.1) = keys_Margins) : (fs.all fun p => !(p.1 == ("area" : Sr))) = true := all_keys (f := fun x => !(x == ("area" : Sr))) h (by decide +kernel)
noncomputable abbrev keys_Tabs : List Sr := ["columns", "stops"]
theorem nd_Tabs {l : List Sr} (h : l = keys_Tabs) : l.Nodup := by subst h; decide +kernel
theorem na_Tabs_put_eighths {fs : List (Sr × V)} (h : fs.map (·.1) = keys_Tabs) : (fs.all fun p => !(p.1 == ("put_eighths" : Sr))) = true := all_keys (f := fun x => !(x == ("put_eighths" : Sr))) h (by decide +kernel)
noncomputable abbrev keys_Line : List Sr := ["cells", "is_wrapped", "size"]
theorem nd_Line {l : List Sr} (h : l = keys_Line) : l.Nodup := by subst h; decide +kernel
theorem na_Line_part {fs : List (Sr × V)} (h : fs.map (·.1) = keys_Line) : (fs.all fun p => !(p.1 == ("part" : Sr))) = true := all_keys (f := fun x => !(x == ("part" : Sr))) h (by decide +kernel)
theorem na_Line_put {fs : List (Sr × V)} (h : fs.map (·.1) = keys_Line) : (fs.all fun p => !(p.1 == ("put" : Sr))) = true := all_keys (f := fun x => !(x == ("put" : Sr))) h (by decide +kernel)
theorem na_Line_erase {fs : List (Sr × V)} (h : fs.map (·.1) = keys_Line) : (fs.all fun p => !(p.1 == ("erase" : Sr))) = true := all_keys (f := fun x => !(x == ("erase" : Sr))) h (by decide +kernel)
noncomputable abbrev keys_Grid : List Sr := ["rows", "columns", "lines"]
theorem nd_Grid {l : List Sr} (h : l = keys_Grid) : l.Nodup := by subst h; decide +kernel
theorem na_Grid_line {fs : List (Sr × V)} (h : fs.map (·.1) = keys_Grid) : (fs.all fun p => !(p.1 == ("line" : Sr))) = true := all_keys (f := fun x => !(x == ("line" : Sr))) h (by decide +kernel)
theorem na_Grid_cells_of {fs : List (Sr × V)} (h : fs.map (·.1) = keys_Grid) : (fs.all fun p => !(p.1 == ("cells_of" : Sr))) = true := all_keys (f := fun x => !(x == ("cells_of" : Sr))) h (by decide +kernel)
theorem na_Grid_put_cells {fs : List (Sr × V)} (h : fs.map (·.1) = keys_Grid) : (fs.all fun p => !(p.1 == ("put_cells" : Sr))) = true := all_keys (f := fun x => !(x == ("put_cells" : Sr))) h (by decide +kernel)
theorem na_Grid_erase_area {fs : List (Sr × V)} (h : fs.map (·.1) = keys_Grid) : (fs.all fun p => !(p.1 == ("erase_area" : Sr))) = true := all_keys (f := fun x => !(x == ("erase_area" : Sr))) h (by decide +kernel)
theorem na_Grid_fill_area {fs : List (Sr × V)} (h : fs.map (·.1) = keys_Grid) : (fs.all fun p => !(p.1 == ("fill_area" : Sr))) = true := all_keys (f := fun x => !(x == ("fill_area" : Sr))) h (by decide +kernel)
theorem na_Grid_copy_area {fs : List (Sr × V)} (h : fs.map (·.1) = keys_Grid) : (fs.all fun p => !(p.1 == ("copy_area" : Sr))) = true := all_keys (f := fun x => !(x == ("copy_area" : Sr))) h (by decide +kernel)
noncomputable abbrev keys_Screen : List Sr := ["rows", "columns", "modes", "widths", "history", "grid", "cursor", "margins", "tabs", "charsets", "saved", "last", "has_right"]
theorem nd_Screen {l : List Sr} (h : l = keys_Screen) : l.Nodup := by subst h; decide +kernel
noncomputable def gs_pen_with : List (Sr × V) := []
noncomputable def F_pen_with : FrD → Fm := fmR D_pen_with .none gs_pen_with
noncomputable def gs_under_of : List (Sr × V) := [("UNDER_MASK", .int 3584), ("UNDER_SHIFT", .int 9)]
noncomputable def F_under_of : FrD → Fm := fmR D_under_of .none gs_under_of
noncomputable def gs_flags_with_under : List (Sr × V) := [("UNDER_MASK", .int 3584), ("UNDER_SHIFT", .int 9)]
noncomputable def F_flags_with_under : FrD → Fm := fmR D_flags_with_under .none gs_flags_with_under
noncomputable def gs_erased_pen : List (Sr × V) := [("NO_COLOUR", .int (-1)), ("BACK", .int 2)]
noncomputable def F_erased_pen : FrD → Fm := fmR D_erased_pen .none gs_erased_pen
noncomputable def gs_blank_cell : List (Sr × V) := [("erased_pen", .raw u_erased_pen)]
noncomputable def F_blank_cell : FrD → Fm := fmR D_blank_cell .none gs_blank_cell
noncomputable def gs_plain_of : List (Sr × V) := [("len", .raw (.builtin "len"))]
noncomputable def F_plain_of : FrD → Fm := fmR D_plain_of .none gs_plain_of
noncomputable def gs_value_of : List (Sr × V) := [("plain_of", .raw u_plain_of)]
noncomputable def F_value_of : FrD → Fm := fmR D_value_of .none gs_value_of
noncomputable def gs_values_of : List (Sr × V) := [("range", .raw (.type "range")), ("len", .raw (.builtin "len"))]
noncomputable def F_values_of : FrD → Fm := fmR D_values_of .none gs_values_of
noncomputable def gs_edit_limits : List (Sr × V) := []
noncomputable def F_edit_limits : FrD → Fm := fmR D_edit_limits .none gs_edit_limits
noncomputable def gs_area_of : List (Sr × V) := [("edit_limits", .raw u_edit_limits), ("value_of", .raw u_value_of), ("min", .raw (.builtin "min"))]
noncomputable def F_area_of : FrD → Fm := fmR D_area_of (.ref d_area_of) gs_area_of
noncomputable def gs_erase_rectangle : List (Sr × V) := [("area_of", .raw u_area_of)]
noncomputable def F_erase_rectangle : FrD → Fm := fmR D_erase_rectangle (.ref d_erase_rectangle) gs_erase_rectangle
noncomputable def gs_fill_rectangle : List (Sr × V) := [("value_of", .raw u_value_of), ("area_of", .raw u_area_of), ("BLANK", .int 32)]
noncomputable def F_fill_rectangle : FrD → Fm := fmR D_fill_rectangle .none gs_fill_rectangle
noncomputable def gs_copy_rectangle : List (Sr × V) := [("area_of", .raw u_area_of), ("edit_limits", .raw u_edit_limits), ("value_of", .raw u_value_of), ("min", .raw (.builtin "min"))]
noncomputable def F_copy_rectangle : FrD → Fm := fmR D_copy_rectangle .none gs_copy_rectangle
noncomputable def gs_edit_stretches : List (Sr × V) := [("range", .raw (.type "range")), ("edit_limits", .raw u_edit_limits)]
noncomputable def F_edit_stretches : FrD → Fm := fmR D_edit_stretches .none gs_edit_stretches
noncomputable def gs_edit_turned : List (Sr × V) := [("FLAGS", .int 0), ("EDIT_FLAGS", .tup [.tup [.int 1, .int 1], .tup [.int 5, .int 8], .tup [.int 7, .int 32], .tup [.int 8, .int 64]]), ("max", .raw (.builtin "max")), ("flags_with_under", .raw u_flags_with_under), ("pen_with", .raw u_pen_with)]
noncomputable def F_edit_turned : FrD → Fm := fmR D_edit_turned .none gs_edit_turned
noncomputable def gs_edit_toggled : List (Sr × V) := [("FLAGS", .int 0), ("EDIT_FLAGS", .tup [.tup [.int 1, .int 1], .tup [.int 5, .int 8], .tup [.int 7, .int 32], .tup [.int 8, .int 64]]), ("flags_with_under", .raw u_flags_with_under), ("under_of", .raw u_under_of), ("pen_with", .raw u_pen_with)]
noncomputable def F_edit_toggled : FrD → Fm := fmR D_edit_toggled .none gs_edit_toggled
noncomputable def gs_edit_pens : List (Sr × V) := [("area_of", .raw u_area_of), ("values_of", .raw u_values_of), ("edit_stretches", .raw u_edit_stretches), ("range", .raw (.type "range"))]
noncomputable def F_edit_pens : FrD → Fm := fmR D_edit_pens .none gs_edit_pens
noncomputable def gs_change_rectangle : List (Sr × V) := [("edit_pens", .raw u_edit_pens), ("edit_turned", .raw u_edit_turned)]
noncomputable def F_change_rectangle : FrD → Fm := fmR D_change_rectangle .none gs_change_rectangle
noncomputable def gs_reverse_rectangle : List (Sr × V) := [("edit_pens", .raw u_edit_pens), ("edit_toggled", .raw u_edit_toggled)]
noncomputable def F_reverse_rectangle : FrD → Fm := fmR D_reverse_rectangle .none gs_reverse_rectangle
noncomputable def gs_Charsets_init : List (Sr × V) := []
noncomputable def F_Charsets_init : FrD → Fm := fmR D_Charsets_init (.ref d_Charsets_init) gs_Charsets_init
noncomputable def gs_Charsets_reset : List (Sr × V) := [("ASCII_SET", .raw r_ASCII_SET), ("SUPPLEMENT_SET", .raw r_SUPPLEMENT_SET)]
noncomputable def F_Charsets_reset : FrD → Fm := fmR D_Charsets_reset .none gs_Charsets_reset
noncomputable def gs_Cursor_init : List (Sr × V) := [("PLAIN", .tup [.int 0, .int (-1), .int (-1), .int (-1), .int 0])]
noncomputable def F_Cursor_init : FrD → Fm := fmR D_Cursor_init .none gs_Cursor_init
noncomputable def gs_Cursor_go : List (Sr × V) := []
noncomputable def F_Cursor_go : FrD → Fm := fmR D_Cursor_go .none gs_Cursor_go
noncomputable def gs_Cursor_place : List (Sr × V) := []
noncomputable def F_Cursor_place : FrD → Fm := fmR D_Cursor_place .none gs_Cursor_place
noncomputable def gs_Margins_init : List (Sr × V) := []
noncomputable def F_Margins_init : FrD → Fm := fmR D_Margins_init .none gs_Margins_init
noncomputable def gs_Margins_set_rows : List (Sr × V) := []
noncomputable def F_Margins_set_rows : FrD → Fm := fmR D_Margins_set_rows .none gs_Margins_set_rows
noncomputable def gs_Margins_set_columns : List (Sr × V) := []
noncomputable def F_Margins_set_columns : FrD → Fm := fmR D_Margins_set_columns .none gs_Margins_set_columns
noncomputable def gs_Margins_area : List (Sr × V) := []
noncomputable def F_Margins_area : FrD → Fm := fmR D_Margins_area .none gs_Margins_area
noncomputable def gs_Tabs_init : List (Sr × V) := []
noncomputable def F_Tabs_init : FrD → Fm := fmR D_Tabs_init .none gs_Tabs_init
noncomputable def gs_Tabs_put_eighths : List (Sr × V) := [("range", .raw (.type "range")), ("TAB_WIDTH", .int 8)]
noncomputable def F_Tabs_put_eighths : FrD → Fm := fmR D_Tabs_put_eighths .none gs_Tabs_put_eighths
noncomputable def gs_line_blanks : List (Sr × V) := [("blank_cell", .raw u_blank_cell), ("max", .raw (.builtin "max"))]
noncomputable def F_line_blanks : FrD → Fm := fmR D_line_blanks .none gs_line_blanks
noncomputable def gs_right_half : List (Sr × V) := []
noncomputable def F_right_half : FrD → Fm := fmR D_right_half .none gs_right_half
noncomputable def gs_line_part : List (Sr × V) := [("len", .raw (.builtin "len")), ("blank_cell", .raw u_blank_cell)]
noncomputable def F_line_part : FrD → Fm := fmR D_line_part .none gs_line_part
noncomputable def gs_Line_init : List (Sr × V) := [("line_blanks", .raw u_line_blanks), ("LINE_SIZES", .tup [.str "single", .str "wide", .str "top", .str "bottom"])]
noncomputable def F_Line_init : FrD → Fm := fmR D_Line_init .none gs_Line_init
noncomputable def gs_Line_part : List (Sr × V) := [("line_part", .raw u_line_part)]
noncomputable def F_Line_part : FrD → Fm := fmR D_Line_part .none gs_Line_part
noncomputable def gs_Line_put : List (Sr × V) := [("len", .raw (.builtin "len")), ("blank_cell", .raw u_blank_cell), ("right_half", .raw u_right_half)]
noncomputable def F_Line_put : FrD → Fm := fmR D_Line_put .none gs_Line_put
noncomputable def gs_Line_erase : List (Sr × V) := [("max", .raw (.builtin "max")), ("min", .raw (.builtin "min")), ("len", .raw (.builtin "len")), ("range", .raw (.type "range")), ("blank_cell", .raw u_blank_cell)]
noncomputable def F_Line_erase : FrD → Fm := fmR D_Line_erase (.ref d_Line_erase) gs_Line_erase
noncomputable def gs_Grid_init : List (Sr × V) := [("range", .raw (.type "range"))]
noncomputable def F_Grid_init : FrD → Fm := fmR D_Grid_init .none gs_Grid_init
noncomputable def gs_Grid_line : List (Sr × V) := []
noncomputable def F_Grid_line : FrD → Fm := fmR D_Grid_line .none gs_Grid_line
noncomputable def gs_Grid_cells_of : List (Sr × V) := [("grid_mended", .raw u_grid_mended)]
noncomputable def F_Grid_cells_of : FrD → Fm := fmR D_Grid_cells_of .none gs_Grid_cells_of
noncomputable def gs_Grid_put_cells : List (Sr × V) := [("len", .raw (.builtin "len")), ("grid_cut", .raw u_grid_cut), ("enumerate", .raw (.type "enumerate"))]
noncomputable def F_Grid_put_cells : FrD → Fm := fmR D_Grid_put_cells .none gs_Grid_put_cells
noncomputable def gs_Grid_erase_area : List (Sr × V) := [("range", .raw (.type "range"))]
noncomputable def F_Grid_erase_area : FrD → Fm := fmR D_Grid_erase_area (.ref d_Grid_erase_area) gs_Grid_erase_area
noncomputable def gs_Grid_fill_area : List (Sr × V) := [("grid_cut", .raw u_grid_cut), ("range", .raw (.type "range"))]
noncomputable def F_Grid_fill_area : FrD → Fm := fmR D_Grid_fill_area .none gs_Grid_fill_area
noncomputable def gs_Grid_copy_area : List (Sr × V) := [("range", .raw (.type "range")), ("enumerate", .raw (.type "enumerate")), ("grid_mended", .raw u_grid_mended), ("len", .raw (.builtin "len"))]
noncomputable def F_Grid_copy_area : FrD → Fm := fmR D_Grid_copy_area .none gs_Grid_copy_area
noncomputable def gs_grid_cut : List (Sr × V) := [("blank_cell", .raw u_blank_cell)]
noncomputable def F_grid_cut : FrD → Fm := fmR D_grid_cut .none gs_grid_cut
noncomputable def gs_grid_mended : List (Sr × V) := [("list", .raw (.type "list")), ("grid_cut", .raw u_grid_cut)]
noncomputable def F_grid_mended : FrD → Fm := fmR D_grid_mended .none gs_grid_mended
noncomputable def gs_Screen_init : List (Sr × V) := [("Grid", .raw (.ref c_Grid)), ("Cursor", .raw (.ref c_Cursor)), ("Margins", .raw (.ref c_Margins)), ("Tabs", .raw (.ref c_Tabs)), ("Charsets", .raw (.ref c_Charsets))]
noncomputable def F_Screen_init : FrD → Fm := fmR D_Screen_init (.ref d_Screen_init) gs_Screen_init
noncomputable def gs_law_draw : List (Sr × V) := [("len", .raw (.builtin "len"))]
noncomputable def F_law_draw : FrD → Fm := fmR D_law_draw .none gs_law_draw
noncomputable def gs_law_empty : List (Sr × V) := []
noncomputable def F_law_empty : FrD → Fm := fmR D_law_empty .none gs_law_empty
noncomputable def gs_law_pen : List (Sr × V) := [("_law_draw", .raw u_law_draw)]
noncomputable def F_law_pen : FrD → Fm := fmR D_law_pen .none gs_law_pen
noncomputable def gs_law_cut : List (Sr × V) := [("len", .raw (.builtin "len")), ("_law_empty", .raw u_law_empty), ("list", .raw (.type "list"))]
noncomputable def F_law_cut : FrD → Fm := fmR D_law_cut .none gs_law_cut
noncomputable def gs_law_over : List (Sr × V) := [("_law_cut", .raw u_law_cut), ("len", .raw (.builtin "len"))]
noncomputable def F_law_over : FrD → Fm := fmR D_law_over .none gs_law_over
noncomputable def gs_law_put : List (Sr × V) := [("_law_draw", .raw u_law_draw), ("_law_pen", .raw u_law_pen), ("_law_wide", .int 6), ("_law_over", .raw u_law_over)]
noncomputable def F_law_put : FrD → Fm := fmR D_law_put .none gs_law_put
noncomputable def gs_law_limits : List (Sr × V) := [("_law_rows", .int 3), ("_law_wide", .int 6), ("_law_draw", .raw u_law_draw), ("_law_pen", .raw u_law_pen), ("tuple", .raw (.type "tuple"))]
noncomputable def F_law_limits : FrD → Fm := fmR D_law_limits .none gs_law_limits
noncomputable def gs_law_values : List (Sr × V) := [("range", .raw (.type "range"))]
noncomputable def F_law_values : FrD → Fm := fmR D_law_values .none gs_law_values
noncomputable def gs_law_place : List (Sr × V) := [("len", .raw (.builtin "len"))]
noncomputable def F_law_place : FrD → Fm := fmR D_law_place .none gs_law_place
noncomputable def gs_law_area : List (Sr × V) := [("_law_place", .raw u_law_place), ("len", .raw (.builtin "len")), ("min", .raw (.builtin "min")), ("tuple", .raw (.type "tuple"))]
noncomputable def F_law_area : FrD → Fm := fmR D_law_area .none gs_law_area
noncomputable def gs_law_filled : List (Sr × V) := [("range", .raw (.type "range")), ("_law_over", .raw u_law_over)]
noncomputable def F_law_filled : FrD → Fm := fmR D_law_filled .none gs_law_filled
noncomputable def gs_law_spared : List (Sr × V) := [("range", .raw (.type "range")), ("_law_empty", .raw u_law_empty)]
noncomputable def F_law_spared : FrD → Fm := fmR D_law_spared .none gs_law_spared
noncomputable def gs_law_copied : List (Sr × V) := [("_law_place", .raw u_law_place), ("range", .raw (.type "range")), ("min", .raw (.builtin "min")), ("_law_cut", .raw u_law_cut), ("_law_over", .raw u_law_over)]
noncomputable def F_law_copied : FrD → Fm := fmR D_law_copied .none gs_law_copied
noncomputable def gs_law_turned : List (Sr × V) := []
noncomputable def F_law_turned : FrD → Fm := fmR D_law_turned .none gs_law_turned
noncomputable def gs_law_repenned : List (Sr × V) := [("range", .raw (.type "range")), ("_law_turned", .raw u_law_turned)]
noncomputable def F_law_repenned : FrD → Fm := fmR D_law_repenned .none gs_law_repenned
noncomputable def gs_law_deed : List (Sr × V) := [("_law_draw", .raw u_law_draw), ("_law_values", .raw u_law_values), ("_law_area", .raw u_law_area), ("fill_rectangle", .raw u_fill_rectangle), ("_law_filled", .raw u_law_filled), ("erase_rectangle", .raw u_erase_rectangle), ("_law_empty", .raw u_law_empty), ("_law_spared", .raw u_law_spared), ("copy_rectangle", .raw u_copy_rectangle), ("_law_copied", .raw u_law_copied), ("range", .raw (.type "range")), ("change_rectangle", .raw u_change_rectangle), ("reverse_rectangle", .raw u_reverse_rectangle), ("_law_repenned", .raw u_law_repenned)]
noncomputable def F_law_deed : FrD → Fm := fmR D_law_deed .none gs_law_deed
noncomputable def gs_law_law : List (Sr × V) := [("Screen", .raw (.ref c_Screen)), ("_law_rows", .int 3), ("_law_wide", .int 6), ("range", .raw (.type "range")), ("_law_draw", .raw u_law_draw), ("_law_put", .raw u_law_put), ("_law_limits", .raw u_law_limits), ("tuple", .raw (.type "tuple")), ("_law_deed", .raw u_law_deed)]
noncomputable def F_law_law : FrD → Fm := fmR D_law_law .none gs_law_law
noncomputable def fnOkB (D : FnD) (ps ns gn : List Sr) : Bool :=
  decide (D.scope.kind = .function) && !D.scope.isCoroutine && !D.scope.isGenerator && decide (ps ++ ns).Nodup &&
    (ps ++ ns).all (fun x => (decide (D.scope.names.lookup x = some .local) || decide (D.scope.names.lookup x = some .cell)) && !(x == ("__debug__" : Sr)) && !(x == ("__classdict__" : Sr))) &&
    D.scope.names.all (fun p => decide (p.2 ≠ .free)) && gn.all (fun x => decide (D.scope.names.lookup x = some .globalImplicit) && !(x == ("__debug__" : Sr)))
theorem FnOk.of {W : Wd} {D : FnD} {ps ns : List Sr} {gs : List (Sr × V)} (gn : List Sr) (hg : gs.map (·.1) = gn) (h : fnOkB D ps ns gn = true) (g : GVs W gs) : FnOk W D ps ns gs := by
  subst hg
  unfold fnOkB at h
  simp only [Bool.and_eq_true, Bool.or_eq_true, decide_eq_true_eq, Bool.not_eq_true', List.all_eq_true, List.mem_map, forall_exists_index, and_imp] at h
  obtain ⟨⟨⟨⟨⟨⟨h1, h2⟩, h3⟩, h4⟩, h5⟩, h6⟩, h7⟩ := h
  exact ⟨h1, h2, h3, h4, fun x hx => ⟨(h5 x hx).1.1, (h5 x hx).1.2, (h5 x hx).2⟩, h6, fun p hp => ⟨(h7 p.1 p hp rfl).1, (h7 p.1 p hp rfl).2, g.mem p hp⟩⟩
section
variable {W : Wd} {d : Nat} {σ : List CO} {Q : V → List CO → Prop} (X : Ctx W)
include X
theorem call.pen_with {c1 c2 c3 : V} (q : ∀ r : FrD, SsJ W d (F_pen_with r) D_pen_with.body [("pen", some (c1)), ("place", some (c2)), ("value", some (c3))] σ (RetQ Q)) : CJ W (d + 1) u_pen_with [c1, c2, c3] σ Q :=
  CJ.fn (D := D_pen_with) (ps := ["pen", "place", "value"]) (ns := []) (gs := gs_pen_with) (ds := []) _ X.ok X.f_pen_with (FnOk.of [] rfl (by decide +kernel) trivial) (BindsD.n3 (fun s _ _ _ _ _ _ _ _ _ _ _ ho => ⟨[], BindsTo.of_eq (by kernel_rfl), fun _ => rfl⟩)) rfl rfl q
theorem call.under_of {c1 : V} (q : ∀ r : FrD, SsJ W d (F_under_of r) D_under_of.body [("flags", some (c1))] σ (RetQ Q)) : CJ W (d + 1) u_under_of [c1] σ Q :=
  CJ.fn (D := D_under_of) (ps := ["flags"]) (ns := []) (gs := gs_under_of) (ds := []) _ X.ok X.f_under_of (FnOk.of ["UNDER_MASK", "UNDER_SHIFT"] rfl (by decide +kernel) ⟨X.g_UNDER_MASK, X.g_UNDER_SHIFT, trivial⟩) (BindsD.n1 (fun s _ _ _ _ _ _ _ _ _ ho => ⟨[], BindsTo.of_eq (by kernel_rfl), fun _ => rfl⟩)) rfl rfl q
theorem call.flags_with_under {c1 c2 : V} (q : ∀ r : FrD, SsJ W d (F_flags_with_under r) D_flags_with_under.body [("flags", some (c1)), ("kind", some (c2))] σ (RetQ Q)) : CJ W (d + 1) u_flags_with_under [c1, c2] σ Q :=
  CJ.fn (D := D_flags_with_under) (ps := ["flags", "kind"]) (ns := []) (gs := gs_flags_with_under) (ds := []) _ X.ok X.f_flags_with_under (FnOk.of ["UNDER_MASK", "UNDER_SHIFT"] rfl (by decide +kernel) ⟨X.g_UNDER_MASK, X.g_UNDER_SHIFT, trivial⟩) (BindsD.n2 (fun s _ _ _ _ _ _ _ _ _ _ ho => ⟨[], BindsTo.of_eq (by kernel_rfl), fun _ => rfl⟩)) rfl rfl q
theorem call.erased_pen {c1 : V} (q : ∀ r : FrD, SsJ W d (F_erased_pen r) D_erased_pen.body [("pen", some (c1))] σ (RetQ Q)) : CJ W (d + 1) u_erased_pen [c1] σ Q :=
  CJ.fn (D := D_erased_pen) (ps := ["pen"]) (ns := []) (gs := gs_erased_pen) (ds := []) _ X.ok X.f_erased_pen (FnOk.of ["NO_COLOUR", "BACK"] rfl (by decide +kernel) ⟨X.g_NO_COLOUR, X.g_BACK, trivial⟩) (BindsD.n1 (fun s _ _ _ _ _ _ _ _ _ ho => ⟨[], BindsTo.of_eq (by kernel_rfl), fun _ => rfl⟩)) rfl rfl q
theorem call.blank_cell {c1 : V} (q : ∀ r : FrD, SsJ W d (F_blank_cell r) D_blank_cell.body [("pen", some (c1))] σ (RetQ Q)) : CJ W (d + 1) u_blank_cell [c1] σ Q :=
  CJ.fn (D := D_blank_cell) (ps := ["pen"]) (ns := []) (gs := gs_blank_cell) (ds := []) _ X.ok X.f_blank_cell (FnOk.of ["erased_pen"] rfl (by decide +kernel) ⟨X.g_erased_pen, trivial⟩) (BindsD.n1 (fun s _ _ _ _ _ _ _ _ _ ho => ⟨[], BindsTo.of_eq (by kernel_rfl), fun _ => rfl⟩)) rfl rfl q
theorem call.plain_of {c1 c2 c3 : V} (q : ∀ r : FrD, SsJ W d (F_plain_of r) D_plain_of.body [("params", some (c1)), ("at", some (c2)), ("default", some (c3))] σ (RetQ Q)) : CJ W (d + 1) u_plain_of [c1, c2, c3] σ Q :=
  CJ.fn (D := D_plain_of) (ps := ["params", "at", "default"]) (ns := []) (gs := gs_plain_of) (ds := []) _ X.ok X.f_plain_of (FnOk.of ["len"] rfl (by decide +kernel) ⟨X.g_len, trivial⟩) (BindsD.n3 (fun s _ _ _ _ _ _ _ _ _ _ _ ho => ⟨[], BindsTo.of_eq (by kernel_rfl), fun _ => rfl⟩)) rfl rfl q
theorem call.value_of {c1 c2 c3 : V} (q : ∀ r : FrD, SsJ W d (F_value_of r) D_value_of.body [("params", some (c1)), ("at", some (c2)), ("default", some (c3)), ("found", none)] σ (RetQ Q)) : CJ W (d + 1) u_value_of [c1, c2, c3] σ Q :=
  CJ.fn (D := D_value_of) (ps := ["params", "at", "default"]) (ns := ["found"]) (gs := gs_value_of) (ds := []) _ X.ok X.f_value_of (FnOk.of ["plain_of"] rfl (by decide +kernel) ⟨X.g_plain_of, trivial⟩) (BindsD.n3 (fun s _ _ _ _ _ _ _ _ _ _ _ ho => ⟨[], BindsTo.of_eq (by kernel_rfl), fun _ => rfl⟩)) rfl rfl q
theorem call.values_of {c1 : V} (q : ∀ r : FrD, SsJ W d (F_values_of r) D_values_of.body [("params", some (c1))] σ (RetQ Q)) : CJ W (d + 1) u_values_of [c1] σ Q :=
  CJ.fn (D := D_values_of) (ps := ["params"]) (ns := []) (gs := gs_values_of) (ds := []) _ X.ok X.f_values_of (FnOk.of ["range", "len"] rfl (by decide +kernel) ⟨X.g_range, X.g_len, trivial⟩) (BindsD.n1 (fun s _ _ _ _ _ _ _ _ _ ho => ⟨[], BindsTo.of_eq (by kernel_rfl), fun _ => rfl⟩)) rfl rfl q
theorem call.edit_limits {c1 : V} (q : ∀ r : FrD, SsJ W d (F_edit_limits r) D_edit_limits.body [("screen", some (c1))] σ (RetQ Q)) : CJ W (d + 1) u_edit_limits [c1] σ Q :=
  CJ.fn (D := D_edit_limits) (ps := ["screen"]) (ns := []) (gs := gs_edit_limits) (ds := []) _ X.ok X.f_edit_limits (FnOk.of [] rfl (by decide +kernel) trivial) (BindsD.n1 (fun s _ _ _ _ _ _ _ _ _ ho => ⟨[], BindsTo.of_eq (by kernel_rfl), fun _ => rfl⟩)) rfl rfl q
theorem call.area_of {c1 c2 c3 : V} (q : ∀ r : FrD, SsJ W d (F_area_of r) D_area_of.body [("screen", some (c1)), ("params", some (c2)), ("at", some (c3)), ("first", none), ("start", none), ("last", none), ("end", none), ("top", none), ("left", none), ("bottom", none), ("right", none)] σ (RetQ Q)) : CJ W (d + 1) u_area_of [c1, c2, c3] σ Q :=
  CJ.fn (D := D_area_of) (ps := ["screen", "params", "at"]) (ns := ["first", "start", "last", "end", "top", "left", "bottom", "right"]) (gs := gs_area_of) (ds := []) _ X.ok X.f_area_of (FnOk.of ["edit_limits", "value_of", "min"] rfl (by decide +kernel) ⟨X.g_edit_limits, X.g_value_of, X.g_min, trivial⟩) (BindsD.n3 (fun s _ _ _ _ _ _ _ _ _ _ _ ho => let ⟨o, n, e1, e2⟩ := X.t_area_of; ⟨[], BindsTo.of_defaults rfl (ho _ _ e1) e2 rfl rfl, fun _ => rfl⟩)) rfl rfl q
theorem call.area_of1 {c1 c2 : V} (q : ∀ r : FrD, SsJ W d (F_area_of r) D_area_of.body [("screen", some (c1)), ("params", some (c2)), ("at", some (.int 0)), ("first", none), ("start", none), ("last", none), ("end", none), ("top", none), ("left", none), ("bottom", none), ("right", none)] σ (RetQ Q)) : CJ W (d + 1) u_area_of [c1, c2] σ Q :=
  CJ.fn (D := D_area_of) (ps := ["screen", "params", "at"]) (ns := ["first", "start", "last", "end", "top", "left", "bottom", "right"]) (gs := gs_area_of) (ds := [.int 0]) _ X.ok X.f_area_of (FnOk.of ["edit_limits", "value_of", "min"] rfl (by decide +kernel) ⟨X.g_edit_limits, X.g_value_of, X.g_min, trivial⟩) (BindsD.n2 (fun s _ _ _ _ _ _ _ _ _ _ ho => let ⟨o, n, e1, e2⟩ := X.t_area_of; ⟨[.int 0 361], BindsTo.of_defaults rfl (ho _ _ e1) e2 rfl rfl, fun _ => .cons (by first | exact ⟨_, rfl⟩ | rfl) .nil⟩)) rfl rfl q
theorem call.erase_rectangle {c1 c2 c3 : V} (q : ∀ r : FrD, SsJ W d (F_erase_rectangle r) D_erase_rectangle.body [("screen", some (c1)), ("params", some (c2)), ("is_selective", some (c3)), ("area", none)] σ (RetQ Q)) : CJ W (d + 1) u_erase_rectangle [c1, c2, c3] σ Q :=
  CJ.fn (D := D_erase_rectangle) (ps := ["screen", "params", "is_selective"]) (ns := ["area"]) (gs := gs_erase_rectangle) (ds := []) _ X.ok X.f_erase_rectangle (FnOk.of ["area_of"] rfl (by decide +kernel) ⟨X.g_area_of, trivial⟩) (BindsD.n3 (fun s _ _ _ _ _ _ _ _ _ _ _ ho => let ⟨o, n, e1, e2⟩ := X.t_erase_rectangle; ⟨[], BindsTo.of_defaults rfl (ho _ _ e1) e2 rfl rfl, fun _ => rfl⟩)) rfl rfl q
theorem call.erase_rectangle1 {c1 c2 : V} (q : ∀ r : FrD, SsJ W d (F_erase_rectangle r) D_erase_rectangle.body [("screen", some (c1)), ("params", some (c2)), ("is_selective", some (.bool false)), ("area", none)] σ (RetQ Q)) : CJ W (d + 1) u_erase_rectangle [c1, c2] σ Q :=
  CJ.fn (D := D_erase_rectangle) (ps := ["screen", "params", "is_selective"]) (ns := ["area"]) (gs := gs_erase_rectangle) (ds := [.bool false]) _ X.ok X.f_erase_rectangle (FnOk.of ["area_of"] rfl (by decide +kernel) ⟨X.g_area_of, trivial⟩) (BindsD.n2 (fun s _ _ _ _ _ _ _ _ _ _ ho => let ⟨o, n, e1, e2⟩ := X.t_erase_rectangle; ⟨[.bool false], BindsTo.of_defaults rfl (ho _ _ e1) e2 rfl rfl, fun _ => .cons (by first | exact ⟨_, rfl⟩ | rfl) .nil⟩)) rfl rfl q
theorem call.fill_rectangle {c1 c2 : V} (q : ∀ r : FrD, SsJ W d (F_fill_rectangle r) D_fill_rectangle.body [("screen", some (c1)), ("params", some (c2)), ("code", none), ("area", none)] σ (RetQ Q)) : CJ W (d + 1) u_fill_rectangle [c1, c2] σ Q :=
  CJ.fn (D := D_fill_rectangle) (ps := ["screen", "params"]) (ns := ["code", "area"]) (gs := gs_fill_rectangle) (ds := []) _ X.ok X.f_fill_rectangle (FnOk.of ["value_of", "area_of", "BLANK"] rfl (by decide +kernel) ⟨X.g_value_of, X.g_area_of, X.g_BLANK, trivial⟩) (BindsD.n2 (fun s _ _ _ _ _ _ _ _ _ _ ho => ⟨[], BindsTo.of_eq (by kernel_rfl), fun _ => rfl⟩)) rfl rfl q
theorem call.copy_rectangle {c1 c2 : V} (q : ∀ r : FrD, SsJ W d (F_copy_rectangle r) D_copy_rectangle.body [("screen", some (c1)), ("params", some (c2)), ("area", none), ("first", none), ("start", none), ("last", none), ("end", none), ("row", none), ("column", none), ("top", none), ("left", none), ("bottom", none), ("right", none), ("told", none)] σ (RetQ Q)) : CJ W (d + 1) u_copy_rectangle [c1, c2] σ Q :=
  CJ.fn (D := D_copy_rectangle) (ps := ["screen", "params"]) (ns := ["area", "first", "start", "last", "end", "row", "column", "top", "left", "bottom", "right", "told"]) (gs := gs_copy_rectangle) (ds := []) _ X.ok X.f_copy_rectangle (FnOk.of ["area_of", "edit_limits", "value_of", "min"] rfl (by decide +kernel) ⟨X.g_area_of, X.g_edit_limits, X.g_value_of, X.g_min, trivial⟩) (BindsD.n2 (fun s _ _ _ _ _ _ _ _ _ _ ho => ⟨[], BindsTo.of_eq (by kernel_rfl), fun _ => rfl⟩)) rfl rfl q
theorem call.edit_stretches {c1 c2 c3 : V} (q : ∀ r : FrD, SsJ W d (F_edit_stretches r) D_edit_stretches.body [("screen", some (c1)), ("area", some (c2)), ("is_stream", some (c3)), ("top", none), ("left", none), ("bottom", none), ("right", none), ("start", none), ("end", none), ("rows", none)] σ (RetQ Q)) : CJ W (d + 1) u_edit_stretches [c1, c2, c3] σ Q :=
  CJ.fn (D := D_edit_stretches) (ps := ["screen", "area", "is_stream"]) (ns := ["top", "left", "bottom", "right", "start", "end", "rows"]) (gs := gs_edit_stretches) (ds := []) _ X.ok X.f_edit_stretches (FnOk.of ["range", "edit_limits"] rfl (by decide +kernel) ⟨X.g_range, X.g_edit_limits, trivial⟩) (BindsD.n3 (fun s _ _ _ _ _ _ _ _ _ _ _ ho => ⟨[], BindsTo.of_eq (by kernel_rfl), fun _ => rfl⟩)) rfl rfl q
theorem call.edit_turned {c1 c2 : V} (q : ∀ r : FrD, SsJ W d (F_edit_turned r) D_edit_turned.body [("pen", some (c1)), ("numbers", some (c2)), ("flags", none), ("number", none), ("told", none), ("flag", none)] σ (RetQ Q)) : CJ W (d + 1) u_edit_turned [c1, c2] σ Q :=
  CJ.fn (D := D_edit_turned) (ps := ["pen", "numbers"]) (ns := ["flags", "number", "told", "flag"]) (gs := gs_edit_turned) (ds := []) _ X.ok X.f_edit_turned (FnOk.of ["FLAGS", "EDIT_FLAGS", "max", "flags_with_under", "pen_with"] rfl (by decide +kernel) ⟨X.g_FLAGS, X.g_EDIT_FLAGS, X.g_max, X.g_flags_with_under, X.g_pen_with, trivial⟩) (BindsD.n2 (fun s _ _ _ _ _ _ _ _ _ _ ho => ⟨[], BindsTo.of_eq (by kernel_rfl), fun _ => rfl⟩)) rfl rfl q
theorem call.edit_toggled {c1 c2 : V} (q : ∀ r : FrD, SsJ W d (F_edit_toggled r) D_edit_toggled.body [("pen", some (c1)), ("numbers", some (c2)), ("flags", none), ("number", none), ("told", none), ("flag", none)] σ (RetQ Q)) : CJ W (d + 1) u_edit_toggled [c1, c2] σ Q :=
  CJ.fn (D := D_edit_toggled) (ps := ["pen", "numbers"]) (ns := ["flags", "number", "told", "flag"]) (gs := gs_edit_toggled) (ds := []) _ X.ok X.f_edit_toggled (FnOk.of ["FLAGS", "EDIT_FLAGS", "flags_with_under", "under_of", "pen_with"] rfl (by decide +kernel) ⟨X.g_FLAGS, X.g_EDIT_FLAGS, X.g_flags_with_under, X.g_under_of, X.g_pen_with, trivial⟩) (BindsD.n2 (fun s _ _ _ _ _ _ _ _ _ _ ho => ⟨[], BindsTo.of_eq (by kernel_rfl), fun _ => rfl⟩)) rfl rfl q
theorem call.edit_pens {c1 c2 c3 c4 : V} (q : ∀ r : FrD, SsJ W d (F_edit_pens r) D_edit_pens.body [("screen", some (c1)), ("params", some (c2)), ("is_stream", some (c3)), ("turn", some (c4)), ("area", none), ("numbers", none), ("row", none), ("left", none), ("right", none), ("cells", none), ("column", none), ("codes", none), ("width", none), ("pen", none), ("is_guarded", none), ("fresh", none)] σ (RetQ Q)) : CJ W (d + 1) u_edit_pens [c1, c2, c3, c4] σ Q :=
  CJ.fn (D := D_edit_pens) (ps := ["screen", "params", "is_stream", "turn"]) (ns := ["area", "numbers", "row", "left", "right", "cells", "column", "codes", "width", "pen", "is_guarded", "fresh"]) (gs := gs_edit_pens) (ds := []) _ X.ok X.f_edit_pens (FnOk.of ["area_of", "values_of", "edit_stretches", "range"] rfl (by decide +kernel) ⟨X.g_area_of, X.g_values_of, X.g_edit_stretches, X.g_range, trivial⟩) (BindsD.n4 (fun s _ _ _ _ _ _ _ _ _ _ _ _ ho => ⟨[], BindsTo.of_eq (by kernel_rfl), fun _ => rfl⟩)) rfl rfl q
theorem call.change_rectangle {c1 c2 c3 : V} (q : ∀ r : FrD, SsJ W d (F_change_rectangle r) D_change_rectangle.body [("screen", some (c1)), ("params", some (c2)), ("is_stream", some (c3))] σ (RetQ Q)) : CJ W (d + 1) u_change_rectangle [c1, c2, c3] σ Q :=
  CJ.fn (D := D_change_rectangle) (ps := ["screen", "params", "is_stream"]) (ns := []) (gs := gs_change_rectangle) (ds := []) _ X.ok X.f_change_rectangle (FnOk.of ["edit_pens", "edit_turned"] rfl (by decide +kernel) ⟨X.g_edit_pens, X.g_edit_turned, trivial⟩) (BindsD.n3 (fun s _ _ _ _ _ _ _ _ _ _ _ ho => ⟨[], BindsTo.of_eq (by kernel_rfl), fun _ => rfl⟩)) rfl rfl q
theorem call.reverse_rectangle {c1 c2 c3 : V} (q : ∀ r : FrD, SsJ W d (F_reverse_rectangle r) D_reverse_rectangle.body [("screen", some (c1)), ("params", some (c2)), ("is_stream", some (c3))] σ (RetQ Q)) : CJ W (d + 1) u_reverse_rectangle [c1, c2, c3] σ Q :=
  CJ.fn (D := D_reverse_rectangle) (ps := ["screen", "params", "is_stream"]) (ns := []) (gs := gs_reverse_rectangle) (ds := []) _ X.ok X.f_reverse_rectangle (FnOk.of ["edit_pens", "edit_toggled"] rfl (by decide +kernel) ⟨X.g_edit_pens, X.g_edit_toggled, trivial⟩) (BindsD.n3 (fun s _ _ _ _ _ _ _ _ _ _ _ ho => ⟨[], BindsTo.of_eq (by kernel_rfl), fun _ => rfl⟩)) rfl rfl q
theorem call.Charsets_init {c1 c2 : V} (q : ∀ r : FrD, SsJ W d (F_Charsets_init r) D_Charsets_init.body [("self", some (c1)), ("made", some (c2))] σ (RetQ Q)) : CJc W (d + 1) u_Charsets_init [c1, c2] σ Q :=
  CJc.fn (D := D_Charsets_init) (ps := ["self", "made"]) (ns := []) (gs := gs_Charsets_init) (ds := []) _ X.ok X.f_Charsets_init (FnOk.of [] rfl (by decide +kernel) trivial) (BindsD.n2 (fun s _ _ _ _ _ _ _ _ _ _ ho => let ⟨o, n, e1, e2⟩ := X.t_Charsets_init; ⟨[], BindsTo.of_defaults rfl (ho _ _ e1) e2 rfl rfl, fun _ => rfl⟩)) rfl rfl q
theorem call.Charsets_init1 {c1 : V} (q : ∀ r : FrD, SsJ W d (F_Charsets_init r) D_Charsets_init.body [("self", some (c1)), ("made", some (.none))] σ (RetQ Q)) : CJc W (d + 1) u_Charsets_init [c1] σ Q :=
  CJc.fn (D := D_Charsets_init) (ps := ["self", "made"]) (ns := []) (gs := gs_Charsets_init) (ds := [.none]) _ X.ok X.f_Charsets_init (FnOk.of [] rfl (by decide +kernel) trivial) (BindsD.n1 (fun s _ _ _ _ _ _ _ _ _ ho => let ⟨o, n, e1, e2⟩ := X.t_Charsets_init; ⟨[.none], BindsTo.of_defaults rfl (ho _ _ e1) e2 rfl rfl, fun _ => .cons (by first | exact ⟨_, rfl⟩ | rfl) .nil⟩)) rfl rfl q
theorem call.Charsets_reset {c1 : V} (q : ∀ r : FrD, SsJ W d (F_Charsets_reset r) D_Charsets_reset.body [("self", some (c1))] σ (RetQ Q)) : CJ W (d + 1) u_Charsets_reset [c1] σ Q :=
  CJ.fn (D := D_Charsets_reset) (ps := ["self"]) (ns := []) (gs := gs_Charsets_reset) (ds := []) _ X.ok X.f_Charsets_reset (FnOk.of ["ASCII_SET", "SUPPLEMENT_SET"] rfl (by decide +kernel) ⟨X.g_ASCII_SET, X.g_SUPPLEMENT_SET, trivial⟩) (BindsD.n1 (fun s _ _ _ _ _ _ _ _ _ ho => ⟨[], BindsTo.of_eq (by kernel_rfl), fun _ => rfl⟩)) rfl rfl q
theorem call.Cursor_init {c1 : V} (q : ∀ r : FrD, SsJ W d (F_Cursor_init r) D_Cursor_init.body [("self", some (c1))] σ (RetQ Q)) : CJc W (d + 1) u_Cursor_init [c1] σ Q :=
  CJc.fn (D := D_Cursor_init) (ps := ["self"]) (ns := []) (gs := gs_Cursor_init) (ds := []) _ X.ok X.f_Cursor_init (FnOk.of ["PLAIN"] rfl (by decide +kernel) ⟨X.g_PLAIN, trivial⟩) (BindsD.n1 (fun s _ _ _ _ _ _ _ _ _ ho => ⟨[], BindsTo.of_eq (by kernel_rfl), fun _ => rfl⟩)) rfl rfl q
theorem call.Cursor_go {c1 c2 c3 : V} (q : ∀ r : FrD, SsJ W d (F_Cursor_go r) D_Cursor_go.body [("self", some (c1)), ("row", some (c2)), ("column", some (c3))] σ (RetQ Q)) : CJ W (d + 1) u_Cursor_go [c1, c2, c3] σ Q :=
  CJ.fn (D := D_Cursor_go) (ps := ["self", "row", "column"]) (ns := []) (gs := gs_Cursor_go) (ds := []) _ X.ok X.f_Cursor_go (FnOk.of [] rfl (by decide +kernel) trivial) (BindsD.n3 (fun s _ _ _ _ _ _ _ _ _ _ _ ho => ⟨[], BindsTo.of_eq (by kernel_rfl), fun _ => rfl⟩)) rfl rfl q
theorem call.Cursor_place {c1 : V} (q : ∀ r : FrD, SsJ W d (F_Cursor_place r) D_Cursor_place.body [("self", some (c1))] σ (RetQ Q)) : CJ W (d + 1) u_Cursor_place [c1] σ Q :=
  CJ.fn (D := D_Cursor_place) (ps := ["self"]) (ns := []) (gs := gs_Cursor_place) (ds := []) _ X.ok X.f_Cursor_place (FnOk.of [] rfl (by decide +kernel) trivial) (BindsD.n1 (fun s _ _ _ _ _ _ _ _ _ ho => ⟨[], BindsTo.of_eq (by kernel_rfl), fun _ => rfl⟩)) rfl rfl q
theorem call.Margins_init {c1 c2 c3 : V} (q : ∀ r : FrD, SsJ W d (F_Margins_init r) D_Margins_init.body [("self", some (c1)), ("rows", some (c2)), ("columns", some (c3))] σ (RetQ Q)) : CJc W (d + 1) u_Margins_init [c1, c2, c3] σ Q :=
  CJc.fn (D := D_Margins_init) (ps := ["self", "rows", "columns"]) (ns := []) (gs := gs_Margins_init) (ds := []) _ X.ok X.f_Margins_init (FnOk.of [] rfl (by decide +kernel) trivial) (BindsD.n3 (fun s _ _ _ _ _ _ _ _ _ _ _ ho => ⟨[], BindsTo.of_eq (by kernel_rfl), fun _ => rfl⟩)) rfl rfl q
theorem call.Margins_set_rows {c1 c2 c3 : V} (q : ∀ r : FrD, SsJ W d (F_Margins_set_rows r) D_Margins_set_rows.body [("self", some (c1)), ("top", some (c2)), ("bottom", some (c3)), ("is_right", none)] σ (RetQ Q)) : CJ W (d + 1) u_Margins_set_rows [c1, c2, c3] σ Q :=
  CJ.fn (D := D_Margins_set_rows) (ps := ["self", "top", "bottom"]) (ns := ["is_right"]) (gs := gs_Margins_set_rows) (ds := []) _ X.ok X.f_Margins_set_rows (FnOk.of [] rfl (by decide +kernel) trivial) (BindsD.n3 (fun s _ _ _ _ _ _ _ _ _ _ _ ho => ⟨[], BindsTo.of_eq (by kernel_rfl), fun _ => rfl⟩)) rfl rfl q
theorem call.Margins_set_columns {c1 c2 c3 : V} (q : ∀ r : FrD, SsJ W d (F_Margins_set_columns r) D_Margins_set_columns.body [("self", some (c1)), ("left", some (c2)), ("right", some (c3)), ("is_right", none)] σ (RetQ Q)) : CJ W (d + 1) u_Margins_set_columns [c1, c2, c3] σ Q :=
  CJ.fn (D := D_Margins_set_columns) (ps := ["self", "left", "right"]) (ns := ["is_right"]) (gs := gs_Margins_set_columns) (ds := []) _ X.ok X.f_Margins_set_columns (FnOk.of [] rfl (by decide +kernel) trivial) (BindsD.n3 (fun s _ _ _ _ _ _ _ _ _ _ _ ho => ⟨[], BindsTo.of_eq (by kernel_rfl), fun _ => rfl⟩)) rfl rfl q
theorem call.Margins_area {c1 : V} (q : ∀ r : FrD, SsJ W d (F_Margins_area r) D_Margins_area.body [("self", some (c1))] σ (RetQ Q)) : CJ W (d + 1) u_Margins_area [c1] σ Q :=
  CJ.fn (D := D_Margins_area) (ps := ["self"]) (ns := []) (gs := gs_Margins_area) (ds := []) _ X.ok X.f_Margins_area (FnOk.of [] rfl (by decide +kernel) trivial) (BindsD.n1 (fun s _ _ _ _ _ _ _ _ _ ho => ⟨[], BindsTo.of_eq (by kernel_rfl), fun _ => rfl⟩)) rfl rfl q
theorem call.Tabs_init {c1 c2 : V} (q : ∀ r : FrD, SsJ W d (F_Tabs_init r) D_Tabs_init.body [("self", some (c1)), ("columns", some (c2))] σ (RetQ Q)) : CJc W (d + 1) u_Tabs_init [c1, c2] σ Q :=
  CJc.fn (D := D_Tabs_init) (ps := ["self", "columns"]) (ns := []) (gs := gs_Tabs_init) (ds := []) _ X.ok X.f_Tabs_init (FnOk.of [] rfl (by decide +kernel) trivial) (BindsD.n2 (fun s _ _ _ _ _ _ _ _ _ _ ho => ⟨[], BindsTo.of_eq (by kernel_rfl), fun _ => rfl⟩)) rfl rfl q
theorem call.Tabs_put_eighths {c1 c2 : V} (q : ∀ r : FrD, SsJ W d (F_Tabs_put_eighths r) D_Tabs_put_eighths.body [("self", some (c1)), ("begin", some (c2)), ("column", none)] σ (RetQ Q)) : CJ W (d + 1) u_Tabs_put_eighths [c1, c2] σ Q :=
  CJ.fn (D := D_Tabs_put_eighths) (ps := ["self", "begin"]) (ns := ["column"]) (gs := gs_Tabs_put_eighths) (ds := []) _ X.ok X.f_Tabs_put_eighths (FnOk.of ["range", "TAB_WIDTH"] rfl (by decide +kernel) ⟨X.g_range, X.g_TAB_WIDTH, trivial⟩) (BindsD.n2 (fun s _ _ _ _ _ _ _ _ _ _ ho => ⟨[], BindsTo.of_eq (by kernel_rfl), fun _ => rfl⟩)) rfl rfl q
theorem call.line_blanks {c1 c2 : V} (q : ∀ r : FrD, SsJ W d (F_line_blanks r) D_line_blanks.body [("many", some (c1)), ("pen", some (c2))] σ (RetQ Q)) : CJ W (d + 1) u_line_blanks [c1, c2] σ Q :=
  CJ.fn (D := D_line_blanks) (ps := ["many", "pen"]) (ns := []) (gs := gs_line_blanks) (ds := []) _ X.ok X.f_line_blanks (FnOk.of ["blank_cell", "max"] rfl (by decide +kernel) ⟨X.g_blank_cell, X.g_max, trivial⟩) (BindsD.n2 (fun s _ _ _ _ _ _ _ _ _ _ ho => ⟨[], BindsTo.of_eq (by kernel_rfl), fun _ => rfl⟩)) rfl rfl q
theorem call.right_half {c1 : V} (q : ∀ r : FrD, SsJ W d (F_right_half r) D_right_half.body [("cell", some (c1))] σ (RetQ Q)) : CJ W (d + 1) u_right_half [c1] σ Q :=
  CJ.fn (D := D_right_half) (ps := ["cell"]) (ns := []) (gs := gs_right_half) (ds := []) _ X.ok X.f_right_half (FnOk.of [] rfl (by decide +kernel) trivial) (BindsD.n1 (fun s _ _ _ _ _ _ _ _ _ ho => ⟨[], BindsTo.of_eq (by kernel_rfl), fun _ => rfl⟩)) rfl rfl q
theorem call.line_part {c1 c2 : V} (q : ∀ r : FrD, SsJ W d (F_line_part r) D_line_part.body [("cells", some (c1)), ("at", some (c2))] σ (RetQ Q)) : CJ W (d + 1) u_line_part [c1, c2] σ Q :=
  CJ.fn (D := D_line_part) (ps := ["cells", "at"]) (ns := []) (gs := gs_line_part) (ds := []) _ X.ok X.f_line_part (FnOk.of ["len", "blank_cell"] rfl (by decide +kernel) ⟨X.g_len, X.g_blank_cell, trivial⟩) (BindsD.n2 (fun s _ _ _ _ _ _ _ _ _ _ ho => ⟨[], BindsTo.of_eq (by kernel_rfl), fun _ => rfl⟩)) rfl rfl q
theorem call.Line_init {c1 c2 c3 : V} (q : ∀ r : FrD, SsJ W d (F_Line_init r) D_Line_init.body [("self", some (c1)), ("columns", some (c2)), ("pen", some (c3))] σ (RetQ Q)) : CJc W (d + 1) u_Line_init [c1, c2, c3] σ Q :=
  CJc.fn (D := D_Line_init) (ps := ["self", "columns", "pen"]) (ns := []) (gs := gs_Line_init) (ds := []) _ X.ok X.f_Line_init (FnOk.of ["line_blanks", "LINE_SIZES"] rfl (by decide +kernel) ⟨X.g_line_blanks, X.g_LINE_SIZES, trivial⟩) (BindsD.n3 (fun s _ _ _ _ _ _ _ _ _ _ _ ho => ⟨[], BindsTo.of_eq (by kernel_rfl), fun _ => rfl⟩)) rfl rfl q
theorem call.Line_part {c1 c2 : V} (q : ∀ r : FrD, SsJ W d (F_Line_part r) D_Line_part.body [("self", some (c1)), ("at", some (c2))] σ (RetQ Q)) : CJ W (d + 1) u_Line_part [c1, c2] σ Q :=
  CJ.fn (D := D_Line_part) (ps := ["self", "at"]) (ns := []) (gs := gs_Line_part) (ds := []) _ X.ok X.f_Line_part (FnOk.of ["line_part"] rfl (by decide +kernel) ⟨X.g_line_part, trivial⟩) (BindsD.n2 (fun s _ _ _ _ _ _ _ _ _ _ ho => ⟨[], BindsTo.of_eq (by kernel_rfl), fun _ => rfl⟩)) rfl rfl q
theorem call.Line_put {c1 c2 c3 : V} (q : ∀ r : FrD, SsJ W d (F_Line_put r) D_Line_put.body [("self", some (c1)), ("column", some (c2)), ("cell", some (c3))] σ (RetQ Q)) : CJ W (d + 1) u_Line_put [c1, c2, c3] σ Q :=
  CJ.fn (D := D_Line_put) (ps := ["self", "column", "cell"]) (ns := []) (gs := gs_Line_put) (ds := []) _ X.ok X.f_Line_put (FnOk.of ["len", "blank_cell", "right_half"] rfl (by decide +kernel) ⟨X.g_len, X.g_blank_cell, X.g_right_half, trivial⟩) (BindsD.n3 (fun s _ _ _ _ _ _ _ _ _ _ _ ho => ⟨[], BindsTo.of_eq (by kernel_rfl), fun _ => rfl⟩)) rfl rfl q
theorem call.Line_erase {c1 c2 c3 c4 c5 : V} (q : ∀ r : FrD, SsJ W d (F_Line_erase r) D_Line_erase.body [("self", some (c1)), ("left", some (c2)), ("right", some (c3)), ("pen", some (c4)), ("is_selective", some (c5)), ("border", none), ("column", none)] σ (RetQ Q)) : CJ W (d + 1) u_Line_erase [c1, c2, c3, c4, c5] σ Q :=
  CJ.fn (D := D_Line_erase) (ps := ["self", "left", "right", "pen", "is_selective"]) (ns := ["border", "column"]) (gs := gs_Line_erase) (ds := []) _ X.ok X.f_Line_erase (FnOk.of ["max", "min", "len", "range", "blank_cell"] rfl (by decide +kernel) ⟨X.g_max, X.g_min, X.g_len, X.g_range, X.g_blank_cell, trivial⟩) (BindsD.n5 (fun s _ _ _ _ _ _ _ _ _ _ _ _ _ ho => let ⟨o, n, e1, e2⟩ := X.t_Line_erase; ⟨[], BindsTo.of_defaults rfl (ho _ _ e1) e2 rfl rfl, fun _ => rfl⟩)) rfl rfl q
theorem call.Line_erase1 {c1 c2 c3 c4 : V} (q : ∀ r : FrD, SsJ W d (F_Line_erase r) D_Line_erase.body [("self", some (c1)), ("left", some (c2)), ("right", some (c3)), ("pen", some (c4)), ("is_selective", some (.bool false)), ("border", none), ("column", none)] σ (RetQ Q)) : CJ W (d + 1) u_Line_erase [c1, c2, c3, c4] σ Q :=
  CJ.fn (D := D_Line_erase) (ps := ["self", "left", "right", "pen", "is_selective"]) (ns := ["border", "column"]) (gs := gs_Line_erase) (ds := [.bool false]) _ X.ok X.f_Line_erase (FnOk.of ["max", "min", "len", "range", "blank_cell"] rfl (by decide +kernel) ⟨X.g_max, X.g_min, X.g_len, X.g_range, X.g_blank_cell, trivial⟩) (BindsD.n4 (fun s _ _ _ _ _ _ _ _ _ _ _ _ ho => let ⟨o, n, e1, e2⟩ := X.t_Line_erase; ⟨[.bool false], BindsTo.of_defaults rfl (ho _ _ e1) e2 rfl rfl, fun _ => .cons (by first | exact ⟨_, rfl⟩ | rfl) .nil⟩)) rfl rfl q
theorem call.Grid_init {c1 c2 c3 : V} (q : ∀ r : FrD, SsJ W d (F_Grid_init r) D_Grid_init.body [("self", some (c1)), ("rows", some (c2)), ("columns", some (c3))] σ (RetQ Q)) : CJc W (d + 1) u_Grid_init [c1, c2, c3] σ Q :=
  CJc.fn (D := D_Grid_init) (ps := ["self", "rows", "columns"]) (ns := []) (gs := gs_Grid_init) (ds := []) _ X.ok X.f_Grid_init (FnOk.of ["range"] rfl (by decide +kernel) ⟨X.g_range, trivial⟩) (BindsD.n3 (fun s _ _ _ _ _ _ _ _ _ _ _ ho => ⟨[], BindsTo.of_eq (by kernel_rfl), fun _ => rfl⟩)) rfl rfl q
theorem call.Grid_line {c1 c2 : V} (q : ∀ r : FrD, SsJ W d (F_Grid_line r) D_Grid_line.body [("self", some (c1)), ("row", some (c2))] σ (RetQ Q)) : CJ W (d + 1) u_Grid_line [c1, c2] σ Q :=
  CJ.fn (D := D_Grid_line) (ps := ["self", "row"]) (ns := []) (gs := gs_Grid_line) (ds := []) _ X.ok X.f_Grid_line (FnOk.of [] rfl (by decide +kernel) trivial) (BindsD.n2 (fun s _ _ _ _ _ _ _ _ _ _ ho => ⟨[], BindsTo.of_eq (by kernel_rfl), fun _ => rfl⟩)) rfl rfl q
theorem call.Grid_cells_of {c1 c2 c3 c4 : V} (q : ∀ r : FrD, SsJ W d (F_Grid_cells_of r) D_Grid_cells_of.body [("self", some (c1)), ("row", some (c2)), ("left", some (c3)), ("right", some (c4))] σ (RetQ Q)) : CJ W (d + 1) u_Grid_cells_of [c1, c2, c3, c4] σ Q :=
  CJ.fn (D := D_Grid_cells_of) (ps := ["self", "row", "left", "right"]) (ns := []) (gs := gs_Grid_cells_of) (ds := []) _ X.ok X.f_Grid_cells_of (FnOk.of ["grid_mended"] rfl (by decide +kernel) ⟨X.g_grid_mended, trivial⟩) (BindsD.n4 (fun s _ _ _ _ _ _ _ _ _ _ _ _ ho => ⟨[], BindsTo.of_eq (by kernel_rfl), fun _ => rfl⟩)) rfl rfl q
theorem call.Grid_put_cells {c1 c2 c3 c4 : V} (q : ∀ r : FrD, SsJ W d (F_Grid_put_cells r) D_Grid_put_cells.body [("self", some (c1)), ("row", some (c2)), ("column", some (c3)), ("cells", some (c4)), ("line", none), ("end", none), ("step", none), ("cell", none)] σ (RetQ Q)) : CJ W (d + 1) u_Grid_put_cells [c1, c2, c3, c4] σ Q :=
  CJ.fn (D := D_Grid_put_cells) (ps := ["self", "row", "column", "cells"]) (ns := ["line", "end", "step", "cell"]) (gs := gs_Grid_put_cells) (ds := []) _ X.ok X.f_Grid_put_cells (FnOk.of ["len", "grid_cut", "enumerate"] rfl (by decide +kernel) ⟨X.g_len, X.g_grid_cut, X.g_enumerate, trivial⟩) (BindsD.n4 (fun s _ _ _ _ _ _ _ _ _ _ _ _ ho => ⟨[], BindsTo.of_eq (by kernel_rfl), fun _ => rfl⟩)) rfl rfl q
theorem call.Grid_erase_area {c1 c2 c3 c4 : V} (q : ∀ r : FrD, SsJ W d (F_Grid_erase_area r) D_Grid_erase_area.body [("self", some (c1)), ("area", some (c2)), ("pen", some (c3)), ("is_selective", some (c4)), ("top", none), ("left", none), ("bottom", none), ("right", none), ("row", none)] σ (RetQ Q)) : CJ W (d + 1) u_Grid_erase_area [c1, c2, c3, c4] σ Q :=
  CJ.fn (D := D_Grid_erase_area) (ps := ["self", "area", "pen", "is_selective"]) (ns := ["top", "left", "bottom", "right", "row"]) (gs := gs_Grid_erase_area) (ds := []) _ X.ok X.f_Grid_erase_area (FnOk.of ["range"] rfl (by decide +kernel) ⟨X.g_range, trivial⟩) (BindsD.n4 (fun s _ _ _ _ _ _ _ _ _ _ _ _ ho => let ⟨o, n, e1, e2⟩ := X.t_Grid_erase_area; ⟨[], BindsTo.of_defaults rfl (ho _ _ e1) e2 rfl rfl, fun _ => rfl⟩)) rfl rfl q
theorem call.Grid_erase_area1 {c1 c2 c3 : V} (q : ∀ r : FrD, SsJ W d (F_Grid_erase_area r) D_Grid_erase_area.body [("self", some (c1)), ("area", some (c2)), ("pen", some (c3)), ("is_selective", some (.bool false)), ("top", none), ("left", none), ("bottom", none), ("right", none), ("row", none)] σ (RetQ Q)) : CJ W (d + 1) u_Grid_erase_area [c1, c2, c3] σ Q :=
  CJ.fn (D := D_Grid_erase_area) (ps := ["self", "area", "pen", "is_selective"]) (ns := ["top", "left", "bottom", "right", "row"]) (gs := gs_Grid_erase_area) (ds := [.bool false]) _ X.ok X.f_Grid_erase_area (FnOk.of ["range"] rfl (by decide +kernel) ⟨X.g_range, trivial⟩) (BindsD.n3 (fun s _ _ _ _ _ _ _ _ _ _ _ ho => let ⟨o, n, e1, e2⟩ := X.t_Grid_erase_area; ⟨[.bool false], BindsTo.of_defaults rfl (ho _ _ e1) e2 rfl rfl, fun _ => .cons (by first | exact ⟨_, rfl⟩ | rfl) .nil⟩)) rfl rfl q
theorem call.Grid_fill_area {c1 c2 c3 : V} (q : ∀ r : FrD, SsJ W d (F_Grid_fill_area r) D_Grid_fill_area.body [("self", some (c1)), ("area", some (c2)), ("cell", some (c3)), ("top", none), ("left", none), ("bottom", none), ("right", none), ("size", none), ("told", none), ("row", none)] σ (RetQ Q)) : CJ W (d + 1) u_Grid_fill_area [c1, c2, c3] σ Q :=
  CJ.fn (D := D_Grid_fill_area) (ps := ["self", "area", "cell"]) (ns := ["top", "left", "bottom", "right", "size", "told", "row"]) (gs := gs_Grid_fill_area) (ds := []) _ X.ok X.f_Grid_fill_area (FnOk.of ["grid_cut", "range"] rfl (by decide +kernel) ⟨X.g_grid_cut, X.g_range, trivial⟩) (BindsD.n3 (fun s _ _ _ _ _ _ _ _ _ _ _ ho => ⟨[], BindsTo.of_eq (by kernel_rfl), fun _ => rfl⟩)) rfl rfl q
theorem call.Grid_copy_area {c1 c2 c3 c4 : V} (q : ∀ r : FrD, SsJ W d (F_Grid_copy_area r) D_Grid_copy_area.body [("self", some (c1)), ("area", some (c2)), ("row", some (c3)), ("column", some (c4)), ("top", none), ("left", none), ("bottom", none), ("right", none), ("told", none), ("room", none), ("step", none), ("cells", none)] σ (RetQ Q)) : CJ W (d + 1) u_Grid_copy_area [c1, c2, c3, c4] σ Q :=
  CJ.fn (D := D_Grid_copy_area) (ps := ["self", "area", "row", "column"]) (ns := ["top", "left", "bottom", "right", "told", "room", "step", "cells"]) (gs := gs_Grid_copy_area) (ds := []) _ X.ok X.f_Grid_copy_area (FnOk.of ["range", "enumerate", "grid_mended", "len"] rfl (by decide +kernel) ⟨X.g_range, X.g_enumerate, X.g_grid_mended, X.g_len, trivial⟩) (BindsD.n4 (fun s _ _ _ _ _ _ _ _ _ _ _ _ ho => ⟨[], BindsTo.of_eq (by kernel_rfl), fun _ => rfl⟩)) rfl rfl q
theorem call.grid_cut {c1 : V} (q : ∀ r : FrD, SsJ W d (F_grid_cut r) D_grid_cut.body [("cell", some (c1))] σ (RetQ Q)) : CJ W (d + 1) u_grid_cut [c1] σ Q :=
  CJ.fn (D := D_grid_cut) (ps := ["cell"]) (ns := []) (gs := gs_grid_cut) (ds := []) _ X.ok X.f_grid_cut (FnOk.of ["blank_cell"] rfl (by decide +kernel) ⟨X.g_blank_cell, trivial⟩) (BindsD.n1 (fun s _ _ _ _ _ _ _ _ _ ho => ⟨[], BindsTo.of_eq (by kernel_rfl), fun _ => rfl⟩)) rfl rfl q
theorem call.grid_mended {c1 : V} (q : ∀ r : FrD, SsJ W d (F_grid_mended r) D_grid_mended.body [("cells", some (c1)), ("found", none)] σ (RetQ Q)) : CJ W (d + 1) u_grid_mended [c1] σ Q :=
  CJ.fn (D := D_grid_mended) (ps := ["cells"]) (ns := ["found"]) (gs := gs_grid_mended) (ds := []) _ X.ok X.f_grid_mended (FnOk.of ["list", "grid_cut"] rfl (by decide +kernel) ⟨X.g_list, X.g_grid_cut, trivial⟩) (BindsD.n1 (fun s _ _ _ _ _ _ _ _ _ ho => ⟨[], BindsTo.of_eq (by kernel_rfl), fun _ => rfl⟩)) rfl rfl q
theorem call.Screen_init {c1 c2 c3 c4 c5 c6 : V} (q : ∀ r : FrD, SsJ W d (F_Screen_init r) D_Screen_init.body [("self", some (c1)), ("rows", some (c2)), ("columns", some (c3)), ("modes", some (c4)), ("widths", some (c5)), ("history", some (c6))] σ (RetQ Q)) : CJc W (d + 1) u_Screen_init [c1, c2, c3, c4, c5, c6] σ Q :=
  CJc.fn (D := D_Screen_init) (ps := ["self", "rows", "columns", "modes", "widths", "history"]) (ns := []) (gs := gs_Screen_init) (ds := []) _ X.ok X.f_Screen_init (FnOk.of ["Grid", "Cursor", "Margins", "Tabs", "Charsets"] rfl (by decide +kernel) ⟨X.g_Grid, X.g_Cursor, X.g_Margins, X.g_Tabs, X.g_Charsets, trivial⟩) (BindsD.n6 (fun s _ _ _ _ _ _ _ _ _ _ _ _ _ _ ho => let ⟨o, n, e1, e2⟩ := X.t_Screen_init; ⟨[], BindsTo.of_defaults rfl (ho _ _ e1) e2 rfl rfl, fun _ => rfl⟩)) rfl rfl q
theorem call.Screen_init1 {c1 c2 c3 c4 c5 : V} (q : ∀ r : FrD, SsJ W d (F_Screen_init r) D_Screen_init.body [("self", some (c1)), ("rows", some (c2)), ("columns", some (c3)), ("modes", some (c4)), ("widths", some (c5)), ("history", some (.none))] σ (RetQ Q)) : CJc W (d + 1) u_Screen_init [c1, c2, c3, c4, c5] σ Q :=
  CJc.fn (D := D_Screen_init) (ps := ["self", "rows", "columns", "modes", "widths", "history"]) (ns := []) (gs := gs_Screen_init) (ds := [.none]) _ X.ok X.f_Screen_init (FnOk.of ["Grid", "Cursor", "Margins", "Tabs", "Charsets"] rfl (by decide +kernel) ⟨X.g_Grid, X.g_Cursor, X.g_Margins, X.g_Tabs, X.g_Charsets, trivial⟩) (BindsD.n5 (fun s _ _ _ _ _ _ _ _ _ _ _ _ _ ho => let ⟨o, n, e1, e2⟩ := X.t_Screen_init; ⟨[.none], BindsTo.of_defaults rfl (ho _ _ e1) e2 rfl rfl, fun _ => .cons (by first | exact ⟨_, rfl⟩ | rfl) .nil⟩)) rfl rfl q
theorem call.law_draw {c1 c2 c3 : V} (q : ∀ r : FrD, SsJ W d (F_law_draw r) D_law_draw.body [("cells", some (c1)), ("hand", some (c2)), ("below", some (c3))] σ (RetQ Q)) : CJ W (d + 1) u_law_draw [c1, c2, c3] σ Q :=
  CJ.fn (D := D_law_draw) (ps := ["cells", "hand", "below"]) (ns := []) (gs := gs_law_draw) (ds := []) _ X.ok X.f_law_draw (FnOk.of ["len"] rfl (by decide +kernel) ⟨X.g_len, trivial⟩) (BindsD.n3 (fun s _ _ _ _ _ _ _ _ _ _ _ ho => ⟨[], BindsTo.of_eq (by kernel_rfl), fun _ => rfl⟩)) rfl rfl q
theorem call.law_empty {c1 : V} (q : ∀ r : FrD, SsJ W d (F_law_empty r) D_law_empty.body [("pen", some (c1))] σ (RetQ Q)) : CJ W (d + 1) u_law_empty [c1] σ Q :=
  CJ.fn (D := D_law_empty) (ps := ["pen"]) (ns := []) (gs := gs_law_empty) (ds := []) _ X.ok X.f_law_empty (FnOk.of [] rfl (by decide +kernel) trivial) (BindsD.n1 (fun s _ _ _ _ _ _ _ _ _ ho => ⟨[], BindsTo.of_eq (by kernel_rfl), fun _ => rfl⟩)) rfl rfl q
theorem call.law_pen {c1 c2 : V} (q : ∀ r : FrD, SsJ W d (F_law_pen r) D_law_pen.body [("cells", some (c1)), ("hand", some (c2)), ("number", none), ("kind", none)] σ (RetQ Q)) : CJ W (d + 1) u_law_pen [c1, c2] σ Q :=
  CJ.fn (D := D_law_pen) (ps := ["cells", "hand"]) (ns := ["number", "kind"]) (gs := gs_law_pen) (ds := []) _ X.ok X.f_law_pen (FnOk.of ["_law_draw"] rfl (by decide +kernel) ⟨X.g_law_draw, trivial⟩) (BindsD.n2 (fun s _ _ _ _ _ _ _ _ _ _ ho => ⟨[], BindsTo.of_eq (by kernel_rfl), fun _ => rfl⟩)) rfl rfl q
theorem call.law_cut {c1 c2 : V} (q : ∀ r : FrD, SsJ W d (F_law_cut r) D_law_cut.body [("line", some (c1)), ("at", some (c2))] σ (RetQ Q)) : CJ W (d + 1) u_law_cut [c1, c2] σ Q :=
  CJ.fn (D := D_law_cut) (ps := ["line", "at"]) (ns := []) (gs := gs_law_cut) (ds := []) _ X.ok X.f_law_cut (FnOk.of ["len", "_law_empty", "list"] rfl (by decide +kernel) ⟨X.g_len, X.g_law_empty, X.g_list, trivial⟩) (BindsD.n2 (fun s _ _ _ _ _ _ _ _ _ _ ho => ⟨[], BindsTo.of_eq (by kernel_rfl), fun _ => rfl⟩)) rfl rfl q
theorem call.law_over {c1 c2 c3 : V} (q : ∀ r : FrD, SsJ W d (F_law_over r) D_law_over.body [("line", some (c1)), ("column", some (c2)), ("part", some (c3))] σ (RetQ Q)) : CJ W (d + 1) u_law_over [c1, c2, c3] σ Q :=
  CJ.fn (D := D_law_over) (ps := ["line", "column", "part"]) (ns := []) (gs := gs_law_over) (ds := []) _ X.ok X.f_law_over (FnOk.of ["_law_cut", "len"] rfl (by decide +kernel) ⟨X.g_law_cut, X.g_len, trivial⟩) (BindsD.n3 (fun s _ _ _ _ _ _ _ _ _ _ _ ho => ⟨[], BindsTo.of_eq (by kernel_rfl), fun _ => rfl⟩)) rfl rfl q
theorem call.law_put {c1 c2 c3 c4 : V} (q : ∀ r : FrD, SsJ W d (F_law_put r) D_law_put.body [("cells", some (c1)), ("hand", some (c2)), ("screen", some (c3)), ("shown", some (c4)), ("row", none), ("column", none), ("way", none), ("pen", none), ("is_guarded", none), ("width", none), ("codes", none), ("part", none)] σ (RetQ Q)) : CJ W (d + 1) u_law_put [c1, c2, c3, c4] σ Q :=
  CJ.fn (D := D_law_put) (ps := ["cells", "hand", "screen", "shown"]) (ns := ["row", "column", "way", "pen", "is_guarded", "width", "codes", "part"]) (gs := gs_law_put) (ds := []) _ X.ok X.f_law_put (FnOk.of ["_law_draw", "_law_pen", "_law_wide", "_law_over"] rfl (by decide +kernel) ⟨X.g_law_draw, X.g_law_pen, X.g_law_wide, X.g_law_over, trivial⟩) (BindsD.n4 (fun s _ _ _ _ _ _ _ _ _ _ _ _ ho => ⟨[], BindsTo.of_eq (by kernel_rfl), fun _ => rfl⟩)) rfl rfl q
theorem call.law_limits {c1 c2 c3 : V} (q : ∀ r : FrD, SsJ W d (F_law_limits r) D_law_limits.body [("cells", some (c1)), ("hand", some (c2)), ("screen", some (c3)), ("found", none), ("low", none), ("high", none), ("row", none), ("column", none)] σ (RetQ Q)) : CJ W (d + 1) u_law_limits [c1, c2, c3] σ Q :=
  CJ.fn (D := D_law_limits) (ps := ["cells", "hand", "screen"]) (ns := ["found", "low", "high", "row", "column"]) (gs := gs_law_limits) (ds := []) _ X.ok X.f_law_limits (FnOk.of ["_law_rows", "_law_wide", "_law_draw", "_law_pen", "tuple"] rfl (by decide +kernel) ⟨X.g_law_rows, X.g_law_wide, X.g_law_draw, X.g_law_pen, X.g_tuple, trivial⟩) (BindsD.n3 (fun s _ _ _ _ _ _ _ _ _ _ _ ho => ⟨[], BindsTo.of_eq (by kernel_rfl), fun _ => rfl⟩)) rfl rfl q
theorem call.law_values {c1 c2 c3 : V} (q : ∀ r : FrD, SsJ W d (F_law_values r) D_law_values.body [("cells", some (c1)), ("hand", some (c2)), ("many", some (c3)), ("rows", none)] σ (RetQ Q)) : CJ W (d + 1) u_law_values [c1, c2, c3] σ Q :=
  CJ.fn (D := D_law_values) (ps := ["cells", "hand", "many"]) (ns := ["rows"]) (gs := gs_law_values) (ds := []) _ X.ok X.f_law_values (FnOk.of ["range"] rfl (by decide +kernel) ⟨X.g_range, trivial⟩) (BindsD.n3 (fun s _ _ _ _ _ _ _ _ _ _ _ ho => ⟨[], BindsTo.of_eq (by kernel_rfl), fun _ => rfl⟩)) rfl rfl q
theorem call.law_place {c1 c2 c3 c4 : V} (q : ∀ r : FrD, SsJ W d (F_law_place r) D_law_place.body [("values", some (c1)), ("k", some (c2)), ("limits", some (c3)), ("side", some (c4)), ("value", none)] σ (RetQ Q)) : CJ W (d + 1) u_law_place [c1, c2, c3, c4] σ Q :=
  CJ.fn (D := D_law_place) (ps := ["values", "k", "limits", "side"]) (ns := ["value"]) (gs := gs_law_place) (ds := []) _ X.ok X.f_law_place (FnOk.of ["len"] rfl (by decide +kernel) ⟨X.g_len, trivial⟩) (BindsD.n4 (fun s _ _ _ _ _ _ _ _ _ _ _ _ ho => ⟨[], BindsTo.of_eq (by kernel_rfl), fun _ => rfl⟩)) rfl rfl q
theorem call.law_area {c1 c2 : V} (q : ∀ r : FrD, SsJ W d (F_law_area r) D_law_area.body [("values", some (c1)), ("limits", some (c2)), ("top", none), ("left", none), ("found", none), ("k", none), ("value", none), ("told", none)] σ (RetQ Q)) : CJ W (d + 1) u_law_area [c1, c2] σ Q :=
  CJ.fn (D := D_law_area) (ps := ["values", "limits"]) (ns := ["top", "left", "found", "k", "value", "told"]) (gs := gs_law_area) (ds := []) _ X.ok X.f_law_area (FnOk.of ["_law_place", "len", "min", "tuple"] rfl (by decide +kernel) ⟨X.g_law_place, X.g_len, X.g_min, X.g_tuple, trivial⟩) (BindsD.n2 (fun s _ _ _ _ _ _ _ _ _ _ ho => ⟨[], BindsTo.of_eq (by kernel_rfl), fun _ => rfl⟩)) rfl rfl q
theorem call.law_filled {c1 c2 c3 : V} (q : ∀ r : FrD, SsJ W d (F_law_filled r) D_law_filled.body [("shown", some (c1)), ("area", some (c2)), ("cell", some (c3)), ("found", none), ("row", none)] σ (RetQ Q)) : CJ W (d + 1) u_law_filled [c1, c2, c3] σ Q :=
  CJ.fn (D := D_law_filled) (ps := ["shown", "area", "cell"]) (ns := ["found", "row"]) (gs := gs_law_filled) (ds := []) _ X.ok X.f_law_filled (FnOk.of ["range", "_law_over"] rfl (by decide +kernel) ⟨X.g_range, X.g_law_over, trivial⟩) (BindsD.n3 (fun s _ _ _ _ _ _ _ _ _ _ _ ho => ⟨[], BindsTo.of_eq (by kernel_rfl), fun _ => rfl⟩)) rfl rfl q
theorem call.law_spared {c1 c2 c3 : V} (q : ∀ r : FrD, SsJ W d (F_law_spared r) D_law_spared.body [("shown", some (c1)), ("area", some (c2)), ("cell", some (c3)), ("found", none), ("row", none), ("line", none), ("column", none)] σ (RetQ Q)) : CJ W (d + 1) u_law_spared [c1, c2, c3] σ Q :=
  CJ.fn (D := D_law_spared) (ps := ["shown", "area", "cell"]) (ns := ["found", "row", "line", "column"]) (gs := gs_law_spared) (ds := []) _ X.ok X.f_law_spared (FnOk.of ["range", "_law_empty"] rfl (by decide +kernel) ⟨X.g_range, X.g_law_empty, trivial⟩) (BindsD.n3 (fun s _ _ _ _ _ _ _ _ _ _ _ ho => ⟨[], BindsTo.of_eq (by kernel_rfl), fun _ => rfl⟩)) rfl rfl q
theorem call.law_copied {c1 c2 c3 c4 : V} (q : ∀ r : FrD, SsJ W d (F_law_copied r) D_law_copied.body [("shown", some (c1)), ("area", some (c2)), ("values", some (c3)), ("limits", some (c4)), ("row", none), ("column", none), ("found", none), ("k", none), ("many", none), ("part", none)] σ (RetQ Q)) : CJ W (d + 1) u_law_copied [c1, c2, c3, c4] σ Q :=
  CJ.fn (D := D_law_copied) (ps := ["shown", "area", "values", "limits"]) (ns := ["row", "column", "found", "k", "many", "part"]) (gs := gs_law_copied) (ds := []) _ X.ok X.f_law_copied (FnOk.of ["_law_place", "range", "min", "_law_cut", "_law_over"] rfl (by decide +kernel) ⟨X.g_law_place, X.g_range, X.g_min, X.g_law_cut, X.g_law_over, trivial⟩) (BindsD.n4 (fun s _ _ _ _ _ _ _ _ _ _ _ _ ho => ⟨[], BindsTo.of_eq (by kernel_rfl), fun _ => rfl⟩)) rfl rfl q
theorem call.law_turned {c1 c2 c3 : V} (q : ∀ r : FrD, SsJ W d (F_law_turned r) D_law_turned.body [("flags", some (c1)), ("numbers", some (c2)), ("is_reversed", some (c3)), ("bits", none), ("number", none), ("one", none), ("value", none), ("kind", none)] σ (RetQ Q)) : CJ W (d + 1) u_law_turned [c1, c2, c3] σ Q :=
  CJ.fn (D := D_law_turned) (ps := ["flags", "numbers", "is_reversed"]) (ns := ["bits", "number", "one", "value", "kind"]) (gs := gs_law_turned) (ds := []) _ X.ok X.f_law_turned (FnOk.of [] rfl (by decide +kernel) trivial) (BindsD.n3 (fun s _ _ _ _ _ _ _ _ _ _ _ ho => ⟨[], BindsTo.of_eq (by kernel_rfl), fun _ => rfl⟩)) rfl rfl q
theorem call.law_repenned {c1 c2 c3 c4 c5 c6 : V} (q : ∀ r : FrD, SsJ W d (F_law_repenned r) D_law_repenned.body [("shown", some (c1)), ("area", some (c2)), ("limits", some (c3)), ("is_stream", some (c4)), ("numbers", some (c5)), ("is_reversed", some (c6)), ("found", none), ("top", none), ("left", none), ("bottom", none), ("right", none), ("row", none), ("first", none), ("last", none), ("column", none), ("codes", none), ("width", none), ("pen", none), ("is_guarded", none)] σ (RetQ Q)) : CJ W (d + 1) u_law_repenned [c1, c2, c3, c4, c5, c6] σ Q :=
  CJ.fn (D := D_law_repenned) (ps := ["shown", "area", "limits", "is_stream", "numbers", "is_reversed"]) (ns := ["found", "top", "left", "bottom", "right", "row", "first", "last", "column", "codes", "width", "pen", "is_guarded"]) (gs := gs_law_repenned) (ds := []) _ X.ok X.f_law_repenned (FnOk.of ["range", "_law_turned"] rfl (by decide +kernel) ⟨X.g_range, X.g_law_turned, trivial⟩) (BindsD.n6 (fun s _ _ _ _ _ _ _ _ _ _ _ _ _ _ ho => ⟨[], BindsTo.of_eq (by kernel_rfl), fun _ => rfl⟩)) rfl rfl q
theorem call.law_deed {c1 c2 c3 c4 c5 : V} (q : ∀ r : FrD, SsJ W d (F_law_deed r) D_law_deed.body [("cells", some (c1)), ("hand", some (c2)), ("screen", some (c3)), ("shown", some (c4)), ("limits", some (c5)), ("way", none), ("values", none), ("area", none), ("cursor", none), ("params", none), ("code", none), ("some", none), ("numbers", none)] σ (RetQ Q)) : CJ W (d + 1) u_law_deed [c1, c2, c3, c4, c5] σ Q :=
  CJ.fn (D := D_law_deed) (ps := ["cells", "hand", "screen", "shown", "limits"]) (ns := ["way", "values", "area", "cursor", "params", "code", "some", "numbers"]) (gs := gs_law_deed) (ds := []) _ X.ok X.f_law_deed (FnOk.of ["_law_draw", "_law_values", "_law_area", "fill_rectangle", "_law_filled", "erase_rectangle", "_law_empty", "_law_spared", "copy_rectangle", "_law_copied", "range", "change_rectangle", "reverse_rectangle", "_law_repenned"] rfl (by decide +kernel) ⟨X.g_law_draw, X.g_law_values, X.g_law_area, X.g_fill_rectangle, X.g_law_filled, X.g_erase_rectangle, X.g_law_empty, X.g_law_spared, X.g_copy_rectangle, X.g_law_copied, X.g_range, X.g_change_rectangle, X.g_reverse_rectangle, X.g_law_repenned, trivial⟩) (BindsD.n5 (fun s _ _ _ _ _ _ _ _ _ _ _ _ _ ho => ⟨[], BindsTo.of_eq (by kernel_rfl), fun _ => rfl⟩)) rfl rfl q
theorem call.law_law {c1 : V} (q : ∀ r : FrD, SsJ W d (F_law_law r) D_law_law.body [("script", some (c1)), ("cells", none), ("hand", none), ("screen", none), ("shown", none), ("turn", none), ("limits", none), ("place", none), ("is_waiting", none)] σ (RetQ Q)) : CJ W (d + 1) u_law_law [c1] σ Q :=
  CJ.fn (D := D_law_law) (ps := ["script"]) (ns := ["cells", "hand", "screen", "shown", "turn", "limits", "place", "is_waiting"]) (gs := gs_law_law) (ds := []) _ X.ok X.f_law_law (FnOk.of ["Screen", "_law_rows", "_law_wide", "range", "_law_draw", "_law_put", "_law_limits", "tuple", "_law_deed"] rfl (by decide +kernel) ⟨X.g_Screen, X.g_law_rows, X.g_law_wide, X.g_range, X.g_law_draw, X.g_law_put, X.g_law_limits, X.g_tuple, X.g_law_deed, trivial⟩) (BindsD.n1 (fun s _ _ _ _ _ _ _ _ _ ho => ⟨[], BindsTo.of_eq (by kernel_rfl), fun _ => rfl⟩)) rfl rfl q
end
section
variable {W : Wd} {d : Nat} {σ : List CO} {Q : V → List CO → Prop}
structure Pen where
  f : Int
  b : Int
  g : Int
  deriving DecidableEq
noncomputable abbrev Pen.v (p : Pen) : V := .tup [.int p.f, .int (-1), .int p.b, .int (-1), .int p.g]
noncomputable abbrev Pen.erased (p : Pen) : Pen := ⟨0, p.b, 0⟩
structure Cell where
  c : List Int
  w : Int
  p : Pen
  k : Bool
  deriving DecidableEq
noncomputable abbrev Cell.v (x : Cell) : V := .tup [.tup (x.c.map V.int), .int x.w, x.p.v, .bool x.k]
noncomputable abbrev Pen.blank (p : Pen) : Cell := ⟨[], 1, p.erased, false⟩
theorem pen_with (X : Ctx W) {p : Pen} {f : Int} (h : Q (Pen.v ⟨f, p.b, p.g⟩) σ) : CJ W (d + 1) u_pen_with [p.v, .int 0, .int f] σ Q := by
  have hW := X.ok
  refine call.pen_with X fun r_ => ?_
  refine (SsJ.cs (SJ.ret (EJ.binop (EJ.binop (EJ.slice (EJ.of (Ev.nm .zx) (EPJ.none (EPJ.some (EJ.of (Ev.nm (.sx .zx)) (SlJ.tupUpto ?_ ?_ (EJ.of (Ev.tu (LEv.cs (Ev.nm (.sx (.sx .zx))) LEv.nl) (lb rfl)) (OpJ.addTup ?_ (EJ.slice (EJ.of (Ev.nm .zx) (EPJ.some (EJ.of (Ev.ad (Ev.nm (.sx .zx)) Ev.ci) (EPJ.none (SlJ.tupFrom (a := _) ?_ ?_ ?_ (OpJ.addTup ?_ h)))))))))))))))))))
  all_goals exact lb rfl
theorem erased_pen (X : Ctx W) {p : Pen} (h : Q p.erased.v σ) : CJ W (d + 1) u_erased_pen [p.v] σ Q := by
  have hW := X.ok
  refine call.erased_pen X fun r_ => ?_
  refine (SsJ.cs (SJ.retE (Ev.tu (LEv.cs Ev.ci (LEv.cs (Ev.gl hW .zx) (LEv.cs (Ev.subTup (Ev.nm .zx) (Ev.gl hW (.i 1)) rfl (lb rfl)) (LEv.cs (Ev.gl hW .zx) (LEv.cs Ev.ci LEv.nl))))) (lb rfl)) h))
theorem blank_cell (X : Ctx W) {p : Pen} (h : Q p.blank.v σ) : CJ W (d + 2) u_blank_cell [p.v] σ Q := by
  have hW := X.ok
  refine call.blank_cell X fun r_ => ?_
  refine (SsJ.cs (SJ.ret (EJ.tuple (LJ.cons (EJ.of (Ev.tu LEv.nl (lb rfl)) (LJ.cons (EJ.of Ev.ci (LJ.cons (EJ.ce (Ev.gl hW .zx) X.k_erased_pen (LEv.cs (Ev.nm .zx) LEv.nl) (CJ.up (d' := 1) (erased_pen X (LJ.of (LEv.cs Ev.cbool LEv.nl) ⟨(lb rfl), ?_⟩)) dd))))))))))
  exact h
end
theorem take_snoc {α β : Type} (f : α → β) {l : List α} {i : Nat} (h : i < l.length) : (l.take i).map f ++ [f l[i]] = (l.take (i + 1)).map f := by
  rw [List.take_add_one, List.getElem?_eq_getElem h, List.map_append]; rfl
theorem item_nat {l : List V} {i : Int} {k : Nat} {c : V} (hi : i = k) (h : l[k]? = some c) : item l i = some c := by
  subst hi
  have hk := (gq h).1
  unfold item seqIndex?
  have h0 : ¬ ((k : Int) < 0) := by lia
  simp only [h0, if_false]
  rw [if_pos (by simp; lia)]
  simpa using h
theorem clip_nat (n a : Nat) : clipAt n (a : Int) = min a n := by
  have := clipAt_cast n a
  rw [if_neg (by lia)] at this
  lia
theorem slc_ab {α : Type} {l : List α} {a b : Nat} : slc l (some (a : Int)) (some (b : Int)) = (l.take b).drop a := by
  unfold slc
  simp only [Option.elim, clip_nat]
  rw [List.drop_take]
  by_cases h1 : a ≤ l.length
  · by_cases h2 : b ≤ l.length
    · rw [Nat.min_eq_left h1, Nat.min_eq_left h2]
    · rw [Nat.min_eq_left h1, Nat.min_eq_right (by lia)]
      rw [List.take_of_length_le (by simp), List.take_of_length_le (by simp; lia)]
  · rw [Nat.min_eq_right (by lia : l.length ≤ a), List.drop_of_length_le (Nat.le_refl _), List.drop_of_length_le (by lia : l.length ≤ a)]
    simp
theorem slc_b {α : Type} {l : List α} {b : Nat} : slc l none (some (b : Int)) = l.take b := by
  have h := slc_ab (l := l) (a := 0) (b := b)
  unfold slc at h ⊢
  simp only [Option.elim, clip_nat] at h ⊢
  simpa using h
theorem slc_a {α : Type} {l : List α} {a : Nat} : slc l (some (a : Int)) none = l.drop a := by
  unfold slc
  simp only [Option.elim, clip_nat]
  by_cases h1 : a ≤ l.length
  · rw [Nat.min_eq_left h1, List.take_of_length_le (by simp)]
  · rw [Nat.min_eq_right (by lia : l.length ≤ a), List.drop_of_length_le (Nat.le_refl _), List.drop_of_length_le (by lia : l.length ≤ a)]; simp
section
variable {W : Wd} {d : Nat} {σ : List CO} {Q : V → List CO → Prop}
theorem right_half (X : Ctx W) {x : Cell} (h : Q (Cell.v ⟨[], 0, x.p, x.k⟩) σ) : CJ W (d + 1) u_right_half [x.v] σ Q := by
  have hW := X.ok
  refine call.right_half X fun r_ => ?_
  refine (SsJ.cs (SJ.retE (Ev.tu (LEv.cs (Ev.tu LEv.nl (lb rfl)) (LEv.cs Ev.ci (LEv.cs (Ev.subTup (Ev.nm .zx) Ev.ci rfl (lb rfl)) (LEv.cs (Ev.subTup (Ev.nm .zx) Ev.ci rfl (lb rfl)) LEv.nl)))) (lb rfl)) h))
theorem grid_cut (X : Ctx W) {x : Cell} (h : Q x.p.blank.v σ) : CJ W (d + 3) u_grid_cut [x.v] σ Q := by
  have hW := X.ok
  refine call.grid_cut X fun r_ => ?_
  refine (SsJ.cs (SJ.ret (EJ.ce (Ev.gl hW .zx) X.k_blank_cell (LEv.cs (Ev.subTup (Ev.nm .zx) Ev.ci rfl (lb rfl)) LEv.nl) (CJ.up (d' := 2) (blank_cell X h) dd))))
theorem law_empty (X : Ctx W) {p : Pen} (h : Q p.blank.v σ) : CJ W (d + 1) u_law_empty [p.v] σ Q := by
  have hW := X.ok
  refine call.law_empty X fun r_ => ?_
  refine (SsJ.cs (SJ.retE (Ev.tu (LEv.cs (Ev.tu LEv.nl (lb rfl)) (LEv.cs Ev.ci (LEv.cs (Ev.tu (LEv.cs Ev.ci (LEv.cs (Ev.neg Ev.ci) (LEv.cs (Ev.subTup (Ev.nm .zx) Ev.ci rfl (lb rfl)) (LEv.cs (Ev.neg Ev.ci) (LEv.cs Ev.ci LEv.nl))))) (lb rfl)) (LEv.cs Ev.cbool LEv.nl)))) (lb rfl)) h))
theorem line_blanks (X : Ctx W) {p : Pen} {k : Int} (h0 : 0 ≤ k) (h1 : k ≤ 1000) (h : Q (.ref (σ.length + 1)) (σ ++ [.list [p.blank.v]] ++ [.list (List.replicate k.toNat p.blank.v)])) : CJ W (d + 3) u_line_blanks [.int k, p.v] σ Q := by
  have hW := X.ok
  refine call.line_blanks X fun r_ => ?_
  have e : (if k > 0 then k else 0) = k := by split <;> lia
  refine (SsJ.cs (SJ.ret (EJ.binop (EJ.list (LJ.cons (EJ.ce (Ev.gl hW .zx) X.k_blank_cell (LEv.cs (Ev.nm (.i 1)) LEv.nl) (CJ.up (d' := 2) (blank_cell X (LJ.of LEv.nl ⟨(lb rfl), (EJ.of (Ev.call (Ev.gl hW (.i 1)) Keeps.builtin (LEv.cs Ev.ci (LEv.cs (Ev.nm .zx) LEv.nl)) CE.max2) (OpJ.mulList kN ?_ ?_ ?_))⟩)) dd)))))))
  all_goals rw [e]
  · exact h0
  · lia
  · have e2 : (σ ++ [CO.list [p.blank.v]]).length = σ.length + 1 := by simp
    rw [← e2] at h
    exact h
noncomputable def ov : Option Int → V
  | none => .none
  | some i => .int i
def Par (σ : List CO) (n : Nat) (vs : List (Option Int)) : Prop :=
  ∃ ms : List Nat, σ[n]? = some (.list (ms.map V.ref)) ∧ ms.length = vs.length ∧ ∀ (i m : Nat) o, ms[i]? = some m → vs[i]? = some o → σ[m]? = some (.list [ov o])
noncomputable def plain (vs : List (Option Int)) (k : Nat) (dflt : Int) : Int := match vs[k]? with
  | some (some i) => i
  | _ => dflt
theorem ov_told (o : Option Int) : (ov o).told = true := by cases o <;> rfl
theorem plain_of (X : Ctx W) {n : Nat} {vs : List (Option Int)} {k : Nat} {i : Int} (hi : i = k) {dflt : Int} (hp : Par σ n vs) (hl : vs.length ≤ 100) (h : ∀ σ', Same σ σ' [] → Q (.int (plain vs k dflt)) σ') : CJ W (d + 1) u_plain_of [.ref n, .int i, .int dflt] σ Q := by
  have hW := X.ok
  obtain ⟨ms, hn, hlen, hm⟩ := hp
  subst hi
  refine call.plain_of X fun r_ => ?_
  have hlen' : (ms.map V.ref).length ≤ 100000 := by simp; lia
  by_cases hk : k < vs.length
  · obtain ⟨m, hm1⟩ : ∃ m, ms[k]? = some m := ⟨_, List.getElem?_eq_getElem (by lia)⟩
    obtain ⟨o, ho⟩ : ∃ o, vs[k]? = some o := ⟨_, List.getElem?_eq_getElem hk⟩
    have hm2 := hm k m o hm1 ho
    have hr : (ms.map V.ref)[k]? = some (.ref m) := by simp [hm1]
    have hpl : ∀ j, o = some j → plain vs k dflt = j := fun j e => by simp [plain, ho, e]
    have hpn : o = none → plain vs k dflt = dflt := fun e => by simp [plain, ho, e]
    cases o with
    | none =>
      have h' : ∀ σ', Same σ σ' [] → Q (.int dflt) σ' := fun σ' s => hpn rfl ▸ h σ' s
      refine (SsJ.cs (SJ.ite (TJ.or (TJ.cmp (EJ.of (Ev.nm (.i 1)) (EJ.of (Ev.call (Ev.gl hW .zx) Keeps.builtin (LEv.cs (Ev.nm .zx) LEv.nl) (CE.lenList (by nofun) ?_)) (CmpJ.ge (TrJ.bl (iteB (fun hc1 => (iteT (SsJ.cs (SJ.retE (Ev.nm (.i 2)) ?_)))) (fun hc1 => (TJ.or (TJ.cmp (EJ.of (Ev.subList (Ev.nm .zx) (Ev.nm (.i 1)) (by nofun) (item_nat rfl hr) ?_) (EJ.list (LJ.of LEv.nl ⟨(lb rfl), (CmpJ.eqD (.list (kA hm2) (.cons .none .nil)) (.list kN .nil) rfl rfl (TrJ.bl (iteB (fun hc2 => (iteT (SsJ.cs (SJ.retE (Ev.nm (.i 2)) ?_)))) (fun hc2 => (TJ.or (TJ.cmp (EJ.of (Ev.subList (Ev.subList (Ev.nm .zx) (Ev.nm (.i 1)) (by nofun) (item_nat rfl hr) ?_) Ev.ci (by nofun) rfl ?_) (EJ.of Ev.cnone (CmpJ.isNone rfl (TrJ.bl (iteB (fun hc3 => (iteT (SsJ.cs (SJ.retE (Ev.nm (.i 2)) ?_)))) (fun hc3 => (TJ.or_nil (iteF (SsJ.nl (SsJ.cs (SJ.retE (Ev.subList (Ev.subList (Ev.nm .zx) (Ev.nm (.i 1)) (by nofun) (item_nat rfl hr) ?_) Ev.ci (by nofun) rfl ?_) ?_)))))))))))))))))⟩)))))))))))))))
      all_goals first | exact hlen' | exact lb rfl | exact h' _ .app | exact h' _ .refl | (exfalso; simp_all [V.isNone, ov, PyData.eqv, PyData.eqvAll]; try lia)
    | some j =>
      have h' : ∀ σ', Same σ σ' [] → Q (.int j) σ' := fun σ' s => hpl j rfl ▸ h σ' s
      refine (SsJ.cs (SJ.ite (TJ.or (TJ.cmp (EJ.of (Ev.nm (.i 1)) (EJ.of (Ev.call (Ev.gl hW .zx) Keeps.builtin (LEv.cs (Ev.nm .zx) LEv.nl) (CE.lenList (by nofun) ?_)) (CmpJ.ge (TrJ.bl (iteB (fun hc1 => (iteT (SsJ.cs (SJ.retE (Ev.nm (.i 2)) ?_)))) (fun hc1 => (TJ.or (TJ.cmp (EJ.of (Ev.subList (Ev.nm .zx) (Ev.nm (.i 1)) (by nofun) (item_nat rfl hr) ?_) (EJ.list (LJ.of LEv.nl ⟨(lb rfl), (CmpJ.eqD (.list (kA hm2) (.cons .int .nil)) (.list kN .nil) rfl rfl (TrJ.bl (iteB (fun hc2 => (iteT (SsJ.cs (SJ.retE (Ev.nm (.i 2)) ?_)))) (fun hc2 => (TJ.or (TJ.cmp (EJ.of (Ev.subList (Ev.subList (Ev.nm .zx) (Ev.nm (.i 1)) (by nofun) (item_nat rfl hr) ?_) Ev.ci (by nofun) rfl ?_) (EJ.of Ev.cnone (CmpJ.isNone rfl (TrJ.bl (iteB (fun hc3 => (iteT (SsJ.cs (SJ.retE (Ev.nm (.i 2)) ?_)))) (fun hc3 => (TJ.or_nil (iteF (SsJ.nl (SsJ.cs (SJ.retE (Ev.subList (Ev.subList (Ev.nm .zx) (Ev.nm (.i 1)) (by nofun) (item_nat rfl hr) ?_) Ev.ci (by nofun) rfl ?_) ?_)))))))))))))))))⟩)))))))))))))))
      all_goals first | exact hlen' | exact lb rfl | exact h' _ .app | exact h' _ .refl | (exfalso; simp_all [V.isNone, ov, PyData.eqv, PyData.eqvAll]; try lia)
  · have h' : ∀ σ', Same σ σ' [] → Q (.int dflt) σ' := fun σ' s => (by simp [plain, List.getElem?_eq_none (Nat.le_of_not_lt hk)] : plain vs k dflt = dflt) ▸ h σ' s
    refine (SsJ.cs (SJ.ite (TJ.or (TJ.cmp (EJ.of (Ev.nm (.i 1)) (EJ.of (Ev.call (Ev.gl hW .zx) Keeps.builtin (LEv.cs (Ev.nm .zx) LEv.nl) (CE.lenList (by nofun) ?_)) (CmpJ.ge (TrJ.bl (iteY (by simp; lia) (iteT (SsJ.cs (SJ.retE (Ev.nm (.i 2)) ?_))))))))))))
    all_goals first | exact hlen' | exact h' _ .refl
noncomputable def valO (vs : List (Option Int)) (k : Nat) (dflt : Int) : Int := if plain vs k 0 = 0 then dflt else plain vs k 0
theorem value_of (X : Ctx W) {n : Nat} {vs : List (Option Int)} {k : Nat} {i : Int} (hi : i = k) {dflt : Int} (hp : Par σ n vs) (hl : vs.length ≤ 100) (h : ∀ σ', Same σ σ' [] → Q (.int (valO vs k dflt)) σ') : CJ W (d + 2) u_value_of [.ref n, .int i, .int dflt] σ Q := by
  have hW := X.ok
  refine call.value_of X fun r_ => ?_
  refine (SsJ.cs (SJ.sn (EJ.ce (Ev.gl hW .zx) X.k_plain_of (LEv.cs (Ev.nm .zx) (LEv.cs (Ev.nm (.i 1)) (LEv.cs Ev.ci LEv.nl))) (CJ.up (d' := 1) (plain_of X hi hp hl fun σ' hσ => (AJ.nm (.i 3) rfl (SsJ.cs (SJ.ret (EJ.ite (TJ.cmp (EJ.of (Ev.nm (.i 3)) (EJ.of Ev.ci (CmpJ.eq (TrJ.bl (iteB (fun hc1 => (EJ.of (Ev.nm (.i 2)) ?_)) (fun hc1 => (EJ.of (Ev.nm (.i 3)) ?_))))))))))))) dd))))
  · have := h σ' hσ
    rw [valO, if_pos (by simpa using hc1)] at this
    exact this
  · have := h σ' hσ
    rw [valO, if_neg (by simpa using hc1)] at this
    exact this
theorem Par.move {σ σ' : List CO} {n : Nat} {vs : List (Option Int)} (hp : Par σ n vs) (s : Same σ σ' []) : Par σ' n vs := by
  obtain ⟨ms, hn, hlen, hm⟩ := hp
  exact ⟨ms, s.get hn (by simp), hlen, fun i m o h1 h2 => s.get (hm i m o h1 h2) (by simp)⟩
theorem small_nat {a b : Nat} (ha : a < 2 ^ 62) (hb : b < 2 ^ 62) : Builtin.Range.small a b 1 = true := small_one (by lia) (by lia) (by lia) (by lia)
theorem rangeV_nat {a b : Nat} : rangeV a b 1 = (List.range (b - a)).map fun i => V.int ((a + i : Nat) : Int) := by
  unfold rangeV
  rw [rangeSize_one]
  have : (if (a : Int) < b then (b : Int) - a else 0).toNat = b - a := by split <;> lia
  rw [this]
  refine List.map_congr_left fun i _ => ?_
  push_cast
  rw [Int.mul_one]
theorem rangeV_get {a b i : Nat} {c : V} (h : (rangeV a b 1)[i]? = some c) : i < b - a ∧ c = .int ((a + i : Nat) : Int) := by
  rw [rangeV_nat] at h
  obtain ⟨hl, e⟩ := gq h
  simp at hl e
  exact ⟨hl, by rw [← e]; simp⟩
theorem rangeV_len {a b : Nat} : (rangeV a b 1).length = b - a := by rw [rangeV_nat]; simp
theorem cMn {a b : Nat} : ((min b a : Nat) : Int) = if (a : Int) < b then (a : Int) else b := by
  by_cases q : a < b
  · rw [Nat.min_eq_right (Nat.le_of_lt q), if_pos (Int.ofNat_lt.mpr q)]
  · rw [Nat.min_eq_left (Nat.le_of_not_lt q), if_neg fun z => q (Int.ofNat_lt.mp z)]
theorem cMm {a b : Nat} : ((min b a : Nat) : Int) = if (b : Int) < a then (b : Int) else a := Nat.min_comm a b ▸ cMn
theorem ar1 {l r : Nat} (h : l ≤ r) : 0 < r + 1 - l := Nat.sub_pos_of_lt (Nat.lt_succ_of_le h)
theorem are {l r : Nat} (h : l ≤ r) : l + (r + 1 - l) = r + 1 := Nat.add_sub_of_le (Nat.le_succ_of_le h)
theorem ar2 {l r n : Nat} (h : l ≤ r) (k : r < n) : l + (r + 1 - l) ≤ n := by rw [are h]; exact k
theorem ap1 {α : Type} {x : α} {l r : Nat} (h : l ≤ r) : 0 < (List.replicate (r + 1 - l) x).length := List.length_replicate.symm ▸ ar1 h
theorem ap2 {α : Type} {x : α} {l r n : Nat} (h : l ≤ r) (k : r < n) : l + (List.replicate (r + 1 - l) x).length ≤ n := List.length_replicate.symm ▸ ar2 h k
theorem ar3 {t b j n : Nat} (hj : j < b + 1 - t) (hb : b < n) : t + j < n := Nat.lt_of_lt_of_le (Nat.add_lt_of_lt_sub' hj) hb
theorem ar4 {t b u r : Nat} (h : t ≤ b) (k : r ≤ u) : min b (t + u - r) = t + min (b - t) (u - r) := by rw [Nat.add_sub_assoc k, ← Nat.add_min_add_left, Nat.add_sub_of_le h]
theorem ar5 {t b n k : Nat} (h : t ≤ b) (hb : b < n) : t + (min (b - t) k + 1) ≤ n := Nat.lt_of_le_of_lt (Nat.le_trans (Nat.add_le_add_left (Nat.min_le_left _ _) t) (Nat.le_of_eq (Nat.add_sub_of_le h))) hb
theorem ar6 {t b n k : Nat} (h : t ≤ b) (hb : b < n) : t + (min k (b - t) + 1) ≤ n := Nat.min_comm _ _ ▸ ar5 h hb
theorem ar7 {x y a b : Nat} (h : y ≤ x) (k : b ≤ a) : (if (x : Int) - y < (a : Int) - b then (x : Int) - y else (a : Int) - b) + 1 = ((min (a - b) (x - y) + 1 : Nat) : Int) := by
  rw [← Int.ofNat_sub h, ← Int.ofNat_sub k, ← cMn]; rfl
theorem ar8 {t b r j k n : Nat} (h : t ≤ b) (hb : b < n) (hj : j < r + (min (b - t) k + 1)) : t + (j - r) < n :=
  Nat.lt_of_lt_of_le (Nat.add_lt_add_left (Nat.lt_succ_of_le (Nat.sub_le_of_le_add (Nat.le_of_lt_succ (Nat.add_comm r _ ▸ hj)))) t) (ar5 (k := k) h hb)
theorem ar9 {f l n : Nat} (hf : f ≤ n) (hl : l < n) : f + (l + 1 - f) ≤ n := by
  rcases Nat.le_total f (l + 1) with h | h
  · rw [Nat.add_sub_of_le h]; exact hl
  · rw [Nat.sub_eq_zero_of_le h]; exact hf
theorem dF {a b : Nat} (h : a ≤ b) : decide ((b : Int) < a) = false := decide_eq_false fun z => Nat.not_lt_of_le h (Int.ofNat_lt.mp z)
theorem dT {a b : Nat} (h : a < b) : decide ((a : Int) < b) = true := decide_eq_true (Int.ofNat_lt.mpr h)
theorem eF {a b : Nat} (h : b < a) : decide ((a : Int) ≤ b) = false := decide_eq_false fun z => Nat.not_lt_of_le (Int.ofNat_le.mp z) h
theorem eT {a b : Nat} (h : a ≤ b) : decide ((a : Int) ≤ b) = true := decide_eq_true (Int.ofNat_le.mpr h)
theorem sm {a b : Nat} (ha : a ≤ 100) (hb : b ≤ 100) : Builtin.Range.small a b 1 = true := small_nat (Nat.lt_of_le_of_lt ha (by decide)) (Nat.lt_of_le_of_lt hb (by decide))
theorem one_le {x : Int} (h : 1 ≤ x) : ∃ y : Nat, x = y + 1 := by obtain ⟨n, e⟩ := Int.le.dest h; exact ⟨n, by rw [← e, Int.add_comm]⟩
theorem cT {t : Nat} {x : Int} (h : 1 ≤ x) : ((t + x.toNat - 1 : Nat) : Int) = t + x - 1 := by
  obtain ⟨y, rfl⟩ := one_le h; rw [← Int.add_assoc, Int.add_sub_cancel]; rfl
theorem cU {t : Nat} {x : Int} (h : 1 ≤ x) : ((t + x.toNat - 1 : Nat) : Int) = t + (x - 1) := (cT h).trans (Int.add_sub_assoc _ _ _)
theorem cL {t : Nat} {x : Int} (h : 1 ≤ x) : t ≤ t + x.toNat - 1 := by
  obtain ⟨y, rfl⟩ := one_le h; exact Nat.le_add_right t y
theorem sn {a b n : Nat} (h : a ≤ b) (hb : b < n) (hn : Nat.ble n 100 = true := by rfl) : Builtin.Range.small a ((b + 1 : Nat) : Int) 1 = true := sm (Nat.le_trans h (Nat.le_trans (Nat.le_of_lt hb) (Nat.le_of_ble_eq_true hn))) (Nat.le_trans hb (Nat.le_of_ble_eq_true hn))
theorem sz {t b n N : Nat} (hb : b < n) (hn : Nat.ble n N = true := by rfl) : b + 1 - t ≤ N := Nat.le_trans (Nat.sub_le _ _) (Nat.le_trans hb (Nat.le_of_ble_eq_true hn))
theorem arA {t b r j n : Nat} (k : t ≤ b) (hj : j < b + 1 - t) (h : r + (b - t) < n) : r + j < n := Nat.lt_of_le_of_lt (Nat.add_le_add_left (Nat.le_of_lt_succ (Nat.succ_sub k ▸ hj)) r) h
noncomputable def ol (l : List (Option V)) (n : Nat) : Option V := l.getD n none
theorem Same.setNew {σ σ' : List CO} {n : Nat} {o : CO} {js : List Nat} (s : Same σ σ' js) (h : σ.length ≤ n) : Same σ (σ'.set n o) js := by
  refine ⟨by simpa using s.1, fun i o' hi e => ?_⟩
  have hlt := (gq e).1
  exact get_ne (s.2 i o' hi e) (by lia)
theorem values_of (X : Ctx W) {n : Nat} {vs : List (Option Int)} (hp : Par σ n vs) (hl : vs.length ≤ 100) (h : ∀ σ' m, Same σ σ' [] → σ.length ≤ m → σ'[m]? = some (.list (vs.map fun o => V.int (o.getD 0))) → Q (.ref m) σ') : CJ W (d + 2) u_values_of [.ref n] σ Q := by
  have hW := X.ok
  refine call.values_of X fun r_ => ?_
  have hp' := hp
  obtain ⟨ms, hn, hlen, hm⟩ := hp'
  have el : (rangeV 0 ((ms.map V.ref).length : Int) 1).length = vs.length := by
    rw [show ((0 : Int)) = ((0 : Nat) : Int) from rfl, rangeV_len]; simp [hlen]
  refine (SsJ.cs (SJ.ret (EJ.comp _ [("params", _)] [("plain_of", .raw u_plain_of)] (CmpOk.fm ["params"] ["plain_of"] rfl (by decide +kernel) rfl rfl ⟨.zx, rfl, trivial⟩ ⟨X.g_plain_of, trivial⟩) (ItE.callE (Ev.gl hW .zx) Keeps.type (LEv.cs (Ev.call (Ev.gl hW (.i 1)) Keeps.builtin (LEv.cs (Ev.nm .zx) LEv.nl) (CE.lenList (by nofun) ?_)) LEv.nl) (ItC.range1 ?_ ⟨?_, trivial, fun C => ?_⟩)))))
  · simp; lia
  · rw [show ((0 : Int)) = ((0 : Nat) : Int) from rfl]; exact small_nat (by lia) (by simp; lia)
  · rw [el, sizeLine_eq]; lia
  · refine CompL.idx (fun i acc τ => acc = (vs.take i).map (fun o => V.int (o.getD 0)) ∧ Same σ τ [] ∧ τ[σ.length]? = some (.list acc)) ⟨rfl, .app, kN⟩ ?_ ?_
    · rintro i c acc τ hc ⟨rfl, hs, hτ⟩
      rw [show ((0 : Int)) = ((0 : Nat) : Int) from rfl] at hc
      obtain ⟨hi, rfl⟩ := rangeV_get hc
      simp at hi
      have hi' : i < vs.length := by lia
      refine (EJ.ce (Ev.gl hW .zx) X.k_plain_of (LEv.cs (Ev.nm (.i 1)) (LEv.cs (Ev.nm .zx) (LEv.cs Ev.ci LEv.nl))) (CJ.up (d' := 1) (plain_of X (k := i) (by simp) (hp.move hs) hl fun σ' hσ => ?_) dd))
      have z := hσ.get hτ (by simp)
      refine ⟨z, trivial, ?_, (hs.trans hσ).setNew (Nat.le_refl _), kS z⟩
      have e : plain vs i 0 = (vs[i]).getD 0 := by
        unfold plain
        rw [List.getElem?_eq_getElem hi']
        cases vs[i] <;> rfl
      rw [e]
      exact take_snoc (fun o : Option Int => V.int (o.getD 0)) hi'
    · rintro acc τ ⟨rfl, hs, hτ⟩
      rw [el, List.take_length] at hτ
      exact h _ _ hs (Nat.le_refl _) hτ
end
noncomputable def noC : Cell := ⟨[], 1, ⟨0, -1, 0⟩, false⟩
noncomputable def at_ (l : List Cell) (k : Nat) : Cell := l.getD k noC
theorem at_get {l : List Cell} {k : Nat} (h : k < l.length) : (l.map Cell.v)[k]? = some (at_ l k).v := by
  rw [List.getElem?_map, List.getElem?_eq_getElem h]
  simp [at_, List.getD_eq_getElem?_getD, h]
def Upd (σ σ' : List CO) (b : Nat) (l : List Cell) : Prop := Same σ σ' [b] ∧ σ'[b]? = some (.list (l.map Cell.v))
theorem Upd.self {σ : List CO} {b : Nat} {l : List Cell} (h : σ[b]? = some (.list (l.map Cell.v))) : Upd σ σ b l := ⟨.refl, h⟩
theorem Upd.set {σ σ' : List CO} {b : Nat} {l l' : List Cell} (u : Upd σ σ' b l) : Upd σ (σ'.set b (.list (l'.map Cell.v))) b l' := ⟨u.1.trans (.set (by simp)), kS u.2⟩
theorem Upd.trans {σ σA σB : List CO} {b : Nat} {l l' : List Cell} (u : Upd σ σA b l) (w : Upd σA σB b l') : Upd σ σB b l' := ⟨u.1.trans w.1, w.2⟩
theorem Upd.app {σ σ' : List CO} {b : Nat} {l : List Cell} {m : List CO} (u : Upd σ σ' b l) : Upd σ (σ' ++ m) b l := ⟨u.1.trans .app, kA u.2⟩
theorem Upd.same {σ σA σB : List CO} {b : Nat} {l : List Cell} (u : Upd σ σA b l) (s : Same σA σB []) : Upd σ σB b l := ⟨u.1.trans (s.weak (by simp)), s.get u.2 (by simp)⟩
noncomputable def part (l : List Cell) (k : Nat) : List Cell :=
  if 0 < k ∧ k < l.length ∧ (at_ l k).w = 0 then (l.set (k - 1) (at_ l (k - 1)).p.blank).set k (at_ l k).p.blank else l
theorem part_len (l : List Cell) (k : Nat) : (part l k).length = l.length := by unfold part; split <;> simp
section
variable {W : Wd} {d : Nat} {σ : List CO} {Q : V → List CO → Prop}
theorem line_part (X : Ctx W) {b : Nat} {l : List Cell} {k : Nat} {i : Int} (hi : i = k) (hb : σ[b]? = some (.list (l.map Cell.v))) (hl : l.length ≤ 100) (h : ∀ σ', Upd σ σ' b (part l k) → Q .none σ') : CJ W (d + 3) u_line_part [.ref b, .int i] σ Q := by
  have hW := X.ok
  subst hi
  refine call.line_part X fun r_ => ?_
  have hlen : (l.map Cell.v).length = l.length := by simp
  by_cases hk : 0 < k ∧ k < l.length
  · obtain ⟨hk1, hk2⟩ := hk
    have g1 := at_get hk2
    have g0 := at_get (l := l) (k := k - 1) (by lia)
    have ei : ((k : Int) - 1) = ((k - 1 : Nat) : Int) := by lia
    have et : ((k : Int) - 1).toNat = k - 1 := by lia
    have g2 : ((l.map Cell.v).set ((k : Int) - 1).toNat (at_ l (k - 1)).p.blank.v)[k]? = some (at_ l k).v := by
      rw [et, List.getElem?_set_ne (by lia)]; exact g1
    have gl : (((l.map Cell.v).set ((k : Int) - 1).toNat (at_ l (k - 1)).p.blank.v).set ((k : Int)).toNat (at_ l k).p.blank.v) = ((l.set (k - 1) (at_ l (k - 1)).p.blank).set k (at_ l k).p.blank).map Cell.v := by
      rw [et, Int.toNat_natCast, List.map_set, List.map_set]
    by_cases hz : (at_ l k).w = 0
    · refine (SsJ.cs (SJ.ite (TJ.and (TJ.chain (EJ.of Ev.ci (ChJ.link (EJ.of (Ev.nm (.i 1)) (CmpJ.lt (TrJ.bl (iteY (by simpa using hk1) (ChJ.last (EJ.of (Ev.call (Ev.gl hW .zx) Keeps.builtin (LEv.cs (Ev.nm .zx) LEv.nl) (CE.lenList (by first | assumption | exact kS hb | exact kS (kS hb)) ?_)) (CmpJ.lt (TrJ.bl (iteY (by simpa using hk2) (TJ.and (TJ.cmp (EJ.of (Ev.subTup (Ev.subList (Ev.nm .zx) (Ev.nm (.i 1)) (by first | assumption | exact kS hb | exact kS (kS hb)) (by first | exact item_nat rfl g1 | exact item_nat rfl g2) ?_) Ev.ci rfl (lb rfl)) (EJ.of Ev.ci (CmpJ.eq (TrJ.bl (iteY (by simpa using hz) (TJ.and_nil (iteT (SsJ.cs (SJ.sn (EJ.ce (Ev.gl hW (.i 1)) X.k_blank_cell (LEv.cs (Ev.subTup (Ev.subList (Ev.nm .zx) (Ev.sb (Ev.nm (.i 1)) Ev.ci) (by first | assumption | exact kS hb | exact kS (kS hb)) (item_nat ei g0) ?_) Ev.ci rfl (lb rfl)) LEv.nl) (CJ.up (d' := 2) (blank_cell X (AJ.itemE (Ev.nm .zx) (Ev.sb (Ev.nm (.i 1)) Ev.ci) (by first | assumption | exact kS hb | exact kS (kS hb)) ?_ ?_ ?_ (SsJ.cs (SJ.sn (EJ.ce (Ev.gl hW (.i 1)) X.k_blank_cell (LEv.cs (Ev.subTup (Ev.subList (Ev.nm .zx) (Ev.nm (.i 1)) (by first | assumption | exact kS hb | exact kS (kS hb)) (by first | exact item_nat rfl g1 | exact item_nat rfl g2) ?_) Ev.ci rfl (lb rfl)) LEv.nl) (CJ.up (d' := 2) (blank_cell X (AJ.itemE (Ev.nm .zx) (Ev.nm (.i 1)) (by first | assumption | exact kS hb | exact kS (kS hb)) ?_ ?_ ?_ (SsJ.nl (SsJ.nl ?_)))) dd)))))) dd))))))))))))))))))))))))))))
      all_goals first
        | lia
        | (simp; done)
        | (simp; lia)
        | skip
      refine h _ ?_
      rw [List.set_set, gl, part, if_pos ⟨hk1, hk2, hz⟩]
      exact (Upd.self hb).set
    · refine (SsJ.cs (SJ.ite (TJ.and (TJ.chain (EJ.of Ev.ci (ChJ.link (EJ.of (Ev.nm (.i 1)) (CmpJ.lt (TrJ.bl (iteY (by simpa using hk1) (ChJ.last (EJ.of (Ev.call (Ev.gl hW .zx) Keeps.builtin (LEv.cs (Ev.nm .zx) LEv.nl) (CE.lenList (by first | assumption | exact kS hb | exact kS (kS hb)) ?_)) (CmpJ.lt (TrJ.bl (iteY (by simpa using hk2) (TJ.and (TJ.cmp (EJ.of (Ev.subTup (Ev.subList (Ev.nm .zx) (Ev.nm (.i 1)) (by first | assumption | exact kS hb | exact kS (kS hb)) (by first | exact item_nat rfl g1 | exact item_nat rfl g2) ?_) Ev.ci rfl (lb rfl)) (EJ.of Ev.ci (CmpJ.eq (TrJ.bl (iteN (by simpa using hz) (iteF (SsJ.nl (SsJ.nl ?_)))))))))))))))))))))))))
      all_goals first
        | lia
        | (simp; done)
        | (simp; lia)
        | skip
      refine h _ ?_
      rw [part, if_neg (fun q => hz q.2.2)]
      exact .self hb
  · have e : part l k = l := by rw [part, if_neg (fun q => hk ⟨q.1, q.2.1⟩)]
    by_cases hk1 : 0 < k
    · refine (SsJ.cs (SJ.ite (TJ.and (TJ.chain (EJ.of Ev.ci (ChJ.link (EJ.of (Ev.nm (.i 1)) (CmpJ.lt (TrJ.bl (iteY (by simpa using hk1) (ChJ.last (EJ.of (Ev.call (Ev.gl hW .zx) Keeps.builtin (LEv.cs (Ev.nm .zx) LEv.nl) (CE.lenList (by nofun) ?_)) (CmpJ.lt (TrJ.bl (iteN (by simp; lia) (iteF (SsJ.nl (SsJ.nl ?_))))))))))))))))))
      all_goals first
        | lia
        | (simp; done)
        | (simp; lia)
        | skip
      exact h _ (by rw [e]; exact .self hb)
    · refine (SsJ.cs (SJ.ite (TJ.and (TJ.chain (EJ.of Ev.ci (ChJ.link (EJ.of (Ev.nm (.i 1)) (CmpJ.lt (TrJ.bl (iteN (by simpa using hk1) (iteF (iteF (SsJ.nl (SsJ.nl ?_))))))))))))))
      exact h _ (by rw [e]; exact .self hb)
noncomputable abbrev lineO (b : Nat) : CO := .inst c_Line [("cells", .ref b), ("is_wrapped", .bool false), ("size", .str "single")]
theorem Line_part (X : Ctx W) {n b : Nat} {l : List Cell} {k : Nat} {i : Int} (hi : i = k) (hn : σ[n]? = some (lineO b)) (hb : σ[b]? = some (.list (l.map Cell.v))) (hl : l.length ≤ 100) (h : ∀ σ', Upd σ σ' b (part l k) → Q .none σ') :
    CJ W (d + 4) u_Line_part [.ref n, .int i] σ Q := by
  have hW := X.ok
  refine call.Line_part X fun r_ => ?_
  refine (SsJ.cs (SJ.expr (EJ.ce (Ev.gl hW .zx) X.k_line_part (LEv.cs (Ev.ta hW X.o_Line (Ev.nm .zx) X.a_Line_cells.find (by nofun) (nd_Line rfl) .zx rfl) (LEv.cs (Ev.nm (.i 1)) LEv.nl)) (CJ.up (d' := 3) (line_part X hi hb hl fun σ' hσ => (SsJ.nl ?_)) dd))))
  exact h _ hσ
noncomputable def half (x : Cell) : Cell := ⟨[], 0, x.p, x.k⟩
noncomputable def put (l : List Cell) (k : Nat) (x : Cell) : List Cell :=
  if x.w = 2 then ((part (part l k) (k + 2)).set k x).set (k + 1) (half x) else (part (part l k) (k + 1)).set k x
theorem put_len (l : List Cell) (k : Nat) (x : Cell) : (put l k x).length = l.length := by unfold put; split <;> simp [part_len]
theorem Line_put (X : Ctx W) {n b : Nat} {l : List Cell} {k : Nat} {i : Int} {x : Cell} (hi : i = k) (hn : σ[n]? = some (lineO b)) (hnb : n ∉ [b]) (hb : σ[b]? = some (.list (l.map Cell.v))) (hl : l.length ≤ 100) (hk : k < l.length) (hw : x.w = 1 ∨ (x.w = 2 ∧ k + 1 < l.length))
    (h : ∀ σ', Upd σ σ' b (put l k x) → Q .none σ') : CJ W (d + 5) u_Line_put [.ref n, .int i, x.v] σ Q := by
  have hW := X.ok
  subst hi
  refine call.Line_put X fun r_ => ?_
  have hu : Upd σ σ b l := .self hb
  have gs : ∀ (m : List Cell) (j : Nat) (y : Cell), (m.map Cell.v).set ((j : Nat) : Int).toNat y.v = (m.set j y).map Cell.v := fun m j y => by rw [Int.toNat_natCast, List.map_set]
  rcases hw with hw | ⟨hw, hk2⟩
  · have he : (k : Int) + x.w = ((k + 1 : Nat) : Int) := by rw [hw]; simp
    refine (SsJ.cs (SJ.ite (TJ.or (TJ.not (TJ.chain (EJ.of Ev.ci (ChJ.link (EJ.of (Ev.nm (.i 1)) (CmpJ.le (TrJ.bl (iteY (by simp) (ChJ.last (EJ.of (Ev.call (Ev.gl hW .zx) Keeps.builtin (LEv.cs (Ev.ta hW X.o_Line (Ev.nm .zx) X.a_Line_cells.find (by nofun) (nd_Line rfl) .zx rfl) LEv.nl) (CE.lenList (by nofun) ?_)) (CmpJ.lt (TrJ.bl (iteN (by simp; lia) (TJ.or (TJ.cmp (EJ.of (Ev.subTup (Ev.nm (.i 2)) Ev.ci rfl (lb rfl)) (EJ.of Ev.ci (CmpJ.eq (TrJ.bl (iteN (by simp [hw]) (TJ.or_nil (iteF (SsJ.nl (SsJ.cs (SJ.ite (TJ.and (TJ.cmp (EJ.of (Ev.subTup (Ev.nm (.i 2)) Ev.ci rfl (lb rfl)) (EJ.of Ev.ci (CmpJ.eq (TrJ.bl (iteN (by simp [hw]) (iteF (SsJ.nl (SsJ.cs (SJ.expr (EJ.methE hW (Ev.nm .zx) (by nofun) X.m_Line_part (na_Line_part rfl) (LEv.cs (Ev.nm (.i 1)) LEv.nl) (CJ.up (d' := 4) (Line_part X (by first | exact rfl | assumption) hn hb (by first | exact hl | (rw [part_len]; exact hl)) fun σ' hσ => have hn := hσ.1.get hn hnb; have hb := hσ.2; have hu := hu.trans hσ; (SsJ.cs (SJ.expr (EJ.methE hW (Ev.nm .zx) (by nofun) X.m_Line_part (na_Line_part rfl) (LEv.cs (Ev.ad (Ev.nm (.i 1)) (Ev.subTup (Ev.nm (.i 2)) Ev.ci rfl (lb rfl))) LEv.nl) (CJ.up (d' := 4) (Line_part X (by first | exact rfl | assumption) hn hb (by first | exact hl | (rw [part_len]; exact hl)) fun σ' hσ => have hn := hσ.1.get hn hnb; have hb := hσ.2; have hu := hu.trans hσ; (SsJ.cs (SJ.sn (EJ.of (Ev.nm (.i 2)) (AJ.itemE (Ev.ta hW X.o_Line (Ev.nm .zx) X.a_Line_cells.find (by nofun) (nd_Line rfl) .zx rfl) (Ev.nm (.i 1)) (by nofun) ?_ ?_ ?_ (SsJ.cs (SJ.iteF (TEv.cmp (Ev.subTup (Ev.nm (.i 2)) Ev.ci rfl (lb rfl)) Ev.ci CmpE.eq) (by simp [hw]) (SsJ.nl (SsJ.nl ?_))))))))) dd))))) dd)))))))))))))))))))))))))))))))))))))))))
    all_goals first
      | lia
      | (simp [part_len]; lia)
      | skip
    rw [gs]
    refine h _ ?_
    rw [put, if_neg (by rw [hw]; decide)]
    exact hu.set
  · have he : (k : Int) + x.w = ((k + 2 : Nat) : Int) := by rw [hw]; simp
    have ek : (k : Int) + 1 = ((k + 1 : Nat) : Int) := by simp
    refine (SsJ.cs (SJ.ite (TJ.or (TJ.not (TJ.chain (EJ.of Ev.ci (ChJ.link (EJ.of (Ev.nm (.i 1)) (CmpJ.le (TrJ.bl (iteY (by simp) (ChJ.last (EJ.of (Ev.call (Ev.gl hW .zx) Keeps.builtin (LEv.cs (Ev.ta hW X.o_Line (Ev.nm .zx) X.a_Line_cells.find (by first | assumption | exact get_ne hn (by simpa using Ne.symm (by simpa using hnb)) | exact kS hb) (nd_Line rfl) .zx rfl) LEv.nl) (CE.lenList (by first | assumption | exact get_ne hn (by simpa using Ne.symm (by simpa using hnb)) | exact kS hb) ?_)) (CmpJ.lt (TrJ.bl (iteN (by simp; lia) (TJ.or (TJ.cmp (EJ.of (Ev.subTup (Ev.nm (.i 2)) Ev.ci rfl (lb rfl)) (EJ.of Ev.ci (CmpJ.eq (TrJ.bl (iteN (by simp [hw]) (TJ.or_nil (iteF (SsJ.nl (SsJ.cs (SJ.ite (TJ.and (TJ.cmp (EJ.of (Ev.subTup (Ev.nm (.i 2)) Ev.ci rfl (lb rfl)) (EJ.of Ev.ci (CmpJ.eq (TrJ.bl (iteY (by simp [hw]) (TJ.and (TJ.cmp (EJ.of (Ev.ad (Ev.nm (.i 1)) Ev.ci) (EJ.of (Ev.call (Ev.gl hW .zx) Keeps.builtin (LEv.cs (Ev.ta hW X.o_Line (Ev.nm .zx) X.a_Line_cells.find (by first | assumption | exact get_ne hn (by simpa using Ne.symm (by simpa using hnb)) | exact kS hb) (nd_Line rfl) .zx rfl) LEv.nl) (CE.lenList (by first | assumption | exact get_ne hn (by simpa using Ne.symm (by simpa using hnb)) | exact kS hb) ?_)) (CmpJ.eq (TrJ.bl (iteN (by simp; lia) (iteF (SsJ.nl (SsJ.cs (SJ.expr (EJ.methE hW (Ev.nm .zx) (by first | assumption | exact get_ne hn (by simpa using Ne.symm (by simpa using hnb)) | exact kS hb) X.m_Line_part (na_Line_part rfl) (LEv.cs (Ev.nm (.i 1)) LEv.nl) (CJ.up (d' := 4) (Line_part X (by first | exact rfl | assumption) hn hb (by first | exact hl | (rw [part_len]; exact hl)) fun σ' hσ => have hn := hσ.1.get hn hnb; have hb := hσ.2; have hu := hu.trans hσ; (SsJ.cs (SJ.expr (EJ.methE hW (Ev.nm .zx) (by first | assumption | exact get_ne hn (by simpa using Ne.symm (by simpa using hnb)) | exact kS hb) X.m_Line_part (na_Line_part rfl) (LEv.cs (Ev.ad (Ev.nm (.i 1)) (Ev.subTup (Ev.nm (.i 2)) Ev.ci rfl (lb rfl))) LEv.nl) (CJ.up (d' := 4) (Line_part X (by first | exact rfl | assumption) hn hb (by first | exact hl | (rw [part_len]; exact hl)) fun σ' hσ => have hn := hσ.1.get hn hnb; have hb := hσ.2; have hu := hu.trans hσ; (SsJ.cs (SJ.sn (EJ.of (Ev.nm (.i 2)) (AJ.itemE (Ev.ta hW X.o_Line (Ev.nm .zx) X.a_Line_cells.find (by first | assumption | exact get_ne hn (by simpa using Ne.symm (by simpa using hnb)) | exact kS hb) (nd_Line rfl) .zx rfl) (Ev.nm (.i 1)) (by first | assumption | exact get_ne hn (by simpa using Ne.symm (by simpa using hnb)) | exact kS hb) ?_ ?_ ?_ (SsJ.cs (SJ.iteT (TEv.cmp (Ev.subTup (Ev.nm (.i 2)) Ev.ci rfl (lb rfl)) Ev.ci CmpE.eq) (by simp [hw]) (SsJ.cs (SJ.sn (EJ.ce (Ev.gl hW (.i 2)) X.k_right_half (LEv.cs (Ev.nm (.i 2)) LEv.nl) (CJ.up (d' := 1) (right_half X (AJ.itemE (Ev.ta hW X.o_Line (Ev.nm .zx) X.a_Line_cells.find (by first | assumption | exact get_ne hn (by simpa using Ne.symm (by simpa using hnb)) | exact kS hb) (nd_Line rfl) .zx rfl) (Ev.ad (Ev.nm (.i 1)) Ev.ci) (by first | assumption | exact get_ne hn (by simpa using Ne.symm (by simpa using hnb)) | exact kS hb) ?_ ?_ ?_ (SsJ.nl (SsJ.nl ?_)))) dd))))))))))) dd))))) dd))))))))))))))))))))))))))))))))))))))))))))))))
    all_goals first
      | lia
      | (simp [part_len]; lia)
      | (simp [part_len]; done)
      | skip
    refine h _ ?_
    have e1 := gs (part (part l k) (k + 2)) k x
    have e2 := gs ((part (part l k) (k + 2)).set k x) (k + 1) (half x)
    rw [List.set_set, e1, ek]
    refine (?_ : Upd σ (σ'.set b (.list ((((part (part l k) (k + 2)).set k x).map Cell.v).set ((k + 1 : Nat) : Int).toNat (half x).v))) b _)
    rw [e2, put, if_pos hw]
    exact hu.set
noncomputable def border (l : List Cell) (s : Bool) (k : Nat) : List Cell := if k < l.length ∧ (s && (at_ l k).k) = false then part l k else l
theorem border_len (l : List Cell) (s : Bool) (k : Nat) : (border l s k).length = l.length := by unfold border; split <;> simp [part_len]
noncomputable def fillTo (l : List Cell) (a m : Nat) (p : Pen) (s : Bool) : List Cell := l.mapIdx fun j x => if a ≤ j ∧ j < m ∧ (s && x.k) = false then p.blank else x
theorem fillTo_len (l : List Cell) (a m : Nat) (p : Pen) (s : Bool) : (fillTo l a m p s).length = l.length := by simp [fillTo]
noncomputable def eraseL (l : List Cell) (a b : Nat) (p : Pen) (s : Bool) : List Cell := fillTo (border (border l s a) s (b + 1)) a (b + 1) p s
theorem eraseL_len (l : List Cell) (a b : Nat) (p : Pen) (s : Bool) : (eraseL l a b p s).length = l.length := by simp [eraseL, fillTo_len, border_len]
theorem fillTo_at {l : List Cell} {a m : Nat} {p : Pen} {s : Bool} {j : Nat} (hj : j < l.length) : at_ (fillTo l a m p s) j = if a ≤ j ∧ j < m ∧ (s && (at_ l j).k) = false then p.blank else at_ l j := by
  simp [at_, fillTo, List.getD_eq_getElem?_getD, hj]
theorem fillTo_zero (l : List Cell) (a : Nat) (p : Pen) (s : Bool) : fillTo l a a p s = l := by
  unfold fillTo
  apply List.ext_getElem (by simp)
  intro j h1 h2
  simp only [List.getElem_mapIdx]
  rw [if_neg (by lia)]
theorem fillTo_set {l : List Cell} {a m : Nat} {p : Pen} {s : Bool} (ha : a ≤ m) (hm : m < l.length) (hs : (s && (at_ l m).k) = false) : (fillTo l a m p s).set m p.blank = fillTo l a (m + 1) p s := by
  unfold fillTo
  apply List.ext_getElem (by simp)
  intro j h1 h2
  have hl : j < l.length := by simpa using h2
  simp only [List.getElem_set, List.getElem_mapIdx]
  by_cases hj : m = j
  · subst hj
    have : (s && (l[m]).k) = false := by simpa [at_, List.getD_eq_getElem?_getD, hl] using hs
    rw [if_pos rfl, if_pos ⟨ha, by lia, this⟩]
  · rw [if_neg hj]
    by_cases h3 : a ≤ j ∧ j < m ∧ (s && (l[j]).k) = false
    · rw [if_pos h3, if_pos ⟨h3.1, by lia, h3.2.2⟩]
    · rw [if_neg h3, if_neg (fun q => h3 ⟨q.1, by lia, q.2.2⟩)]
theorem fillTo_skip {l : List Cell} {a m : Nat} {p : Pen} {s : Bool} (hm : m < l.length) (hs : (s && (at_ l m).k) = true) : fillTo l a m p s = fillTo l a (m + 1) p s := by
  unfold fillTo
  apply List.ext_getElem (by simp)
  intro j h1 h2
  have hl : j < l.length := by simpa using h2
  simp only [List.getElem_mapIdx]
  by_cases hj : m = j
  · subst hj
    have : (s && (l[m]).k) = true := by simpa [at_, List.getD_eq_getElem?_getD, hl] using hs
    rw [if_neg (fun q => by rw [this] at q; exact absurd q.2.2 (by decide)), if_neg (fun q => by rw [this] at q; exact absurd q.2.2 (by decide))]
  · by_cases h3 : a ≤ j ∧ j < m ∧ (s && (l[j]).k) = false
    · rw [if_pos h3, if_pos ⟨h3.1, by lia, h3.2.2⟩]
    · rw [if_neg h3, if_neg (fun q => h3 ⟨q.1, by lia, q.2.2⟩)]
theorem set_same {σ : List CO} {n : Nat} {o : CO} (h : σ[n]? = some o) : σ.set n o = σ := by
  obtain ⟨hl, e⟩ := gq h
  rw [← e, List.set_getElem_self]
noncomputable abbrev lineF (b : Nat) : List (Sr × V) := [("cells", .ref b), ("is_wrapped", .bool false), ("size", .str "single")]
theorem wrap_same {b : Nat} : putF (lineF b) "is_wrapped" (.bool false) = lineF b := by kernel_rfl
theorem Line_erase (X : Ctx W) {n bb : Nat} {l : List Cell} {a b : Nat} {p : Pen} {s : Bool} {i j : Int} (hi : i = a) (hj : j = b) (hn : σ[n]? = some (lineO bb)) (hnb : n ∉ [bb]) (hb : σ[bb]? = some (.list (l.map Cell.v))) (hl : l.length ≤ 100) (hab : a ≤ b) (hbl : b < l.length)
    (h : ∀ σ', Upd σ σ' bb (eraseL l a b p s) → Q .none σ') : CJ W (d + 5) u_Line_erase [.ref n, .int i, .int j, p.v, .bool s] σ Q := by
  have hW := X.ok
  subst hi hj
  refine call.Line_erase X fun r_ => ?_
  have hu : Upd σ σ bb l := .self hb
  have gs : ∀ (m : List Cell) (j : Nat) (y : Cell), (m.map Cell.v).set ((j : Nat) : Int).toNat y.v = (m.set j y).map Cell.v := fun m j y => by rw [Int.toNat_natCast, List.map_set]
  have e0 : (if (a : Int) > 0 then (a : Int) else 0) = ((a : Nat) : Int) := by split <;> omega
  have e1 : (if ((l.map Cell.v).length : Int) - 1 < (b : Int) then ((l.map Cell.v).length : Int) - 1 else (b : Int)) = ((b : Nat) : Int) := by
    rw [if_neg]; simp; omega
  refine (SsJ.cs (SJ.assignSwap (names := ["left", "right"]) (EJ.of (Ev.tu (LEv.cs (Ev.call (Ev.gl hW .zx) Keeps.builtin (LEv.cs Ev.ci (LEv.cs (Ev.nm (.i 1)) LEv.nl)) CE.max2) (LEv.cs (Ev.call (Ev.gl hW (.i 1)) Keeps.builtin (LEv.cs (Ev.nm (.i 2)) (LEv.cs (Ev.sb (Ev.call (Ev.gl hW (.i 2)) Keeps.builtin (LEv.cs (Ev.ta hW X.o_Line (Ev.nm .zx) X.a_Line_cells.find (by nofun) (nd_Line rfl) .zx rfl) LEv.nl) (CE.lenList (by nofun) ?_)) Ev.ci) LEv.nl)) CE.min2) LEv.nl)) (lb rfl)) ⟨_, _, rfl, rfl, (PutAll.cons (.i 2) (PutAll.cons (.i 1) PutAll.nil)), (SsJ.cs (SJ.iteF (TEv.cmp (Ev.nm (.i 1)) (Ev.nm (.i 2)) CmpE.gt) (by simp; omega) (SsJ.nl (SsJ.cs (SJ.for (ItE.ofE (Ev.tu (LEv.cs (Ev.nm (.i 1)) (LEv.cs (Ev.ad (Ev.nm (.i 2)) Ev.ci) LEv.nl)) (lb rfl)) (ItV.tup ?_)))))))⟩) rfl))
  · simp; omega
  simp only [e0, e1]
  have ek : (b : Int) + 1 = ((b + 1 : Nat) : Int) := by simp
  refine LoopJ.idx (fun i ρ τ => ∃ o m k, ρ = ([("self", some (.ref n)), ("left", some (.int a)), ("right", some (.int b)), ("pen", some p.v), ("is_selective", some (.bool s)), ("border", o), ("column", none)] : Rho) ∧ Upd σ τ bb m ∧ τ[n]? = some (lineO bb) ∧ m.length = l.length ∧
    ((i = 0 ∧ m = l ∧ k = a) ∨ (i = 1 ∧ m = border l s a ∧ k = b + 1) ∨ (i = 2 ∧ m = border (border l s a) s (b + 1) ∧ k = 0))) ⟨none, l, a, rfl, hu, hn, rfl, .inl ⟨rfl, rfl, rfl⟩⟩ ?_ ?_
  · rintro i c ρ τ hc ⟨o, m, k, rfl, hu, hn2, hml0, hik⟩
    have hml : m.length ≤ 100 := by omega
    have hc' : c = .int ((k : Nat) : Int) := by
      rcases hik with ⟨rfl, rfl, rfl⟩ | ⟨rfl, rfl, rfl⟩ | ⟨rfl, rfl, rfl⟩
      · simpa using hc.symm
      · simpa using hc.symm
      · simp at hc
    subst hc'
    have hi2 : i < 2 := (gq hc).1
    have step : ∀ o' τ', Upd σ τ' bb (border m s k) → τ'[n]? = some (lineO bb) → ∃ o m k, ([("self", some (.ref n)), ("left", some (.int a)), ("right", some (.int b)), ("pen", some p.v), ("is_selective", some (.bool s)), ("border", o'), ("column", none)] : Rho) = ([("self", some (.ref n)), ("left", some (.int a)), ("right", some (.int b)), ("pen", some p.v), ("is_selective", some (.bool s)), ("border", o), ("column", none)] : Rho) ∧ Upd σ τ' bb m ∧ τ'[n]? = some (lineO bb) ∧ m.length = l.length ∧
        ((i + 1 = 0 ∧ m = l ∧ k = a) ∨ (i + 1 = 1 ∧ m = border l s a ∧ k = b + 1) ∨ (i + 1 = 2 ∧ m = border (border l s a) s (b + 1) ∧ k = 0)) := by
      intro o' τ' h1 h2
      rcases hik with ⟨rfl, rfl, rfl⟩ | ⟨rfl, rfl, rfl⟩ | ⟨rfl, rfl, rfl⟩
      · exact ⟨o', _, b + 1, rfl, h1, h2, (border_len _ _ _).trans hml0, .inr (.inl ⟨rfl, rfl, rfl⟩)⟩
      · exact ⟨o', _, 0, rfl, h1, h2, (border_len _ _ _).trans hml0, .inr (.inr ⟨rfl, rfl, rfl⟩)⟩
      · exact absurd hi2 (by decide)
    clear hik
    by_cases hk : k < m.length
    · cases s with
      | false =>
        have eb : border m false k = part m k := by rw [border, if_pos ⟨hk, rfl⟩]
        refine (AJ.nm (.i 5) rfl (SsJ.cs (SJ.ite (TJ.and (TJ.cmp (EJ.of (Ev.nm (.i 5)) (EJ.of (Ev.call (Ev.gl hW (.i 2)) Keeps.builtin (LEv.cs (Ev.ta hW X.o_Line (Ev.nm .zx) X.a_Line_cells.find (by first | assumption | exact hu.2) (nd_Line rfl) .zx rfl) LEv.nl) (CE.lenList (by first | assumption | exact hu.2) ?_)) (CmpJ.lt (TrJ.bl (iteY (by simpa using hk) (TJ.and (TJ.not (TJ.and (TJ.plain (EJ.of (Ev.nm (.i 4)) (TrJ.bl (iteN rfl (iteT (TJ.and_nil (iteT (SsJ.cs (SJ.expr (EJ.methE hW (Ev.nm .zx) (by first | assumption | exact hu.2) X.m_Line_part (na_Line_part rfl) (LEv.cs (Ev.nm (.i 5)) LEv.nl) (CJ.up (d' := 4) (Line_part X (by first | exact rfl | assumption) hn2 hu.2 hml fun σ' hσ => have hn3 := hσ.1.get hn2 hnb; have hu := hu.trans hσ; (SsJ.nl (SsJ.nl ⟨trivial, step _ _ (by rw [eb]; exact hu) hn3⟩))) dd))))))))))))))))))))))))
        all_goals first | (simp; omega) | skip
      | true =>
        have g := at_get hk
        cases hg : (at_ m k).k with
        | false =>
          have eb : border m true k = part m k := by rw [border, if_pos ⟨hk, by simp [hg]⟩]
          refine (AJ.nm (.i 5) rfl (SsJ.cs (SJ.ite (TJ.and (TJ.cmp (EJ.of (Ev.nm (.i 5)) (EJ.of (Ev.call (Ev.gl hW (.i 2)) Keeps.builtin (LEv.cs (Ev.ta hW X.o_Line (Ev.nm .zx) X.a_Line_cells.find (by first | assumption | exact hu.2) (nd_Line rfl) .zx rfl) LEv.nl) (CE.lenList (by first | assumption | exact hu.2) ?_)) (CmpJ.lt (TrJ.bl (iteY (by simpa using hk) (TJ.and (TJ.not (TJ.and (TJ.plain (EJ.of (Ev.nm (.i 4)) (TrJ.bl (iteY rfl (TJ.and (TJ.plain (EJ.of (Ev.subTup (Ev.subList (Ev.ta hW X.o_Line (Ev.nm .zx) X.a_Line_cells.find (by first | assumption | exact hu.2) (nd_Line rfl) .zx rfl) (Ev.nm (.i 5)) (by first | assumption | exact hu.2) (item_nat rfl g) ?_) Ev.ci rfl (lb rfl)) (TrJ.bl (iteN (by simpa using hg) (iteT (TJ.and_nil (iteT (SsJ.cs (SJ.expr (EJ.methE hW (Ev.nm .zx) (by first | assumption | exact hu.2) X.m_Line_part (na_Line_part rfl) (LEv.cs (Ev.nm (.i 5)) LEv.nl) (CJ.up (d' := 4) (Line_part X (by first | exact rfl | assumption) hn2 hu.2 hml fun σ' hσ => have hn3 := hσ.1.get hn2 hnb; have hu := hu.trans hσ; (SsJ.nl (SsJ.nl ⟨trivial, step _ _ (by rw [eb]; exact hu) hn3⟩))) dd)))))))))))))))))))))))))))))
          all_goals first | (simp; omega) | skip
        | true =>
          have eb : border m true k = m := by rw [border, if_neg (fun q => by simp [hg] at q)]
          refine (AJ.nm (.i 5) rfl (SsJ.cs (SJ.ite (TJ.and (TJ.cmp (EJ.of (Ev.nm (.i 5)) (EJ.of (Ev.call (Ev.gl hW (.i 2)) Keeps.builtin (LEv.cs (Ev.ta hW X.o_Line (Ev.nm .zx) X.a_Line_cells.find (by first | assumption | exact hu.2) (nd_Line rfl) .zx rfl) LEv.nl) (CE.lenList (by first | assumption | exact hu.2) ?_)) (CmpJ.lt (TrJ.bl (iteY (by simpa using hk) (TJ.and (TJ.not (TJ.and (TJ.plain (EJ.of (Ev.nm (.i 4)) (TrJ.bl (iteY rfl (TJ.and (TJ.plain (EJ.of (Ev.subTup (Ev.subList (Ev.ta hW X.o_Line (Ev.nm .zx) X.a_Line_cells.find (by first | assumption | exact hu.2) (nd_Line rfl) .zx rfl) (Ev.nm (.i 5)) (by first | assumption | exact hu.2) (item_nat rfl g) ?_) Ev.ci rfl (lb rfl)) (TrJ.bl (iteY (by simpa using hg) (TJ.and_nil (iteF (iteF (SsJ.nl (SsJ.nl ⟨trivial, step _ _ (by rw [eb]; exact hu) hn2⟩)))))))))))))))))))))))))))
          all_goals first | (simp; omega) | skip
    · have eb : border m s k = m := by rw [border, if_neg (fun q => hk q.1)]
      refine (AJ.nm (.i 5) rfl (SsJ.cs (SJ.ite (TJ.and (TJ.cmp (EJ.of (Ev.nm (.i 5)) (EJ.of (Ev.call (Ev.gl hW (.i 2)) Keeps.builtin (LEv.cs (Ev.ta hW X.o_Line (Ev.nm .zx) X.a_Line_cells.find (by first | assumption | exact hu.2) (nd_Line rfl) .zx rfl) LEv.nl) (CE.lenList (by first | assumption | exact hu.2) ?_)) (CmpJ.lt (TrJ.bl (iteN (by simp; omega) (iteF (SsJ.nl (SsJ.nl ⟨trivial, step _ _ (by rw [eb]; exact hu) hn2⟩)))))))))))))
      all_goals first | (simp; omega) | skip
  · rintro ρ τ ⟨o, m, k, rfl, hu, hn2, hml0, hik⟩
    have hm2 : m = border (border l s a) s (b + 1) := by
      rcases hik with ⟨q, _⟩ | ⟨q, _⟩ | ⟨_, q, _⟩
      · simp at q
      · simp at q
      · exact q
    have hbm : b < m.length := by omega
    refine (SsJ.cs (SJ.for (ItE.callE (Ev.gl hW (.i 3)) Keeps.type (LEv.cs (Ev.nm (.i 1)) (LEv.cs (Ev.ad (Ev.nm (.i 2)) Ev.ci) LEv.nl)) (ItC.range2 ?_ ?_))))
    · rw [ek]; exact small_nat (by omega) (by omega)
    rw [ek]
    refine LoopJ.idx (fun i ρ τ => ∃ o o', ρ = ([("self", some (.ref n)), ("left", some (.int a)), ("right", some (.int b)), ("pen", some p.v), ("is_selective", some (.bool s)), ("border", o), ("column", o')] : Rho) ∧ Upd σ τ bb (fillTo m a (a + i) p s) ∧ τ[n]? = some (lineO bb)) ⟨o, none, rfl, by rw [Nat.add_zero, fillTo_zero]; exact hu, hn2⟩ ?_ ?_
    · rintro i c ρ τ hc ⟨o, o', rfl, hu, hn2⟩
      obtain ⟨hi, rfl⟩ := rangeV_get hc
      have hlen : (fillTo m a (a + i) p s).length = m.length := fillTo_len _ _ _ _ _
      have hk : a + i < (fillTo m a (a + i) p s).length := by omega
      have g := at_get hk
      have g0 : at_ (fillTo m a (a + i) p s) (a + i) = at_ m (a + i) := by
        rw [fillTo_at (by omega), if_neg (by omega)]
      rw [g0] at g
      have step : ∀ o' τ', Upd σ τ' bb (fillTo m a (a + (i + 1)) p s) → τ'[n]? = some (lineO bb) → ∃ oA oB, ([("self", some (.ref n)), ("left", some (.int a)), ("right", some (.int b)), ("pen", some p.v), ("is_selective", some (.bool s)), ("border", o), ("column", o')] : Rho) = ([("self", some (.ref n)), ("left", some (.int a)), ("right", some (.int b)), ("pen", some p.v), ("is_selective", some (.bool s)), ("border", oA), ("column", oB)] : Rho) ∧ Upd σ τ' bb (fillTo m a (a + (i + 1)) p s) ∧ τ'[n]? = some (lineO bb) :=
        fun o' τ' h1 h2 => ⟨_, _, rfl, h1, h2⟩
      have hlb : (fillTo m a (a + i) p s).length ≤ 100 := by omega
      cases s with
      | false =>
        have e6 := fillTo_set (l := m) (a := a) (m := a + i) (p := p) (s := false) (by omega) (by omega) rfl
        refine (AJ.nm (.i 6) rfl (SsJ.cs (SJ.ite (TJ.not (TJ.and (TJ.plain (EJ.of (Ev.nm (.i 4)) (TrJ.bl (iteN rfl (iteT (SsJ.cs (SJ.sn (EJ.ce (Ev.gl hW (.i 4)) X.k_blank_cell (LEv.cs (Ev.nm (.i 3)) LEv.nl) (CJ.up (d' := 2) (blank_cell X (AJ.itemE (Ev.ta hW X.o_Line (Ev.nm .zx) X.a_Line_cells.find (by first | assumption | exact hu.2) (nd_Line rfl) .zx rfl) (Ev.nm (.i 6)) (by first | assumption | exact hu.2) ?_ ?_ ?_ (SsJ.nl (SsJ.nl ⟨trivial, step _ _ ?_ (get_ne hn2 (by simpa using Ne.symm (by simpa using hnb)))⟩)))) dd))))))))))))))
        all_goals first | omega | (simp; omega) | skip
        rw [show a + (i + 1) = a + i + 1 by omega, ← e6, gs]
        exact hu.set
      | true =>
        cases hg : (at_ m (a + i)).k with
        | false =>
          have e6 := fillTo_set (l := m) (a := a) (m := a + i) (p := p) (s := true) (by omega) (by omega) (by simp [hg])
          refine (AJ.nm (.i 6) rfl (SsJ.cs (SJ.ite (TJ.not (TJ.and (TJ.plain (EJ.of (Ev.nm (.i 4)) (TrJ.bl (iteY rfl (TJ.and (TJ.plain (EJ.of (Ev.subTup (Ev.subList (Ev.ta hW X.o_Line (Ev.nm .zx) X.a_Line_cells.find (by first | assumption | exact hu.2) (nd_Line rfl) .zx rfl) (Ev.nm (.i 6)) (by first | assumption | exact hu.2) (item_nat rfl g) ?_) Ev.ci rfl (lb rfl)) (TrJ.bl (iteN (by simpa using hg) (iteT (SsJ.cs (SJ.sn (EJ.ce (Ev.gl hW (.i 4)) X.k_blank_cell (LEv.cs (Ev.nm (.i 3)) LEv.nl) (CJ.up (d' := 2) (blank_cell X (AJ.itemE (Ev.ta hW X.o_Line (Ev.nm .zx) X.a_Line_cells.find (by first | assumption | exact hu.2) (nd_Line rfl) .zx rfl) (Ev.nm (.i 6)) (by first | assumption | exact hu.2) ?_ ?_ ?_ (SsJ.nl (SsJ.nl ⟨trivial, step _ _ ?_ (get_ne hn2 (by simpa using Ne.symm (by simpa using hnb)))⟩)))) dd)))))))))))))))))))
          all_goals first | omega | (simp; omega) | skip
          rw [show a + (i + 1) = a + i + 1 by omega, ← e6, gs]
          exact hu.set
        | true =>
          have e6 := fillTo_skip (l := m) (a := a) (m := a + i) (p := p) (s := true) (by omega) (by simp [hg])
          refine (AJ.nm (.i 6) rfl (SsJ.cs (SJ.ite (TJ.not (TJ.and (TJ.plain (EJ.of (Ev.nm (.i 4)) (TrJ.bl (iteY rfl (TJ.and (TJ.plain (EJ.of (Ev.subTup (Ev.subList (Ev.ta hW X.o_Line (Ev.nm .zx) X.a_Line_cells.find (by first | assumption | exact hu.2) (nd_Line rfl) .zx rfl) (Ev.nm (.i 6)) (by first | assumption | exact hu.2) (item_nat rfl g) ?_) Ev.ci rfl (lb rfl)) (TrJ.bl (iteY (by simpa using hg) (TJ.and_nil (iteF (SsJ.nl (SsJ.nl ⟨trivial, step _ _ ?_ hn2⟩))))))))))))))))))
          all_goals first | omega | (simp; omega) | skip
          rw [show a + (i + 1) = a + i + 1 by omega, ← e6]
          exact hu
    · rintro ρ τ ⟨o, o', rfl, hu, hn2⟩
      rw [rangeV_len] at hu
      have e5 : a + (b + 1 - a) = b + 1 := by omega
      rw [e5] at hu
      have hu' : Upd σ τ bb (eraseL l a b p s) := by rw [eraseL, ← hm2]; exact hu
      have hlb : (fillTo m a (b + 1) p s).length ≤ 100 := by rw [fillTo_len]; omega
      refine (SsJ.cs (SJ.iteB (TEv.cmp (Ev.nm (.i 2)) (Ev.sb (Ev.call (Ev.gl hW (.i 2)) Keeps.builtin (LEv.cs (Ev.ta hW X.o_Line (Ev.nm .zx) X.a_Line_cells.find (by first | assumption | exact hu.2) (nd_Line rfl) .zx rfl) LEv.nl) (CE.lenList (by first | assumption | exact hu.2) ?_)) Ev.ci) CmpE.eq) (fun hc1 => (SsJ.cs (SJ.sn (EJ.of Ev.cbool (AJ.ta hW (Ev.nm .zx) (by first | assumption | exact hu.2) X.o_Line X.a_Line_is_wrapped.take (lb rfl) (SsJ.nl (SsJ.nl ?_))))))) (fun hc1 => (SsJ.nl (SsJ.nl ?_)))))
      all_goals first | (simp; omega) | skip
      · rw [wrap_same, set_same hn2]
        exact h _ hu'
      · exact h _ hu'
end
section
variable {W : Wd} {d : Nat} {F : Fm} {σ : List CO} {ρ ρ' : Rho} {x : Sr} {c : V} {pos pos' np : Pos} {k : Nat} {B : Mk} {am am' : AM} {h h' : Heap}
theorem AJ.back {o i : Xp} {c : V} {Q : Rho → List CO → Prop}
    (q : EJ W d F o ρ σ fun a σA => EJ W d F i ρ σA fun b σB => ∃ n l k, a = .ref n ∧ b = .int k ∧ σB[n]? = some (.list l) ∧ k < 0 ∧ -(l.length : Int) ≤ k ∧ l.length ≤ 100000 ∧ Q ρ (σB.set n (.list (l.set (k + (l.length : Int)).toNat c)))) : AJ W d F (.Subscript o i pos) c ρ σ Q := by
  refine .mk ?_
  intro A B s am v hR I hr hv P hP
  rw [arm_assign_Subscript]
  refine wpAny_bind (wpAny_holding (q.out A ⟨am, s.heap⟩ s am hR I.self hr _ fun va sK amA a σA qA ra IA rA => wpAny_bind (wpAny_holding (qA.out A ⟨amA, sK.heap⟩ sK amA hR IA.self rA _ fun vb sB amB b σB qB rb IB rB => ?_))))
  obtain ⟨n, l, k, rfl, rfl, ho, h0, hk, hl, qB⟩ := qB
  have JA := I.step IA
  have JB := JA.step IB
  obtain ⟨p, hp, rfl, _, ws, hL, rw'⟩ := JB.ref ho (JA.vr IB ra)
  have rv := JA.vr IB (I.vr IA hv)
  obtain ⟨u, rfl⟩ := rb
  obtain ⟨nn, hob⟩ := id hL
  have esz : ((ws.toArray.size : Nat) : Int) = l.length := by rw [List.size_toArray, rw'.length]
  refine wpAny_bind (wpAny_standAt (wpAny_bind (wpAny_holding (ki_setBack hob h0 (by rw [esz]; exact hk) (by lia) ?_))))
  rw [esz]
  generalize (k + (l.length : Int)).toNat = j at qB ⊢
  refine wpAny_release' ?_
  have hs : Heap.SameBut p.1 sB.heap (sB.heap.update p.1 (Obj.mapSeq (·.setIfInBounds j v))) := Heap.SameBut.update ..
  have hmap : Obj.mapSeq (·.setIfInBounds j v) (PySem.W.listOf ws.toArray nn) = PySem.W.listOf (ws.set j v).toArray nn := by
    simp [Obj.mapSeq, PySem.W.listOf]
  have hL' : (sB.heap.update p.1 (Obj.mapSeq (·.setIfInBounds j v))).PlainList p.1 (ws.set j v).toArray := ⟨nn, by rw [Heap.get?_update_self _ hob (by rw [hmap]; rfl), hmap]⟩
  have hks : ∀ b x, b ≠ p.1 → b ≠ p.2 → sB.heap.get? b = some x → (sB.heap.update p.1 (Obj.mapSeq (·.setIfInBounds j v))).get? b = some x := fun b x e _ g => (hs.2 b e).trans g
  refine hP { sB with heap := _ } amB _ _ qB (JB.change hp ho hks ⟨by assumption, ws.set j v, ?_, ?_⟩) rB
  · exact hL'
  · exact (rw'.set j rv).mono ⟨[], by simp⟩ (Inv0.changeTK JB.i0.rp hp hks)
theorem item_last {l : List V} {c : V} (h : l[l.length - 1]? = some c) : item l (-1) = some c := by
  have hk := (gq h).1
  unfold item seqIndex?
  have h0 : (-1 : Int) < 0 := by decide
  simp only [h0, if_true]
  rw [if_pos (by simp; lia)]
  have e : (-1 + (l.length : Int)).toNat = l.length - 1 := by lia
  rw [e]
  exact h
end
section
variable {W : Wd} {d : Nat} {F : Fm} {σ : List CO} {ρ ρ' : Rho} {c : V} {pos : Pos}
theorem AJ.cell {o i : Xp} {c : V} {Q : Rho → List CO → Prop}
    (q : EJ W d F o ρ σ fun a σA => EJ W d F i ρ σA fun b σB => ∃ (n : Nat) (l : List Cell) (k : Int) (j : Nat) (x : Cell), a = .ref n ∧ b = .int k ∧ c = Cell.v x ∧ k = ((j : Nat) : Int) ∧ σB[n]? = some (.list (l.map Cell.v)) ∧ j < l.length ∧ l.length ≤ 100 ∧ Q ρ (σB.set n (.list ((l.set j x).map Cell.v)))) : AJ W d F (.Subscript o i pos) c ρ σ Q := by
  refine AJ.item (PJ.mono q fun a σA qA => PJ.mono qA fun b σB qB => ?_)
  obtain ⟨n, l, k, j, x, rfl, rfl, rfl, rfl, h1, h2, h3, h4⟩ := qB
  refine ⟨n, _, _, rfl, rfl, h1, by lia, by simp; lia, by simp; lia, ?_⟩
  rw [Int.toNat_natCast, ← List.map_set]
  exact h4
theorem AJ.cellE {o i : Xp} {c : V} {Q : Rho → List CO → Prop} {n : Nat} {l : List Cell} {k : Int} {j : Nat} {x : Cell} (hK : Ev W d F ρ σ o (.ref n)) (h₂ : Ev W d F ρ σ i (.int k)) (hc : c = Cell.v x) (hk : k = ((j : Nat) : Int)) (hn : σ[n]? = some (.list (l.map Cell.v)))
    (hj : j < l.length) (hl : l.length ≤ 100) (q : Q ρ (σ.set n (.list ((l.set j x).map Cell.v)))) : AJ W d F (.Subscript o i pos) c ρ σ Q := AJ.cell (hK.out _ (h₂.out _ ⟨n, l, k, j, x, rfl, rfl, hc, hk, hn, hj, hl, q⟩))
theorem AJ.cellBack {o i : Xp} {c : V} {Q : Rho → List CO → Prop}
    (q : EJ W d F o ρ σ fun a σA => EJ W d F i ρ σA fun b σB => ∃ (n : Nat) (l : List Cell) (x : Cell), a = .ref n ∧ b = .int (-1) ∧ c = Cell.v x ∧ σB[n]? = some (.list (l.map Cell.v)) ∧ 0 < l.length ∧ l.length ≤ 100 ∧ Q ρ (σB.set n (.list ((l.set (l.length - 1) x).map Cell.v)))) : AJ W d F (.Subscript o i pos) c ρ σ Q := by
  refine AJ.back (PJ.mono q fun a σA qA => PJ.mono qA fun b σB qB => ?_)
  obtain ⟨n, l, x, rfl, rfl, rfl, h1, h2, h3, h4⟩ := qB
  refine ⟨n, _, _, rfl, rfl, h1, by lia, by simp; lia, by simp; lia, ?_⟩
  have e : (-1 + ((l.map Cell.v).length : Int)).toNat = l.length - 1 := by simp; lia
  rw [e, ← List.map_set]
  exact h4
end
noncomputable def Cell.d (x : Cell) : PyData := .tuple [.tuple (x.c.map PyData.int), .int x.w, .tuple [.int x.p.f, .int (-1), .int x.p.b, .int (-1), .int x.p.g], .bool x.k]
section
variable {σ : List CO}
theorem dv_ints : ∀ l : List Int, DVs σ (l.map V.int) (l.map PyData.int)
  | [] => .nil
  | _ :: l => .cons .int (dv_ints l)
theorem dv_cell (x : Cell) : DV σ x.v x.d := .tup (.cons (.tup (dv_ints _)) (.cons .int (.cons (.tup (.cons .int (.cons .int (.cons .int (.cons .int (.cons .int .nil)))))) (.cons .bool .nil))))
theorem dv_cells : ∀ l : List Cell, DVs σ (l.map Cell.v) (l.map Cell.d)
  | [] => .nil
  | x :: l => .cons (dv_cell x) (dv_cells l)
theorem lay_ints : ∀ l : List Int, PyData.canLayAll0 (l.map PyData.int) = true ∧ PyData.depthAll (l.map PyData.int) = 0
  | [] => ⟨rfl, rfl⟩
  | _ :: l => by simp [PyData.canLayAll0, PyData.depthAll, PyData.canLay0, PyData.depth, lay_ints l]
theorem lay_cell (x : Cell) : x.d.canLay0 = true ∧ x.d.depth ≤ 2 := by
  simp [Cell.d, PyData.canLayAll0, PyData.depthAll, PyData.canLay0, PyData.depth, lay_ints]
theorem lay_cells : ∀ l : List Cell, PyData.canLayAll0 (l.map Cell.d) = true ∧ PyData.depthAll (l.map Cell.d) ≤ 2
  | [] => ⟨rfl, by decide⟩
  | x :: l => by
    have h1 := lay_cell x
    have h2 := lay_cells l
    simp only [List.map_cons, PyData.canLayAll0, PyData.depthAll, h1.1, h2.1, Bool.and_self, true_and]
    lia
theorem shaped_cells (l : List Cell) : SeqAt.shaped (.list (l.map Cell.d)) = true := by
  have := lay_cells l
  simp [SeqAt.shaped, PyData.canLay0, PyData.depth, this.1]
  lia
theorem CmpJ.neNil {W : Wd} {d : Nat} {F : Fm} {ρ : Rho} {m k : Nat} {l : List Cell} {Q : V → List CO → Prop} (hm : σ[m]? = some (.list (l.map Cell.v))) (hk : σ[k]? = some (.list [])) (q : Q (.bool (!l.isEmpty)) σ) : CmpJ W d F .NotEq (.ref m) (.ref k) ρ σ Q := by
  refine CmpJ.neD (.list hm (dv_cells l)) (.list hk .nil) (shaped_cells l) rfl ?_
  have e : (!PyData.eqv (.list (l.map Cell.d)) (.list [])) = !l.isEmpty := by
    cases l <;> simp [PyData.eqv, PyData.eqvAll]
  rw [e]; exact q
end
noncomputable def mend0 (l : List Cell) : List Cell := if l ≠ [] ∧ (at_ l 0).w = 0 then l.set 0 (at_ l 0).p.blank else l
noncomputable def mend1 (l : List Cell) : List Cell := if l ≠ [] ∧ (at_ l (l.length - 1)).w = 2 then l.set (l.length - 1) (at_ l (l.length - 1)).p.blank else l
noncomputable def mended (l : List Cell) : List Cell := mend1 (mend0 l)
theorem mend0_len (l : List Cell) : (mend0 l).length = l.length := by unfold mend0; split <;> simp
theorem mend1_len (l : List Cell) : (mend1 l).length = l.length := by unfold mend1; split <;> simp
theorem mended_len (l : List Cell) : (mended l).length = l.length := by rw [mended, mend1_len, mend0_len]
section
variable {W : Wd} {d : Nat} {σ : List CO} {Q : V → List CO → Prop}
theorem grid_mended (X : Ctx W) {b : Nat} {l : List Cell} (hb : σ[b]? = some (.list (l.map Cell.v))) (hl : l.length ≤ 100) (h : ∀ σ' m, Same σ σ' [] → σ.length ≤ m → σ'[m]? = some (.list ((mended l).map Cell.v)) → Q (.ref m) σ') :
    CJ W (d + 4) u_grid_mended [.ref b] σ Q := by
  have hW := X.ok
  refine call.grid_mended X fun r_ => ?_
  have hlen : (l.map Cell.v).length ≤ 100000 := by simp; lia
  have gs : ∀ (m : List Cell) (j : Nat) (y : Cell), (m.map Cell.v).set ((j : Nat) : Int).toNat y.v = (m.set j y).map Cell.v := fun m j y => by rw [Int.toNat_natCast, List.map_set]
  by_cases hne : l = []
  · subst hne
    refine (SsJ.cs (SJ.sn (EJ.ce (Ev.gl hW .zx) Keeps.type (LEv.cs (Ev.nm .zx) LEv.nl) (CJ.listList (by nofun) ?_ (AJ.nm (.i 1) rfl (SsJ.cs (SJ.ite (TJ.and (TJ.cmp (EJ.of (Ev.nm (.i 1)) (EJ.list (LJ.of LEv.nl ⟨(lb rfl), (CmpJ.neNil (by first | assumption | exact kN | exact kA (by assumption) | exact kA kN | exact kA (kA kN) | exact kS (kA kN) | exact kA (kS (kA kN)) | exact kS (kA (kS (kA kN))) | exact kS (kA (kA kN))) kN (TrJ.bl (iteN rfl (iteF (SsJ.nl (SsJ.cs (SJ.ite (TJ.and (TJ.cmp (EJ.of (Ev.nm (.i 1)) (EJ.list (LJ.of LEv.nl ⟨(lb rfl), (CmpJ.neNil (by first | assumption | exact kN | exact kA (by assumption) | exact kA kN | exact kA (kA kN) | exact kS (kA kN) | exact kA (kS (kA kN)) | exact kS (kA (kS (kA kN))) | exact kS (kA (kA kN))) kN (TrJ.bl (iteN rfl (iteF (SsJ.nl (SsJ.cs (SJ.retE (Ev.nm (.i 1)) ?_)))))))⟩))))))))))))⟩))))))))))))
    · exact hlen
    · exact h _ _ (Same.app.trans (Same.app.trans .app)) (Nat.le_refl _) (kA (kA kN))
  · have hpos : 0 < l.length := List.length_pos_iff.mpr hne
    have g0 := at_get (l := l) hpos
    have he : (!l.isEmpty) = true := by simp [hne]
    by_cases hz : (at_ l 0).w = 0
    · have e0 : (l.set 0 (at_ l 0).p.blank) = mend0 l := by rw [mend0, if_pos ⟨hne, hz⟩]
      have hne2 : (l.set 0 (at_ l 0).p.blank) ≠ [] := by first | exact hne | simpa using hne
      have g1 : item (((l.set 0 (at_ l 0).p.blank)).map Cell.v) (-1) = some (at_ (l.set 0 (at_ l 0).p.blank) (((l.set 0 (at_ l 0).p.blank)).length - 1)).v := item_last (by simpa using at_get (l := (l.set 0 (at_ l 0).p.blank)) (k := l.length - 1) (by first | lia | (simp; lia)))
      by_cases hz2 : (at_ (l.set 0 (at_ l 0).p.blank) (((l.set 0 (at_ l 0).p.blank)).length - 1)).w = 2
      · have em : mended l = ((l.set 0 (at_ l 0).p.blank)).set (((l.set 0 (at_ l 0).p.blank)).length - 1) (at_ (l.set 0 (at_ l 0).p.blank) (((l.set 0 (at_ l 0).p.blank)).length - 1)).p.blank := by rw [mended, ← e0, mend1, if_pos ⟨hne2, hz2⟩]
        refine (SsJ.cs (SJ.sn (EJ.ce (Ev.gl hW .zx) Keeps.type (LEv.cs (Ev.nm .zx) LEv.nl) (CJ.listList (by and_intros) ?_ (AJ.nm (.i 1) rfl (SsJ.cs (SJ.ite (TJ.and (TJ.cmp (EJ.of (Ev.nm (.i 1)) (EJ.list (LJ.of LEv.nl ⟨(lb rfl), (CmpJ.neNil (by and_intros) kN (TrJ.bl (iteY (by simp [hne]) (TJ.and (TJ.cmp (EJ.of (Ev.subTup (Ev.subList (Ev.nm (.i 1)) Ev.ci (by and_intros) (item_nat rfl g0) ?_) Ev.ci rfl (lb rfl)) (EJ.of Ev.ci (CmpJ.eq (TrJ.bl (iteY (by simpa using hz) (TJ.and_nil (iteT (SsJ.cs (SJ.sn (EJ.ce (Ev.gl hW (.i 1)) X.k_grid_cut (LEv.cs (Ev.subList (Ev.nm (.i 1)) Ev.ci (by and_intros) (item_nat rfl g0) ?_) LEv.nl) (CJ.up (d' := 3) (grid_cut X (AJ.cellE (Ev.nm (.i 1)) Ev.ci rfl (by first | exact rfl | assumption) (by and_intros) ?_ ?_ (SsJ.nl (SsJ.cs (SJ.ite (TJ.and (TJ.cmp (EJ.of (Ev.nm (.i 1)) (EJ.list (LJ.of LEv.nl ⟨(lb rfl), (CmpJ.neNil (by and_intros) kN (TrJ.bl (iteY (by simp [hne]) (TJ.and (TJ.cmp (EJ.of (Ev.subTup (Ev.subList (Ev.nm (.i 1)) (Ev.neg Ev.ci) (by and_intros) g1 ?_) Ev.ci rfl (lb rfl)) (EJ.of Ev.ci (CmpJ.eq (TrJ.bl (iteY (by simpa using hz2) (TJ.and_nil (iteT (SsJ.cs (SJ.sn (EJ.ce (Ev.gl hW (.i 1)) X.k_grid_cut (LEv.cs (Ev.subList (Ev.nm (.i 1)) (Ev.neg Ev.ci) (by and_intros) g1 ?_) LEv.nl) (CJ.up (d' := 3) (grid_cut X (AJ.cellBack (EJ.of (Ev.nm (.i 1)) (EJ.of (Ev.neg Ev.ci) ⟨_, _, _, rfl, rfl, rfl, (by and_intros), ?_, ?_, (SsJ.nl (SsJ.cs (SJ.retE (Ev.nm (.i 1)) ?_)))⟩)))) dd))))))))))))))))⟩)))))))))) dd))))))))))))))))⟩))))))))))))
        all_goals first
          | (simp; lia)
          | lia
          | skip
        refine h _ _ ?_ (Nat.le_refl _) ?_
        · repeat (first | exact .refl | exact .app | refine Same.setNew ?_ (Nat.le_refl _) | refine Same.trans ?_ .app)
        · rw [em]; exact (by and_intros)
      · have em : mended l = (l.set 0 (at_ l 0).p.blank) := by rw [mended, ← e0, mend1, if_neg (fun q => hz2 q.2)]
        refine (SsJ.cs (SJ.sn (EJ.ce (Ev.gl hW .zx) Keeps.type (LEv.cs (Ev.nm .zx) LEv.nl) (CJ.listList (by and_intros) ?_ (AJ.nm (.i 1) rfl (SsJ.cs (SJ.ite (TJ.and (TJ.cmp (EJ.of (Ev.nm (.i 1)) (EJ.list (LJ.of LEv.nl ⟨(lb rfl), (CmpJ.neNil (by and_intros) kN (TrJ.bl (iteY (by simp [hne]) (TJ.and (TJ.cmp (EJ.of (Ev.subTup (Ev.subList (Ev.nm (.i 1)) Ev.ci (by and_intros) (item_nat rfl g0) ?_) Ev.ci rfl (lb rfl)) (EJ.of Ev.ci (CmpJ.eq (TrJ.bl (iteY (by simpa using hz) (TJ.and_nil (iteT (SsJ.cs (SJ.sn (EJ.ce (Ev.gl hW (.i 1)) X.k_grid_cut (LEv.cs (Ev.subList (Ev.nm (.i 1)) Ev.ci (by and_intros) (item_nat rfl g0) ?_) LEv.nl) (CJ.up (d' := 3) (grid_cut X (AJ.cellE (Ev.nm (.i 1)) Ev.ci rfl (by first | exact rfl | assumption) (by and_intros) ?_ ?_ (SsJ.nl (SsJ.cs (SJ.ite (TJ.and (TJ.cmp (EJ.of (Ev.nm (.i 1)) (EJ.list (LJ.of LEv.nl ⟨(lb rfl), (CmpJ.neNil (by and_intros) kN (TrJ.bl (iteY (by simp [hne]) (TJ.and (TJ.cmp (EJ.of (Ev.subTup (Ev.subList (Ev.nm (.i 1)) (Ev.neg Ev.ci) (by and_intros) g1 ?_) Ev.ci rfl (lb rfl)) (EJ.of Ev.ci (CmpJ.eq (TrJ.bl (iteN (by simpa using hz2) (iteF (SsJ.nl (SsJ.cs (SJ.retE (Ev.nm (.i 1)) ?_))))))))))))))⟩)))))))))) dd))))))))))))))))⟩))))))))))))
        all_goals first
          | (simp; lia)
          | lia
          | skip
        refine h _ _ ?_ (Nat.le_refl _) ?_
        · repeat (first | exact .refl | exact .app | refine Same.setNew ?_ (Nat.le_refl _) | refine Same.trans ?_ .app)
        · rw [em]; exact (by and_intros)
    · have e0 : l = mend0 l := by rw [mend0, if_neg (fun q => hz q.2)]
      have hne2 : l ≠ [] := by first | exact hne | simpa using hne
      have g1 : item ((l).map Cell.v) (-1) = some (at_ l ((l).length - 1)).v := item_last (by simpa using at_get (l := l) (k := l.length - 1) (by first | lia | (simp; lia)))
      by_cases hz2 : (at_ l ((l).length - 1)).w = 2
      · have em : mended l = (l).set ((l).length - 1) (at_ l ((l).length - 1)).p.blank := by rw [mended, ← e0, mend1, if_pos ⟨hne2, hz2⟩]
        refine (SsJ.cs (SJ.sn (EJ.ce (Ev.gl hW .zx) Keeps.type (LEv.cs (Ev.nm .zx) LEv.nl) (CJ.listList (by and_intros) ?_ (AJ.nm (.i 1) rfl (SsJ.cs (SJ.ite (TJ.and (TJ.cmp (EJ.of (Ev.nm (.i 1)) (EJ.list (LJ.of LEv.nl ⟨(lb rfl), (CmpJ.neNil (by and_intros) kN (TrJ.bl (iteY (by simp [hne]) (TJ.and (TJ.cmp (EJ.of (Ev.subTup (Ev.subList (Ev.nm (.i 1)) Ev.ci (by and_intros) (item_nat rfl g0) ?_) Ev.ci rfl (lb rfl)) (EJ.of Ev.ci (CmpJ.eq (TrJ.bl (iteN (by simpa using hz) (iteF (SsJ.nl (SsJ.cs (SJ.ite (TJ.and (TJ.cmp (EJ.of (Ev.nm (.i 1)) (EJ.list (LJ.of LEv.nl ⟨(lb rfl), (CmpJ.neNil (by and_intros) kN (TrJ.bl (iteY (by simp [hne]) (TJ.and (TJ.cmp (EJ.of (Ev.subTup (Ev.subList (Ev.nm (.i 1)) (Ev.neg Ev.ci) (by and_intros) g1 ?_) Ev.ci rfl (lb rfl)) (EJ.of Ev.ci (CmpJ.eq (TrJ.bl (iteY (by simpa using hz2) (TJ.and_nil (iteT (SsJ.cs (SJ.sn (EJ.ce (Ev.gl hW (.i 1)) X.k_grid_cut (LEv.cs (Ev.subList (Ev.nm (.i 1)) (Ev.neg Ev.ci) (by and_intros) g1 ?_) LEv.nl) (CJ.up (d' := 3) (grid_cut X (AJ.cellBack (EJ.of (Ev.nm (.i 1)) (EJ.of (Ev.neg Ev.ci) ⟨_, _, _, rfl, rfl, rfl, (by and_intros), ?_, ?_, (SsJ.nl (SsJ.cs (SJ.retE (Ev.nm (.i 1)) ?_)))⟩)))) dd))))))))))))))))⟩)))))))))))))))))))⟩))))))))))))
        all_goals first
          | (simp; lia)
          | lia
          | skip
        refine h _ _ ?_ (Nat.le_refl _) ?_
        · repeat (first | exact .refl | exact .app | refine Same.setNew ?_ (Nat.le_refl _) | refine Same.trans ?_ .app)
        · rw [em]; exact (by and_intros)
      · have em : mended l = l := by rw [mended, ← e0, mend1, if_neg (fun q => hz2 q.2)]
        refine (SsJ.cs (SJ.sn (EJ.ce (Ev.gl hW .zx) Keeps.type (LEv.cs (Ev.nm .zx) LEv.nl) (CJ.listList (by and_intros) ?_ (AJ.nm (.i 1) rfl (SsJ.cs (SJ.ite (TJ.and (TJ.cmp (EJ.of (Ev.nm (.i 1)) (EJ.list (LJ.of LEv.nl ⟨(lb rfl), (CmpJ.neNil (by and_intros) kN (TrJ.bl (iteY (by simp [hne]) (TJ.and (TJ.cmp (EJ.of (Ev.subTup (Ev.subList (Ev.nm (.i 1)) Ev.ci (by and_intros) (item_nat rfl g0) ?_) Ev.ci rfl (lb rfl)) (EJ.of Ev.ci (CmpJ.eq (TrJ.bl (iteN (by simpa using hz) (iteF (SsJ.nl (SsJ.cs (SJ.ite (TJ.and (TJ.cmp (EJ.of (Ev.nm (.i 1)) (EJ.list (LJ.of LEv.nl ⟨(lb rfl), (CmpJ.neNil (by and_intros) kN (TrJ.bl (iteY (by simp [hne]) (TJ.and (TJ.cmp (EJ.of (Ev.subTup (Ev.subList (Ev.nm (.i 1)) (Ev.neg Ev.ci) (by and_intros) g1 ?_) Ev.ci rfl (lb rfl)) (EJ.of Ev.ci (CmpJ.eq (TrJ.bl (iteN (by simpa using hz2) (iteF (SsJ.nl (SsJ.cs (SJ.retE (Ev.nm (.i 1)) ?_))))))))))))))⟩)))))))))))))))))))⟩))))))))))))
        all_goals first
          | (simp; lia)
          | lia
          | skip
        refine h _ _ ?_ (Nat.le_refl _) ?_
        · repeat (first | exact .refl | exact .app | refine Same.setNew ?_ (Nat.le_refl _) | refine Same.trans ?_ .app)
        · rw [em]; exact (by and_intros)
end
structure Ids where
  gr : Nat
  ls : Nat
  l : List Nat
  c : List Nat
noncomputable def Ids.line (i : Ids) (r : Nat) : Nat := i.l.getD r 0
noncomputable def Ids.cells (i : Ids) (r : Nat) : Nat := i.c.getD r 0
noncomputable def row (g : List (List Cell)) (r : Nat) : List Cell := g.getD r []
section
variable {W : Wd} {d : Nat} {σ : List CO} {Q : V → List CO → Prop}
noncomputable abbrev gridO (ls : Nat) : CO := .inst c_Grid [("rows", .int 3), ("columns", .int 6), ("lines", .ref ls)]
structure Grd (σ : List CO) (i : Ids) (g : List (List Cell)) : Prop where
  gr : σ[i.gr]? = some (gridO i.ls)
  ls : σ[i.ls]? = some (.list (i.l.map V.ref))
  ll : i.l.length = 3
  lc : i.c.length = 3
  lg : g.length = 3
  line : ∀ r, r < 3 → σ[i.line r]? = some (lineO (i.cells r))
  cells : ∀ r, r < 3 → σ[i.cells r]? = some (.list ((row g r).map Cell.v))
  wide : ∀ r, r < 3 → (row g r).length = 6
  agr : i.gr ∉ i.c
  als : i.ls ∉ i.c
  aln : ∀ r, r < 3 → i.line r ∉ i.c
  ac : ∀ r s, r < 3 → s < 3 → r ≠ s → i.cells r ≠ i.cells s
theorem Ids.cells_mem {i : Ids} (h : i.c.length = 3) {r : Nat} (hr : r < 3) : i.cells r ∈ i.c := by
  unfold Ids.cells
  rw [List.getD_eq_getElem?_getD, List.getElem?_eq_getElem (by lia)]
  exact List.getElem_mem _
theorem Grd.move {σ' : List CO} {i : Ids} {g : List (List Cell)} (G : Grd σ i g) (s : Same σ σ' []) : Grd σ' i g :=
  ⟨s.get G.gr (by simp), s.get G.ls (by simp), G.ll, G.lc, G.lg, fun r hr => s.get (G.line r hr) (by simp), fun r hr => s.get (G.cells r hr) (by simp), G.wide, G.agr, G.als, G.aln, G.ac⟩
theorem Grd.lt {i : Ids} {g : List (List Cell)} (G : Grd σ i g) {x : Nat} (h : x ∈ i.c) : x < σ.length := by
  obtain ⟨r, hr, e⟩ := List.mem_iff_getElem.mp h
  have h3 : r < 3 := G.lc ▸ hr
  have z := G.cells r h3
  have e2 : i.cells r = x := by simp [Ids.cells, List.getD_eq_getElem?_getD, hr, e]
  rw [e2] at z
  exact (gq z).1
theorem row_set {g : List (List Cell)} {r s : Nat} {l : List Cell} (hr : r < g.length) : row (g.set r l) s = if s = r then l else row g s := by
  unfold row
  simp only [List.getD_eq_getElem?_getD, List.getElem?_set]
  by_cases h : r = s
  · subst h; simp [hr]
  · rw [if_neg h, if_neg (fun q => h q.symm)]
theorem Grd.upd {σ' : List CO} {i : Ids} {g : List (List Cell)} (G : Grd σ i g) {r : Nat} (hr : r < 3) {l : List Cell} (hl : l.length = 6) (u : Upd σ σ' (i.cells r) l) : Grd σ' i (g.set r l) := by
  have hm := Ids.cells_mem G.lc hr
  have ne : ∀ x, x ∉ i.c → x ∉ [i.cells r] := fun x hx q => hx (mq q ▸ hm)
  refine ⟨u.1.get G.gr (ne _ G.agr), u.1.get G.ls (ne _ G.als), G.ll, G.lc, by simpa using G.lg, fun s hs => u.1.get (G.line s hs) (ne _ (G.aln s hs)), fun s hs => ?_, fun s hs => ?_, G.agr, G.als, G.aln, G.ac⟩
  · rw [row_set (by rw [G.lg]; exact hr)]
    by_cases e : s = r
    · subst e; rw [if_pos rfl]; exact u.2
    · rw [if_neg e]
      exact u.1.get (G.cells s hs) (by simpa using G.ac s r hs hr e)
  · rw [row_set (by rw [G.lg]; exact hr)]
    split
    · exact hl
    · exact G.wide s hs
theorem Grd.sameC {σ' : List CO} {i : Ids} {g : List (List Cell)} (G : Grd σ i g) {r : Nat} (hr : r < 3) {l : List Cell} (u : Upd σ σ' (i.cells r) l) : Same σ σ' i.c :=
  u.1.weak fun j hj => by rw [mq hj]; exact Ids.cells_mem G.lc hr
theorem Grd.ref {i : Ids} {g : List (List Cell)} (G : Grd σ i g) {r : Nat} (hr : r < 3) : (i.l.map V.ref)[r]? = some (.ref (i.line r)) := by
  rw [List.getElem?_map, List.getElem?_eq_getElem (by rw [G.ll]; exact hr)]
  simp [Ids.line, List.getD_eq_getElem?_getD, G.ll, hr]
theorem Grid_line (X : Ctx W) {i : Ids} {g : List (List Cell)} {r : Nat} {k : Int} (hk : k = r) (G : Grd σ i g) (hr : r < 3) (h : Q (.ref (i.line r)) σ) : CJ W (d + 1) u_Grid_line [.ref i.gr, .int k] σ Q := by
  have hW := X.ok
  refine call.Grid_line X fun r_ => ?_
  have h1 := G.gr
  have h2 := G.ls
  have h3 := G.ll
  refine (SsJ.cs (SJ.retE (Ev.subList (Ev.ta hW X.o_Grid (Ev.nm .zx) X.a_Grid_lines.find (by nofun) (nd_Grid rfl) (.i 2) rfl) (Ev.nm (.i 1)) (by nofun) (item_nat hk (G.ref hr)) ?_) h))
  all_goals (simp; lia)
theorem Grid_cells_of (X : Ctx W) {i : Ids} {g : List (List Cell)} {r a b : Nat} {k k1 k2 : Int} (hk : k = r) (hk1 : k1 = a) (hk2 : k2 = b) (G : Grd σ i g) (hr : r < 3)
    (h : ∀ σ' m, Same σ σ' [] → σ.length ≤ m → σ'[m]? = some (.list ((mended (((row g r).take (b + 1)).drop a)).map Cell.v)) → Q (.ref m) σ') : CJ W (d + 5) u_Grid_cells_of [.ref i.gr, .int k, .int k1, .int k2] σ Q := by
  have hW := X.ok
  refine call.Grid_cells_of X fun r_ => ?_
  have h1 := G.gr
  have h2 := G.ls
  have h3 := G.ll
  have h4 := G.line r hr
  have h5 := G.cells r hr
  have h6 := G.wide r hr
  subst hk1 hk2
  have e : slc ((row g r).map Cell.v) (some (a : Int)) (some ((b : Int) + 1)) = ((((row g r).take (b + 1)).drop a)).map Cell.v := by
    have := slc_ab (l := (row g r).map Cell.v) (a := a) (b := b + 1)
    rw [show ((b + 1 : Nat) : Int) = (b : Int) + 1 by simp] at this
    rw [this, ← List.map_take, ← List.map_drop]
  refine (SsJ.cs (SJ.ret (EJ.call (EJ.glob hW .zx ⟨_, rfl, X.k_grid_mended, (LJ.cons (EJ.slice (EJ.of (Ev.ta hW X.o_Line (Ev.subList (Ev.ta hW X.o_Grid (Ev.nm .zx) X.a_Grid_lines.find (by nofun) (nd_Grid rfl) (.i 2) rfl) (Ev.nm (.i 1)) (by nofun) (item_nat hk (G.ref hr)) ?_) X.a_Line_cells.find (by nofun) (nd_Line rfl) .zx rfl) (EPJ.some (EJ.of (Ev.nm (.i 2)) (EPJ.some (EJ.of (Ev.ad (Ev.nm (.i 3)) Ev.ci) (SlJ.list (by nofun) rfl rfl ?_ (LJ.of LEv.nl ?_)))))))))⟩))))
  all_goals first | (simp; lia) | skip
  rw [e]
  refine grid_mended X kN (by simp; lia) fun σ' m hs hm hg => ?_
  exact h σ' m (Same.app.trans hs) (by simp at hm; lia) hg
noncomputable def overl (l : List Cell) (k : Nat) (xs : List Cell) : List Cell := l.mapIdx fun j y => if k ≤ j ∧ j < k + xs.length then at_ xs (j - k) else y
noncomputable def cutAt (l : List Cell) (k : Nat) : List Cell := if (at_ l k).w = 0 then l.set (k - 1) (at_ l (k - 1)).p.blank else l
noncomputable def cutEnd (l : List Cell) (e : Nat) : List Cell := if e < 6 ∧ (at_ l e).w = 0 then l.set e (at_ l e).p.blank else l
noncomputable def putC (l : List Cell) (k : Nat) (xs : List Cell) : List Cell := if xs = [] then l else overl (cutEnd (cutAt l k) (k + xs.length)) k xs
theorem overl_len (l : List Cell) (k : Nat) (xs : List Cell) : (overl l k xs).length = l.length := by simp [overl]
theorem cutAt_len (l : List Cell) (k : Nat) : (cutAt l k).length = l.length := by unfold cutAt; split <;> simp
theorem cutEnd_len (l : List Cell) (k : Nat) : (cutEnd l k).length = l.length := by unfold cutEnd; split <;> simp
theorem putC_len (l : List Cell) (k : Nat) (xs : List Cell) : (putC l k xs).length = l.length := by unfold putC; split <;> simp [overl_len, cutAt_len, cutEnd_len]
theorem overl_nil (l : List Cell) (k : Nat) : overl l k [] = l := by
  unfold overl
  apply List.ext_getElem (by simp)
  intro j h1 h2
  simp only [List.getElem_mapIdx]
  rw [if_neg (fun q => by have := q.2; simp at this; lia)]
theorem overl_step {l xs : List Cell} {k i : Nat} (hi : i < xs.length) (hk : k + i < l.length) : (overl l k (xs.take i)).set (k + i) (at_ xs i) = overl l k (xs.take (i + 1)) := by
  unfold overl
  apply List.ext_getElem (by simp)
  intro j h1 h2
  have hj : j < l.length := by simpa using h2
  simp only [List.getElem_set, List.getElem_mapIdx]
  have l1 : (xs.take i).length = i := by simp; lia
  have l2 : (xs.take (i + 1)).length = i + 1 := by simp; lia
  simp only [l1, l2]
  by_cases e : k + i = j
  · subst e
    rw [if_pos rfl, if_pos (by lia)]
    simp [at_, List.getD_eq_getElem?_getD, List.getElem?_take]
  · rw [if_neg e]
    by_cases h3 : k ≤ j ∧ j < k + i
    · rw [if_pos h3, if_pos (by lia)]
      simp only [at_, List.getD_eq_getElem?_getD, List.getElem?_take]
      rw [if_pos (by lia), if_pos (by lia)]
    · rw [if_neg h3, if_neg (by lia)]
theorem enumV_get {xs : List Cell} {j : Nat} {c : V} (h : (enumV (xs.map Cell.v))[j]? = some c) : j < xs.length ∧ c = .tup [.int (j : Nat), (at_ xs j).v] := by
  unfold enumV at h
  obtain ⟨hl, e⟩ := gq h
  simp at hl e
  exact ⟨hl, by rw [← e]; simp [at_, List.getD_eq_getElem?_getD, hl]⟩
theorem enumV_len {xs : List Cell} : (enumV (xs.map Cell.v)).length = xs.length := by simp [enumV]
theorem SsJ.mid {F : Fm} {st : PySem.Stmt} {sts : List PySem.Stmt} {ρ : Rho} {Q : Fl → Rho → List CO → Prop} (I : Rho → List CO → Prop) (q : SJ W d F st ρ σ fun f ρA σA => match f with | .next => I ρA σA | _ => False)
    (r : ∀ ρA σA, I ρA σA → SsJ W d F sts ρA σA Q) : SsJ W d F (st :: sts) ρ σ Q := by
  refine SsJ.cs (.mk fun A B s am hR IO hr P hP => q.out A B s am hR IO hr P fun a s' am' c ρ' σ' z => hP a s' am' c ρ' σ' ?_)
  cases c with
  | next => exact r _ _ z
  | brk => exact z.elim
  | cont => exact z.elim
  | ret c => exact z.elim
theorem Grid_put_cells (X : Ctx W) {i : Ids} {g : List (List Cell)} {r k m : Nat} {xs : List Cell} {r' k' : Int} (hr' : r' = r) (hk' : k' = k) (G : Grd σ i g) (hr : r < 3) (hm : σ[m]? = some (.list (xs.map Cell.v))) (hmc : m ∉ i.c) (hk : k + xs.length ≤ 6)
    (hw : xs ≠ [] → (at_ (row g r) k).w = 0 → 0 < k) (h : ∀ σ', Upd σ σ' (i.cells r) (putC (row g r) k xs) → Q .none σ') : CJ W (d + 5) u_Grid_put_cells [.ref i.gr, .int r', .int k', .ref m] σ Q := by
  have hW := X.ok
  refine call.Grid_put_cells X fun r_ => ?_
  have h1 := G.gr
  have h2 := G.ls
  have h3 := G.ll
  have h4 := G.line r hr
  have h5 := G.cells r hr
  have h6 := G.wide r hr
  have hcm := Ids.cells_mem G.lc hr
  have hb1 : i.gr ∉ [i.cells r] := fun q => G.agr (mq q ▸ hcm)
  have hb2 : i.line r ∉ [i.cells r] := fun q => G.aln r hr (mq q ▸ hcm)
  have hb3 : m ∉ [i.cells r] := fun q => hmc (mq q ▸ hcm)
  subst hk'
  by_cases hx : xs = []
  · subst hx
    refine (SsJ.cs (SJ.setE (Ev.subList (Ev.ta hW X.o_Grid (Ev.nm .zx) X.a_Grid_lines.find (by nofun) (nd_Grid rfl) (.i 2) rfl) (Ev.nm (.i 1)) (by nofun) (item_nat hr' (G.ref hr)) ?_) (.i 4) rfl (SsJ.cs (SJ.setE (Ev.ad (Ev.nm (.i 2)) (Ev.call (Ev.gl hW .zx) Keeps.builtin (LEv.cs (Ev.nm (.i 3)) LEv.nl) (CE.lenList (by nofun) ?_))) (.i 5) rfl (SsJ.cs (SJ.ite (TJ.cmp (EJ.of (Ev.nm (.i 3)) (EJ.list (LJ.of LEv.nl ⟨(lb rfl), (CmpJ.neNil (kA hm) kN (TrJ.bl (iteN rfl (SsJ.nl (SsJ.nl ?_)))))⟩))))))))))
    all_goals first | (simp; lia) | (simp; done) | skip
    exact h _ (by rw [putC, if_pos rfl]; exact (Upd.self h5).app)
  · have hxp : 0 < xs.length := List.length_pos_iff.mpr hx
    have ek : ((k : Int) + ((xs.map Cell.v).length : Int)) = ((k + xs.length : Nat) : Int) := by simp
    refine (SsJ.cs (SJ.setE (Ev.subList (Ev.ta hW X.o_Grid (Ev.nm .zx) X.a_Grid_lines.find (by nofun) (nd_Grid rfl) (.i 2) rfl) (Ev.nm (.i 1)) (by nofun) (item_nat hr' (G.ref hr)) ?_) (.i 4) rfl (SsJ.cs (SJ.setE (Ev.ad (Ev.nm (.i 2)) (Ev.call (Ev.gl hW .zx) Keeps.builtin (LEv.cs (Ev.nm (.i 3)) LEv.nl) (CE.lenList (by nofun) ?_))) (.i 5) rfl (SsJ.cs (SJ.ite (TJ.cmp (EJ.of (Ev.nm (.i 3)) (EJ.list (LJ.of LEv.nl ⟨(lb rfl), (CmpJ.neNil (kA hm) kN (TrJ.bl (iteY (by simp [hx]) ?_)))⟩))))))))))
    all_goals first | (simp; lia) | (simp; done) | skip
    simp only [ek]
    have hu : Upd σ (σ ++ [.list []]) (i.cells r) (row g r) := (Upd.self h5).app
    generalize σ ++ [CO.list []] = τ at hu ⊢
    refine SsJ.mid (fun ρ τ => ρ = ([("self", some (.ref i.gr)), ("row", some (.int r')), ("column", some (.int k)), ("cells", some (.ref m)), ("line", some (.ref (i.line r))), ("end", some (.int ((k + xs.length : Nat) : Int))), ("step", none), ("cell", none)] : Rho) ∧ Upd σ τ (i.cells r) (cutAt (row g r) k)) ?_ ?_
    · have k2 := hu.1.get h4 hb2
      have k3 := hu.2
      have g0 := at_get (l := row g r) (k := k) (by lia)
      by_cases hz : (at_ (row g r) k).w = 0
      · have hk0 := hw hx hz
        have ek1 : (k : Int) - 1 = ((k - 1 : Nat) : Int) := by lia
        have g1 := at_get (l := row g r) (k := k - 1) (by lia)
        refine (SJ.iteT (TEv.cmp (Ev.subTup (Ev.subList (Ev.ta hW X.o_Line (Ev.nm (.i 4)) X.a_Line_cells.find (by nofun) (nd_Line rfl) .zx rfl) (Ev.nm (.i 2)) (by nofun) (item_nat rfl g0) ?_) Ev.ci rfl (lb rfl)) Ev.ci CmpE.eq) (by simpa using hz) (SsJ.cs (SJ.sn (EJ.ce (Ev.gl hW (.i 1)) X.k_grid_cut (LEv.cs (Ev.subList (Ev.ta hW X.o_Line (Ev.nm (.i 4)) X.a_Line_cells.find (by nofun) (nd_Line rfl) .zx rfl) (Ev.sb (Ev.nm (.i 2)) Ev.ci) (by nofun) (item_nat ek1 g1) ?_) LEv.nl) (CJ.up (d' := 3) (grid_cut X (AJ.cellE (Ev.ta hW X.o_Line (Ev.nm (.i 4)) X.a_Line_cells.find (by nofun) (nd_Line rfl) .zx rfl) (Ev.sb (Ev.nm (.i 2)) Ev.ci) rfl (by first | exact rfl | assumption) (by nofun) ?_ ?_ (SsJ.nl ?_))) dd)))))
        all_goals first | (simp; lia) | lia | skip
        exact ⟨rfl, by rw [cutAt, if_pos hz]; exact hu.set⟩
      · refine (SJ.iteF (TEv.cmp (Ev.subTup (Ev.subList (Ev.ta hW X.o_Line (Ev.nm (.i 4)) X.a_Line_cells.find (by nofun) (nd_Line rfl) .zx rfl) (Ev.nm (.i 2)) (by nofun) (item_nat rfl g0) ?_) Ev.ci rfl (lb rfl)) Ev.ci CmpE.eq) (by simpa using hz) (SsJ.nl ?_))
        all_goals first | (simp; lia) | lia | skip
        exact ⟨rfl, by rw [cutAt, if_neg hz]; exact hu⟩
    · rintro ρA τA ⟨rfl, hu1⟩
      clear hu
      have l1 : (cutAt (row g r) k).length = 6 := by rw [cutAt_len, h6]
      refine SsJ.mid (fun ρ τ => ρ = ([("self", some (.ref i.gr)), ("row", some (.int r')), ("column", some (.int k)), ("cells", some (.ref m)), ("line", some (.ref (i.line r))), ("end", some (.int ((k + xs.length : Nat) : Int))), ("step", none), ("cell", none)] : Rho) ∧ Upd σ τ (i.cells r) (cutEnd (cutAt (row g r) k) (k + xs.length))) ?_ ?_
      · have k1 := hu1.1.get h1 hb1
        have k2 := hu1.1.get h4 hb2
        have k3 := hu1.2
        by_cases hz1 : k + xs.length < 6
        · have g0 := at_get (l := cutAt (row g r) k) (k := k + xs.length) (by lia)
          by_cases hz : (at_ (cutAt (row g r) k) (k + xs.length)).w = 0
          · refine (SJ.ite (TJ.and (TJ.cmp (EJ.of (Ev.nm (.i 5)) (EJ.of (Ev.ta hW X.o_Grid (Ev.nm .zx) X.a_Grid_columns.find (by nofun) (nd_Grid rfl) (.i 1) rfl) (CmpJ.lt (TrJ.bl (iteY (by simp; lia) (TJ.and (TJ.cmp (EJ.of (Ev.subTup (Ev.subList (Ev.ta hW X.o_Line (Ev.nm (.i 4)) X.a_Line_cells.find (by nofun) (nd_Line rfl) .zx rfl) (Ev.nm (.i 5)) (by nofun) (item_nat rfl g0) ?_) Ev.ci rfl (lb rfl)) (EJ.of Ev.ci (CmpJ.eq (TrJ.bl (iteY (by simpa using hz) (TJ.and_nil (iteT (SsJ.cs (SJ.sn (EJ.ce (Ev.gl hW (.i 1)) X.k_grid_cut (LEv.cs (Ev.subList (Ev.ta hW X.o_Line (Ev.nm (.i 4)) X.a_Line_cells.find (by nofun) (nd_Line rfl) .zx rfl) (Ev.nm (.i 5)) (by nofun) (item_nat rfl g0) ?_) LEv.nl) (CJ.up (d' := 3) (grid_cut X (AJ.cellE (Ev.ta hW X.o_Line (Ev.nm (.i 4)) X.a_Line_cells.find (by nofun) (nd_Line rfl) .zx rfl) (Ev.nm (.i 5)) rfl (by first | exact rfl | assumption) (by nofun) ?_ ?_ (SsJ.nl ?_))) dd)))))))))))))))))))))
            all_goals first | (simp; lia) | lia | skip
            exact ⟨rfl, by rw [cutEnd, if_pos ⟨hz1, hz⟩]; exact hu1.set⟩
          · refine (SJ.ite (TJ.and (TJ.cmp (EJ.of (Ev.nm (.i 5)) (EJ.of (Ev.ta hW X.o_Grid (Ev.nm .zx) X.a_Grid_columns.find (by nofun) (nd_Grid rfl) (.i 1) rfl) (CmpJ.lt (TrJ.bl (iteY (by simp; lia) (TJ.and (TJ.cmp (EJ.of (Ev.subTup (Ev.subList (Ev.ta hW X.o_Line (Ev.nm (.i 4)) X.a_Line_cells.find (by nofun) (nd_Line rfl) .zx rfl) (Ev.nm (.i 5)) (by nofun) (item_nat rfl g0) ?_) Ev.ci rfl (lb rfl)) (EJ.of Ev.ci (CmpJ.eq (TrJ.bl (iteN (by simpa using hz) (iteF (SsJ.nl ?_)))))))))))))))))
            all_goals first | (simp; lia) | lia | skip
            exact ⟨rfl, by rw [cutEnd, if_neg (fun q => hz q.2)]; exact hu1⟩
        · refine (SJ.ite (TJ.and (TJ.cmp (EJ.of (Ev.nm (.i 5)) (EJ.of (Ev.ta hW X.o_Grid (Ev.nm .zx) X.a_Grid_columns.find (by nofun) (nd_Grid rfl) (.i 1) rfl) (CmpJ.lt (TrJ.bl (iteN (by simp; lia) (iteF (SsJ.nl ?_))))))))))
          exact ⟨rfl, by rw [cutEnd, if_neg (fun q => hz1 q.1)]; exact hu1⟩
      · rintro ρB τB ⟨rfl, hu2⟩
        clear hu1
        have l2 : (cutEnd (cutAt (row g r) k) (k + xs.length)).length = 6 := by rw [cutEnd_len, l1]
        have hm2 := hu2.1.get hm hb3
        have ep : putC (row g r) k xs = overl (cutEnd (cutAt (row g r) k) (k + xs.length)) k xs := by rw [putC, if_neg hx]
        rw [ep] at h
        generalize cutEnd (cutAt (row g r) k) (k + xs.length) = l at hu2 l2 h
        refine (SsJ.cs (SJ.for (ItE.callE (Ev.gl hW (.i 2)) Keeps.type (LEv.cs (Ev.nm (.i 3)) LEv.nl) (ItC.enum (by nofun) ?_))))
        refine LoopJ.idx (fun i' ρ τ => ∃ o o', ρ = ([("self", some (.ref i.gr)), ("row", some (.int r')), ("column", some (.int k)), ("cells", some (.ref m)), ("line", some (.ref (i.line r))), ("end", some (.int ((k + xs.length : Nat) : Int))), ("step", o), ("cell", o')] : Rho) ∧ Upd σ τ (i.cells r) (overl l k (xs.take i'))) ⟨none, none, rfl, by rw [List.take_zero, overl_nil]; exact hu2⟩ ?_ ?_
        · rintro j c ρ τ hc ⟨o, o', rfl, hu3⟩
          obtain ⟨hj, rfl⟩ := enumV_get hc
          have k2 := hu3.1.get h4 hb2
          have k3 := hu3.2
          have hj2 : k + j < (overl l k (xs.take j)).length := by rw [overl_len]; lia
          have l3 : (overl l k (xs.take j)).length ≤ 100 := by rw [overl_len]; lia
          have he : (k : Int) + (j : Int) = ((k + j : Nat) : Int) := by simp
          refine (AJ.tuple (AsJ.cons (AJ.nm (.i 6) rfl (AsJ.cons (AJ.nm (.i 7) rfl (AsJ.nil (SsJ.cs (SJ.sn (EJ.of (Ev.nm (.i 7)) (AJ.cellE (Ev.ta hW X.o_Line (Ev.nm (.i 4)) X.a_Line_cells.find (by nofun) (nd_Line rfl) .zx rfl) (Ev.ad (Ev.nm (.i 2)) (Ev.nm (.i 6))) rfl (by first | exact rfl | assumption) (by nofun) ?_ ?_ (SsJ.nl ?_)))))))))))
          all_goals first | lia | skip
          refine ⟨hu3.1.get hm hb3 |> fun z => get_ne z ?_, _, _, rfl, ?_⟩
          · exact fun q => hb3 (List.mem_singleton.mpr q.symm)
          · rw [← overl_step hj (by lia)]
            exact hu3.set
        · rintro ρ τ ⟨o, o', rfl, hu3⟩
          rw [enumV_len, List.take_length] at hu3
          exact SsJ.nl (SsJ.nl (h _ hu3))
end
noncomputable def rowsMap (g : List (List Cell)) (t m : Nat) (f : Nat → List Cell → List Cell) : List (List Cell) := g.mapIdx fun j x => if t ≤ j ∧ j < m then f j x else x
theorem rowsMap_len (g : List (List Cell)) (t m : Nat) (f : Nat → List Cell → List Cell) : (rowsMap g t m f).length = g.length := by simp [rowsMap]
theorem rowsMap_zero (g : List (List Cell)) (t : Nat) (f : Nat → List Cell → List Cell) : rowsMap g t t f = g := by
  unfold rowsMap
  apply List.ext_getElem (by simp)
  intro j h1 h2
  simp only [List.getElem_mapIdx]
  rw [if_neg (by lia)]
theorem rowsMap_step {g : List (List Cell)} {t m : Nat} {f : Nat → List Cell → List Cell} (ht : t ≤ m) (hm : m < g.length) : (rowsMap g t m f).set m (f m (row g m)) = rowsMap g t (m + 1) f := by
  unfold rowsMap
  apply List.ext_getElem (by simp)
  intro j h1 h2
  have hl : j < g.length := by simpa using h2
  simp only [List.getElem_set, List.getElem_mapIdx]
  by_cases hj : m = j
  · subst hj
    rw [if_pos rfl, if_pos ⟨ht, by lia⟩]
    simp [row, List.getD_eq_getElem?_getD, hl]
  · rw [if_neg hj]
    by_cases h3 : t ≤ j ∧ j < m
    · rw [if_pos h3, if_pos ⟨h3.1, by lia⟩]
    · rw [if_neg h3, if_neg (fun q => h3 ⟨q.1, by lia⟩)]
theorem rowsMap_row {g : List (List Cell)} {t m : Nat} {f : Nat → List Cell → List Cell} {j : Nat} (hj : j < g.length) : row (rowsMap g t m f) j = if t ≤ j ∧ j < m then f j (row g j) else row g j := by
  simp [row, rowsMap, List.getD_eq_getElem?_getD, hj]
section
variable {W : Wd} {d : Nat} {σ : List CO} {Q : V → List CO → Prop}
noncomputable abbrev areaV (t l b r : Nat) : V := .tup [.int t, .int l, .int b, .int r]
theorem rowsMap_at {g : List (List Cell)} {t j : Nat} {f : Nat → List Cell → List Cell} (hj : t + j < g.length) : row (rowsMap g t (t + j) f) (t + j) = row g (t + j) := by
  rw [rowsMap_row hj, if_neg fun z => Nat.lt_irrefl _ z.2]
theorem Grid_erase_area (X : Ctx W) {i : Ids} {g : List (List Cell)} {t l b r : Nat} {p : Pen} {s : Bool} (G : Grd σ i g) (htb : t ≤ b) (hb3 : b < 3) (hlr : l ≤ r) (hr6 : r < 6)
    (h : ∀ σ', Same σ σ' i.c → Grd σ' i (rowsMap g t (b + 1) fun _ x => eraseL x l r p s) → Q .none σ') : CJ W (d + 6) u_Grid_erase_area [.ref i.gr, areaV t l b r, p.v, .bool s] σ Q := by
  have hW := X.ok
  refine call.Grid_erase_area X fun r_ => ?_
  have eb : (b : Int) + 1 = ((b + 1 : Nat) : Int) := by simp
  refine (SsJ.cs (SJ.sn (EJ.of (Ev.nm (.i 1)) (AJ.tuple (AsJ.cons (AJ.nm (.i 4) rfl (AsJ.cons (AJ.nm (.i 5) rfl (AsJ.cons (AJ.nm (.i 6) rfl (AsJ.cons (AJ.nm (.i 7) rfl (AsJ.nil (SsJ.cs (SJ.for (ItE.callE (Ev.gl hW .zx) Keeps.type (LEv.cs (Ev.nm (.i 4)) (LEv.cs (Ev.ad (Ev.nm (.i 6)) Ev.ci) LEv.nl)) (ItC.range2 ?_ ?_)))))))))))))))))
  · rw [eb]; exact sn htb hb3
  rw [eb]
  refine LoopJ.idx (fun j ρ τ => ∃ o, ρ = ([("self", some (.ref i.gr)), ("area", some (areaV t l b r)), ("pen", some p.v), ("is_selective", some (.bool s)), ("top", some (.int t)), ("left", some (.int l)), ("bottom", some (.int b)), ("right", some (.int r)), ("row", o)] : Rho) ∧
      Same σ τ i.c ∧ Grd τ i (rowsMap g t (t + j) fun _ x => eraseL x l r p s)) ⟨none, rfl, .refl, by rw [Nat.add_zero, rowsMap_zero]; exact G⟩ ?_ ?_
  · rintro j c ρ τ hc ⟨o, rfl, hs, G'⟩
    obtain ⟨hj, rfl⟩ := rangeV_get hc
    have hr3 : t + j < 3 := ar3 hj hb3
    have h1 := G'.gr
    have h2 := G'.ls
    have h3 := G'.ll
    have h4 := G'.line _ hr3
    have h5 := G'.cells _ hr3
    have h6 := G'.wide _ hr3
    have hcm := Ids.cells_mem G'.lc hr3
    have hnb : i.line (t + j) ∉ [i.cells (t + j)] := fun q => G'.aln _ hr3 (mq q ▸ hcm)
    have hrow : row (rowsMap g t (t + j) fun _ x => eraseL x l r p s) (t + j) = row g (t + j) := rowsMap_at (G.lg.symm ▸ hr3)
    have fin : ∀ τ', Upd τ τ' (i.cells (t + j)) (eraseL (row (rowsMap g t (t + j) fun _ x => eraseL x l r p s) (t + j)) l r p s) → Same σ τ' i.c ∧ Grd τ' i (rowsMap g t (t + (j + 1)) fun _ x => eraseL x l r p s) := fun τ' u => by
      refine ⟨hs.trans (G'.sameC hr3 u), ?_⟩
      have z := G'.upd hr3 (by rw [eraseL_len, h6]) u
      rw [hrow] at z
      rw [show t + (j + 1) = t + j + 1 from rfl, ← rowsMap_step (Nat.le_add_right _ _) (G.lg.symm ▸ hr3)]
      exact z
    refine (AJ.nm (.i 8) rfl (SsJ.cs (SJ.expr (EJ.methE hW (Ev.subList (Ev.ta hW X.o_Grid (Ev.nm .zx) X.a_Grid_lines.find (by nofun) (nd_Grid rfl) (.i 2) rfl) (Ev.nm (.i 8)) (by nofun) (item_nat rfl (G'.ref hr3)) ?_) (by nofun) X.m_Line_erase (na_Line_erase rfl) (LEv.cs (Ev.nm (.i 5)) (LEv.cs (Ev.nm (.i 7)) (LEv.cs (Ev.nm (.i 2)) (LEv.cs (Ev.nm (.i 3)) LEv.nl)))) (CJ.up (d' := 5) (Line_erase X rfl rfl h4 hnb h5 (by lia) hlr (by lia) fun τ' u => have k1 := u.1.get h1 (fun q => G'.agr (mq q ▸ hcm)); have k2 := u.1.get h2 (fun q => G'.als (mq q ▸ hcm)); have k4 := u.1.get h4 hnb; (SsJ.cs (SJ.iteB (TEv.cmp (Ev.nm (.i 7)) (Ev.sb (Ev.ta hW X.o_Grid (Ev.nm .zx) X.a_Grid_columns.find (by nofun) (nd_Grid rfl) (.i 1) rfl) Ev.ci) CmpE.eq) (fun hc1 => (SsJ.cs (SJ.sn (EJ.of Ev.cbool (AJ.ta hW (Ev.subList (Ev.ta hW X.o_Grid (Ev.nm .zx) X.a_Grid_lines.find (by nofun) (nd_Grid rfl) (.i 2) rfl) (Ev.nm (.i 8)) (by nofun) (item_nat rfl (G'.ref hr3)) ?_) (by nofun) X.o_Line X.a_Line_is_wrapped.take (lb rfl) (SsJ.nl (SsJ.nl ?_))))))) (fun hc1 => (SsJ.nl (SsJ.nl ?_)))))) dd)))))
    all_goals first | (simp; lia) | skip
    · rw [wrap_same, set_same k4]
      exact ⟨trivial, _, rfl, fin _ u⟩
    · exact ⟨trivial, _, rfl, fin _ u⟩
  · rintro ρ τ ⟨o, rfl, hs, G'⟩
    rw [rangeV_len, are htb] at G'
    exact SsJ.nl (h _ hs G')
theorem Grid_fill_area (X : Ctx W) {i : Ids} {g : List (List Cell)} {t l b r : Nat} {x : Cell} (G : Grd σ i g) (htb : t ≤ b) (hb3 : b < 3) (hlr : l ≤ r) (hr6 : r < 6) (hx : x.w = 1) (hw0 : ∀ j, j < 3 → (at_ (row g j) 0).w ≠ 0)
    (h : ∀ σ', Same σ σ' i.c → Grd σ' i (rowsMap g t (b + 1) fun _ y => putC y l (List.replicate (r + 1 - l) x)) → Q .none σ') : CJ W (d + 6) u_Grid_fill_area [.ref i.gr, areaV t l b r, x.v] σ Q := by
  have hW := X.ok
  refine call.Grid_fill_area X fun r_ => ?_
  have eb : (b : Int) + 1 = ((b + 1 : Nat) : Int) := by simp
  have es : ((r : Int) - (l : Int) + 1).toNat = r + 1 - l := by lia
  have el2 : (σ ++ [CO.list [x.v]]).length = σ.length + 1 := by simp
  have er : List.replicate (r + 1 - l) x.v = (List.replicate (r + 1 - l) x).map Cell.v := by simp
  refine (SsJ.cs (SJ.sn (EJ.of (Ev.nm (.i 1)) (AJ.tuple (AsJ.cons (AJ.nm (.i 3) rfl (AsJ.cons (AJ.nm (.i 4) rfl (AsJ.cons (AJ.nm (.i 5) rfl (AsJ.cons (AJ.nm (.i 6) rfl (AsJ.nil (SsJ.cs (SJ.setE (Ev.ad (Ev.sb (Ev.nm (.i 6)) (Ev.nm (.i 4))) Ev.ci) (.i 7) rfl (SsJ.cs (SJ.sn (EJ.binop (EJ.list (LJ.of (LEv.cs (Ev.nm (.i 2)) LEv.nl) ⟨(lb rfl), (EJ.of (Ev.nm (.i 7)) (OpJ.mulList kN ?_ ?_ (AJ.nm (.i 8) rfl (SsJ.cs (SJ.iteF (TEv.cmp (Ev.subTup (Ev.nm (.i 2)) Ev.ci rfl (lb rfl)) Ev.ci CmpE.eq) (by simp [hx]) (SsJ.nl (SsJ.cs (SJ.for (ItE.callE (Ev.gl hW (.i 1)) Keeps.type (LEv.cs (Ev.nm (.i 3)) (LEv.cs (Ev.ad (Ev.nm (.i 5)) Ev.ci) LEv.nl)) (ItC.range2 ?_ ?_))))))))))⟩))))))))))))))))))))
  · lia
  · lia
  · rw [eb]; exact sn htb hb3
  rw [eb, es, el2, er]
  have G1 : Grd (σ ++ [.list [x.v]] ++ [.list ((List.replicate (r + 1 - l) x).map Cell.v)]) i g := G.move (Same.app.trans .app)
  have hs1 : Same σ (σ ++ [.list [x.v]] ++ [.list ((List.replicate (r + 1 - l) x).map Cell.v)]) i.c := Same.app.trans .app
  have hm1 : (σ ++ [.list [x.v]] ++ [.list ((List.replicate (r + 1 - l) x).map Cell.v)])[σ.length + 1]? = some (.list ((List.replicate (r + 1 - l) x).map Cell.v)) := by
    rw [← el2]; exact kN
  have hmc : σ.length + 1 ∉ i.c := fun q => by have := G.lt q; lia
  generalize σ ++ [CO.list [x.v]] ++ [CO.list ((List.replicate (r + 1 - l) x).map Cell.v)] = τO at G1 hs1 hm1 ⊢
  refine LoopJ.idx (fun j ρ τ => ∃ o, ρ = ([("self", some (.ref i.gr)), ("area", some (areaV t l b r)), ("cell", some x.v), ("top", some (.int t)), ("left", some (.int l)), ("bottom", some (.int b)), ("right", some (.int r)), ("size", some (.int ((r : Int) - l + 1))), ("told", some (.ref (σ.length + 1))), ("row", o)] : Rho) ∧
      Same τO τ i.c ∧ Grd τ i (rowsMap g t (t + j) fun _ y => putC y l (List.replicate (r + 1 - l) x))) ⟨none, rfl, .refl, by rw [Nat.add_zero, rowsMap_zero]; exact G1⟩ ?_ ?_
  · rintro j c ρ τ hc ⟨o, rfl, hs, G'⟩
    obtain ⟨hj, rfl⟩ := rangeV_get hc
    have hr3 : t + j < 3 := ar3 hj hb3
    have h1 := G'.gr
    have h2 := G'.ls
    have h3 := G'.ll
    have h4 := G'.line _ hr3
    have h6 := G'.wide _ hr3
    have hm2 := hs.get hm1 hmc
    have hcm := Ids.cells_mem G'.lc hr3
    have hnb : i.line (t + j) ∉ [i.cells (t + j)] := fun q => G'.aln _ hr3 (mq q ▸ hcm)
    have hrow : row (rowsMap g t (t + j) fun _ y => putC y l (List.replicate (r + 1 - l) x)) (t + j) = row g (t + j) := rowsMap_at (G.lg.symm ▸ hr3)
    have fin : ∀ τ', Upd τ τ' (i.cells (t + j)) (putC (row (rowsMap g t (t + j) fun _ y => putC y l (List.replicate (r + 1 - l) x)) (t + j)) l (List.replicate (r + 1 - l) x)) →
        Same τO τ' i.c ∧ Grd τ' i (rowsMap g t (t + (j + 1)) fun _ y => putC y l (List.replicate (r + 1 - l) x)) := fun τ' u => by
      refine ⟨hs.trans (G'.sameC hr3 u), ?_⟩
      have z := G'.upd hr3 (by rw [putC_len, h6]) u
      rw [hrow] at z
      rw [show t + (j + 1) = t + j + 1 from rfl, ← rowsMap_step (Nat.le_add_right _ _) (G.lg.symm ▸ hr3)]
      exact z
    have hw : List.replicate (r + 1 - l) x ≠ [] → (at_ (row (rowsMap g t (t + j) fun _ y => putC y l (List.replicate (r + 1 - l) x)) (t + j)) l).w = 0 → 0 < l := fun _ q => by
      rw [hrow] at q
      exact Nat.pos_of_ne_zero fun e => hw0 _ hr3 (e ▸ q)
    refine (AJ.nm (.i 9) rfl (SsJ.cs (SJ.expr (EJ.methE hW (Ev.nm .zx) (by nofun) X.m_Grid_put_cells (na_Grid_put_cells rfl) (LEv.cs (Ev.nm (.i 9)) (LEv.cs (Ev.nm (.i 4)) (LEv.cs (Ev.nm (.i 8)) LEv.nl))) (CJ.up (d' := 5) (Grid_put_cells X rfl rfl G' hr3 hm2 hmc (by simp; lia) hw fun τ' u => have k1 := u.1.get h1 (fun q => G'.agr (mq q ▸ hcm)); have k2 := u.1.get h2 (fun q => G'.als (mq q ▸ hcm)); have k4 := u.1.get h4 hnb; (SsJ.cs (SJ.iteB (TEv.cmp (Ev.nm (.i 6)) (Ev.sb (Ev.ta hW X.o_Grid (Ev.nm .zx) X.a_Grid_columns.find (by nofun) (nd_Grid rfl) (.i 1) rfl) Ev.ci) CmpE.eq) (fun hc1 => (SsJ.cs (SJ.sn (EJ.of Ev.cbool (AJ.ta hW (Ev.subList (Ev.ta hW X.o_Grid (Ev.nm .zx) X.a_Grid_lines.find (by nofun) (nd_Grid rfl) (.i 2) rfl) (Ev.nm (.i 9)) (by nofun) (item_nat rfl (G'.ref hr3)) ?_) (by nofun) X.o_Line X.a_Line_is_wrapped.take (lb rfl) (SsJ.nl (SsJ.nl ?_))))))) (fun hc1 => (SsJ.nl (SsJ.nl ?_)))))) dd)))))
    all_goals first | (simp; lia) | skip
    · rw [wrap_same, set_same k4]
      exact ⟨trivial, _, rfl, fin _ u⟩
    · exact ⟨trivial, _, rfl, fin _ u⟩
  · rintro ρ τ ⟨o, rfl, hs, G'⟩
    rw [rangeV_len, are htb] at G'
    exact SsJ.nl (h _ (hs1.trans hs) G')
noncomputable def takenRow (g : List (List Cell)) (l r : Nat) (q : Nat) : List Cell := mended (((row g q).take (r + 1)).drop l)
noncomputable def copyG (g : List (List Cell)) (t l b r rw cl : Nat) : List (List Cell) :=
  rowsMap g rw (rw + (b + 1 - t)) fun q x => putC x cl (mended ((takenRow g l r (t + (q - rw))).take (6 - cl)))
end
section
variable {W : Wd} {d : Nat} {σ : List CO} {Q : V → List CO → Prop}
def Lists (σ : List CO) (ms : List Nat) (ls : List (List Cell)) : Prop := ms.length = ls.length ∧ ∀ (j m : Nat) l, ms[j]? = some m → ls[j]? = some l → σ[m]? = some (.list (l.map Cell.v))
theorem Lists.nil : Lists σ [] [] := ⟨rfl, fun _ _ _ h => by simp at h⟩
theorem Lists.snoc {ms : List Nat} {ls : List (List Cell)} {m : Nat} {l : List Cell} (L : Lists σ ms ls) (h : σ[m]? = some (.list (l.map Cell.v))) : Lists σ (ms ++ [m]) (ls ++ [l]) := by
  refine ⟨by simp [L.1], fun j k x h1 h2 => ?_⟩
  rcases Nat.lt_trichotomy j ms.length with hj | hj | hj
  · rw [List.getElem?_append_left hj] at h1
    rw [List.getElem?_append_left (L.1 ▸ hj)] at h2
    exact L.2 j k x h1 h2
  · subst hj
    rw [List.getElem?_append_right (Nat.le_refl _)] at h1
    rw [L.1, List.getElem?_append_right (Nat.le_refl _)] at h2
    simp at h1 h2
    subst h1 h2
    exact h
  · rw [List.getElem?_eq_none (by simp; lia)] at h1
    cases h1
theorem Lists.move {σ' : List CO} {ms : List Nat} {ls : List (List Cell)} {js : List Nat} (L : Lists σ ms ls) (s : Same σ σ' js) (hn : ∀ m ∈ ms, m ∉ js) : Lists σ' ms ls :=
  ⟨L.1, fun j m l h1 h2 => s.get (L.2 j m l h1 h2) (hn m (List.mem_of_getElem? h1))⟩
theorem range_snoc {α : Type} (f : Nat → α) (n : Nat) : (List.range n).map f ++ [f n] = (List.range (n + 1)).map f := by
  rw [List.range_succ, List.map_append]; rfl
theorem enumR_get {ms : List Nat} {j : Nat} {c : V} (h : (enumV (ms.map V.ref))[j]? = some c) : ∃ m, j < ms.length ∧ ms[j]? = some m ∧ c = .tup [.int (j : Nat), .ref m] := by
  unfold enumV at h
  obtain ⟨hl, e⟩ := gq h
  simp at hl e
  exact ⟨ms[j], hl, by simp [hl], e.symm⟩
theorem enumR_len {ms : List Nat} : (enumV (ms.map V.ref)).length = ms.length := by simp [enumV]
theorem Grid_copy_area (X : Ctx W) {i : Ids} {g : List (List Cell)} {t l b r rw_ cl : Nat} {r' c' : Int} (hr' : r' = rw_) (hc' : c' = cl) (G : Grd σ i g) (htb : t ≤ b) (hb3 : b < 3) (hlr : l ≤ r) (hr6 : r < 6)
    (hrw : rw_ + (b - t) < 3) (hcl : cl + (r - l) < 6) (hw0 : ∀ j, j < 3 → (at_ (row g j) 0).w ≠ 0)
    (h : ∀ σ', Same σ σ' i.c → Grd σ' i (copyG g t l b r rw_ cl) → Q .none σ') : CJ W (d + 6) u_Grid_copy_area [.ref i.gr, areaV t l b r, .int r', .int c'] σ Q := by
  have hW := X.ok
  subst hr' hc'
  refine call.Grid_copy_area X fun r_ => ?_
  have eb : (b : Int) + 1 = ((b + 1 : Nat) : Int) := by simp
  have h1 := G.gr
  refine (SsJ.cs (SJ.sn (EJ.of (Ev.nm (.i 1)) (AJ.tuple (AsJ.cons (AJ.nm (.i 4) rfl (AsJ.cons (AJ.nm (.i 5) rfl (AsJ.cons (AJ.nm (.i 6) rfl (AsJ.cons (AJ.nm (.i 7) rfl (AsJ.nil (SsJ.cs (SJ.assignComp _ [("left", _), ("right", _), ("self", _)] [] (CmpOk.fm ["left", "right", "self"] [] rfl (by decide +kernel) rfl rfl ⟨(.i 5), rfl, ⟨(.i 7), rfl, ⟨.zx, rfl, trivial⟩⟩⟩ trivial) rfl rfl (ItE.callE (Ev.gl hW .zx) Keeps.type (LEv.cs (Ev.nm (.i 4)) (LEv.cs (Ev.ad (Ev.nm (.i 6)) Ev.ci) LEv.nl)) (ItC.range2 ?_ ⟨?_, trivial, _, (.i 8), fun C => ?_⟩)))))))))))))))))
  · rw [eb]; exact sn htb hb3
  · rw [eb, rangeV_len, sizeLine_eq]; exact sz hb3
  refine CompL.idx (fun j acc τ => ∃ ms, acc = ms.map V.ref ∧ Same σ τ [] ∧ τ[σ.length]? = some (.list acc) ∧ Lists τ ms ((List.range j).map fun q => takenRow g l r (t + q)) ∧ ∀ m ∈ ms, σ.length < m) ⟨[], rfl, .app, kN, .nil, by simp⟩ ?_ ?_
  · rintro j c acc τ hc ⟨ms, rfl, hs, hτ, hL, hm⟩
    rw [eb] at hc
    obtain ⟨hj, rfl⟩ := rangeV_get hc
    refine (EJ.methE hW (Ev.nm (.i 3)) (hs.get h1 (by simp)) X.m_Grid_cells_of (na_Grid_cells_of rfl) (LEv.cs (Ev.nm .zx) (LEv.cs (Ev.nm (.i 1)) (LEv.cs (Ev.nm (.i 2)) LEv.nl))) (CJ.up (d' := 5) (Grid_cells_of X rfl rfl rfl (G.move hs) (ar3 hj hb3) fun σ' m hs' hm' hg => ?_) dd))
    have z := hs'.get hτ (by simp)
    have lt := (gq hτ).1
    have hlm := Nat.lt_of_lt_of_le lt hm'
    have hne : m ≠ σ.length := Nat.ne_of_gt hlm
    refine ⟨z, trivial, ms ++ [m], by simp, (hs.trans hs').setNew (Nat.le_refl _), kS z, ?_, fun q hq => ?_⟩
    · rw [← range_snoc]
      refine Lists.move (js := [σ.length]) (Lists.snoc (hL.move hs' (by simp)) hg) (.set (by simp)) fun q hq => ?_
      rcases List.mem_append.mp hq with hq | hq
      · exact fun z => Nat.lt_irrefl _ (mq z ▸ hm q hq)
      · exact fun z => hne (mq hq ▸ mq z)
    · rcases List.mem_append.mp hq with hq | hq
      · exact hm q hq
      · exact mq hq ▸ hlm
  · rintro acc τ ⟨ms, rfl, hs, hτ, hL, hm⟩
    rw [eb, rangeV_len] at hL
    have hml : ms.length = b + 1 - t := by rw [hL.1]; simp
    have G0 := G.move hs
    have k1 := G0.gr
    have hσc : σ.length ∉ i.c := fun q => absurd (G.lt q) (Nat.lt_irrefl _)
    have hmc : ∀ m ∈ ms, m ∉ i.c := fun m hm' q => absurd (G.lt q) (Nat.not_lt.mpr (Nat.le_of_lt (hm m hm')))
    refine (SsJ.cs (SJ.setE (Ev.sb (Ev.ta hW X.o_Grid (Ev.nm .zx) X.a_Grid_columns.find (by nofun) (nd_Grid rfl) (.i 1) rfl) (Ev.nm (.i 3))) (.i 9) rfl (SsJ.cs (SJ.for (ItE.callE (Ev.gl hW (.i 1)) Keeps.type (LEv.cs (Ev.nm (.i 8)) LEv.nl) (ItC.enum (by nofun) ?_))))))
    refine LoopJ.idx (fun j ρ τ' => ∃ o o', ρ = ([("self", some (.ref i.gr)), ("area", some (areaV t l b r)), ("row", some (.int rw_)), ("column", some (.int cl)), ("top", some (.int t)), ("left", some (.int l)), ("bottom", some (.int b)), ("right", some (.int r)), ("told", some (.ref σ.length)), ("room", some (.int ((6 : Int) - cl))), ("step", o), ("cells", o')] : Rho) ∧
      Same τ τ' i.c ∧ Grd τ' i (rowsMap g rw_ (rw_ + j) fun q x => putC x cl (mended ((takenRow g l r (t + (q - rw_))).take (6 - cl))))) ⟨none, none, rfl, .refl, by rw [Nat.add_zero, rowsMap_zero]; exact G0⟩ ?_ ?_
    · rintro j c ρ τ' hc ⟨o, o', rfl, hs', G'⟩
      obtain ⟨m, hj, hmj, rfl⟩ := enumR_get hc
      rw [hml] at hj
      have hr3 : rw_ + j < 3 := arA htb hj hrw
      have h3g := G.lg.symm ▸ hr3
      have h1 := G'.gr
      have h2 := G'.ls
      have h3 := G'.ll
      have h4 := G'.line _ hr3
      have h6 := G'.wide _ hr3
      have hcm := Ids.cells_mem G'.lc hr3
      have hmm : m ∈ ms := List.mem_of_getElem? hmj
      have ht : τ'[m]? = some (.list ((takenRow g l r (t + j)).map Cell.v)) := hs'.get (hL.2 j m _ hmj (by rw [List.getElem?_map, List.getElem?_range hj]; rfl)) (hmc m hmm)
      have htl2 : (takenRow g l r (t + j)).length = r + 1 - l := by unfold takenRow; rw [mended_len, List.length_drop, List.length_take, G.wide _ (ar3 hj hb3), Nat.min_eq_left hr6]
      have htl : (takenRow g l r (t + j)).length ≤ 6 := htl2.symm ▸ sz hr6
      have hc6 : cl ≤ 6 := Nat.le_of_lt (Nat.lt_of_le_of_lt (Nat.le_add_right _ _) hcl)
      have hto := hs'.get hτ hσc
      have hnb : i.line (rw_ + j) ∉ [i.cells (rw_ + j)] := fun q => G'.aln _ hr3 (mq q ▸ hcm)
      have ec : (6 : Int) - cl = ((6 - cl : Nat) : Int) := (Int.ofNat_sub hc6).symm
      have eS : slc ((takenRow g l r (t + j)).map Cell.v) none (some ((6 : Int) - cl)) = ((takenRow g l r (t + j)).take (6 - cl)).map Cell.v := by rw [ec, slc_b, List.map_take]
      have hrow : row (rowsMap g rw_ (rw_ + j) fun q x => putC x cl (mended ((takenRow g l r (t + (q - rw_))).take (6 - cl)))) (rw_ + j) = row g (rw_ + j) := rowsMap_at h3g
      have fin : ∀ τ'', Same τ τ'' i.c → Grd τ'' i ((rowsMap g rw_ (rw_ + j) fun q x => putC x cl (mended ((takenRow g l r (t + (q - rw_))).take (6 - cl)))).set (rw_ + j) (putC (row g (rw_ + j)) cl (mended ((takenRow g l r (t + j)).take (6 - cl))))) →
          Same τ τ'' i.c ∧ Grd τ'' i (rowsMap g rw_ (rw_ + (j + 1)) fun q x => putC x cl (mended ((takenRow g l r (t + (q - rw_))).take (6 - cl)))) := fun τ'' u z => by
        refine ⟨u, ?_⟩
        rw [← Nat.add_assoc, ← rowsMap_step (Nat.le_add_right _ _) h3g, Nat.add_sub_cancel_left]
        exact z
      refine (AJ.tuple (AsJ.cons (AJ.nm (.i 10) rfl (AsJ.cons (AJ.nm (.i 11) rfl (AsJ.nil (SsJ.cs (SJ.iteT (TEv.cmp (Ev.ad (Ev.nm (.i 2)) (Ev.nm (.i 10))) (Ev.ta hW X.o_Grid (Ev.nm .zx) X.a_Grid_rows.find (by nofun) (nd_Grid rfl) .zx rfl) CmpE.lt) (dT hr3) (SsJ.cs (SJ.expr (EJ.meth hW (EJ.of (Ev.nm .zx) ⟨_, _, _, _, rfl, (by nofun), X.m_Grid_put_cells, na_Grid_put_cells rfl, (LJ.cons (EJ.of (Ev.ad (Ev.nm (.i 2)) (Ev.nm (.i 10))) (LJ.cons (EJ.of (Ev.nm (.i 3)) (LJ.cons (EJ.call (EJ.glob hW (.i 2) ⟨_, rfl, X.k_grid_mended, (LJ.cons (EJ.slice (EJ.of (Ev.nm (.i 11)) (EPJ.none (EPJ.some (EJ.of (Ev.nm (.i 9)) (SlJ.list (by nofun) rfl rfl ?_ (LJ.of LEv.nl (CJ.up (d' := 4) (grid_mended X (l := (takenRow g l r (t + j)).take (6 - cl)) (by rw [eS]; exact kN) (Nat.le_trans (List.length_take_le _ _) (Nat.le_trans (Nat.sub_le _ _) (by decide))) fun τ1 m1 hs1 hm1 hg1 => have sA := Same.trans (Same.app (js := [])) hs1; have G1 := G'.move sA; (LJ.of LEv.nl (CJ.up (d' := 5) (Grid_put_cells X rfl rfl G1 hr3 hg1 (fun q => by have := G'.lt q; simp at hm1; lia) (by rw [mended_len, List.length_take]; exact Nat.le_trans (Nat.add_le_add_left (Nat.min_le_left _ _) _) (Nat.le_of_eq (Nat.add_sub_of_le hc6))) (fun _ q => by rw [hrow] at q; exact Nat.pos_of_ne_zero fun e => hw0 _ hr3 (e ▸ q)) fun τ2 u => have k1 := u.1.get (sA.get h1 (by simp)) (fun q => G'.agr (mq q ▸ hcm)); have k2 := u.1.get (sA.get h2 (by simp)) (fun q => G'.als (mq q ▸ hcm)); have k4 := u.1.get (sA.get h4 (by simp)) hnb; have k5 := (sA.weak (by simp)).trans (G1.sameC hr3 u); have k6 := k5.get ht (hmc m hmm); (SsJ.cs (SJ.iteB (TEv.cmp (Ev.ad (Ev.nm (.i 3)) (Ev.call (Ev.gl hW (.i 3)) Keeps.builtin (LEv.cs (Ev.nm (.i 11)) LEv.nl) (CE.lenList (by nofun) ?_))) (Ev.ta hW X.o_Grid (Ev.nm .zx) X.a_Grid_columns.find (by nofun) (nd_Grid rfl) (.i 1) rfl) CmpE.ge) (fun hc1 => (SsJ.cs (SJ.sn (EJ.of Ev.cbool (AJ.ta hW (Ev.subList (Ev.ta hW X.o_Grid (Ev.nm .zx) X.a_Grid_lines.find (by nofun) (nd_Grid rfl) (.i 2) rfl) (Ev.ad (Ev.nm (.i 2)) (Ev.nm (.i 10))) (by nofun) ?_ ?_) (by nofun) X.o_Line X.a_Line_is_wrapped.take (lb rfl) (SsJ.nl (SsJ.nl (SsJ.nl ?_)))))))) (fun hc1 => (SsJ.nl (SsJ.nl (SsJ.nl ?_))))))) dd))) dd)))))))))⟩)))))))⟩))))))))))))
      all_goals first | (simp; lia) | skip
      · exact item_nat (k := rw_ + j) (by simp) (G'.ref hr3)
      all_goals
        have z := G1.upd hr3 (by rw [putC_len, h6]) u
        rw [hrow] at z
      · rw [wrap_same, set_same k4]
        exact ⟨k5.get hto hσc, _, _, rfl, fin _ (hs'.trans k5) z⟩
      · exact ⟨k5.get hto hσc, _, _, rfl, fin _ (hs'.trans k5) z⟩
    · rintro ρ τ' ⟨o, o', rfl, hs', G'⟩
      rw [enumR_len, hml, show rw_ + (b + 1 - t) = rw_ + (b + 1 - t) from rfl] at G'
      exact SsJ.nl (h _ ((hs.weak (by simp)).trans hs') G')
end
structure Lim where
  t : Nat
  l : Nat
  b : Nat
  r : Nat
structure Lim.Ok (m : Lim) : Prop where
  tb : m.t ≤ m.b
  b3 : m.b < 3
  lr : m.l ≤ m.r
  r6 : m.r < 6
noncomputable abbrev Lim.v (m : Lim) : V := areaV m.t m.l m.b m.r
noncomputable def Lim.ov : Option Lim → V
  | none => .none
  | some m => m.v
structure Cur where
  row : Int
  col : Int
  w : Bool
  p : Pen
  o : Bool
  k : Bool
noncomputable abbrev whole : Lim := ⟨0, 0, 2, 5⟩
noncomputable def limOf (c : Cur) (m : Lim) : Lim := if c.o then m else whole
structure ScI where
  sc : Nat
  cu : Nat
  mg : Nat
  tb : V
  ch : V
  la : V
section
variable {W : Wd} {d : Nat} {σ : List CO} {Q : V → List CO → Prop}
noncomputable abbrev screenO (s : ScI) (gr : Nat) : CO := .inst c_Screen [("rows", .int 3), ("columns", .int 6), ("modes", .none), ("widths", .none), ("history", .none), ("grid", .ref gr), ("cursor", .ref s.cu), ("margins", .ref s.mg), ("tabs", s.tb), ("charsets", s.ch), ("saved", .none), ("last", s.la), ("has_right", .bool false)]
noncomputable abbrev cursorO (c : Cur) : CO := .inst c_Cursor [("row", .int c.row), ("column", .int c.col), ("is_waiting", .bool c.w), ("pen", c.p.v), ("is_origin", .bool c.o), ("is_guarding", .bool c.k)]
noncomputable abbrev marginsO (m : Lim) : CO := .inst c_Margins [("rows", .int 3), ("columns", .int 6), ("top", .int m.t), ("bottom", .int m.b), ("left", .int m.l), ("right", .int m.r)]
structure Scn (σ : List CO) (s : ScI) (i : Ids) (c : Cur) (m : Lim) (g : List (List Cell)) : Prop where
  sc : σ[s.sc]? = some (screenO s i.gr)
  cu : σ[s.cu]? = some (cursorO c)
  mg : σ[s.mg]? = some (marginsO m)
  G : Grd σ i g
  nsc : s.sc ∉ i.c
  ncu : s.cu ∉ i.c
  nmg : s.mg ∉ i.c
theorem Scn.move {σ' : List CO} {s : ScI} {i : Ids} {c : Cur} {m : Lim} {g : List (List Cell)} (S : Scn σ s i c m g) (h : Same σ σ' []) : Scn σ' s i c m g :=
  ⟨h.get S.sc (by simp), h.get S.cu (by simp), h.get S.mg (by simp), S.G.move h, S.nsc, S.ncu, S.nmg⟩
theorem Scn.upd {σ' : List CO} {s : ScI} {i : Ids} {c : Cur} {m : Lim} {g g' : List (List Cell)} (S : Scn σ s i c m g) (h : Same σ σ' i.c) (G : Grd σ' i g') : Scn σ' s i c m g' :=
  ⟨h.get S.sc S.nsc, h.get S.cu S.ncu, h.get S.mg S.nmg, G, S.nsc, S.ncu, S.nmg⟩
theorem Margins_area (X : Ctx W) {n : Nat} {m : Lim} (hn : σ[n]? = some (marginsO m)) (h : Q m.v σ) : CJ W (d + 1) u_Margins_area [.ref n] σ Q := by
  have hW := X.ok
  refine call.Margins_area X fun r_ => ?_
  refine (SsJ.cs (SJ.retE (Ev.tu (LEv.cs (Ev.ta hW X.o_Margins (Ev.nm .zx) X.a_Margins_top.find (by nofun) (nd_Margins rfl) (.i 2) rfl) (LEv.cs (Ev.ta hW X.o_Margins (Ev.nm .zx) X.a_Margins_left.find (by nofun) (nd_Margins rfl) (.i 4) rfl) (LEv.cs (Ev.ta hW X.o_Margins (Ev.nm .zx) X.a_Margins_bottom.find (by nofun) (nd_Margins rfl) (.i 3) rfl) (LEv.cs (Ev.ta hW X.o_Margins (Ev.nm .zx) X.a_Margins_right.find (by nofun) (nd_Margins rfl) (.i 5) rfl) LEv.nl)))) (lb rfl)) h))
theorem edit_limits (X : Ctx W) {s : ScI} {i : Ids} {c : Cur} {m : Lim} {g : List (List Cell)} (S : Scn σ s i c m g) (h : Q (limOf c m).v σ) : CJ W (d + 2) u_edit_limits [.ref s.sc] σ Q := by
  have hW := X.ok
  refine call.edit_limits X fun r_ => ?_
  have h1 := S.sc
  have h2 := S.cu
  have h3 := S.mg
  cases ho : c.o with
  | true =>
    have e : limOf c m = m := by simp [limOf, ho]
    rw [e] at h
    refine (SsJ.cs (SJ.iteT (TEv.bool (Ev.ta hW X.o_Cursor (Ev.ta hW X.o_Screen (Ev.nm .zx) X.a_Screen_cursor.find (by nofun) (nd_Screen rfl) (.i 6) rfl) X.a_Cursor_is_origin.find (by nofun) (nd_Cursor rfl) (.i 4) rfl)) ho (SsJ.cs (SJ.ret (EJ.meth0E hW (Ev.ta hW X.o_Screen (Ev.nm .zx) X.a_Screen_margins.find (by nofun) (nd_Screen rfl) (.i 7) rfl) (by nofun) X.m_Margins_area (na_Margins_area rfl) (CJ.up (d' := 1) (Margins_area X h3 h) dd))))))
  | false =>
    have e : limOf c m = whole := by simp [limOf, ho]
    rw [e] at h
    refine (SsJ.cs (SJ.iteF (TEv.bool (Ev.ta hW X.o_Cursor (Ev.ta hW X.o_Screen (Ev.nm .zx) X.a_Screen_cursor.find (by nofun) (nd_Screen rfl) (.i 6) rfl) X.a_Cursor_is_origin.find (by nofun) (nd_Cursor rfl) (.i 4) rfl)) ho (SsJ.nl (SsJ.cs (SJ.retE (Ev.tu (LEv.cs Ev.ci (LEv.cs Ev.ci (LEv.cs (Ev.sb (Ev.ta hW X.o_Screen (Ev.nm .zx) X.a_Screen_rows.find (by nofun) (nd_Screen rfl) .zx rfl) Ev.ci) (LEv.cs (Ev.sb (Ev.ta hW X.o_Screen (Ev.nm .zx) X.a_Screen_columns.find (by nofun) (nd_Screen rfl) (.i 1) rfl) Ev.ci) LEv.nl)))) (lb rfl)) ?_)))))
    exact h
noncomputable def areaN (m : Lim) (vs : List (Option Int)) (k : Nat) : Option Lim :=
  let t := m.t + (valO vs k 1).toNat - 1
  let l := m.l + (valO vs (k + 1) 1).toNat - 1
  let b := min m.b (m.t + (valO vs (k + 2) ((m.b : Int) - m.t + 1)).toNat - 1)
  let r := min m.r (m.l + (valO vs (k + 3) ((m.r : Int) - m.l + 1)).toNat - 1)
  if t ≤ b ∧ l ≤ r then some ⟨t, l, b, r⟩ else none
def NonNeg (vs : List (Option Int)) : Prop := ∀ o ∈ vs, ∀ j, o = some j → 0 ≤ j
theorem valO_pos {vs : List (Option Int)} (hv : NonNeg vs) {k : Nat} {dflt : Int} (hd : 1 ≤ dflt) : 1 ≤ valO vs k dflt := by
  unfold valO
  split
  · exact hd
  · rename_i h
    have : 0 ≤ plain vs k 0 := by
      unfold plain
      split
      · rename_i j e
        exact hv _ (List.mem_of_getElem? e) j rfl
      · exact Int.le_refl _
    omega
theorem cM {b t : Nat} {x : Int} (h : 1 ≤ x) : ((min b (t + x.toNat - 1) : Nat) : Int) = if (t : Int) + x - 1 < b then (t : Int) + x - 1 else b := by rw [cMn, cT h]
theorem cN_ {b t : Nat} {x : Int} (h : 1 ≤ x) : ((min b (t + x.toNat - 1) : Nat) : Int) = if (b : Int) < (t : Int) + x - 1 then (b : Int) else (t : Int) + x - 1 := by rw [cMm, cT h]
theorem side {a b : Nat} (h : a ≤ b) : (1 : Int) ≤ (b : Int) - a + 1 := by
  have := Int.sub_nonneg_of_le (Int.ofNat_le.mpr h); exact Int.add_le_add_right this 1
section
variable {m : Lim} {vs : List (Option Int)} {k : Nat} (p1 : 1 ≤ valO vs k 1) (p2 : 1 ≤ valO vs (k + 1) 1) (p3 : 1 ≤ valO vs (k + 2) ((m.b : Int) - m.t + 1)) (p4 : 1 ≤ valO vs (k + 3) ((m.r : Int) - m.l + 1))
include p1 p2 p3 p4
theorem areaN_v (c1 : (m.t : Int) + valO vs k 1 - 1 ≤ if (m.t : Int) + valO vs (k + 2) ((m.b : Int) - m.t + 1) - 1 < m.b then (m.t : Int) + valO vs (k + 2) ((m.b : Int) - m.t + 1) - 1 else m.b)
    (c2 : (m.l : Int) + valO vs (k + 1) 1 - 1 ≤ if (m.l : Int) + valO vs (k + 3) ((m.r : Int) - m.l + 1) - 1 < m.r then (m.l : Int) + valO vs (k + 3) ((m.r : Int) - m.l + 1) - 1 else m.r) :
    Lim.ov (areaN m vs k) = .tup [.int ((m.t : Int) + valO vs k 1 - 1), .int ((m.l : Int) + valO vs (k + 1) 1 - 1), .int (if (m.t : Int) + valO vs (k + 2) ((m.b : Int) - m.t + 1) - 1 < m.b then (m.t : Int) + valO vs (k + 2) ((m.b : Int) - m.t + 1) - 1 else m.b), .int (if (m.l : Int) + valO vs (k + 3) ((m.r : Int) - m.l + 1) - 1 < m.r then (m.l : Int) + valO vs (k + 3) ((m.r : Int) - m.l + 1) - 1 else m.r)] := by
  rw [← cT p1, ← cM p3] at c1
  rw [← cT p2, ← cM p4] at c2
  rw [← cT p1, ← cT p2, ← cM p3, ← cM p4]
  exact congrArg Lim.ov (if_pos ⟨Int.ofNat_le.mp c1, Int.ofNat_le.mp c2⟩)
theorem areaN_n (c : ¬ ((m.t : Int) + valO vs k 1 - 1 ≤ (if (m.t : Int) + valO vs (k + 2) ((m.b : Int) - m.t + 1) - 1 < m.b then (m.t : Int) + valO vs (k + 2) ((m.b : Int) - m.t + 1) - 1 else m.b) ∧
    (m.l : Int) + valO vs (k + 1) 1 - 1 ≤ if (m.l : Int) + valO vs (k + 3) ((m.r : Int) - m.l + 1) - 1 < m.r then (m.l : Int) + valO vs (k + 3) ((m.r : Int) - m.l + 1) - 1 else m.r)) : Lim.ov (areaN m vs k) = .none := by
  rw [← cT p1, ← cT p2, ← cM p3, ← cM p4] at c
  exact congrArg Lim.ov (if_neg fun z => c ⟨Int.ofNat_le.mpr z.1, Int.ofNat_le.mpr z.2⟩)
end
theorem area_body (X : Ctx W) {s : ScI} {i : Ids} {c : Cur} {m : Lim} {g : List (List Cell)} {n k : Nat} {at' : Int} {vs : List (Option Int)} (ha : at' = k) (S : Scn σ s i c m g) (hl : (limOf c m).Ok) (hp : Par σ n vs) (hv : NonNeg vs) (hlen : vs.length ≤ 100)
    (h : ∀ σ', Same σ σ' [] → Q (Lim.ov (areaN (limOf c m) vs k)) σ') : ∀ r_ : FrD, SsJ W (d + 2) (F_area_of r_) D_area_of.body
      [("screen", some (.ref s.sc)), ("params", some (.ref n)), ("at", some (.int at')), ("first", none), ("start", none), ("last", none), ("end", none), ("top", none), ("left", none), ("bottom", none), ("right", none)] σ (RetQ Q) := by
  have hW := X.ok
  intro r_
  subst ha
  have e1 : (k : Int) + 1 = ((k + 1 : Nat) : Int) := by simp
  have e2 : (k : Int) + 2 = ((k + 2 : Nat) : Int) := by simp
  have e3 : (k : Int) + 3 = ((k + 3 : Nat) : Int) := by simp
  have hS : Same σ σ [] := .refl
  refine (SsJ.cs (SJ.sn (EJ.ce (Ev.gl hW .zx) X.k_edit_limits (LEv.cs (Ev.nm .zx) LEv.nl) (CJ.up (d' := 2) (edit_limits X S (AJ.tuple (AsJ.cons (AJ.nm (.i 3) rfl (AsJ.cons (AJ.nm (.i 4) rfl (AsJ.cons (AJ.nm (.i 5) rfl (AsJ.cons (AJ.nm (.i 6) rfl (AsJ.nil (SsJ.cs (SJ.assignSwap (names := ["top", "left"]) (EJ.tuple (LJ.cons (EJ.binop (EJ.binop (EJ.of (Ev.nm (.i 3)) (EJ.ce (Ev.gl hW (.i 1)) X.k_value_of (LEv.cs (Ev.nm (.i 1)) (LEv.cs (Ev.nm (.i 2)) (LEv.cs Ev.ci LEv.nl))) (CJ.up (d' := 2) (value_of X (by first | exact rfl | exact e1 | exact e2 | exact e3) hp hlen fun σ' hσ => have hp := hp.move hσ; have hS := hS.trans hσ; (OpJ.add (EJ.of Ev.ci (OpJ.sub (LJ.cons (EJ.binop (EJ.binop (EJ.of (Ev.nm (.i 4)) (EJ.ce (Ev.gl hW (.i 1)) X.k_value_of (LEv.cs (Ev.nm (.i 1)) (LEv.cs (Ev.ad (Ev.nm (.i 2)) Ev.ci) (LEv.cs Ev.ci LEv.nl))) (CJ.up (d' := 2) (value_of X (by first | exact rfl | exact e1 | exact e2 | exact e3) hp hlen fun σ' hσ => have hp := hp.move hσ; have hS := hS.trans hσ; (OpJ.add (EJ.of Ev.ci (OpJ.sub (LJ.of LEv.nl ⟨(lb rfl), ⟨_, _, rfl, rfl, (PutAll.cons (.i 8) (PutAll.cons (.i 7) PutAll.nil)), (SsJ.cs (SJ.sn (EJ.call (EJ.glob hW (.i 2) ⟨_, rfl, Keeps.builtin, (LJ.cons (EJ.of (Ev.nm (.i 5)) (LJ.cons (EJ.binop (EJ.binop (EJ.of (Ev.nm (.i 3)) (EJ.ce (Ev.gl hW (.i 1)) X.k_value_of (LEv.cs (Ev.nm (.i 1)) (LEv.cs (Ev.ad (Ev.nm (.i 2)) Ev.ci) (LEv.cs (Ev.ad (Ev.sb (Ev.nm (.i 5)) (Ev.nm (.i 3))) Ev.ci) LEv.nl))) (CJ.up (d' := 2) (value_of X (by first | exact rfl | exact e1 | exact e2 | exact e3) hp hlen fun σ' hσ => have hp := hp.move hσ; have hS := hS.trans hσ; (OpJ.add (EJ.of Ev.ci (OpJ.sub (LJ.of LEv.nl (CJ.min2 (AJ.nm (.i 9) rfl (SsJ.cs (SJ.sn (EJ.call (EJ.glob hW (.i 2) ⟨_, rfl, Keeps.builtin, (LJ.cons (EJ.of (Ev.nm (.i 6)) (LJ.cons (EJ.binop (EJ.binop (EJ.of (Ev.nm (.i 4)) (EJ.ce (Ev.gl hW (.i 1)) X.k_value_of (LEv.cs (Ev.nm (.i 1)) (LEv.cs (Ev.ad (Ev.nm (.i 2)) Ev.ci) (LEv.cs (Ev.ad (Ev.sb (Ev.nm (.i 6)) (Ev.nm (.i 4))) Ev.ci) LEv.nl))) (CJ.up (d' := 2) (value_of X (by first | exact rfl | exact e1 | exact e2 | exact e3) hp hlen fun σ' hσ => have hp := hp.move hσ; have hS := hS.trans hσ; (OpJ.add (EJ.of Ev.ci (OpJ.sub (LJ.of LEv.nl (CJ.min2 (AJ.nm (.i 10) rfl (SsJ.cs (SJ.ret (EJ.ite (TJ.and (TJ.cmp (EJ.of (Ev.nm (.i 7)) (EJ.of (Ev.nm (.i 9)) (CmpJ.le (TrJ.bl (iteB (fun hc1 => (TJ.and (TJ.cmp (EJ.of (Ev.nm (.i 8)) (EJ.of (Ev.nm (.i 10)) (CmpJ.le (TrJ.bl (iteB (fun hc2 => (TJ.and_nil (iteT (EJ.of (Ev.tu (LEv.cs (Ev.nm (.i 7)) (LEv.cs (Ev.nm (.i 8)) (LEv.cs (Ev.nm (.i 9)) (LEv.cs (Ev.nm (.i 10)) LEv.nl)))) (lb rfl)) ?_)))) (fun hc2 => (iteF (EJ.of Ev.cnone ?_))))))))))) (fun hc1 => (iteF (EJ.of Ev.cnone ?_)))))))))))))))))))) dd))))))))⟩))))))))))) dd))))))))⟩))))⟩⟩))))) dd)))))))))) dd))))))) rfl))))))))))))) dd))))
  all_goals
    have p (k) := valO_pos hv (k := k) (dflt := 1) (Int.le_refl _)
    have p3 := valO_pos hv (k := k + 2) (side hl.tb)
    have p4 := valO_pos hv (k := k + 3) (side hl.lr)
    have q := h _ hS
  · rw [areaN_v (p k) (p (k + 1)) p3 p4 (of_decide_eq_true hc1) (of_decide_eq_true hc2)] at q
    exact q
  · rw [areaN_n (p k) (p (k + 1)) p3 p4 fun z => of_decide_eq_false hc2 z.2] at q
    exact q
  · rw [areaN_n (p k) (p (k + 1)) p3 p4 fun z => of_decide_eq_false hc1 z.1] at q
    exact q
theorem areaN_ok {u A : Lim} {vs : List (Option Int)} {k : Nat} (hu : u.Ok) (hv : NonNeg vs) (e : areaN u vs k = some A) : A.Ok ∧ u.t ≤ A.t ∧ u.l ≤ A.l ∧ A.b ≤ u.b ∧ A.r ≤ u.r := by
  unfold areaN at e
  dsimp only at e
  split at e
  · rename_i hc
    cases e
    have p (k) := valO_pos hv (k := k) (dflt := 1) (Int.le_refl _)
    exact ⟨⟨hc.1, Nat.lt_of_le_of_lt (Nat.min_le_left _ _) hu.b3, hc.2, Nat.lt_of_le_of_lt (Nat.min_le_left _ _) hu.r6⟩, cL (p k), cL (p (k + 1)), Nat.min_le_left _ _, Nat.min_le_left _ _⟩
  · cases e
theorem area_of (X : Ctx W) {s : ScI} {i : Ids} {c : Cur} {m : Lim} {g : List (List Cell)} {n k : Nat} {at' : Int} {vs : List (Option Int)} {o : Option Lim} (ha : at' = k) (S : Scn σ s i c m g) (hl : (limOf c m).Ok) (hp : Par σ n vs) (hv : NonNeg vs) (hlen : vs.length ≤ 100)
    (e : areaN (limOf c m) vs k = o) (h : ∀ σ', Same σ σ' [] → Q (Lim.ov o) σ') : CJ W (d + 3) u_area_of [.ref s.sc, .ref n, .int at'] σ Q :=
  call.area_of X (area_body X ha S hl hp hv hlen (e ▸ h))
theorem area_of1 (X : Ctx W) {s : ScI} {i : Ids} {c : Cur} {m : Lim} {g : List (List Cell)} {n : Nat} {vs : List (Option Int)} {o : Option Lim} (S : Scn σ s i c m g) (hl : (limOf c m).Ok) (hp : Par σ n vs) (hv : NonNeg vs) (hlen : vs.length ≤ 100)
    (e : areaN (limOf c m) vs 0 = o) (h : ∀ σ', Same σ σ' [] → Q (Lim.ov o) σ') : CJ W (d + 3) u_area_of [.ref s.sc, .ref n] σ Q :=
  call.area_of1 X (area_body X (k := 0) rfl S hl hp hv hlen (e ▸ h))
noncomputable def eraseG (g : List (List Cell)) (o : Option Lim) (p : Pen) (s : Bool) : List (List Cell) := match o with
  | none => g
  | some A => rowsMap g A.t (A.b + 1) fun _ x => eraseL x A.l A.r p s
theorem erase_body (X : Ctx W) {s : ScI} {i : Ids} {c : Cur} {m : Lim} {g : List (List Cell)} {n : Nat} {vs : List (Option Int)} {z : Bool} (S : Scn σ s i c m g) (hl : (limOf c m).Ok) (hp : Par σ n vs) (hv : NonNeg vs) (hlen : vs.length ≤ 100)
    (h : ∀ σ', Same σ σ' i.c → Grd σ' i (eraseG g (areaN (limOf c m) vs 0) c.p z) → Q .none σ') : ∀ r_ : FrD, SsJ W (d + 6) (F_erase_rectangle r_) D_erase_rectangle.body
      [("screen", some (.ref s.sc)), ("params", some (.ref n)), ("is_selective", some (.bool z)), ("area", none)] σ (RetQ Q) := by
  have hW := X.ok
  intro r_
  cases e : areaN (limOf c m) vs 0 with
  | none =>
    rw [e] at h
    refine (SsJ.cs (SJ.sn (EJ.ce (Ev.gl hW .zx) X.k_area_of (LEv.cs (Ev.nm .zx) (LEv.cs (Ev.nm (.i 1)) LEv.nl)) (CJ.up (d' := 3) (area_of1 X S hl hp hv hlen e fun σ' hσ => (AJ.nm (.i 3) rfl (SsJ.cs (SJ.iteF (TEv.cmp (Ev.nm (.i 3)) Ev.cnone (CmpE.isNotNone rfl)) rfl (SsJ.nl (SsJ.nl ?_)))))) dd))))
    exact h _ (hσ.weak (by simp)) (S.G.move hσ)
  | some A =>
    rw [e] at h
    obtain ⟨hA, -⟩ := areaN_ok hl hv e
    refine (SsJ.cs (SJ.sn (EJ.ce (Ev.gl hW .zx) X.k_area_of (LEv.cs (Ev.nm .zx) (LEv.cs (Ev.nm (.i 1)) LEv.nl)) (CJ.up (d' := 3) (area_of1 X S hl hp hv hlen e fun σ' hσ => have S := S.move hσ; have h1 := S.sc; have h2 := S.cu; have h3 := S.G.gr; (AJ.nm (.i 3) rfl (SsJ.cs (SJ.iteT (TEv.cmp (Ev.nm (.i 3)) Ev.cnone (CmpE.isNotNone rfl)) rfl (SsJ.cs (SJ.expr (EJ.methE hW (Ev.ta hW X.o_Screen (Ev.nm .zx) X.a_Screen_grid.find (by nofun) (nd_Screen rfl) (.i 5) rfl) (by nofun) X.m_Grid_erase_area (na_Grid_erase_area rfl) (LEv.cs (Ev.nm (.i 3)) (LEv.cs (Ev.ta hW X.o_Cursor (Ev.ta hW X.o_Screen (Ev.nm .zx) X.a_Screen_cursor.find (by nofun) (nd_Screen rfl) (.i 6) rfl) X.a_Cursor_pen.find (by nofun) (nd_Cursor rfl) (.i 3) rfl) (LEv.cs (Ev.nm (.i 2)) LEv.nl))) (CJ.up (d' := 6) (Grid_erase_area X S.G hA.tb hA.b3 hA.lr hA.r6 fun σ2 hσ2 hG => (SsJ.nl (SsJ.nl ?_))) dd)))))))) dd))))
    exact h _ ((hσ.weak (by simp)).trans hσ2) hG
theorem erase_rectangle (X : Ctx W) {s : ScI} {i : Ids} {c : Cur} {m : Lim} {g : List (List Cell)} {n : Nat} {vs : List (Option Int)} {z : Bool} (S : Scn σ s i c m g) (hl : (limOf c m).Ok) (hp : Par σ n vs) (hv : NonNeg vs) (hlen : vs.length ≤ 100)
    (h : ∀ σ', Same σ σ' i.c → Grd σ' i (eraseG g (areaN (limOf c m) vs 0) c.p z) → Q .none σ') : CJ W (d + 7) u_erase_rectangle [.ref s.sc, .ref n, .bool z] σ Q :=
  call.erase_rectangle X (erase_body X S hl hp hv hlen h)
theorem erase_rectangle1 (X : Ctx W) {s : ScI} {i : Ids} {c : Cur} {m : Lim} {g : List (List Cell)} {n : Nat} {vs : List (Option Int)} (S : Scn σ s i c m g) (hl : (limOf c m).Ok) (hp : Par σ n vs) (hv : NonNeg vs) (hlen : vs.length ≤ 100)
    (h : ∀ σ', Same σ σ' i.c → Grd σ' i (eraseG g (areaN (limOf c m) vs 0) c.p false) → Q .none σ') : CJ W (d + 7) u_erase_rectangle [.ref s.sc, .ref n] σ Q :=
  call.erase_rectangle1 X (erase_body X S hl hp hv hlen h)
noncomputable def fillOk (code : Int) : Bool := decide (32 ≤ code ∧ code ≤ 126) || decide (160 ≤ code ∧ code ≤ 255)
noncomputable def fillG (g : List (List Cell)) (o : Option Lim) (x : Cell) : List (List Cell) := match o with
  | none => g
  | some A => rowsMap g A.t (A.b + 1) fun _ y => putC y A.l (List.replicate (A.r + 1 - A.l) x)
theorem fill_rectangle (X : Ctx W) {s : ScI} {i : Ids} {c : Cur} {m : Lim} {g : List (List Cell)} {n : Nat} {vs : List (Option Int)} (S : Scn σ s i c m g) (hl : (limOf c m).Ok) (hp : Par σ n vs) (hv : NonNeg vs) (hlen : vs.length ≤ 100) (hw0 : ∀ j, j < 3 → (at_ (row g j) 0).w ≠ 0)
    (h : ∀ σ', Same σ σ' i.c → Grd σ' i (if fillOk (valO vs 0 0) then fillG g (areaN (limOf c m) vs 1) ⟨[valO vs 0 0], 1, c.p, c.k⟩ else g) → Q .none σ') : CJ W (d + 7) u_fill_rectangle [.ref s.sc, .ref n] σ Q := by
  have hW := X.ok
  refine call.fill_rectangle X fun r_ => ?_
  cases e : areaN (limOf c m) vs 1 with
  | none =>
    have e2 : (if fillOk (valO vs 0 0) then fillG g (areaN (limOf c m) vs 1) ⟨[valO vs 0 0], 1, c.p, c.k⟩ else g) = g := by rw [e]; split <;> rfl
    rw [e2] at h
    refine (SsJ.cs (SJ.assignSwap (names := ["code", "area"]) (EJ.tuple (LJ.cons (EJ.ce (Ev.gl hW .zx) X.k_value_of (LEv.cs (Ev.nm (.i 1)) (LEv.cs Ev.ci (LEv.cs Ev.ci LEv.nl))) (CJ.up (d' := 2) (value_of X (k := 0) rfl hp hlen fun σ' hσ => have S := S.move hσ; have hp := hp.move hσ; (LJ.cons (EJ.ce (Ev.gl hW (.i 1)) X.k_area_of (LEv.cs (Ev.nm .zx) (LEv.cs (Ev.nm (.i 1)) (LEv.cs Ev.ci LEv.nl))) (CJ.up (d' := 3) (area_of X (k := 1) rfl S hl hp hv hlen e fun σ2 hσ2 => (LJ.of LEv.nl ⟨(lb rfl), ⟨_, _, rfl, rfl, (PutAll.cons (.i 3) (PutAll.cons (.i 2) PutAll.nil)), (SsJ.cs (SJ.ite (TJ.and (TJ.cmp (EJ.of (Ev.nm (.i 3)) (EJ.of Ev.cnone (CmpJ.nn rfl (TrJ.bl (iteN rfl (iteF (SsJ.nl (SsJ.nl ?_))))))))))))⟩⟩)) dd)))) dd)))) rfl))
    exact h _ ((hσ.trans hσ2).weak (by simp)) (S.G.move hσ2)
  | some A =>
    rw [e] at h
    obtain ⟨hA, -⟩ := areaN_ok hl hv e
    refine (SsJ.cs (SJ.assignSwap (names := ["code", "area"]) (EJ.tuple (LJ.cons (EJ.ce (Ev.gl hW .zx) X.k_value_of (LEv.cs (Ev.nm (.i 1)) (LEv.cs Ev.ci (LEv.cs Ev.ci LEv.nl))) (CJ.up (d' := 2) (value_of X (k := 0) rfl hp hlen fun σ' hσ => have S := S.move hσ; have hp := hp.move hσ; (LJ.cons (EJ.ce (Ev.gl hW (.i 1)) X.k_area_of (LEv.cs (Ev.nm .zx) (LEv.cs (Ev.nm (.i 1)) (LEv.cs Ev.ci LEv.nl))) (CJ.up (d' := 3) (area_of X (k := 1) rfl S hl hp hv hlen e fun σ2 hσ2 => have S := S.move hσ2; have h1 := S.sc; have h2 := S.cu; have h3 := S.G.gr; (LJ.of LEv.nl ⟨(lb rfl), ⟨_, _, rfl, rfl, (PutAll.cons (.i 3) (PutAll.cons (.i 2) PutAll.nil)), (SsJ.cs (SJ.ite (TJ.and (TJ.cmp (EJ.of (Ev.nm (.i 3)) (EJ.of Ev.cnone (CmpJ.nn rfl (TrJ.bl (iteY rfl (TJ.and (TJ.or (TJ.chain (EJ.of (Ev.gl hW (.i 2)) (ChJ.link (EJ.of (Ev.nm (.i 2)) (CmpJ.le (TrJ.bl (iteB (fun hc1 => (ChJ.last (EJ.of Ev.ci (CmpJ.le (TrJ.bl (iteB (fun hc2 => (iteT (TJ.and_nil (iteT (SsJ.cs (SJ.expr (EJ.methE hW (Ev.ta hW X.o_Screen (Ev.nm .zx) X.a_Screen_grid.find (by nofun) (nd_Screen rfl) (.i 5) rfl) (by nofun) X.m_Grid_fill_area (na_Grid_fill_area rfl) (LEv.cs (Ev.nm (.i 3)) (LEv.cs (Ev.tu (LEv.cs (Ev.tu (LEv.cs (Ev.nm (.i 2)) LEv.nl) (lb rfl)) (LEv.cs Ev.ci (LEv.cs (Ev.ta hW X.o_Cursor (Ev.ta hW X.o_Screen (Ev.nm .zx) X.a_Screen_cursor.find (by nofun) (nd_Screen rfl) (.i 6) rfl) X.a_Cursor_pen.find (by nofun) (nd_Cursor rfl) (.i 3) rfl) (LEv.cs (Ev.ta hW X.o_Cursor (Ev.ta hW X.o_Screen (Ev.nm .zx) X.a_Screen_cursor.find (by nofun) (nd_Screen rfl) (.i 6) rfl) X.a_Cursor_is_guarding.find (by nofun) (nd_Cursor rfl) (.i 5) rfl) LEv.nl)))) (lb rfl)) LEv.nl)) (CJ.up (d' := 6) (Grid_fill_area X (x := ⟨[valO vs 0 0], 1, c.p, c.k⟩) S.G hA.tb hA.b3 hA.lr hA.r6 rfl hw0 fun σ3 hσ3 hG => (SsJ.nl (SsJ.nl ?_))) dd)))))))) (fun hc2 => (TJ.or (TJ.chain (EJ.of Ev.ci (ChJ.link (EJ.of (Ev.nm (.i 2)) (CmpJ.le (TrJ.bl (iteB (fun hc3 => (ChJ.last (EJ.of Ev.ci (CmpJ.le (TrJ.bl (iteB (fun hc4 => (iteT (TJ.and_nil (iteT (SsJ.cs (SJ.expr (EJ.methE hW (Ev.ta hW X.o_Screen (Ev.nm .zx) X.a_Screen_grid.find (by nofun) (nd_Screen rfl) (.i 5) rfl) (by nofun) X.m_Grid_fill_area (na_Grid_fill_area rfl) (LEv.cs (Ev.nm (.i 3)) (LEv.cs (Ev.tu (LEv.cs (Ev.tu (LEv.cs (Ev.nm (.i 2)) LEv.nl) (lb rfl)) (LEv.cs Ev.ci (LEv.cs (Ev.ta hW X.o_Cursor (Ev.ta hW X.o_Screen (Ev.nm .zx) X.a_Screen_cursor.find (by nofun) (nd_Screen rfl) (.i 6) rfl) X.a_Cursor_pen.find (by nofun) (nd_Cursor rfl) (.i 3) rfl) (LEv.cs (Ev.ta hW X.o_Cursor (Ev.ta hW X.o_Screen (Ev.nm .zx) X.a_Screen_cursor.find (by nofun) (nd_Screen rfl) (.i 6) rfl) X.a_Cursor_is_guarding.find (by nofun) (nd_Cursor rfl) (.i 5) rfl) LEv.nl)))) (lb rfl)) LEv.nl)) (CJ.up (d' := 6) (Grid_fill_area X (x := ⟨[valO vs 0 0], 1, c.p, c.k⟩) S.G hA.tb hA.b3 hA.lr hA.r6 rfl hw0 fun σ3 hσ3 hG => (SsJ.nl (SsJ.nl ?_))) dd)))))))) (fun hc4 => (TJ.or_nil (iteF (iteF (SsJ.nl (SsJ.nl ?_)))))))))))) (fun hc3 => (iteF (TJ.or_nil (iteF (iteF (SsJ.nl (SsJ.nl ?_)))))))))))))))))))))) (fun hc1 => (iteF (TJ.or (TJ.chain (EJ.of Ev.ci (ChJ.link (EJ.of (Ev.nm (.i 2)) (CmpJ.le (TrJ.bl (iteB (fun hc5 => (ChJ.last (EJ.of Ev.ci (CmpJ.le (TrJ.bl (iteB (fun hc6 => (iteT (TJ.and_nil (iteT (SsJ.cs (SJ.expr (EJ.methE hW (Ev.ta hW X.o_Screen (Ev.nm .zx) X.a_Screen_grid.find (by nofun) (nd_Screen rfl) (.i 5) rfl) (by nofun) X.m_Grid_fill_area (na_Grid_fill_area rfl) (LEv.cs (Ev.nm (.i 3)) (LEv.cs (Ev.tu (LEv.cs (Ev.tu (LEv.cs (Ev.nm (.i 2)) LEv.nl) (lb rfl)) (LEv.cs Ev.ci (LEv.cs (Ev.ta hW X.o_Cursor (Ev.ta hW X.o_Screen (Ev.nm .zx) X.a_Screen_cursor.find (by nofun) (nd_Screen rfl) (.i 6) rfl) X.a_Cursor_pen.find (by nofun) (nd_Cursor rfl) (.i 3) rfl) (LEv.cs (Ev.ta hW X.o_Cursor (Ev.ta hW X.o_Screen (Ev.nm .zx) X.a_Screen_cursor.find (by nofun) (nd_Screen rfl) (.i 6) rfl) X.a_Cursor_is_guarding.find (by nofun) (nd_Cursor rfl) (.i 5) rfl) LEv.nl)))) (lb rfl)) LEv.nl)) (CJ.up (d' := 6) (Grid_fill_area X (x := ⟨[valO vs 0 0], 1, c.p, c.k⟩) S.G hA.tb hA.b3 hA.lr hA.r6 rfl hw0 fun σ3 hσ3 hG => (SsJ.nl (SsJ.nl ?_))) dd)))))))) (fun hc6 => (TJ.or_nil (iteF (iteF (SsJ.nl (SsJ.nl ?_)))))))))))) (fun hc5 => (iteF (TJ.or_nil (iteF (iteF (SsJ.nl (SsJ.nl ?_)))))))))))))))))))))))))))))))))))⟩⟩)) dd)))) dd)))) rfl))
    all_goals simp only [decide_eq_true_eq, decide_eq_false_iff_not] at *
    all_goals first
      | (have hf : fillOk (valO vs 0 0) = true := by simp [fillOk]; lia
         rw [hf, if_pos rfl] at h
         exact h _ (((hσ.trans hσ2).weak (by simp)).trans hσ3) hG)
      | (have hf : fillOk (valO vs 0 0) = false := by simp [fillOk]; lia
         rw [hf, if_neg (by decide)] at h
         exact h _ ((hσ.trans hσ2).weak (by simp)) S.G)
theorem CJ.args {u : Value} {cs cs' : List V} (e : cs = cs') (q : CJ W d u cs' σ Q) : CJ W d u cs σ Q := e ▸ q
noncomputable def copyR (g : List (List Cell)) (u : Lim) (vs : List (Option Int)) : List (List Cell) := match areaN u vs 0 with
  | none => g
  | some A =>
    let rw_ := u.t + (valO vs 5 1).toNat - 1
    let cl := u.l + (valO vs 6 1).toNat - 1
    if rw_ ≤ u.b ∧ cl ≤ u.r then copyG g A.t A.l (min A.b (A.t + u.b - rw_)) (min A.r (A.l + u.r - cl)) rw_ cl else g
theorem cS {a u r b : Nat} {x : Int} (e : (r : Int) = x) (h : r ≤ u) : (if (a : Int) + u - x < b then (a : Int) + u - x else b) = ((min b (a + u - r) : Nat) : Int) := by
  subst e; rw [cMn, Int.ofNat_sub (Nat.le_trans h (Nat.le_add_left u a))]; rfl
theorem cR {a u r b n : Nat} (h : r ≤ u) (hu : u < n) : r + (min b (a + u - r) - a) < n := by
  have z := Nat.sub_le_sub_right (Nat.min_le_right b (a + u - r)) a
  rw [Nat.add_sub_assoc h, Nat.add_sub_cancel_left] at z
  rw [Nat.add_sub_assoc h]
  exact Nat.lt_of_le_of_lt (Nat.add_le_add_left z r) (by rw [Nat.add_sub_of_le h]; exact hu)
theorem cB {t b u r : Nat} (h : t ≤ b) (hr : r ≤ u) : t ≤ min b (t + u - r) := Nat.le_min.mpr ⟨h, Nat.le_sub_of_add_le (Nat.add_le_add_left hr t)⟩
theorem copyR_n {g : List (List Cell)} {u : Lim} {vs : List (Option Int)} (e : areaN u vs 0 = none) : copyR g u vs = g := by unfold copyR; rw [e]
theorem copyR_s {g : List (List Cell)} {u A : Lim} {vs : List (Option Int)} (e : areaN u vs 0 = some A) : copyR g u vs =
    if u.t + (valO vs 5 1).toNat - 1 ≤ u.b ∧ u.l + (valO vs 6 1).toNat - 1 ≤ u.r then copyG g A.t A.l (min A.b (A.t + u.b - (u.t + (valO vs 5 1).toNat - 1))) (min A.r (A.l + u.r - (u.l + (valO vs 6 1).toNat - 1))) (u.t + (valO vs 5 1).toNat - 1) (u.l + (valO vs 6 1).toNat - 1) else g := by
  unfold copyR; rw [e]
theorem copy_rectangle (X : Ctx W) {s : ScI} {i : Ids} {c : Cur} {m : Lim} {g : List (List Cell)} {n : Nat} {vs : List (Option Int)} (S : Scn σ s i c m g) (hl : (limOf c m).Ok) (hp : Par σ n vs) (hv : NonNeg vs) (hlen : vs.length ≤ 100) (hw0 : ∀ j, j < 3 → (at_ (row g j) 0).w ≠ 0)
    (h : ∀ σ', Same σ σ' i.c → Grd σ' i (copyR g (limOf c m) vs) → Q .none σ') : CJ W (d + 7) u_copy_rectangle [.ref s.sc, .ref n] σ Q := by
  have hW := X.ok
  refine call.copy_rectangle X fun r_ => ?_
  have p (k) := valO_pos hv (k := k) (dflt := 1) (Int.le_refl _)
  have hS : Same σ σ [] := .refl
  refine (SsJ.cs (SJ.sn (EJ.ce (Ev.gl hW .zx) X.k_area_of (LEv.cs (Ev.nm .zx) (LEv.cs (Ev.nm (.i 1)) LEv.nl)) (CJ.up (d' := 3) (area_of1 X S hl hp hv hlen rfl fun σ2 hσ2 => have hS := hS.trans hσ2; have S := S.move hσ2; have hp := hp.move hσ2; (AJ.nm (.i 2) rfl (SsJ.cs (SJ.sn (EJ.ce (Ev.gl hW (.i 1)) X.k_edit_limits (LEv.cs (Ev.nm .zx) LEv.nl) (CJ.up (d' := 2) (edit_limits X S (AJ.tuple (AsJ.cons (AJ.nm (.i 3) rfl (AsJ.cons (AJ.nm (.i 4) rfl (AsJ.cons (AJ.nm (.i 5) rfl (AsJ.cons (AJ.nm (.i 6) rfl (AsJ.nil (SsJ.cs (SJ.assignSwap (names := ["row", "column"]) (EJ.tuple (LJ.cons (EJ.binop (EJ.binop (EJ.of (Ev.nm (.i 3)) (EJ.ce (Ev.gl hW (.i 2)) X.k_value_of (LEv.cs (Ev.nm (.i 1)) (LEv.cs Ev.ci (LEv.cs Ev.ci LEv.nl))) (CJ.up (d' := 2) (value_of X (by first | exact (rfl : (5 : Int) = ((5 : Nat) : Int)) | exact (rfl : (6 : Int) = ((6 : Nat) : Int))) hp hlen fun σ' hσ => have hS := hS.trans hσ; have S := S.move hσ; have hp := hp.move hσ; (OpJ.add (EJ.of Ev.ci (OpJ.sub (LJ.cons (EJ.binop (EJ.binop (EJ.of (Ev.nm (.i 4)) (EJ.ce (Ev.gl hW (.i 2)) X.k_value_of (LEv.cs (Ev.nm (.i 1)) (LEv.cs Ev.ci (LEv.cs Ev.ci LEv.nl))) (CJ.up (d' := 2) (value_of X (by first | exact (rfl : (5 : Int) = ((5 : Nat) : Int)) | exact (rfl : (6 : Int) = ((6 : Nat) : Int))) hp hlen fun σ' hσ => have hS := hS.trans hσ; have S := S.move hσ; have hp := hp.move hσ; (OpJ.add (EJ.of Ev.ci (OpJ.sub (LJ.of LEv.nl ⟨(lb rfl), ⟨_, _, rfl, rfl, (PutAll.cons (.i 8) (PutAll.cons (.i 7) PutAll.nil)), (SsJ.cs ?_)⟩⟩))))) dd)))))))))) dd))))))) rfl))))))))))))) dd)))))) dd))))
  cases e : areaN (limOf c m) vs 0 with
  | none =>
    rw [copyR_n e] at h
    exact SJ.ite (TJ.and (TJ.cmp (EJ.of (Ev.nm (.i 2)) (EJ.of Ev.cnone (CmpJ.nn rfl (TrJ.bl (iteN rfl (iteF (SsJ.nl (SsJ.nl (h _ (hS.weak (by simp)) S.G)))))))))))
  | some A =>
    rw [copyR_s e] at h
    obtain ⟨hA, -⟩ := areaN_ok hl hv e
    have y1 := cT (t := (limOf c m).t) (p 5)
    have y2 := cT (t := (limOf c m).l) (p 6)
    refine SJ.ite (TJ.and (TJ.cmp (EJ.of (Ev.nm (.i 2)) (EJ.of Ev.cnone (CmpJ.nn rfl (TrJ.bl (iteY rfl (TJ.and (TJ.cmp (EJ.of (Ev.nm (.i 7)) (EJ.of (Ev.nm (.i 5)) (CmpJ.le (TrJ.bl (iteB (fun hc1 => TJ.and (TJ.cmp (EJ.of (Ev.nm (.i 8)) (EJ.of (Ev.nm (.i 6)) (CmpJ.le (TrJ.bl (iteB (fun hc2 => ?_) fun hc2 => iteF (SsJ.nl (SsJ.nl ?_))))))))) fun hc1 => iteF (SsJ.nl (SsJ.nl ?_))))))))))))))))
    · have c1 := Int.ofNat_le.mp (y1 ▸ of_decide_eq_true hc1)
      have c2 := Int.ofNat_le.mp (y2 ▸ of_decide_eq_true hc2)
      rw [if_pos ⟨c1, c2⟩] at h
      have ea := congr (congrArg (fun a b => [V.ref i.gr, V.tup [V.int A.t, V.int A.l, V.int a, V.int b], V.int (((limOf c m).t : Int) + valO vs 5 1 - 1), V.int (((limOf c m).l : Int) + valO vs 6 1 - 1)]) (cS (a := A.t) (b := A.b) y1 c1)) (cS (a := A.l) (b := A.r) y2 c2)
      exact (TJ.and_nil (iteT (SsJ.cs (SJ.sn (EJ.of (Ev.nm (.i 2)) (AJ.tuple (AsJ.cons (AJ.nm (.i 9) rfl (AsJ.cons (AJ.nm (.i 10) rfl (AsJ.cons (AJ.nm (.i 11) rfl (AsJ.cons (AJ.nm (.i 12) rfl (AsJ.nil (SsJ.cs (SJ.setE (Ev.tu (LEv.cs (Ev.nm (.i 9)) (LEv.cs (Ev.nm (.i 10)) (LEv.cs (Ev.call (Ev.gl hW (.i 3)) Keeps.builtin (LEv.cs (Ev.nm (.i 11)) (LEv.cs (Ev.sb (Ev.ad (Ev.nm (.i 9)) (Ev.nm (.i 5))) (Ev.nm (.i 7))) LEv.nl)) CE.min2) (LEv.cs (Ev.call (Ev.gl hW (.i 3)) Keeps.builtin (LEv.cs (Ev.nm (.i 12)) (LEv.cs (Ev.sb (Ev.ad (Ev.nm (.i 10)) (Ev.nm (.i 6))) (Ev.nm (.i 8))) LEv.nl)) CE.min2) LEv.nl)))) (lb rfl)) (.i 13) rfl (SsJ.cs (SJ.expr (EJ.methE hW (Ev.ta hW X.o_Screen (Ev.nm .zx) X.a_Screen_grid.find (by first | exact S.sc | exact S.cu | exact S.G.gr | exact S.mg) (nd_Screen rfl) (.i 5) rfl) (by first | exact S.sc | exact S.cu | exact S.G.gr | exact S.mg) X.m_Grid_copy_area (na_Grid_copy_area rfl) (LEv.cs (Ev.nm (.i 13)) (LEv.cs (Ev.nm (.i 7)) (LEv.cs (Ev.nm (.i 8)) LEv.nl))) (CJ.args ea (CJ.up (d' := 6) (Grid_copy_area X y1.symm y2.symm S.G (cB hA.tb c1) (Nat.lt_of_le_of_lt (Nat.min_le_left _ _) hA.b3) (cB hA.lr c2) (Nat.lt_of_le_of_lt (Nat.min_le_left _ _) hA.r6) (cR c1 hl.b3) (cR c2 hl.r6) hw0 fun σ3 hσ3 hG => (SsJ.nl (SsJ.nl (h _ ((hS.weak (by simp)).trans hσ3) hG)))) dd))))))))))))))))))))))
    · rw [if_neg fun z => of_decide_eq_false hc2 (y2 ▸ Int.ofNat_le.mpr z.2)] at h
      exact h _ (hS.weak (by simp)) S.G
    · rw [if_neg fun z => of_decide_eq_false hc1 (y1 ▸ Int.ofNat_le.mpr z.1)] at h
      exact h _ (hS.weak (by simp)) S.G
end
noncomputable def underI (f : Int) : Int := (Builtin.bitAnd f 3584).fdiv (2 ^ (9 : Int).toNat)
noncomputable def withU (f k : Int) : Int := Builtin.bitOr (Builtin.bitAnd f (Builtin.bitNot 3584)) (k * 2 ^ (9 : Int).toNat)
noncomputable def EF : List (Int × Int) := [(1, 1), (5, 8), (7, 32), (8, 64)]
noncomputable def innT (n : Int) (f : Int) (p : Int × Int) : Int := if n = p.1 then Builtin.bitOr f p.2 else if n = 0 ∨ n = 20 + (if 2 > p.1 then 2 else p.1) then Builtin.bitAnd f (Builtin.bitNot p.2) else f
noncomputable def stepT (f n : Int) : Int := if n = 0 ∨ n = 4 ∨ n = 24 then withU (EF.foldl (innT n) f) (if n = 4 then 1 else 0) else EF.foldl (innT n) f
noncomputable def innG (n : Int) (f : Int) (p : Int × Int) : Int := if n = p.1 ∨ (n = 0 ∧ p.1 ≠ 8) then Builtin.bitXor f p.2 else f
noncomputable def stepG (f n : Int) : Int := if n = 0 ∨ n = 4 then withU (EF.foldl (innG n) f) (if underI (EF.foldl (innG n) f) = 0 then 1 else 0) else EF.foldl (innG n) f
theorem foldl_take {α β : Type} (f : β → α → β) {l : List α} {i : Nat} {a : α} (b : β) (h : l[i]? = some a) : (l.take (i + 1)).foldl f b = f ((l.take i).foldl f b) a := by
  rw [List.take_add_one, h, List.foldl_append]; rfl
section
variable {W : Wd} {d : Nat} {σ : List CO} {Q : V → List CO → Prop}
theorem under_of (X : Ctx W) {f : Int} (h : Q (.int (underI f)) σ) : CJ W (d + 1) u_under_of [.int f] σ Q := by
  have hW := X.ok
  refine call.under_of X fun r_ => ?_
  refine (SsJ.cs (SJ.retE (Ev.shr (Ev.band (Ev.nm .zx) (Ev.gl hW .zx)) (Ev.gl hW (.i 1)) (by decide)) h))
theorem flags_with_under (X : Ctx W) {f k : Int} (hk : k.natAbs < 2 ^ 64) (h : Q (.int (withU f k)) σ) : CJ W (d + 1) u_flags_with_under [.int f, .int k] σ Q := by
  have hW := X.ok
  refine call.flags_with_under X fun r_ => ?_
  refine (SsJ.cs (SJ.retE (Ev.bor (Ev.band (Ev.nm .zx) (Ev.inv (Ev.gl hW .zx))) (Ev.shl (Ev.nm (.i 1)) (Ev.gl hW (.i 1)) (by decide) (by decide) ?_)) ?_))
  · exact hk
  · exact h
theorem edit_turned (X : Ctx W) {m : Nat} {ns : List Int} {p : Pen} (hm : σ[m]? = some (.list (ns.map V.int))) (h : Q (Pen.v ⟨ns.foldl stepT p.f, p.b, p.g⟩) σ) : CJ W (d + 2) u_edit_turned [p.v, .ref m] σ Q := by
  have hW := X.ok
  refine call.edit_turned X fun r_ => ?_
  refine (SsJ.cs (SJ.setE (Ev.subTup (Ev.nm .zx) (Ev.gl hW .zx) rfl (lb rfl)) (.sx (.sx .zx)) rfl (SsJ.cs (SJ.for (ItE.ofE (Ev.nm (.sx .zx)) (ItV.list (by nofun) ?_))))))
  refine LoopJ.idx (fun i ρ τ => ∃ o oA oB, ρ = ([("pen", some p.v), ("numbers", some (.ref m)), ("flags", some (.int ((ns.take i).foldl stepT p.f))), ("number", o), ("told", oA), ("flag", oB)] : Rho) ∧ σ = τ) ⟨none, none, none, rfl, rfl⟩ ?_ ?_
  · rintro i c ρ τ hc ⟨o, oA, oB, rfl, rfl⟩
    rw [List.getElem?_map] at hc
    obtain ⟨n, hn, rfl⟩ := Option.map_eq_some_iff.mp hc
    have e := foldl_take stepT p.f hn
    generalize (ns.take i).foldl stepT p.f = f at *
    refine (AJ.nm (.sx (.sx (.sx .zx))) rfl (SsJ.cs (SJ.for (ItE.ofE (Ev.gl hW (.sx .zx)) (ItV.tup ?_)))))
    refine LoopJ.idx (fun j ρ τ => ∃ oA oB, ρ = ([("pen", some p.v), ("numbers", some (.ref m)), ("flags", some (.int ((EF.take j).foldl (innT n) f))), ("number", some (.int n)), ("told", oA), ("flag", oB)] : Rho) ∧ σ = τ) ⟨oA, oB, rfl, rfl⟩ ?_ ?_
    · rintro j c ρ τ hc ⟨oA, oB, rfl, rfl⟩
      have hc' : (EF.map fun p => V.tup [.int p.1, .int p.2])[j]? = some c := hc
      rw [List.getElem?_map] at hc'
      obtain ⟨q, hq, rfl⟩ := Option.map_eq_some_iff.mp hc'
      have e2 := foldl_take (innT n) f hq
      generalize (EF.take j).foldl (innT n) f = f' at *
      obtain ⟨t, g⟩ := q
      refine (AJ.tuple (AsJ.cons (AJ.nm (.sx (.sx (.sx (.sx .zx)))) rfl (AsJ.cons (AJ.nm (.sx (.sx (.sx (.sx (.sx .zx))))) rfl (AsJ.nil (SsJ.cs (SJ.iteB (TEv.cmp (Ev.nm (.sx (.sx (.sx .zx)))) (Ev.nm (.sx (.sx (.sx (.sx .zx))))) CmpE.eq) (fun hc1 => (SsJ.cs (SJ.setE (Ev.bor (Ev.nm (.sx (.sx .zx))) (Ev.nm (.sx (.sx (.sx (.sx (.sx .zx))))))) (.sx (.sx .zx)) rfl (SsJ.nl (SsJ.nl ?_))))) (fun hc1 => (SsJ.cs (SJ.ite (TJ.or (TJ.cmp (EJ.of (Ev.nm (.sx (.sx (.sx .zx)))) (EJ.of Ev.ci (CmpJ.eq (TrJ.bl (iteB (fun hc2 => (iteT (SsJ.cs (SJ.setE (Ev.band (Ev.nm (.sx (.sx .zx))) (Ev.inv (Ev.nm (.sx (.sx (.sx (.sx (.sx .zx)))))))) (.sx (.sx .zx)) rfl (SsJ.nl (SsJ.nl (SsJ.nl ?_))))))) (fun hc2 => (TJ.or (TJ.cmp (EJ.of (Ev.nm (.sx (.sx (.sx .zx)))) (EJ.of (Ev.ad Ev.ci (Ev.call (Ev.gl hW (.sx (.sx .zx))) Keeps.builtin (LEv.cs (Ev.nm (.sx (.sx (.sx (.sx .zx))))) (LEv.cs Ev.ci LEv.nl)) CE.max2)) (CmpJ.eq (TrJ.bl (iteB (fun hc3 => (iteT (SsJ.cs (SJ.setE (Ev.band (Ev.nm (.sx (.sx .zx))) (Ev.inv (Ev.nm (.sx (.sx (.sx (.sx (.sx .zx)))))))) (.sx (.sx .zx)) rfl (SsJ.nl (SsJ.nl (SsJ.nl ?_))))))) (fun hc3 => (TJ.or_nil (iteF (SsJ.nl (SsJ.nl (SsJ.nl ?_))))))))))))))))))))))))))))))))
      all_goals simp only [beq_iff_eq, beq_eq_false_iff_ne] at *
      all_goals refine ⟨trivial, some (.int t), some (.int g), ?_, by first | rfl | trivial⟩
      all_goals rw [e2, innT]
      · rw [if_pos ‹_›]
      · rw [if_neg ‹_›, if_pos (.inl ‹_›)]
      · rw [if_neg ‹_›, if_pos (.inr ‹_›)]
      · rw [if_neg ‹_›, if_neg (by rintro (q | q) <;> contradiction)]
    · rintro ρ τ ⟨oA, oB, rfl, rfl⟩
      have e3 : (EF.take (List.length [V.tup [.int 1, .int 1], .tup [.int 5, .int 8], .tup [.int 7, .int 32], .tup [.int 8, .int 64]])).foldl (innT n) f = EF.foldl (innT n) f := rfl
      rw [e3]
      refine (SsJ.cs (SJ.iteB (TEv.cmp (Ev.nm (.sx (.sx (.sx .zx)))) (Ev.tu (LEv.cs Ev.ci (LEv.cs Ev.ci (LEv.cs Ev.ci LEv.nl))) (lb rfl)) (CmpE.inTup [0, 4, 24] rfl)) (fun hc1 => (SsJ.cs (SJ.sn (EJ.call (EJ.glob hW (.sx (.sx (.sx .zx))) ⟨_, rfl, X.k_flags_with_under, (LJ.cons (EJ.of (Ev.nm (.sx (.sx .zx))) (LJ.cons (EJ.ite (TJ.cmp (EJ.of (Ev.nm (.sx (.sx (.sx .zx)))) (EJ.of Ev.ci (CmpJ.eq (TrJ.bl (iteB (fun hc2 => (EJ.of Ev.ci (LJ.of LEv.nl (CJ.up (d' := 1) (flags_with_under X (by decide) (AJ.nm (.sx (.sx .zx)) rfl (SsJ.nl (SsJ.nl ?_)))) dd)))) (fun hc2 => (EJ.of Ev.ci (LJ.of LEv.nl (CJ.up (d' := 1) (flags_with_under X (by decide) (AJ.nm (.sx (.sx .zx)) rfl (SsJ.nl (SsJ.nl ?_)))) dd))))))))))))))⟩))))) (fun hc1 => (SsJ.nl (SsJ.nl ?_)))))
      all_goals simp only [List.any_cons, List.any_nil, Bool.or_false, Bool.or_eq_true, Bool.or_eq_false_iff, beq_iff_eq, beq_eq_false_iff_ne] at *
      all_goals refine ⟨hm, some (.int n), oA, oB, ?_, by first | rfl | trivial⟩
      all_goals rw [e, stepT]
      · rw [if_pos (by lia), if_pos (by lia)]
      · rw [if_pos (by lia), if_neg (by lia)]
      · rw [if_neg (by lia)]
  · rintro ρ τ ⟨o, oA, oB, rfl, rfl⟩
    rw [List.length_map, List.take_length]
    refine (SsJ.cs (SJ.ret (EJ.ce (Ev.gl hW (.sx (.sx (.sx (.sx .zx))))) X.k_pen_with (LEv.cs (Ev.nm .zx) (LEv.cs (Ev.gl hW .zx) (LEv.cs (Ev.nm (.sx (.sx .zx))) LEv.nl))) (CJ.up (d' := 1) (pen_with X ?_) dd))))
    exact h
theorem edit_toggled (X : Ctx W) {m : Nat} {ns : List Int} {p : Pen} (hm : σ[m]? = some (.list (ns.map V.int))) (h : Q (Pen.v ⟨ns.foldl stepG p.f, p.b, p.g⟩) σ) : CJ W (d + 2) u_edit_toggled [p.v, .ref m] σ Q := by
  have hW := X.ok
  refine call.edit_toggled X fun r_ => ?_
  refine (SsJ.cs (SJ.setE (Ev.subTup (Ev.nm .zx) (Ev.gl hW .zx) rfl (lb rfl)) (.sx (.sx .zx)) rfl (SsJ.cs (SJ.for (ItE.ofE (Ev.nm (.sx .zx)) (ItV.list (by nofun) ?_))))))
  refine LoopJ.idx (fun i ρ τ => ∃ o oA oB, ρ = ([("pen", some p.v), ("numbers", some (.ref m)), ("flags", some (.int ((ns.take i).foldl stepG p.f))), ("number", o), ("told", oA), ("flag", oB)] : Rho) ∧ σ = τ) ⟨none, none, none, rfl, rfl⟩ ?_ ?_
  · rintro i c ρ τ hc ⟨o, oA, oB, rfl, rfl⟩
    rw [List.getElem?_map] at hc
    obtain ⟨n, hn, rfl⟩ := Option.map_eq_some_iff.mp hc
    have e := foldl_take stepG p.f hn
    generalize (ns.take i).foldl stepG p.f = f at *
    refine (AJ.nm (.sx (.sx (.sx .zx))) rfl (SsJ.cs (SJ.for (ItE.ofE (Ev.gl hW (.sx .zx)) (ItV.tup ?_)))))
    refine LoopJ.idx (fun j ρ τ => ∃ oA oB, ρ = ([("pen", some p.v), ("numbers", some (.ref m)), ("flags", some (.int ((EF.take j).foldl (innG n) f))), ("number", some (.int n)), ("told", oA), ("flag", oB)] : Rho) ∧ σ = τ) ⟨oA, oB, rfl, rfl⟩ ?_ ?_
    · rintro j c ρ τ hc ⟨oA, oB, rfl, rfl⟩
      have hc' : (EF.map fun p => V.tup [.int p.1, .int p.2])[j]? = some c := hc
      rw [List.getElem?_map] at hc'
      obtain ⟨q, hq, rfl⟩ := Option.map_eq_some_iff.mp hc'
      have e2 := foldl_take (innG n) f hq
      generalize (EF.take j).foldl (innG n) f = f' at *
      obtain ⟨t, g⟩ := q
      refine (AJ.tuple (AsJ.cons (AJ.nm (.sx (.sx (.sx (.sx .zx)))) rfl (AsJ.cons (AJ.nm (.sx (.sx (.sx (.sx (.sx .zx))))) rfl (AsJ.nil (SsJ.cs (SJ.ite (TJ.or (TJ.cmp (EJ.of (Ev.nm (.sx (.sx (.sx .zx)))) (EJ.of (Ev.nm (.sx (.sx (.sx (.sx .zx))))) (CmpJ.eq (TrJ.bl (iteB (fun hc1 => (iteT (SsJ.cs (SJ.setE (Ev.bxor (Ev.nm (.sx (.sx .zx))) (Ev.nm (.sx (.sx (.sx (.sx (.sx .zx))))))) (.sx (.sx .zx)) rfl (SsJ.nl (SsJ.nl ?_)))))) (fun hc1 => (TJ.or (TJ.and (TJ.cmp (EJ.of (Ev.nm (.sx (.sx (.sx .zx)))) (EJ.of Ev.ci (CmpJ.eq (TrJ.bl (iteB (fun hc2 => (TJ.and (TJ.cmp (EJ.of (Ev.nm (.sx (.sx (.sx (.sx .zx))))) (EJ.of Ev.ci (CmpJ.ne (TrJ.bl (iteB (fun hc3 => (TJ.and_nil (iteT (iteT (SsJ.cs (SJ.setE (Ev.bxor (Ev.nm (.sx (.sx .zx))) (Ev.nm (.sx (.sx (.sx (.sx (.sx .zx))))))) (.sx (.sx .zx)) rfl (SsJ.nl (SsJ.nl ?_)))))))) (fun hc3 => (iteF (TJ.or_nil (iteF (SsJ.nl (SsJ.nl ?_)))))))))))))) (fun hc2 => (iteF (TJ.or_nil (iteF (SsJ.nl (SsJ.nl ?_))))))))))))))))))))))))))))))
      all_goals simp only [beq_iff_eq, beq_eq_false_iff_ne, bne_iff_ne, bne_eq_false_iff_eq] at *
      all_goals refine ⟨trivial, some (.int t), some (.int g), ?_, by first | rfl | trivial⟩
      all_goals rw [e2, innG]
      all_goals first
        | rw [if_pos (by simp only; lia)]
        | rw [if_neg (by simp only; lia)]
    · rintro ρ τ ⟨oA, oB, rfl, rfl⟩
      have e3 : (EF.take (List.length [V.tup [.int 1, .int 1], .tup [.int 5, .int 8], .tup [.int 7, .int 32], .tup [.int 8, .int 64]])).foldl (innG n) f = EF.foldl (innG n) f := rfl
      rw [e3]
      refine (SsJ.cs (SJ.iteB (TEv.cmp (Ev.nm (.sx (.sx (.sx .zx)))) (Ev.tu (LEv.cs Ev.ci (LEv.cs Ev.ci LEv.nl)) (lb rfl)) (CmpE.inTup [0, 4] rfl)) (fun hc1 => (SsJ.cs (SJ.sn (EJ.call (EJ.glob hW (.sx (.sx .zx)) ⟨_, rfl, X.k_flags_with_under, (LJ.cons (EJ.of (Ev.nm (.sx (.sx .zx))) (LJ.cons (EJ.ite (TJ.cmp (EJ.ce (Ev.gl hW (.sx (.sx (.sx .zx)))) X.k_under_of (LEv.cs (Ev.nm (.sx (.sx .zx))) LEv.nl) (CJ.up (d' := 1) (under_of X (EJ.of Ev.ci (CmpJ.eq (TrJ.bl (iteB (fun hc2 => (EJ.of Ev.ci (LJ.of LEv.nl (CJ.up (d' := 1) (flags_with_under X (by decide) (AJ.nm (.sx (.sx .zx)) rfl (SsJ.nl (SsJ.nl ?_)))) dd)))) (fun hc2 => (EJ.of Ev.ci (LJ.of LEv.nl (CJ.up (d' := 1) (flags_with_under X (by decide) (AJ.nm (.sx (.sx .zx)) rfl (SsJ.nl (SsJ.nl ?_)))) dd))))))))) dd)))))))⟩))))) (fun hc1 => (SsJ.nl (SsJ.nl ?_)))))
      all_goals simp only [List.any_cons, List.any_nil, Bool.or_false, Bool.or_eq_true, Bool.or_eq_false_iff, beq_iff_eq, beq_eq_false_iff_ne] at *
      all_goals refine ⟨hm, some (.int n), oA, oB, ?_, by first | rfl | trivial⟩
      all_goals rw [e, stepG]
      · rw [if_pos (by lia), if_pos (by lia)]
      · rw [if_pos (by lia), if_neg (by lia)]
      · rw [if_neg (by lia)]
  · rintro ρ τ ⟨o, oA, oB, rfl, rfl⟩
    rw [List.length_map, List.take_length]
    refine (SsJ.cs (SJ.ret (EJ.ce (Ev.gl hW (.sx (.sx (.sx (.sx .zx))))) X.k_pen_with (LEv.cs (Ev.nm .zx) (LEv.cs (Ev.gl hW .zx) (LEv.cs (Ev.nm (.sx (.sx .zx))) LEv.nl))) (CJ.up (d' := 1) (pen_with X ?_) dd))))
    exact h
end
noncomputable def stF (u A : Lim) (st : Bool) (q : Nat) : Nat := if st = true ∧ A.t < q then u.l else A.l
noncomputable def stL (u A : Lim) (st : Bool) (q : Nat) : Nat := if st = true ∧ q < A.b then u.r else A.r
theorem stF_lt {u A : Lim} {st : Bool} {q : Nat} (hu : u.Ok) (hA : A.Ok) : stF u A st q < 6 := by
  unfold stF; split
  · exact Nat.lt_of_le_of_lt hu.lr hu.r6
  · exact Nat.lt_of_le_of_lt hA.lr hA.r6
theorem stL_lt {u A : Lim} {st : Bool} {q : Nat} (hu : u.Ok) (hA : A.Ok) : stL u A st q < 6 := by
  unfold stL; split
  · exact hu.r6
  · exact hA.r6
noncomputable def strV (u A : Lim) (st : Bool) (i : Nat) : V := .tup [.int ((A.t + i : Nat) : Int), .int (stF u A st (A.t + i) : Nat), .int (stL u A st (A.t + i) : Nat)]
theorem range_ends {α : Type} (f : Nat → α) (n : Nat) : [f 0] ++ (List.range n).map (fun i => f (i + 1)) ++ [f (n + 1)] = (List.range (n + 2)).map f := by
  rw [List.range_succ, List.map_append, List.range_succ_eq_map]
  simp [List.map_map, Function.comp_def]
section
variable {W : Wd} {d : Nat} {σ : List CO} {Q : V → List CO → Prop}
theorem edit_stretches (X : Ctx W) {s : ScI} {i : Ids} {c : Cur} {m : Lim} {g : List (List Cell)} {A : Lim} {st : Bool} (S : Scn σ s i c m g) (hA : A.Ok)
    (h : ∀ σ' k, Same σ σ' [] → σ.length ≤ k → σ'[k]? = some (.list ((List.range (A.b + 1 - A.t)).map (strV (limOf c m) A st))) → Q (.ref k) σ') : CJ W (d + 3) u_edit_stretches [.ref s.sc, A.v, .bool st] σ Q := by
  have hW := X.ok
  refine call.edit_stretches X fun r_ => ?_
  have eb : (A.b : Int) + 1 = ((A.b + 1 : Nat) : Int) := by simp
  have et : (A.t : Int) + 1 = ((A.t + 1 : Nat) : Int) := by simp
  have h1 := hA.tb
  have h2 := hA.b3
  by_cases hc : st = true ∧ A.t ≠ A.b
  · obtain ⟨rfl, hne⟩ := hc
    have hlt := Nat.lt_of_le_of_ne h1 hne
    have b1 : A.b ≤ 100 := Nat.le_trans (Nat.le_of_lt h2) (by decide)
    have eb2 : A.t + (A.b - (A.t + 1) + 1) = A.b := by rw [← Nat.add_assoc, Nat.add_right_comm, Nat.add_sub_of_le hlt]
    refine (SsJ.cs (SJ.sn (EJ.of (Ev.nm (.i 1)) (AJ.tuple (AsJ.cons (AJ.nm (.i 3) rfl (AsJ.cons (AJ.nm (.i 4) rfl (AsJ.cons (AJ.nm (.i 5) rfl (AsJ.cons (AJ.nm (.i 6) rfl (AsJ.nil (SsJ.cs (SJ.ite (TJ.or (TJ.not (TJ.plain (EJ.of (Ev.nm (.i 2)) (TrJ.bl (iteN rfl (TJ.or (TJ.cmp (EJ.of (Ev.nm (.i 3)) (EJ.of (Ev.nm (.i 5)) (CmpJ.eq (TrJ.bl (iteN (beq_false_of_ne fun q => hne (Int.ofNat.inj q)) (TJ.or_nil (iteF (SsJ.nl (SsJ.cs (SJ.sn (EJ.tuple (LJ.cons (EJ.sub (EJ.ce (Ev.gl hW (.i 1)) X.k_edit_limits (LEv.cs (Ev.nm .zx) LEv.nl) (CJ.up (d' := 2) (edit_limits X S (EJ.of Ev.ci (GiJ.tup rfl (lb rfl) (LJ.cons (EJ.sub (EJ.ce (Ev.gl hW (.i 1)) X.k_edit_limits (LEv.cs (Ev.nm .zx) LEv.nl) (CJ.up (d' := 2) (edit_limits X S (EJ.of Ev.ci (GiJ.tup rfl (lb rfl) (LJ.of LEv.nl ⟨(lb rfl), (AJ.tuple (AsJ.cons (AJ.nm (.i 7) rfl (AsJ.cons (AJ.nm (.i 8) rfl (AsJ.nil (SsJ.cs (SJ.assignComp _ [("start", _), ("end", _)] [] (CmpOk.fm ["start", "end"] [] rfl (by decide +kernel) rfl rfl ⟨(.i 7), rfl, ⟨(.i 8), rfl, trivial⟩⟩ trivial) rfl rfl (ItE.callE (Ev.gl hW .zx) Keeps.type (LEv.cs (Ev.ad (Ev.nm (.i 3)) Ev.ci) (LEv.cs (Ev.nm (.i 5)) LEv.nl)) (ItC.range2 ?_ ⟨?_, trivial, _, (.i 9), fun C => ?_⟩))))))))))⟩)))) dd))))))) dd))))))))))))))))))))))))))))))))))))))
    · rw [et]; exact sm (Nat.le_trans hlt b1) b1
    · rw [et, rangeV_len, sizeLine_eq]; exact Nat.le_trans (Nat.sub_le _ _) (Nat.le_trans b1 (by decide))
    refine CompL.idx (fun j acc τ => acc = (List.range j).map (fun i => strV (limOf c m) A true (i + 1)) ∧ Same σ τ [] ∧ τ[σ.length]? = some (.list acc)) ⟨rfl, .app, kN⟩ ?_ ?_
    · rintro j c' acc τ hc ⟨rfl, hs, hτ⟩
      rw [et] at hc
      obtain ⟨hj, rfl⟩ := rangeV_get hc
      refine (EJ.of (Ev.tu (LEv.cs (Ev.nm .zx) (LEv.cs (Ev.nm (.i 1)) (LEv.cs (Ev.nm (.i 2)) LEv.nl))) (lb rfl)) ?_)
      refine ⟨hτ, trivial, ?_, hs.setNew (Nat.le_refl _), kS hτ⟩
      rw [← range_snoc]
      have ej : A.t + (j + 1) = A.t + 1 + j := by rw [Nat.add_comm j, Nat.add_assoc]
      rw [strV, stF, stL, if_pos ⟨rfl, Nat.lt_add_of_pos_right (Nat.succ_pos j)⟩, if_pos ⟨rfl, ej ▸ Nat.add_lt_of_lt_sub' hj⟩, ej]
    · rintro acc τ ⟨rfl, hs, hτ⟩
      rw [et, rangeV_len] at hτ
      have hE := range_ends (strV (limOf c m) A true) (A.b - (A.t + 1))
      rw [show A.b - (A.t + 1) + 2 = A.b + 1 - A.t from (Nat.sub_eq_of_eq_add' (show A.b + 1 = A.t + (A.b - (A.t + 1) + 2) from congrArg (· + 1) eb2.symm)).symm] at hE
      rw [← hE] at h
      have e1 : strV (limOf c m) A true 0 = .tup [.int A.t, .int A.l, .int (limOf c m).r] := by
        rw [strV, stF, stL, if_neg (by simp), if_pos ⟨rfl, hlt⟩, Nat.add_zero]
      have e2 : strV (limOf c m) A true (A.b - (A.t + 1) + 1) = .tup [.int A.b, .int (limOf c m).l, .int A.r] := by
        rw [strV, stF, stL, eb2, if_pos ⟨rfl, hlt⟩, if_neg (by simp)]
      rw [e1, e2] at h
      refine (SsJ.cs (SJ.ret (EJ.binop (EJ.binop (EJ.list (LJ.of (LEv.cs (Ev.tu (LEv.cs (Ev.nm (.i 3)) (LEv.cs (Ev.nm (.i 4)) (LEv.cs (Ev.nm (.i 8)) LEv.nl))) (lb rfl)) LEv.nl) ⟨(lb rfl), (EJ.of (Ev.nm (.i 9)) (OpJ.addList (by first | assumption | exact kA (by assumption) | exact kN | exact kA (kA ‹_›) | exact kA kN) (by first | assumption | exact kA (by assumption) | exact kN | exact kA (kA ‹_›) | exact kA kN) ?_ (EJ.list (LJ.of (LEv.cs (Ev.tu (LEv.cs (Ev.nm (.i 5)) (LEv.cs (Ev.nm (.i 7)) (LEv.cs (Ev.nm (.i 6)) LEv.nl))) (lb rfl)) LEv.nl) ⟨(lb rfl), (OpJ.addList (by first | assumption | exact kA (by assumption) | exact kN | exact kA (kA ‹_›) | exact kA kN) (by first | assumption | exact kA (by assumption) | exact kN | exact kA (kA ‹_›) | exact kA kN) ?_ ?_)⟩))))⟩))))))
      · simp; lia
      · simp; lia
      · refine h _ _ (hs.trans (Same.app.trans (Same.app.trans (Same.app.trans .app)))) ?_ kN
        have := (gq hτ).1
        simp; lia
  · have hst : ∀ i, i < A.b + 1 - A.t → strV (limOf c m) A st i = .tup [.int ((A.t + i : Nat) : Int), .int A.l, .int A.r] := fun i hi => by
      rw [strV, stF, stL, if_neg fun q => hc ⟨q.1, Nat.ne_of_lt (Nat.lt_of_lt_of_le q.2 (Nat.le_of_lt_succ (Nat.add_lt_of_lt_sub' hi)))⟩, if_neg fun q => hc ⟨q.1, Nat.ne_of_lt (Nat.lt_of_le_of_lt (Nat.le_add_right _ _) q.2)⟩]
    have loop : ∀ (τO : List CO) {F' : Fm} {elt : Xp} {caps : List (Sr × V)}, (∀ (j : Nat) (τ : List CO) (R : V → List CO → Prop), R (.tup [.int ((A.t + j : Nat) : Int), .int A.l, .int A.r]) τ → EJ W (d + 2) F' elt (("row", some (.int ((A.t + j : Nat) : Int))) :: capR caps) τ R) → τO = σ ++ [.list []] →
        CompL W (d + 2) F' elt "row" caps (fun _ => True) σ.length (fun τ => Q (.ref σ.length) τ) (rangeV A.t ((A.b : Int) + 1) 1) [] τO := by
      rintro τO F' elt caps he rfl
      refine CompL.idx (fun j acc τ => acc = (List.range j).map (strV (limOf c m) A st) ∧ Same σ τ [] ∧ τ[σ.length]? = some (.list acc)) ⟨rfl, .app, kN⟩ ?_ ?_
      · rintro j c' acc τ hcc ⟨rfl, hs, hτ⟩
        rw [eb] at hcc
        obtain ⟨hj, rfl⟩ := rangeV_get hcc
        refine he j τ _ ⟨hτ, trivial, ?_, hs.setNew (Nat.le_refl _), kS hτ⟩
        rw [← hst j hj, range_snoc]
      · rintro acc τ ⟨rfl, hs, hτ⟩
        rw [eb, rangeV_len] at hτ
        exact h _ _ hs (Nat.le_refl _) hτ
    cases st with
    | false =>
      refine (SsJ.cs (SJ.sn (EJ.of (Ev.nm (.i 1)) (AJ.tuple (AsJ.cons (AJ.nm (.i 3) rfl (AsJ.cons (AJ.nm (.i 4) rfl (AsJ.cons (AJ.nm (.i 5) rfl (AsJ.cons (AJ.nm (.i 6) rfl (AsJ.nil (SsJ.cs (SJ.ite (TJ.or (TJ.not (TJ.plain (EJ.of (Ev.nm (.i 2)) (TrJ.bl (iteY rfl (iteT (SsJ.cs (SJ.ret (EJ.comp _ [("left", _), ("right", _)] [] (CmpOk.fm ["left", "right"] [] rfl (by decide +kernel) rfl rfl ⟨(.i 4), rfl, ⟨(.i 6), rfl, trivial⟩⟩ trivial) (ItE.callE (Ev.gl hW .zx) Keeps.type (LEv.cs (Ev.nm (.i 3)) (LEv.cs (Ev.ad (Ev.nm (.i 5)) Ev.ci) LEv.nl)) (ItC.range2 ?_ ⟨?_, trivial, fun C => loop _ ?_ rfl⟩)))))))))))))))))))))))))))
      · rw [eb]; exact sn h1 h2
      · rw [eb, rangeV_len, sizeLine_eq]; exact sz h2
      · intro j τ R hR
        refine (EJ.of (Ev.tu (LEv.cs (Ev.nm .zx) (LEv.cs (Ev.nm (.i 1)) (LEv.cs (Ev.nm (.i 2)) LEv.nl))) (lb rfl)) hR)
    | true =>
      have hab : A.t = A.b := Decidable.byContradiction fun q => hc ⟨rfl, q⟩
      refine (SsJ.cs (SJ.sn (EJ.of (Ev.nm (.i 1)) (AJ.tuple (AsJ.cons (AJ.nm (.i 3) rfl (AsJ.cons (AJ.nm (.i 4) rfl (AsJ.cons (AJ.nm (.i 5) rfl (AsJ.cons (AJ.nm (.i 6) rfl (AsJ.nil (SsJ.cs (SJ.ite (TJ.or (TJ.not (TJ.plain (EJ.of (Ev.nm (.i 2)) (TrJ.bl (iteN rfl (TJ.or (TJ.cmp (EJ.of (Ev.nm (.i 3)) (EJ.of (Ev.nm (.i 5)) (CmpJ.eq (TrJ.bl (iteY (by rw [hab]; exact beq_self_eq_true _) (iteT (SsJ.cs (SJ.ret (EJ.comp _ [("left", _), ("right", _)] [] (CmpOk.fm ["left", "right"] [] rfl (by decide +kernel) rfl rfl ⟨(.i 4), rfl, ⟨(.i 6), rfl, trivial⟩⟩ trivial) (ItE.callE (Ev.gl hW .zx) Keeps.type (LEv.cs (Ev.nm (.i 3)) (LEv.cs (Ev.ad (Ev.nm (.i 5)) Ev.ci) LEv.nl)) (ItC.range2 ?_ ⟨?_, trivial, fun C => loop _ ?_ rfl⟩))))))))))))))))))))))))))))))))))
      · rw [eb]; exact sn h1 h2
      · rw [eb, rangeV_len, sizeLine_eq]; exact sz h2
      · intro j τ R hR
        refine (EJ.of (Ev.tu (LEv.cs (Ev.nm .zx) (LEv.cs (Ev.nm (.i 1)) (LEv.cs (Ev.nm (.i 2)) LEv.nl))) (lb rfl)) hR)
noncomputable def penStep (tf : Pen → Pen) (l : List Cell) (k : Nat) : List Cell :=
  let x := at_ l k
  let l1 := if 0 < x.w then l.set k ⟨x.c, x.w, tf x.p, x.k⟩ else l
  if x.w = 2 then l1.set (k + 1) ⟨[], 0, tf x.p, x.k⟩ else l1
noncomputable def penRow (tf : Pen → Pen) (f n : Nat) (l : List Cell) : List Cell := (List.range n).foldl (fun l i => penStep tf l (f + i)) l
theorem penStep_len (tf : Pen → Pen) (l : List Cell) (k : Nat) : (penStep tf l k).length = l.length := by
  unfold penStep; dsimp only; split <;> split <;> simp
theorem penRow_succ (tf : Pen → Pen) (f n : Nat) (l : List Cell) : penRow tf f (n + 1) l = penStep tf (penRow tf f n l) (f + n) := by
  unfold penRow; rw [List.range_succ, List.foldl_append]; rfl
theorem penRow_len (tf : Pen → Pen) (f n : Nat) (l : List Cell) : (penRow tf f n l).length = l.length := by
  induction n with
  | zero => rfl
  | succ n ih => rw [penRow_succ, penStep_len, ih]
def W2 (l : List Cell) : Prop := ∀ k, k < l.length → (at_ l k).w = 2 → k + 1 < l.length
theorem at_set {l : List Cell} {k j : Nat} {x : Cell} (hk : k < l.length) : at_ (l.set k x) j = if j = k then x else at_ l j := by
  unfold at_
  simp only [List.getD_eq_getElem?_getD, List.getElem?_set]
  by_cases h : k = j
  · subst h; simp [hk]
  · rw [if_neg h, if_neg (fun q => h q.symm)]
theorem penStep_w {tf : Pen → Pen} {l : List Cell} (h : W2 l) {k : Nat} (hk : k < l.length) : W2 (penStep tf l k) := by
  intro j hj hw
  rw [penStep_len] at hj ⊢
  unfold penStep at hw
  dsimp only at hw
  by_cases h2 : (at_ l k).w = 2
  · have hk1 := h k hk h2
    rw [if_pos h2, if_pos (by lia), at_set (by simpa using hk1), at_set hk] at hw
    split at hw
    · cases hw
    · split at hw
      · lia
      · exact h j hj hw
  · rw [if_neg h2] at hw
    split at hw
    · rw [at_set hk] at hw
      split at hw
      · exact absurd hw h2
      · exact h j hj hw
    · exact h j hj hw
theorem penRow_w {tf : Pen → Pen} {l : List Cell} (h : W2 l) {f n : Nat} (hn : f + n ≤ l.length) : W2 (penRow tf f n l) := by
  induction n with
  | zero => exact h
  | succ n ih => rw [penRow_succ]; exact penStep_w (ih (by lia)) (by rw [penRow_len]; lia)
noncomputable def numsOf (vs : List (Option Int)) : List Int := if (vs.drop 4) = [] then [0] else (vs.drop 4).map fun o => o.getD 0
noncomputable def pensG (g : List (List Cell)) (u : Lim) (o : Option Lim) (st : Bool) (tf : Pen → Pen) : List (List Cell) := match o with
  | none => g
  | some A => rowsMap g A.t (A.b + 1) fun q x => penRow tf (stF u A st q) (stL u A st q + 1 - stF u A st q) x
theorem CmpJ.eqNilI {F : Fm} {ρ : Rho} {m k : Nat} {l : List Int} (hm : σ[m]? = some (.list (l.map V.int))) (hk : σ[k]? = some (.list [])) {Q : V → List CO → Prop} (q : Q (.bool l.isEmpty) σ) : CmpJ W d F .Eq (.ref m) (.ref k) ρ σ Q := by
  refine CmpJ.eqD (.list hm (dv_ints l)) (.list hk .nil) (by simp [SeqAt.shaped, PyData.canLay0, PyData.depth, lay_ints]) rfl ?_
  have e : PyData.eqv (.list (l.map PyData.int)) (.list []) = l.isEmpty := by
    cases l <;> simp [PyData.eqv, PyData.eqvAll]
  rw [e]; exact q
theorem Par.drop {n k : Nat} {vs : List (Option Int)} (hp : Par σ n vs) {ms : List V} (hn : σ[n]? = some (.list ms)) : Par (σ ++ [.list (ms.drop k)]) σ.length (vs.drop k) := by
  obtain ⟨ms', hn', hl, hm⟩ := hp
  rw [hn] at hn'
  cases hn'
  refine ⟨ms'.drop k, by rw [← List.map_drop]; exact kN, by simp [hl], fun i m o h1 h2 => ?_⟩
  rw [List.getElem?_drop] at h1 h2
  exact kA (hm _ _ _ h1 h2)
end
section
variable {W : Wd} {d : Nat} {σ : List CO} {Q : V → List CO → Prop}
theorem Same.lists {σ' : List CO} {js : List Nat} (s : Same σ σ' js) {k : Nat} {l : List V} (hk : σ[k]? = some (.list l)) (h : k ∉ js) : σ'[k]? = some (.list l) := s.get hk h
theorem edit_pens (X : Ctx W) {ut : Value} {tf : List Int → Pen → Pen} {s : ScI} {i : Ids} {c : Cur} {m : Lim} {g : List (List Cell)} {n : Nat} {vs : List (Option Int)} {st : Bool} (hk : Keeps W ut)
    (ht : ∀ {τ : List CO} {R : V → List CO → Prop} {k : Nat} {ns : List Int} {p : Pen}, τ[k]? = some (.list (ns.map V.int)) → R (tf ns p).v τ → CJ W (d + 2) ut [p.v, .ref k] τ R)
    (S : Scn σ s i c m g) (hl : (limOf c m).Ok) (hp : Par σ n vs) (hv : NonNeg vs) (hlen : vs.length ≤ 100) (hw2 : ∀ q, q < 3 → W2 (row g q))
    (h : ∀ σ', Same σ σ' i.c → Grd σ' i (pensG g (limOf c m) (areaN (limOf c m) vs 0) st (tf (numsOf vs))) → Q .none σ') : CJ W (d + 4) u_edit_pens [.ref s.sc, .ref n, .bool st, .raw ut] σ Q := by
  have hW := X.ok
  refine call.edit_pens X fun r_ => ?_
  have hpn := hp
  obtain ⟨ms, hn, hmn, -⟩ := hpn
  have e4 : slc (ms.map V.ref) (some (4 : Int)) none = (ms.map V.ref).drop 4 := slc_a (a := 4)
  have hS : Same σ σ [] := .refl
  have S0 := S
  have hlt : ∀ x ∈ i.c, x < σ.length := fun x q => S.G.lt q
  cases e : areaN (limOf c m) vs 0 with
  | none =>
    rw [e] at h
    refine (SsJ.cs (SJ.assignSwap (names := ["area", "numbers"]) (EJ.tuple (LJ.cons (EJ.ce (Ev.gl hW .zx) X.k_area_of (LEv.cs (Ev.nm .zx) (LEv.cs (Ev.nm (.i 1)) LEv.nl)) (CJ.up (d' := 3) (area_of1 X S hl hp hv hlen e fun σ2 hσ2 => have hS := hS.trans hσ2; have hn := hσ2.get hn (by simp); have hp := hp.move hσ2; have S := S.move hσ2; (LJ.cons (EJ.call (EJ.glob hW (.i 1) ⟨_, rfl, X.k_values_of, (LJ.cons (EJ.slice (EJ.of (Ev.nm (.i 1)) (EPJ.some (EJ.of Ev.ci (EPJ.none (SlJ.list (by nofun) rfl rfl ?_ (LJ.of LEv.nl (CJ.up (d' := 2) (values_of X (by rw [e4]; exact hp.drop hn) (by simp; lia) fun σ3 k hσ3 hkl hk3 => (LJ.of LEv.nl ⟨(lb rfl), ⟨_, _, rfl, rfl, (PutAll.cons (.i 5) (PutAll.cons (.i 4) PutAll.nil)), (SsJ.cs (SJ.iteT (TEv.cmp (Ev.nm (.i 4)) Ev.cnone (CmpE.isNone rfl)) rfl (SsJ.cs (SJ.retNone ?_))))⟩⟩)) dd)))))))))⟩)))) dd)))) rfl))
    · simp; lia
    · exact h _ (((hσ2.trans .app).trans hσ3).weak (by simp)) (S.G.move (Same.app.trans hσ3))
  | some A =>
    rw [e] at h
    obtain ⟨hA, hA1, hA2, hA3, hA4⟩ := areaN_ok hl hv e
    refine (SsJ.cs (SJ.assignSwap (names := ["area", "numbers"]) (EJ.tuple (LJ.cons (EJ.ce (Ev.gl hW .zx) X.k_area_of (LEv.cs (Ev.nm .zx) (LEv.cs (Ev.nm (.i 1)) LEv.nl)) (CJ.up (d' := 3) (area_of1 X S hl hp hv hlen e fun σ2 hσ2 => have hS := hS.trans hσ2; have hn := hσ2.get hn (by simp); have hp := hp.move hσ2; have S := S.move hσ2; (LJ.cons (EJ.call (EJ.glob hW (.i 1) ⟨_, rfl, X.k_values_of, (LJ.cons (EJ.slice (EJ.of (Ev.nm (.i 1)) (EPJ.some (EJ.of Ev.ci (EPJ.none (SlJ.list (by nofun) rfl rfl ?_ (LJ.of LEv.nl (CJ.up (d' := 2) (values_of X (by rw [e4]; exact hp.drop hn) (by simp; lia) fun σ3 k hσ3 hkl hk3 => (LJ.of LEv.nl ⟨(lb rfl), ⟨_, _, rfl, rfl, (PutAll.cons (.i 5) (PutAll.cons (.i 4) PutAll.nil)), (SsJ.cs (SJ.iteF (TEv.cmp (Ev.nm (.i 4)) Ev.cnone (CmpE.isNone rfl)) rfl (SsJ.nl ?_)))⟩⟩)) dd)))))))))⟩)))) dd)))) rfl))
    · simp; lia
    have S3 := S.move (Same.app.trans hσ3)
    have hS3 := (hσ2.trans .app).trans hσ3
    have hk3c : k ∉ i.c := fun q => by have := hlt _ q; have := hσ2.1; simp at hkl; lia
    refine SsJ.mid (fun ρ τ => ∃ k', ρ = ([("screen", some (.ref s.sc)), ("params", some (.ref n)), ("is_stream", some (.bool st)), ("turn", some (.raw ut)), ("area", some A.v), ("numbers", some (.ref k')), ("row", none), ("left", none), ("right", none), ("cells", none), ("column", none), ("codes", none), ("width", none), ("pen", none), ("is_guarded", none), ("fresh", none)] : Rho) ∧
      Same σ τ [] ∧ k' ∉ i.c ∧ τ[k']? = some (.list ((numsOf vs).map V.int))) ?_ ?_
    · by_cases hd : vs.drop 4 = []
      · have hnum : numsOf vs = [0] := if_pos hd
        refine (SJ.ite (TJ.cmp (EJ.of (Ev.nm (.i 5)) (EJ.list (LJ.of LEv.nl ⟨(lb rfl), (CmpJ.eqNilI (l := (vs.drop 4).map fun o => o.getD 0) (kA (by rw [hk3, List.map_map]; rfl)) kN (TrJ.bl (iteY (by simp [hd]) (SsJ.cs (SJ.sn (EJ.list (LJ.of (LEv.cs Ev.ci LEv.nl) ⟨(lb rfl), (AJ.nm (.i 5) rfl (SsJ.nl ?_))⟩)))))))⟩)))))
        refine ⟨_, rfl, hS3.trans (Same.app.trans .app), fun q => ?_, by rw [hnum]; exact kN⟩
        have q1 := hlt _ q
        have q2 := hS3.1
        simp at q1 q2; lia
      · have hnum : numsOf vs = (vs.drop 4).map fun o => o.getD 0 := if_neg hd
        refine (SJ.ite (TJ.cmp (EJ.of (Ev.nm (.i 5)) (EJ.list (LJ.of LEv.nl ⟨(lb rfl), (CmpJ.eqNilI (l := (vs.drop 4).map fun o => o.getD 0) (kA (by rw [hk3, List.map_map]; rfl)) kN (TrJ.bl (iteN (by simpa using hd) (SsJ.nl ?_))))⟩)))))
        exact ⟨_, rfl, hS3.trans .app, hk3c, by rw [hnum, List.map_map]; exact kA hk3⟩
    · rintro ρA τA ⟨k', rfl, hs1, hkc, hk1⟩
      clear hk3 hk3c
      have S1 := S0.move hs1
      have hkt1 := (gq hk1).1
      have hu := hl.r6
      have hA5 := hA.b3
      have hA6 := hA.tb
      have hA7 := hA.lr
      have hA8 := hA.r6
      generalize numsOf vs = nums at *
      refine (SsJ.cs (SJ.for (ItE.of (EJ.ce (Ev.gl hW (.i 2)) X.k_edit_stretches (LEv.cs (Ev.nm .zx) (LEv.cs (Ev.nm (.i 4)) (LEv.cs (Ev.nm (.i 2)) LEv.nl))) (CJ.up (d' := 3) (edit_stretches X S1 hA fun τB kB hs2 hk2l hk2 => (ItV.list (by nofun) ?_)) dd)))))
      have G2 := (S1.move hs2).G
      have hk2c : kB ∉ i.c := fun q => by have := hlt _ q; have := hs1.1; lia
      have h2s := (S1.move hs2).sc
      have hk2' := hs2.get hk1 (by simp)
      refine LoopJ.idx (fun j ρ τ => ∃ o : Nat → Option V, ρ = ([("screen", some (.ref s.sc)), ("params", some (.ref n)), ("is_stream", some (.bool st)), ("turn", some (.raw ut)), ("area", some A.v), ("numbers", some (.ref k')), ("row", o 0), ("left", o 1), ("right", o 2), ("cells", o 3), ("column", o 4), ("codes", o 5), ("width", o 6), ("pen", o 7), ("is_guarded", o 8), ("fresh", o 9)] : Rho) ∧
        Same τB τ i.c ∧ Grd τ i (rowsMap g A.t (A.t + j) fun q x => penRow (tf nums) (stF (limOf c m) A st q) (stL (limOf c m) A st q + 1 - stF (limOf c m) A st q) x)) ⟨fun _ => none, rfl, .refl, by rw [Nat.add_zero, rowsMap_zero]; exact G2⟩ ?_ ?_
      · rintro j c' ρ τ hc ⟨o, rfl, hs, G'⟩
        rw [List.getElem?_map] at hc
        obtain ⟨j', hj', rfl⟩ := Option.map_eq_some_iff.mp hc
        obtain ⟨hj1, rfl⟩ : j < A.b + 1 - A.t ∧ j = j' := by
          obtain ⟨z1, z2⟩ := gq hj'
          simp at z1 z2
          exact ⟨z1, z2⟩
        have hr3 : A.t + j < 3 := ar3 hj1 hA5
        have hrow : row (rowsMap g A.t (A.t + j) fun q x => penRow (tf nums) (stF (limOf c m) A st q) (stL (limOf c m) A st q + 1 - stF (limOf c m) A st q) x) (A.t + j) = row g (A.t + j) := rowsMap_at (S0.G.lg.symm ▸ hr3)
        have hstep := rowsMap_step (g := g) (t := A.t) (m := A.t + j) (f := fun q x => penRow (tf nums) (stF (limOf c m) A st q) (stL (limOf c m) A st q + 1 - stF (limOf c m) A st q) x) (Nat.le_add_right _ _) (S0.G.lg.symm ▸ hr3)
        have hl6 : stL (limOf c m) A st (A.t + j) < 6 := stL_lt hl hA
        have hf6 : stF (limOf c m) A st (A.t + j) < 6 := stF_lt hl hA
        unfold strV
        generalize stF (limOf c m) A st (A.t + j) = f at *
        generalize stL (limOf c m) A st (A.t + j) = l at *
        have h6 := S0.G.wide _ hr3
        have hw2' := hw2 _ hr3
        have hcm := Ids.cells_mem G'.lc hr3
        have k1 := hs.get h2s S0.nsc
        have k2 := G'.gr
        have k3 := G'.line _ hr3
        have k4 := G'.cells _ hr3
        have k5 := hs.get hk2' hkc
        rw [hrow] at k4
        generalize row g (A.t + j) = rw_ at *
        have el : (l : Int) + 1 = ((l + 1 : Nat) : Int) := by simp
        refine (AJ.tuple (AsJ.cons (AJ.nm (.i 6) rfl (AsJ.cons (AJ.nm (.i 7) rfl (AsJ.cons (AJ.nm (.i 8) rfl (AsJ.nil (SsJ.cs (SJ.sn (EJ.attr (EJ.methE hW (Ev.ta hW X.o_Screen (Ev.nm .zx) X.a_Screen_grid.find (by nofun) (nd_Screen rfl) (.i 5) rfl) (by nofun) X.m_Grid_line (na_Grid_line rfl) (LEv.cs (Ev.nm (.i 6)) LEv.nl) (CJ.up (d' := 1) (Grid_line X rfl G' hr3 (AtJ.inst hW X.o_Line X.a_Line_cells.find (by nofun) (nd_Line rfl) .zx rfl (AJ.nm (.i 9) rfl (SsJ.cs (SJ.for (ItE.callE (Ev.gl hW (.i 3)) Keeps.type (LEv.cs (Ev.nm (.i 7)) (LEv.cs (Ev.ad (Ev.nm (.i 8)) Ev.ci) LEv.nl)) (ItC.range2 ?_ ?_))))))) dd)))))))))))))
        · rw [el]; exact sm (Nat.le_trans (Nat.le_of_lt hf6) (by decide)) (Nat.le_trans hl6 (by decide))
        rw [el]
        refine LoopJ.idx (fun z ρ τ' => ∃ p : Nat → Option V, ρ = ([("screen", some (.ref s.sc)), ("params", some (.ref n)), ("is_stream", some (.bool st)), ("turn", some (.raw ut)), ("area", some A.v), ("numbers", some (.ref k')), ("row", some (.int ((A.t + j : Nat) : Int))), ("left", some (.int f)), ("right", some (.int l)), ("cells", some (.ref (i.cells (A.t + j)))), ("column", p 0), ("codes", p 1), ("width", p 2), ("pen", p 3), ("is_guarded", p 4), ("fresh", p 5)] : Rho) ∧
          Upd τ τ' (i.cells (A.t + j)) (penRow (tf nums) f z rw_)) ⟨fun n => o (n + 4), rfl, .self k4⟩ ?_ ?_
        · rintro z c' ρ τ' hc ⟨p, rfl, hu⟩
          obtain ⟨hz, rfl⟩ := rangeV_get hc
          have hpl : (penRow (tf nums) f z rw_).length = 6 := by rw [penRow_len, h6]
          have hw := penRow_w (tf := tf nums) hw2' (f := f) (n := z) (by lia)
          have hsu := penRow_succ (tf nums) f z rw_
          generalize penRow (tf nums) f z rw_ = pl at *
          have g0 := at_get (l := pl) (k := f + z) (by lia)
          have q5 := hu.1.get k5 (fun q => hkc (mq q ▸ hcm))
          have q4 := hu.2
          have e1 : ((f + z : Nat) : Int) + 1 = ((f + z + 1 : Nat) : Int) := by simp
          unfold penStep at hsu
          dsimp only at hsu
          by_cases hw2 : (at_ pl (f + z)).w = 2
          · have hk1 := hw (f + z) (by lia) hw2
            rw [if_pos hw2, if_pos (by lia)] at hsu
            refine (AJ.nm (.i 10) rfl (SsJ.cs (SJ.sn (EJ.of (Ev.subList (Ev.nm (.i 9)) (Ev.nm (.i 10)) (by first | assumption | exact kS ‹_›) (item_nat rfl g0) ?_) (AJ.tuple (AsJ.cons (AJ.nm (.i 11) rfl (AsJ.cons (AJ.nm (.i 12) rfl (AsJ.cons (AJ.nm (.i 13) rfl (AsJ.cons (AJ.nm (.i 14) rfl (AsJ.nil (SsJ.cs (SJ.sn (EJ.ce (Ev.nm (.i 3)) ?_ (LEv.cs (Ev.nm (.i 13)) (LEv.cs (Ev.nm (.i 5)) LEv.nl)) (CJ.up (d' := d + 2) (ht q5 (AJ.nm (.i 15) rfl (SsJ.cs (SJ.iteT (TEv.cmp (Ev.nm (.i 12)) Ev.ci CmpE.gt) (by simp; lia) (SsJ.cs (SJ.sn (EJ.of (Ev.tu (LEv.cs (Ev.nm (.i 11)) (LEv.cs (Ev.nm (.i 12)) (LEv.cs (Ev.nm (.i 15)) (LEv.cs (Ev.nm (.i 14)) LEv.nl)))) (lb rfl)) (AJ.cellE (Ev.nm (.i 9)) (Ev.nm (.i 10)) (rfl : _ = Cell.v ⟨(at_ pl (f + z)).c, (at_ pl (f + z)).w, tf nums (at_ pl (f + z)).p, (at_ pl (f + z)).k⟩) (by first | exact rfl | assumption) (by first | assumption | exact kS ‹_›) ?_ ?_ (SsJ.nl (SsJ.cs (SJ.iteT (TEv.cmp (Ev.nm (.i 12)) Ev.ci CmpE.eq) (by simp [hw2]) (SsJ.cs (SJ.sn (EJ.of (Ev.tu (LEv.cs (Ev.tu LEv.nl (lb rfl)) (LEv.cs Ev.ci (LEv.cs (Ev.nm (.i 15)) (LEv.cs (Ev.nm (.i 14)) LEv.nl)))) (lb rfl)) (AJ.cellE (Ev.nm (.i 9)) (Ev.ad (Ev.nm (.i 10)) Ev.ci) (rfl : _ = Cell.v ⟨[], 0, tf nums (at_ pl (f + z)).p, (at_ pl (f + z)).k⟩) (by first | exact rfl | assumption) (by first | assumption | exact kS ‹_›) ?_ ?_ (SsJ.nl (SsJ.nl ?_))))))))))))))))) (by lia)))))))))))))))))))
            all_goals first | exact hk | (simp; lia) | lia | skip
            refine ⟨trivial, ol [_, _, _, _, _, _], rfl, ?_⟩
            rw [hsu]
            exact (hu.set).set
          · rw [if_neg hw2] at hsu
            by_cases hw0 : 0 < (at_ pl (f + z)).w
            · rw [if_pos hw0] at hsu
              refine (AJ.nm (.i 10) rfl (SsJ.cs (SJ.sn (EJ.of (Ev.subList (Ev.nm (.i 9)) (Ev.nm (.i 10)) (by first | assumption | exact kS ‹_›) (item_nat rfl g0) ?_) (AJ.tuple (AsJ.cons (AJ.nm (.i 11) rfl (AsJ.cons (AJ.nm (.i 12) rfl (AsJ.cons (AJ.nm (.i 13) rfl (AsJ.cons (AJ.nm (.i 14) rfl (AsJ.nil (SsJ.cs (SJ.sn (EJ.ce (Ev.nm (.i 3)) ?_ (LEv.cs (Ev.nm (.i 13)) (LEv.cs (Ev.nm (.i 5)) LEv.nl)) (CJ.up (d' := d + 2) (ht q5 (AJ.nm (.i 15) rfl (SsJ.cs (SJ.iteT (TEv.cmp (Ev.nm (.i 12)) Ev.ci CmpE.gt) (by simpa using hw0) (SsJ.cs (SJ.sn (EJ.of (Ev.tu (LEv.cs (Ev.nm (.i 11)) (LEv.cs (Ev.nm (.i 12)) (LEv.cs (Ev.nm (.i 15)) (LEv.cs (Ev.nm (.i 14)) LEv.nl)))) (lb rfl)) (AJ.cellE (Ev.nm (.i 9)) (Ev.nm (.i 10)) (rfl : _ = Cell.v ⟨(at_ pl (f + z)).c, (at_ pl (f + z)).w, tf nums (at_ pl (f + z)).p, (at_ pl (f + z)).k⟩) (by first | exact rfl | assumption) (by first | assumption | exact kS ‹_›) ?_ ?_ (SsJ.nl (SsJ.cs (SJ.iteF (TEv.cmp (Ev.nm (.i 12)) Ev.ci CmpE.eq) (by simpa using hw2) (SsJ.nl (SsJ.nl ?_))))))))))))) (by lia)))))))))))))))))))
              all_goals first | exact hk | (simp; lia) | lia | skip
              refine ⟨trivial, ol [_, _, _, _, _, _], rfl, ?_⟩
              rw [hsu]
              exact hu.set
            · rw [if_neg hw0] at hsu
              refine (AJ.nm (.i 10) rfl (SsJ.cs (SJ.sn (EJ.of (Ev.subList (Ev.nm (.i 9)) (Ev.nm (.i 10)) (by first | assumption | exact kS ‹_›) (item_nat rfl g0) ?_) (AJ.tuple (AsJ.cons (AJ.nm (.i 11) rfl (AsJ.cons (AJ.nm (.i 12) rfl (AsJ.cons (AJ.nm (.i 13) rfl (AsJ.cons (AJ.nm (.i 14) rfl (AsJ.nil (SsJ.cs (SJ.sn (EJ.ce (Ev.nm (.i 3)) ?_ (LEv.cs (Ev.nm (.i 13)) (LEv.cs (Ev.nm (.i 5)) LEv.nl)) (CJ.up (d' := d + 2) (ht q5 (AJ.nm (.i 15) rfl (SsJ.cs (SJ.iteF (TEv.cmp (Ev.nm (.i 12)) Ev.ci CmpE.gt) (by simpa using hw0) (SsJ.nl (SsJ.cs (SJ.iteF (TEv.cmp (Ev.nm (.i 12)) Ev.ci CmpE.eq) (by simpa using hw2) (SsJ.nl (SsJ.nl ?_))))))))) (by lia)))))))))))))))))))
              all_goals first | exact hk | (simp; omega) | omega | skip
              refine ⟨trivial, ol [_, _, _, _, _, _], rfl, ?_⟩
              rw [hsu]
              exact hu
        · rintro ρ τ' ⟨p, rfl, hu⟩
          rw [rangeV_len] at hu
          refine SsJ.nl ⟨hu.1.get (hs.get hk2 hk2c) (fun q => hk2c (mq q ▸ hcm)), ol [_, _, _, _, _, _, _, _, _, _], rfl, hs.trans (G'.sameC hr3 hu), ?_⟩
          rw [show A.t + (j + 1) = A.t + j + 1 from rfl, ← hstep]
          exact G'.upd hr3 (by rw [penRow_len, h6]) hu
      · rintro ρ τ ⟨o, rfl, hs, G'⟩
        rw [List.length_map, List.length_range, are hA6] at G'
        exact SsJ.nl (h _ (((hs1.trans hs2).weak (by simp)).trans hs) G')
end
noncomputable def turnedP (ns : List Int) (p : Pen) : Pen := ⟨ns.foldl stepT p.f, p.b, p.g⟩
noncomputable def toggledP (ns : List Int) (p : Pen) : Pen := ⟨ns.foldl stepG p.f, p.b, p.g⟩
section
variable {W : Wd} {d : Nat} {σ : List CO} {Q : V → List CO → Prop}
theorem change_rectangle (X : Ctx W) {s : ScI} {i : Ids} {c : Cur} {m : Lim} {g : List (List Cell)} {n : Nat} {vs : List (Option Int)} {st : Bool}
    (S : Scn σ s i c m g) (hl : (limOf c m).Ok) (hp : Par σ n vs) (hv : NonNeg vs) (hlen : vs.length ≤ 100) (hw2 : ∀ q, q < 3 → W2 (row g q))
    (h : ∀ σ', Same σ σ' i.c → Grd σ' i (pensG g (limOf c m) (areaN (limOf c m) vs 0) st (turnedP (numsOf vs))) → Q .none σ') : CJ W (d + 5) u_change_rectangle [.ref s.sc, .ref n, .bool st] σ Q := by
  have hW := X.ok
  refine call.change_rectangle X fun r_ => ?_
  refine (SsJ.cs (SJ.expr (EJ.ce (Ev.gl hW .zx) X.k_edit_pens (LEv.cs (Ev.nm .zx) (LEv.cs (Ev.nm (.i 1)) (LEv.cs (Ev.nm (.i 2)) (LEv.cs (Ev.gl hW (.i 1)) LEv.nl)))) (CJ.up (d' := d + 4) (edit_pens X (tf := turnedP) X.k_edit_turned (fun hm r => edit_turned X hm r) S hl hp hv hlen hw2 fun σ' hσ hG => (SsJ.nl ?_)) (by lia)))))
  exact h _ hσ hG
theorem reverse_rectangle (X : Ctx W) {s : ScI} {i : Ids} {c : Cur} {m : Lim} {g : List (List Cell)} {n : Nat} {vs : List (Option Int)} {st : Bool}
    (S : Scn σ s i c m g) (hl : (limOf c m).Ok) (hp : Par σ n vs) (hv : NonNeg vs) (hlen : vs.length ≤ 100) (hw2 : ∀ q, q < 3 → W2 (row g q))
    (h : ∀ σ', Same σ σ' i.c → Grd σ' i (pensG g (limOf c m) (areaN (limOf c m) vs 0) st (toggledP (numsOf vs))) → Q .none σ') : CJ W (d + 5) u_reverse_rectangle [.ref s.sc, .ref n, .bool st] σ Q := by
  have hW := X.ok
  refine call.reverse_rectangle X fun r_ => ?_
  refine (SsJ.cs (SJ.expr (EJ.ce (Ev.gl hW .zx) X.k_edit_pens (LEv.cs (Ev.nm .zx) (LEv.cs (Ev.nm (.i 1)) (LEv.cs (Ev.nm (.i 2)) (LEv.cs (Ev.gl hW (.i 1)) LEv.nl)))) (CJ.up (d' := d + 4) (edit_pens X (tf := toggledP) X.k_edit_toggled (fun hm r => edit_toggled X hm r) S hl hp hv hlen hw2 fun σ' hσ hG => (SsJ.nl ?_)) (by lia)))))
  exact h _ hσ hG
end
structure Hnd (σ : List CO) (nc nh : Nat) (cs : List Int) : Prop where
  c : σ[nc]? = some (.list (cs.map V.int))
  h : ∃ k : Nat, σ[nh]? = some (.list [.int k])
  ne : nc ≠ nh
  len : cs.length ≤ 100
theorem Hnd.move {σ σ' : List CO} {nc nh : Nat} {cs : List Int} {js : List Nat} (H : Hnd σ nc nh cs) (s : Same σ σ' js) (h1 : nc ∉ js) (h2 : nh ∉ js) : Hnd σ' nc nh cs :=
  ⟨s.get H.c h1, let ⟨k, e⟩ := H.h; ⟨k, s.get e h2⟩, H.ne, H.len⟩
def PenOk (p : Pen) : Prop := 0 ≤ p.f ∧ p.f < 4096
section
variable {W : Wd} {d : Nat} {σ : List CO} {Q : V → List CO → Prop}
theorem law_draw (X : Ctx W) {nc nh : Nat} {cs : List Int} {b : Int} (H : Hnd σ nc nh cs) (hb : 0 < b) (h : ∀ (x : Int) σ', 0 ≤ x → x < b → Same σ σ' [nh] → Hnd σ' nc nh cs → Q (.int x) σ') :
    CJ W (d + 1) u_law_draw [.ref nc, .ref nh, .int b] σ Q := by
  have hW := X.ok
  refine call.law_draw X fun r_ => ?_
  have h1 := H.c
  obtain ⟨k, h2⟩ := H.h
  have h3 := H.len
  have hH : Hnd (σ.set nh (.list [V.int ((k : Int) + 1)])) nc nh cs := ⟨get_ne h1 H.ne.symm, ⟨k + 1, by rw [Int.natCast_succ]; exact kS h2⟩, H.ne, H.len⟩
  have hlk1 : (σ.set nh (.list [V.int ((k : Int) + 1)]))[nh]? = some (.list [V.int ((k : Int) + 1)]) := kS h2
  have hlk2 := hH.c
  have hs : Same σ (σ.set nh (.list [V.int ((k : Int) + 1)])) [nh] := .set (by simp)
  have hb' : b ≠ 0 := by lia
  by_cases hc : k < cs.length
  · have hi : item (cs.map V.int) ((k : Int) + 1 - 1) = some (.int cs[k]) := item_nat (k := k) (by lia) (by simp [hc])
    refine (SsJ.cs (SJ.sn (EJ.of (Ev.ad (Ev.subList (Ev.nm (.i 1)) Ev.ci (by nofun) rfl ?_) Ev.ci) (AJ.itemE (Ev.nm (.i 1)) Ev.ci (by nofun) ?_ ?_ ?_ (SsJ.cs (SJ.iteF (TEv.cmp (Ev.subList (Ev.nm (.i 1)) Ev.ci (by nofun) rfl ?_) (Ev.call (Ev.gl hW .zx) Keeps.builtin (LEv.cs (Ev.nm .zx) LEv.nl) (CE.lenList (by nofun) ?_)) CmpE.gt) (by simp; lia) (SsJ.nl (SsJ.cs (SJ.retE (Ev.fmod (Ev.subList (Ev.nm .zx) (Ev.sb (Ev.subList (Ev.nm (.i 1)) Ev.ci (by nofun) rfl ?_) Ev.ci) (by nofun) hi ?_) (Ev.nm (.i 2)) ?_) ?_)))))))))
    all_goals first | exact hb' | (simp; done) | (simp; lia) | skip
    exact h _ _ (Int.fmod_nonneg_of_pos _ hb) (Int.fmod_lt_of_pos _ hb) hs hH
  · refine (SsJ.cs (SJ.sn (EJ.of (Ev.ad (Ev.subList (Ev.nm (.i 1)) Ev.ci (by nofun) rfl ?_) Ev.ci) (AJ.itemE (Ev.nm (.i 1)) Ev.ci (by nofun) ?_ ?_ ?_ (SsJ.cs (SJ.iteT (TEv.cmp (Ev.subList (Ev.nm (.i 1)) Ev.ci (by nofun) rfl ?_) (Ev.call (Ev.gl hW .zx) Keeps.builtin (LEv.cs (Ev.nm .zx) LEv.nl) (CE.lenList (by nofun) ?_)) CmpE.gt) (by simp; lia) (SsJ.cs (SJ.retE (Ev.fmod (Ev.fdiv (Ev.mul (Ev.subList (Ev.nm (.i 1)) Ev.ci (by nofun) rfl ?_) Ev.ci ?_) Ev.ci (by decide) ?_) (Ev.nm (.i 2)) ?_) ?_))))))))
    all_goals first | exact hb' | (simp; done) | (simp; lia) | exact IntMulOk.of_right (by decide) | exact PyProof.noPylong_small (by decide) | skip
    exact h _ _ (Int.fmod_nonneg_of_pos _ hb) (Int.fmod_lt_of_pos _ hb) hs hH
noncomputable def bgI (y : Int) : Int := if y = 0 then -1 else if y = 1 then 1 else 4
theorem bg_item {y : Int} (h0 : 0 ≤ y) (h1 : y < 3) : item [V.int (-1), .int 1, .int 4] y = some (.int (bgI y)) := by
  have : y = 0 ∨ y = 1 ∨ y = 2 := by lia
  rcases this with rfl | rfl | rfl <;> rfl
theorem pen_ok (x b g : Int) : PenOk ⟨x.fmod 512 + 512 * (x.fdiv 512).fmod 6, b, g⟩ := by
  have a1 := Int.fmod_nonneg_of_pos x (b := 512) (by decide)
  have a2 := Int.fmod_lt_of_pos x (b := 512) (by decide)
  have a3 := Int.fmod_nonneg_of_pos (x.fdiv 512) (b := 6) (by decide)
  have a4 := Int.fmod_lt_of_pos (x.fdiv 512) (b := 6) (by decide)
  unfold PenOk
  dsimp only
  lia
theorem law_pen (X : Ctx W) {nc nh : Nat} {cs : List Int} (H : Hnd σ nc nh cs) (h : ∀ (p : Pen) σ', PenOk p → Same σ σ' [nh] → Hnd σ' nc nh cs → Q p.v σ') :
    CJ W (d + 2) u_law_pen [.ref nc, .ref nh] σ Q := by
  have hW := X.ok
  refine call.law_pen X fun r_ => ?_
  have hS : Same σ σ [nh] := .refl
  have hlt : nh < σ.length := let ⟨_, e⟩ := H.h; (gq e).1
  refine (SsJ.cs (SJ.sn (EJ.ce (Ev.gl hW .zx) X.k_law_draw (LEv.cs (Ev.nm .zx) (LEv.cs (Ev.nm (.i 1)) (LEv.cs (Ev.pow Ev.ci Ev.ci (by decide) (by decide)) LEv.nl))) (CJ.up (d' := 1) (law_draw X H (by decide) fun x σ' hx0 hx1 hs H => have hS := hS.trans hs; (AJ.nm (.i 2) rfl (SsJ.cs (SJ.setE (Ev.fmod (Ev.fdiv (Ev.nm (.i 2)) Ev.ci (by decide) ?_) Ev.ci ?_) (.i 3) rfl (SsJ.cs (SJ.ret (EJ.tuple (LJ.cons (EJ.of (Ev.ad (Ev.fmod (Ev.nm (.i 2)) Ev.ci ?_) (Ev.mul Ev.ci (Ev.nm (.i 3)) ?_)) (LJ.cons (EJ.of (Ev.neg Ev.ci) (LJ.cons (EJ.sub (EJ.list (LJ.of (LEv.cs (Ev.neg Ev.ci) (LEv.cs Ev.ci (LEv.cs Ev.ci LEv.nl))) ⟨(lb rfl), (EJ.ce (Ev.gl hW .zx) X.k_law_draw (LEv.cs (Ev.nm .zx) (LEv.cs (Ev.nm (.i 1)) (LEv.cs Ev.ci LEv.nl))) (CJ.up (d' := 1) (law_draw X (H.move (js := []) .app (by simp) (by simp)) (by decide) fun y σC hy0 hy1 hsC H => have hL := hsC.get kN (fun q => by have := hS.1; have := mq q; lia); have hS := hS.trans (Same.app.trans hsC); (GiJ.list (by nofun) (bg_item hy0 hy1) ?_ (LJ.cons (EJ.of (Ev.neg Ev.ci) (LJ.cons (EJ.ce (Ev.gl hW .zx) X.k_law_draw (LEv.cs (Ev.nm .zx) (LEv.cs (Ev.nm (.i 1)) (LEv.cs Ev.ci LEv.nl))) (CJ.up (d' := 1) (law_draw X H (by decide) fun x σ' hx0 hx1 hs H => have hS := hS.trans hs; (LJ.of LEv.nl ⟨(lb rfl), ?_⟩)) dd))))))) dd))⟩))))))))))))))) dd))))
  all_goals first | exact PyProof.noPylong_small (by decide) | (simp; done) | exact IntMulOk.of_left (by decide) | skip
  exact h ⟨_, _, _⟩ _ (pen_ok _ _ _) hS ‹_›
noncomputable def lawCut (l : List Cell) (k : Nat) : List Cell := if 0 < k ∧ k < l.length ∧ (at_ l k).w = 0 then l.take (k - 1) ++ List.replicate 2 (at_ l k).p.blank ++ l.drop (k + 1) else l
theorem lawCut_len (l : List Cell) (k : Nat) : (lawCut l k).length = l.length := by
  unfold lawCut; split
  · simp; lia
  · rfl
noncomputable def lawOver (l : List Cell) (k : Nat) (xs : List Cell) : List Cell := (lawCut (lawCut l k) (k + xs.length)).take k ++ xs ++ (lawCut (lawCut l k) (k + xs.length)).drop (k + xs.length)
theorem lawOver_len {l : List Cell} {k : Nat} {xs : List Cell} (h : k + xs.length ≤ l.length) : (lawOver l k xs).length = l.length := by
  simp [lawOver, lawCut_len]; lia
theorem law_cut (X : Ctx W) {b : Nat} {l : List Cell} {k : Nat} {i : Int} (hi : i = k) (hb : σ[b]? = some (.list (l.map Cell.v))) (hl : l.length ≤ 100) (h : ∀ σ' m, Same σ σ' [] → σ.length ≤ m → σ'[m]? = some (.list ((lawCut l k).map Cell.v)) → Q (.ref m) σ') :
    CJ W (d + 2) u_law_cut [.ref b, .int i] σ Q := by
  have hW := X.ok
  subst hi
  refine call.law_cut X fun r_ => ?_
  by_cases hk : 0 < k ∧ k < l.length
  · obtain ⟨hk1, hk2⟩ := hk
    have g0 := at_get hk2
    by_cases hz : (at_ l k).w = 0
    · have e1 : slc (l.map Cell.v) none (some ((k : Int) - 1)) = (l.take (k - 1)).map Cell.v := by
        rw [show (k : Int) - 1 = ((k - 1 : Nat) : Int) by lia, slc_b, List.map_take]
      have e2 : slc (l.map Cell.v) (some ((k : Int) + 1)) none = (l.drop (k + 1)).map Cell.v := by
        rw [show (k : Int) + 1 = ((k + 1 : Nat) : Int) by lia, slc_a, List.map_drop]
      refine (SsJ.cs (SJ.ite (TJ.and (TJ.chain (EJ.of Ev.ci (ChJ.link (EJ.of (Ev.nm (.i 1)) (CmpJ.lt (TrJ.bl (iteY (by simpa using hk1) (ChJ.last (EJ.of (Ev.call (Ev.gl hW .zx) Keeps.builtin (LEv.cs (Ev.nm .zx) LEv.nl) (CE.lenList (by first | assumption | exact kA hb | exact kA (kA hb) | exact kA (kA (kA hb)) | exact kA (kA (kA (kA hb))) | exact kN | exact kA kN | exact kA (kA kN)) ?_)) (CmpJ.lt (TrJ.bl (iteY (by simp; lia) (TJ.and (TJ.cmp (EJ.of (Ev.subTup (Ev.subList (Ev.nm .zx) (Ev.nm (.i 1)) (by first | assumption | exact kA hb | exact kA (kA hb) | exact kA (kA (kA hb)) | exact kA (kA (kA (kA hb))) | exact kN | exact kA kN | exact kA (kA kN)) (item_nat rfl g0) ?_) Ev.ci rfl (lb rfl)) (EJ.of Ev.ci (CmpJ.eq (TrJ.bl (iteY (by simpa using hz) (TJ.and_nil (iteT (SsJ.cs (SJ.ret (EJ.binop (EJ.binop (EJ.slice (EJ.of (Ev.nm .zx) (EPJ.none (EPJ.some (EJ.of (Ev.sb (Ev.nm (.i 1)) Ev.ci) (SlJ.list (by first | assumption | exact kA hb | exact kA (kA hb) | exact kA (kA (kA hb)) | exact kA (kA (kA (kA hb))) | exact kN | exact kA kN | exact kA (kA kN)) rfl rfl ?_ (EJ.binop (EJ.list (LJ.cons (EJ.ce (Ev.gl hW (.i 1)) X.k_law_empty (LEv.cs (Ev.subTup (Ev.subList (Ev.nm .zx) (Ev.nm (.i 1)) (by first | assumption | exact kA hb | exact kA (kA hb) | exact kA (kA (kA hb)) | exact kA (kA (kA (kA hb))) | exact kN | exact kA kN | exact kA (kA kN)) (item_nat rfl g0) ?_) Ev.ci rfl (lb rfl)) LEv.nl) (CJ.up (d' := 1) (law_empty X (LJ.of LEv.nl ⟨(lb rfl), (EJ.of Ev.ci (OpJ.mulList (by first | assumption | exact kA hb | exact kA (kA hb) | exact kA (kA (kA hb)) | exact kA (kA (kA (kA hb))) | exact kN | exact kA kN | exact kA (kA kN)) ?_ ?_ (OpJ.addList (by first | assumption | exact kA hb | exact kA (kA hb) | exact kA (kA (kA hb)) | exact kA (kA (kA (kA hb))) | exact kN | exact kA kN | exact kA (kA kN)) (by first | assumption | exact kA hb | exact kA (kA hb) | exact kA (kA (kA hb)) | exact kA (kA (kA (kA hb))) | exact kN | exact kA kN | exact kA (kA kN)) ?_ (EJ.slice (EJ.of (Ev.nm .zx) (EPJ.some (EJ.of (Ev.ad (Ev.nm (.i 1)) Ev.ci) (EPJ.none (SlJ.list (by first | assumption | exact kA hb | exact kA (kA hb) | exact kA (kA (kA hb)) | exact kA (kA (kA (kA hb))) | exact kN | exact kA kN | exact kA (kA kN)) rfl rfl ?_ (OpJ.addList (by first | assumption | exact kA hb | exact kA (kA hb) | exact kA (kA (kA hb)) | exact kA (kA (kA (kA hb))) | exact kN | exact kA kN | exact kA (kA kN)) (by first | assumption | exact kA hb | exact kA (kA hb) | exact kA (kA (kA hb)) | exact kA (kA (kA (kA hb))) | exact kN | exact kA kN | exact kA (kA kN)) ?_ ?_))))))))))⟩)) dd)))))))))))))))))))))))))))))))))))))))
      all_goals first | (simp; done) | (simp; lia) | (rw [e1]; simp; lia) | (rw [e1, e2]; simp; lia) | skip
      refine h _ _ (Same.app.trans (Same.app.trans (Same.app.trans (Same.app.trans (Same.app.trans .app))))) (by simp) ?_
      rw [lawCut, if_pos ⟨hk1, hk2, hz⟩, kN, e1, e2, List.map_append, List.map_append, List.map_replicate]
      rfl
    · refine (SsJ.cs (SJ.ite (TJ.and (TJ.chain (EJ.of Ev.ci (ChJ.link (EJ.of (Ev.nm (.i 1)) (CmpJ.lt (TrJ.bl (iteY (by simpa using hk1) (ChJ.last (EJ.of (Ev.call (Ev.gl hW .zx) Keeps.builtin (LEv.cs (Ev.nm .zx) LEv.nl) (CE.lenList (by nofun) ?_)) (CmpJ.lt (TrJ.bl (iteY (by simp; lia) (TJ.and (TJ.cmp (EJ.of (Ev.subTup (Ev.subList (Ev.nm .zx) (Ev.nm (.i 1)) (by nofun) (item_nat rfl g0) ?_) Ev.ci rfl (lb rfl)) (EJ.of Ev.ci (CmpJ.eq (TrJ.bl (iteN (by simpa using hz) (iteF (SsJ.nl (SsJ.cs (SJ.ret (EJ.ce (Ev.gl hW (.i 2)) Keeps.type (LEv.cs (Ev.nm .zx) LEv.nl) (CJ.listList (by nofun) ?_ ?_))))))))))))))))))))))))))))
      all_goals first | (simp; lia) | skip
      refine h _ _ .app (Nat.le_refl _) ?_
      rw [lawCut, if_neg (fun q => hz q.2.2)]
      exact kN
  · have e : lawCut l k = l := by rw [lawCut, if_neg (fun q => hk ⟨q.1, q.2.1⟩)]
    by_cases hk1 : 0 < k
    · refine (SsJ.cs (SJ.ite (TJ.and (TJ.chain (EJ.of Ev.ci (ChJ.link (EJ.of (Ev.nm (.i 1)) (CmpJ.lt (TrJ.bl (iteY (by simpa using hk1) (ChJ.last (EJ.of (Ev.call (Ev.gl hW .zx) Keeps.builtin (LEv.cs (Ev.nm .zx) LEv.nl) (CE.lenList (by nofun) ?_)) (CmpJ.lt (TrJ.bl (iteN (by simp; lia) (iteF (SsJ.nl (SsJ.cs (SJ.ret (EJ.ce (Ev.gl hW (.i 2)) Keeps.type (LEv.cs (Ev.nm .zx) LEv.nl) (CJ.listList (by nofun) ?_ ?_)))))))))))))))))))))
      all_goals first | (simp; lia) | skip
      refine h _ _ .app (Nat.le_refl _) ?_
      rw [e]; exact kN
    · refine (SsJ.cs (SJ.ite (TJ.and (TJ.chain (EJ.of Ev.ci (ChJ.link (EJ.of (Ev.nm (.i 1)) (CmpJ.lt (TrJ.bl (iteN (by simpa using hk1) (iteF (iteF (SsJ.nl (SsJ.cs (SJ.ret (EJ.ce (Ev.gl hW (.i 2)) Keeps.type (LEv.cs (Ev.nm .zx) LEv.nl) (CJ.listList (by nofun) ?_ ?_)))))))))))))))))
      all_goals first | (simp; lia) | skip
      refine h _ _ .app (Nat.le_refl _) ?_
      rw [e]; exact kN
theorem law_over (X : Ctx W) {b pt : Nat} {l xs : List Cell} {k : Nat} {i : Int} (hi : i = k) (hb : σ[b]? = some (.list (l.map Cell.v))) (hp : σ[pt]? = some (.list (xs.map Cell.v))) (hl : l.length ≤ 100) (hx : xs.length ≤ 100)
    (h : ∀ σ' m, Same σ σ' [] → σ.length ≤ m → σ'[m]? = some (.list ((lawOver l k xs).map Cell.v)) → Q (.ref m) σ') : CJ W (d + 3) u_law_over [.ref b, .int i, .ref pt] σ Q := by
  have hW := X.ok
  subst hi
  refine call.law_over X fun r_ => ?_
  have ek : (k : Int) + ((xs.map Cell.v).length : Int) = ((k + xs.length : Nat) : Int) := by simp
  have hS : Same σ σ [] := .refl
  refine (SsJ.cs (SJ.sn (EJ.call (EJ.glob hW .zx ⟨_, rfl, X.k_law_cut, (LJ.cons (EJ.ce (Ev.gl hW .zx) X.k_law_cut (LEv.cs (Ev.nm .zx) (LEv.cs (Ev.nm (.i 1)) LEv.nl)) (CJ.up (d' := 2) (law_cut X rfl hb hl fun σA mA hsA hmA hgA => have hpA := hsA.get hp (by simp); (LJ.of (LEv.cs (Ev.ad (Ev.nm (.i 1)) (Ev.call (Ev.gl hW (.i 1)) Keeps.builtin (LEv.cs (Ev.nm (.i 2)) LEv.nl) (CE.lenList (by first | assumption | exact kA hgB | exact kA hpB | exact kA (kA hgB) | exact kA (kA hpB) | exact kA (kA (kA hgB)) | exact kA (kA (kA hpB)) | exact kN | exact kA kN) ?_))) LEv.nl) (CJ.up (d' := 2) (law_cut X ek hgA (by rw [lawCut_len]; exact hl) fun σB mB hsB hmB hgB => have hpB := hsB.get hpA (by simp); (AJ.nm .zx rfl (SsJ.cs (SJ.ret (EJ.binop (EJ.binop (EJ.slice (EJ.of (Ev.nm .zx) (EPJ.none (EPJ.some (EJ.of (Ev.nm (.i 1)) (SlJ.list (by first | assumption | exact kA hgB | exact kA hpB | exact kA (kA hgB) | exact kA (kA hpB) | exact kA (kA (kA hgB)) | exact kA (kA (kA hpB)) | exact kN | exact kA kN) rfl rfl ?_ (EJ.of (Ev.nm (.i 2)) (OpJ.addList (by first | assumption | exact kA hgB | exact kA hpB | exact kA (kA hgB) | exact kA (kA hpB) | exact kA (kA (kA hgB)) | exact kA (kA (kA hpB)) | exact kN | exact kA kN) (by first | assumption | exact kA hgB | exact kA hpB | exact kA (kA hgB) | exact kA (kA hpB) | exact kA (kA (kA hgB)) | exact kA (kA (kA hpB)) | exact kN | exact kA kN) ?_ (EJ.slice (EJ.of (Ev.nm .zx) (EPJ.some (EJ.of (Ev.ad (Ev.nm (.i 1)) (Ev.call (Ev.gl hW (.i 1)) Keeps.builtin (LEv.cs (Ev.nm (.i 2)) LEv.nl) (CE.lenList (by first | assumption | exact kA hgB | exact kA hpB | exact kA (kA hgB) | exact kA (kA hpB) | exact kA (kA (kA hgB)) | exact kA (kA (kA hpB)) | exact kN | exact kA kN) ?_))) (EPJ.none (SlJ.list (by first | assumption | exact kA hgB | exact kA hpB | exact kA (kA hgB) | exact kA (kA hpB) | exact kA (kA (kA hgB)) | exact kA (kA (kA hpB)) | exact kN | exact kA kN) rfl rfl ?_ (OpJ.addList (by first | assumption | exact kA hgB | exact kA hpB | exact kA (kA hgB) | exact kA (kA hpB) | exact kA (kA (kA hgB)) | exact kA (kA (kA hpB)) | exact kN | exact kA kN) (by first | assumption | exact kA hgB | exact kA hpB | exact kA (kA hgB) | exact kA (kA hpB) | exact kA (kA (kA hgB)) | exact kA (kA (kA hpB)) | exact kN | exact kA kN) ?_ ?_))))))))))))))))))))) dd))) dd)))⟩))))
  all_goals try rw [ek]
  all_goals try rw [slc_b]
  all_goals try rw [slc_a]
  all_goals first | (simp [lawCut_len]; lia) | skip
  rw [← List.map_take, ← List.map_drop]
  refine h _ _ (hsA.trans (hsB.trans (Same.app.trans (Same.app.trans (Same.app.trans .app))))) ?_ ?_
  · have := hsA.1
    have := hsB.1
    simp; lia
  · rw [kN, lawOver, List.map_append, List.map_append]
end
section
variable {W : Wd} {d : Nat} {σ : List CO} {Q : V → List CO → Prop}
theorem ov_item {vs : List (Option Int)} {k : Nat} {o : Option Int} (h : vs[k]? = some o) : item (vs.map ov) (k : Int) = some (ov o) := item_nat rfl (by rw [List.getElem?_map, h]; rfl)
theorem valO_none {vs : List (Option Int)} {k : Nat} {dflt : Int} (h : vs[k]? = none ∨ vs[k]? = some none ∨ vs[k]? = some (some 0)) : valO vs k dflt = dflt := by
  unfold valO plain
  rcases h with h | h | h <;> simp [h]
theorem valO_some {vs : List (Option Int)} {k : Nat} {dflt v : Int} (h : vs[k]? = some (some v)) (hv : v ≠ 0) : valO vs k dflt = v := by
  unfold valO plain
  simp [h, hv]
theorem law_place (X : Ctx W) {n : Nat} {vs : List (Option Int)} {k : Nat} {m : Lim} {i j s : Int} (hi : i = k) (hn : σ[n]? = some (.list (vs.map ov))) (hl : vs.length ≤ 100) (hv : NonNeg vs) (hs : item [V.int m.t, .int m.l, .int m.b, .int m.r] j = some (.int s))
    (h : Q (.int (s + (valO vs k 1 - 1))) σ) : CJ W (d + 1) u_law_place [.ref n, .int i, m.v, .int j] σ Q := by
  have hW := X.ok
  subst hi
  refine call.law_place X fun r_ => ?_
  by_cases hk : k < vs.length
  · have ho : vs[k]? = some vs[k] := List.getElem?_eq_getElem hk
    have hnn := hv _ (List.getElem_mem hk)
    have hit := ov_item ho
    generalize vs[k] = o at *
    cases o with
    | none =>
      rw [valO_none (.inr (.inl ho)), show (1 : Int) - 1 = 0 from rfl] at h
      refine (SsJ.cs (SJ.sn (EJ.ite (TJ.cmp (EJ.of (Ev.nm (.i 1)) (EJ.of (Ev.call (Ev.gl hW .zx) Keeps.builtin (LEv.cs (Ev.nm .zx) LEv.nl) (CE.lenList (by nofun) ?_)) (CmpJ.lt (TrJ.bl (iteY (by simp; lia) (EJ.of (Ev.subList (Ev.nm .zx) (Ev.nm (.i 1)) (by nofun) hit ?_) (AJ.nm (.i 4) rfl (SsJ.cs (SJ.ret (EJ.binop (EJ.of (Ev.subTup (Ev.nm (.i 2)) (Ev.nm (.i 3)) hs (lb rfl)) (EJ.ite (TJ.and (TJ.cmp (EJ.of (Ev.nm (.i 4)) (EJ.of Ev.cnone (CmpJ.nn rfl (TrJ.bl (iteN rfl (iteF (EJ.of Ev.ci (OpJ.add ?_))))))))))))))))))))))))))
      all_goals first | (simp; lia) | exact h
    | some v =>
      have hv0 := hnn v rfl
      by_cases hz : 0 < v
      · rw [valO_some ho (by lia)] at h
        refine (SsJ.cs (SJ.sn (EJ.ite (TJ.cmp (EJ.of (Ev.nm (.i 1)) (EJ.of (Ev.call (Ev.gl hW .zx) Keeps.builtin (LEv.cs (Ev.nm .zx) LEv.nl) (CE.lenList (by nofun) ?_)) (CmpJ.lt (TrJ.bl (iteY (by simp; lia) (EJ.of (Ev.subList (Ev.nm .zx) (Ev.nm (.i 1)) (by nofun) hit ?_) (AJ.nm (.i 4) rfl (SsJ.cs (SJ.ret (EJ.binop (EJ.of (Ev.subTup (Ev.nm (.i 2)) (Ev.nm (.i 3)) hs (lb rfl)) (EJ.ite (TJ.and (TJ.cmp (EJ.of (Ev.nm (.i 4)) (EJ.of Ev.cnone (CmpJ.nn rfl (TrJ.bl (iteY rfl (TJ.and (TJ.cmp (EJ.of (Ev.nm (.i 4)) (EJ.of Ev.ci (CmpJ.gt (TrJ.bl (iteY (by simpa using hz) (TJ.and_nil (iteT (EJ.of (Ev.sb (Ev.nm (.i 4)) Ev.ci) (OpJ.add ?_))))))))))))))))))))))))))))))))))
        all_goals first | (simp; lia) | exact h
      · have : v = 0 := by lia
        subst this
        rw [valO_none (.inr (.inr ho)), show (1 : Int) - 1 = 0 from rfl] at h
        refine (SsJ.cs (SJ.sn (EJ.ite (TJ.cmp (EJ.of (Ev.nm (.i 1)) (EJ.of (Ev.call (Ev.gl hW .zx) Keeps.builtin (LEv.cs (Ev.nm .zx) LEv.nl) (CE.lenList (by nofun) ?_)) (CmpJ.lt (TrJ.bl (iteY (by simp; lia) (EJ.of (Ev.subList (Ev.nm .zx) (Ev.nm (.i 1)) (by nofun) hit ?_) (AJ.nm (.i 4) rfl (SsJ.cs (SJ.ret (EJ.binop (EJ.of (Ev.subTup (Ev.nm (.i 2)) (Ev.nm (.i 3)) hs (lb rfl)) (EJ.ite (TJ.and (TJ.cmp (EJ.of (Ev.nm (.i 4)) (EJ.of Ev.cnone (CmpJ.nn rfl (TrJ.bl (iteY rfl (TJ.and (TJ.cmp (EJ.of (Ev.nm (.i 4)) (EJ.of Ev.ci (CmpJ.gt (TrJ.bl (iteN rfl (iteF (EJ.of Ev.ci (OpJ.add ?_)))))))))))))))))))))))))))))))))
        all_goals first | (simp; lia) | exact h
  · rw [valO_none (.inl (List.getElem?_eq_none (by lia))), show (1 : Int) - 1 = 0 from rfl] at h
    refine (SsJ.cs (SJ.sn (EJ.ite (TJ.cmp (EJ.of (Ev.nm (.i 1)) (EJ.of (Ev.call (Ev.gl hW .zx) Keeps.builtin (LEv.cs (Ev.nm .zx) LEv.nl) (CE.lenList (by nofun) ?_)) (CmpJ.lt (TrJ.bl (iteN (by simp; lia) (EJ.of Ev.cnone (AJ.nm (.i 4) rfl (SsJ.cs (SJ.ret (EJ.binop (EJ.of (Ev.subTup (Ev.nm (.i 2)) (Ev.nm (.i 3)) hs (lb rfl)) (EJ.ite (TJ.and (TJ.cmp (EJ.of (Ev.nm (.i 4)) (EJ.of Ev.cnone (CmpJ.nn rfl (TrJ.bl (iteN rfl (iteF (EJ.of Ev.ci (OpJ.add ?_))))))))))))))))))))))))))
    all_goals first | (simp; lia) | exact h
noncomputable def limI (m : Lim) (i : Nat) : Int := if i = 0 then m.t else if i = 1 then m.l else if i = 2 then m.b else m.r
theorem lim_item {m : Lim} {i : Nat} (h : i < 4) : item [V.int m.t, .int m.l, .int m.b, .int m.r] (i : Int) = some (.int (limI m i)) := by
  have : i = 0 ∨ i = 1 ∨ i = 2 ∨ i = 3 := by lia
  rcases this with rfl | rfl | rfl | rfl <;> rfl
noncomputable def toldI (m : Lim) (vs : List (Option Int)) (i : Nat) : Int := limI m i + valO vs (i + 2) (limI m (i + 2) - limI m i + 1) - 1
noncomputable def endI (m : Lim) (vs : List (Option Int)) (i : Nat) : Int := if limI m (i + 2) < toldI m vs i then limI m (i + 2) else toldI m vs i
noncomputable def areaI (m : Lim) (vs : List (Option Int)) : V := if (m.t : Int) + (valO vs 0 1 - 1) ≤ endI m vs 0 ∧ (m.l : Int) + (valO vs 1 1 - 1) ≤ endI m vs 1 then .tup [.int (m.t + (valO vs 0 1 - 1)), .int (m.l + (valO vs 1 1 - 1)), .int (endI m vs 0), .int (endI m vs 1)] else .none
theorem areaI_eq {m : Lim} {vs : List (Option Int)} (hm : m.Ok) (hv : NonNeg vs) : areaI m vs = Lim.ov (areaN m vs 0) := by
  have p (k) := valO_pos hv (k := k) (dflt := 1) (Int.le_refl _)
  have e0 : endI m vs 0 = ((min m.b (m.t + (valO vs 2 ((m.b : Int) - m.t + 1)).toNat - 1) : Nat) : Int) := (cN_ (valO_pos hv (k := 2) (side hm.tb))).symm
  have e1 : endI m vs 1 = ((min m.r (m.l + (valO vs 3 ((m.r : Int) - m.l + 1)).toNat - 1) : Nat) : Int) := (cN_ (valO_pos hv (k := 3) (side hm.lr))).symm
  unfold areaI
  rw [e0, e1, ← cU (p 0), ← cU (p 1)]
  by_cases hc : m.t + (valO vs 0 1).toNat - 1 ≤ min m.b (m.t + (valO vs 2 ((m.b : Int) - m.t + 1)).toNat - 1) ∧ m.l + (valO vs 1 1).toNat - 1 ≤ min m.r (m.l + (valO vs 3 ((m.r : Int) - m.l + 1)).toNat - 1)
  · rw [if_pos ⟨Int.ofNat_le.mpr hc.1, Int.ofNat_le.mpr hc.2⟩]; exact (congrArg Lim.ov (if_pos hc) : Lim.ov (areaN m vs 0) = Lim.ov (some ⟨_, _, _, _⟩)).symm
  · rw [if_neg fun z => hc ⟨Int.ofNat_le.mp z.1, Int.ofNat_le.mp z.2⟩]; exact (congrArg Lim.ov (if_neg hc) : Lim.ov (areaN m vs 0) = Lim.ov none).symm
theorem law_area (X : Ctx W) {n : Nat} {vs : List (Option Int)} {m : Lim} (hm : m.Ok) (hn : σ[n]? = some (.list (vs.map ov))) (hl : vs.length ≤ 100) (hv : NonNeg vs)
    (h : ∀ σ', Same σ σ' [] → Q (Lim.ov (areaN m vs 0)) σ') : CJ W (d + 2) u_law_area [.ref n, m.v] σ Q := by
  have hW := X.ok
  rw [← areaI_eq hm hv] at h
  refine call.law_area X fun r_ => ?_
  refine (SsJ.cs (SJ.assignSwap (names := ["top", "left"]) (EJ.tuple (LJ.cons (EJ.ce (Ev.gl hW .zx) X.k_law_place (LEv.cs (Ev.nm .zx) (LEv.cs Ev.ci (LEv.cs (Ev.nm (.i 1)) (LEv.cs Ev.ci LEv.nl)))) (CJ.up (d' := 1) (law_place X (by first | exact (rfl : (0 : Int) = ((0 : Nat) : Int)) | exact (rfl : (1 : Int) = ((1 : Nat) : Int))) hn hl hv (by first | exact lim_item (i := 0) (by decide) | exact lim_item (i := 1) (by decide)) (LJ.cons (EJ.ce (Ev.gl hW .zx) X.k_law_place (LEv.cs (Ev.nm .zx) (LEv.cs Ev.ci (LEv.cs (Ev.nm (.i 1)) (LEv.cs Ev.ci LEv.nl)))) (CJ.up (d' := 1) (law_place X (by first | exact (rfl : (0 : Int) = ((0 : Nat) : Int)) | exact (rfl : (1 : Int) = ((1 : Nat) : Int))) hn hl hv (by first | exact lim_item (i := 0) (by decide) | exact lim_item (i := 1) (by decide)) (LJ.of LEv.nl ⟨(lb rfl), ⟨_, _, rfl, rfl, (PutAll.cons (.i 3) (PutAll.cons (.i 2) PutAll.nil)), (SsJ.cs (SJ.sn (EJ.list (LJ.of (LEv.cs (Ev.nm (.i 2)) (LEv.cs (Ev.nm (.i 3)) LEv.nl)) ⟨(lb rfl), (AJ.nm (.i 4) rfl ?_)⟩))))⟩⟩)) dd)))) dd)))) rfl))
  refine (SsJ.cs (SJ.for (ItE.ofE (Ev.tu (LEv.cs Ev.ci (LEv.cs Ev.ci LEv.nl)) (lb rfl)) (ItV.tup ?_))))
  refine LoopJ.idx (fun i ρ τ => ∃ oA oB oM, ρ = ([("values", some (.ref n)), ("limits", some m.v), ("top", some (.int (m.t + (valO vs 0 1 - 1)))), ("left", some (.int (m.l + (valO vs 1 1 - 1)))), ("found", some (.ref σ.length)), ("k", oA), ("value", oB), ("told", oM)] : Rho) ∧
    Same σ τ [] ∧ τ[σ.length]? = some (.list ([.int (m.t + (valO vs 0 1 - 1)), .int (m.l + (valO vs 1 1 - 1))] ++ (List.range i).map fun z => .int (endI m vs z)))) ⟨none, none, none, rfl, .app, kN⟩ ?_ ?_
  · rintro i c ρ τ hc ⟨oA, oB, oM, rfl, hs, hτ⟩
    obtain ⟨hi, rfl⟩ : i < 2 ∧ c = .int ((i + 2 : Nat) : Int) := by
      have hi := (gq hc).1
      have : i = 0 ∨ i = 1 := by simp at hi; lia
      rcases this with rfl | rfl
      · exact ⟨by decide, by simpa using hc.symm⟩
      · exact ⟨by decide, by simpa using hc.symm⟩
    have hL : item [V.int m.t, .int m.l, .int m.b, .int m.r] (((i + 2 : Nat) : Int) - 2) = some (.int (limI m i)) := by
      rw [show ((i + 2 : Nat) : Int) - 2 = (i : Nat) by lia]; exact lim_item (by lia)
    have step : ∀ v : V, True ∧ ∃ oA oB oM, ([("values", some (.ref n)), ("limits", some m.v), ("top", some (.int (m.t + (valO vs 0 1 - 1)))), ("left", some (.int (m.l + (valO vs 1 1 - 1)))), ("found", some (.ref σ.length)), ("k", some (.int ((i + 2 : Nat) : Int))), ("value", some v), ("told", some (.int (toldI m vs i)))] : Rho) = ([("values", some (.ref n)), ("limits", some m.v), ("top", some (.int (m.t + (valO vs 0 1 - 1)))), ("left", some (.int (m.l + (valO vs 1 1 - 1)))), ("found", some (.ref σ.length)), ("k", oA), ("value", oB), ("told", oM)] : Rho) ∧
        Same σ (τ.set σ.length (.list (([.int (m.t + (valO vs 0 1 - 1)), .int (m.l + (valO vs 1 1 - 1))] ++ (List.range i).map fun z => .int (endI m vs z)) ++ [.int (endI m vs i)]))) [] ∧ (τ.set σ.length (.list (([.int (m.t + (valO vs 0 1 - 1)), .int (m.l + (valO vs 1 1 - 1))] ++ (List.range i).map fun z => .int (endI m vs z)) ++ [.int (endI m vs i)])))[σ.length]? = some (.list ([.int (m.t + (valO vs 0 1 - 1)), .int (m.l + (valO vs 1 1 - 1))] ++ (List.range (i + 1)).map fun z => .int (endI m vs z))) := fun v =>
      ⟨trivial, _, _, _, rfl, hs.setNew (Nat.le_refl _), by rw [kS hτ, List.append_assoc, range_snoc (fun z => V.int (endI m vs z))]⟩
    have hrl : ([V.int (m.t + (valO vs 0 1 - 1)), .int (m.l + (valO vs 1 1 - 1))] ++ (List.range i).map fun z => V.int (endI m vs z)).length ≤ 100000 := by simp; lia
    have hvl : (vs.map ov).length ≤ 100000 := by simp; lia
    by_cases hk : i + 2 < vs.length
    · have ho : vs[i + 2]? = some vs[i + 2] := List.getElem?_eq_getElem hk
      have hit := ov_item ho
      generalize vs[i + 2] = o at *
      cases o with
      | none =>
        have e : toldI m vs i = limI m (i + 2) := by unfold toldI; rw [valO_none (.inr (.inl ho))]; lia
        rw [endI, e] at step
        refine (AJ.nm (.i 5) rfl (SsJ.cs (SJ.sn (EJ.ite (TJ.cmp (EJ.of (Ev.nm (.i 5)) (EJ.of (Ev.call (Ev.gl hW (.i 1)) Keeps.builtin (LEv.cs (Ev.nm .zx) LEv.nl) (CE.lenList (by first | assumption | exact hs.get hn (by simp)) ?_)) (CmpJ.lt (TrJ.bl (iteY (by simp; lia) (EJ.of (Ev.subList (Ev.nm .zx) (Ev.nm (.i 5)) (by first | assumption | exact hs.get hn (by simp)) hit ?_) (AJ.nm (.i 6) rfl (SsJ.cs (SJ.sn (EJ.ite (TJ.or (TJ.cmp (EJ.of (Ev.nm (.i 6)) (EJ.of Ev.cnone (CmpJ.isNone rfl (TrJ.bl (iteY rfl (iteT (EJ.of (Ev.subTup (Ev.nm (.i 1)) (Ev.nm (.i 5)) (lim_item (i := i + 2) (by lia)) (lb rfl)) (AJ.nm (.i 7) rfl (SsJ.cs (SJ.expr (EJ.append (EJ.of (Ev.nm (.i 4)) ⟨_, _, rfl, (by first | assumption | exact hs.get hn (by simp)), (EJ.of (Ev.call (Ev.gl hW (.i 2)) Keeps.builtin (LEv.cs (Ev.nm (.i 7)) (LEv.cs (Ev.subTup (Ev.nm (.i 1)) (Ev.nm (.i 5)) (lim_item (i := i + 2) (by lia)) (lb rfl)) LEv.nl)) CE.min2) ⟨_, (by first | assumption | exact hs.get hn (by simp)), ?_, (SsJ.nl ?_)⟩)⟩)))))))))))))))))))))))))))))
        all_goals first | exact hvl | exact hrl | exact step _
      | some v =>
        by_cases hz : v = 0
        · subst hz
          have e : toldI m vs i = limI m (i + 2) := by unfold toldI; rw [valO_none (.inr (.inr ho))]; lia
          rw [endI, e] at step
          refine (AJ.nm (.i 5) rfl (SsJ.cs (SJ.sn (EJ.ite (TJ.cmp (EJ.of (Ev.nm (.i 5)) (EJ.of (Ev.call (Ev.gl hW (.i 1)) Keeps.builtin (LEv.cs (Ev.nm .zx) LEv.nl) (CE.lenList (by first | assumption | exact hs.get hn (by simp)) ?_)) (CmpJ.lt (TrJ.bl (iteY (by simp; lia) (EJ.of (Ev.subList (Ev.nm .zx) (Ev.nm (.i 5)) (by first | assumption | exact hs.get hn (by simp)) hit ?_) (AJ.nm (.i 6) rfl (SsJ.cs (SJ.sn (EJ.ite (TJ.or (TJ.cmp (EJ.of (Ev.nm (.i 6)) (EJ.of Ev.cnone (CmpJ.isNone rfl (TrJ.bl (iteN rfl (TJ.or (TJ.cmp (EJ.of (Ev.nm (.i 6)) (EJ.of Ev.ci (CmpJ.eq (TrJ.bl (iteY rfl (iteT (EJ.of (Ev.subTup (Ev.nm (.i 1)) (Ev.nm (.i 5)) (lim_item (i := i + 2) (by lia)) (lb rfl)) (AJ.nm (.i 7) rfl (SsJ.cs (SJ.expr (EJ.append (EJ.of (Ev.nm (.i 4)) ⟨_, _, rfl, (by first | assumption | exact hs.get hn (by simp)), (EJ.of (Ev.call (Ev.gl hW (.i 2)) Keeps.builtin (LEv.cs (Ev.nm (.i 7)) (LEv.cs (Ev.subTup (Ev.nm (.i 1)) (Ev.nm (.i 5)) (lim_item (i := i + 2) (by lia)) (lb rfl)) LEv.nl)) CE.min2) ⟨_, (by first | assumption | exact hs.get hn (by simp)), ?_, (SsJ.nl ?_)⟩)⟩))))))))))))))))))))))))))))))))))))
          all_goals first | exact hvl | exact hrl | exact step _
        · have e : toldI m vs i = limI m i + v - 1 := by unfold toldI; rw [valO_some ho hz]
          rw [endI, e] at step
          refine (AJ.nm (.i 5) rfl (SsJ.cs (SJ.sn (EJ.ite (TJ.cmp (EJ.of (Ev.nm (.i 5)) (EJ.of (Ev.call (Ev.gl hW (.i 1)) Keeps.builtin (LEv.cs (Ev.nm .zx) LEv.nl) (CE.lenList (by first | assumption | exact hs.get hn (by simp)) ?_)) (CmpJ.lt (TrJ.bl (iteY (by simp; lia) (EJ.of (Ev.subList (Ev.nm .zx) (Ev.nm (.i 5)) (by first | assumption | exact hs.get hn (by simp)) hit ?_) (AJ.nm (.i 6) rfl (SsJ.cs (SJ.sn (EJ.ite (TJ.or (TJ.cmp (EJ.of (Ev.nm (.i 6)) (EJ.of Ev.cnone (CmpJ.isNone rfl (TrJ.bl (iteN rfl (TJ.or (TJ.cmp (EJ.of (Ev.nm (.i 6)) (EJ.of Ev.ci (CmpJ.eq (TrJ.bl (iteN (by simpa using hz) (TJ.or_nil (iteF (EJ.of (Ev.sb (Ev.ad (Ev.subTup (Ev.nm (.i 1)) (Ev.sb (Ev.nm (.i 5)) Ev.ci) hL (lb rfl)) (Ev.nm (.i 6))) Ev.ci) (AJ.nm (.i 7) rfl (SsJ.cs (SJ.expr (EJ.append (EJ.of (Ev.nm (.i 4)) ⟨_, _, rfl, (by first | assumption | exact hs.get hn (by simp)), (EJ.of (Ev.call (Ev.gl hW (.i 2)) Keeps.builtin (LEv.cs (Ev.nm (.i 7)) (LEv.cs (Ev.subTup (Ev.nm (.i 1)) (Ev.nm (.i 5)) (lim_item (i := i + 2) (by lia)) (lb rfl)) LEv.nl)) CE.min2) ⟨_, (by first | assumption | exact hs.get hn (by simp)), ?_, (SsJ.nl ?_)⟩)⟩)))))))))))))))))))))))))))))))))))))
          all_goals first | exact hvl | exact hrl | exact step _
    · have e : toldI m vs i = limI m (i + 2) := by unfold toldI; rw [valO_none (.inl (List.getElem?_eq_none (by lia)))]; lia
      rw [endI, e] at step
      refine (AJ.nm (.i 5) rfl (SsJ.cs (SJ.sn (EJ.ite (TJ.cmp (EJ.of (Ev.nm (.i 5)) (EJ.of (Ev.call (Ev.gl hW (.i 1)) Keeps.builtin (LEv.cs (Ev.nm .zx) LEv.nl) (CE.lenList (by first | assumption | exact hs.get hn (by simp)) ?_)) (CmpJ.lt (TrJ.bl (iteN (by simp; lia) (EJ.of Ev.cnone (AJ.nm (.i 6) rfl (SsJ.cs (SJ.sn (EJ.ite (TJ.or (TJ.cmp (EJ.of (Ev.nm (.i 6)) (EJ.of Ev.cnone (CmpJ.isNone rfl (TrJ.bl (iteY rfl (iteT (EJ.of (Ev.subTup (Ev.nm (.i 1)) (Ev.nm (.i 5)) (lim_item (i := i + 2) (by lia)) (lb rfl)) (AJ.nm (.i 7) rfl (SsJ.cs (SJ.expr (EJ.append (EJ.of (Ev.nm (.i 4)) ⟨_, _, rfl, (by first | assumption | exact hs.get hn (by simp)), (EJ.of (Ev.call (Ev.gl hW (.i 2)) Keeps.builtin (LEv.cs (Ev.nm (.i 7)) (LEv.cs (Ev.subTup (Ev.nm (.i 1)) (Ev.nm (.i 5)) (lim_item (i := i + 2) (by lia)) (lb rfl)) LEv.nl)) CE.min2) ⟨_, (by first | assumption | exact hs.get hn (by simp)), ?_, (SsJ.nl ?_)⟩)⟩)))))))))))))))))))))))))))))
      all_goals first | exact hvl | exact hrl | exact step _
  · rintro ρ τ ⟨oA, oB, oM, rfl, hs, hτ⟩
    have hτ' : τ[σ.length]? = some (.list [.int (m.t + (valO vs 0 1 - 1)), .int (m.l + (valO vs 1 1 - 1)), .int (endI m vs 0), .int (endI m vs 1)]) := hτ
    have hA := h τ hs
    unfold areaI at hA
    refine (SsJ.cs (SJ.ret (EJ.ite (TJ.and (TJ.cmp (EJ.of (Ev.nm (.i 2)) (EJ.of (Ev.subList (Ev.nm (.i 4)) Ev.ci (by nofun) rfl ?_) (CmpJ.le (TrJ.bl (iteB (fun hc1 => (TJ.and (TJ.cmp (EJ.of (Ev.nm (.i 3)) (EJ.of (Ev.subList (Ev.nm (.i 4)) Ev.ci (by nofun) rfl ?_) (CmpJ.le (TrJ.bl (iteB (fun hc2 => (TJ.and_nil (iteT (EJ.of (Ev.call (Ev.gl hW (.i 3)) Keeps.type (LEv.cs (Ev.nm (.i 4)) LEv.nl) (CE.tupleList (by nofun) ?_)) ?_)))) (fun hc2 => (iteF (EJ.of Ev.cnone ?_))))))))))) (fun hc1 => (iteF (EJ.of Ev.cnone ?_)))))))))))))
    all_goals try simp only [decide_eq_true_eq, decide_eq_false_iff_not] at *
    all_goals first | exact lb rfl | (rw [if_pos (by lia)] at hA; exact hA) | (rw [if_neg (by lia)] at hA; exact hA) | exact lb rfl
noncomputable def rowsV : List (Option Int) := [none, some 1, some 2, some 3, some 4, some 5, some 7, some 9, some 0]
theorem rowsV_item {x : Int} (h0 : 0 ≤ x) (h1 : x < 9) : item (rowsV.map ov) x = some (ov (rowsV.getD x.toNat none)) := by
  have hx : x.toNat < rowsV.length := by show x.toNat < 9; lia
  have := ov_item (vs := rowsV) (k := x.toNat) (o := rowsV.getD x.toNat none) (by rw [List.getD_eq_getElem?_getD, List.getElem?_eq_getElem hx]; rfl)
  rwa [show ((x.toNat : Nat) : Int) = x by lia] at this
theorem rowsV_nn {k : Nat} {j : Int} (h : rowsV.getD k none = some j) : 0 ≤ j := by
  have : rowsV.all (fun o => match o with | none => true | some j => decide (0 ≤ j)) = true := by decide
  rw [List.getD_eq_getElem?_getD] at h
  cases e : rowsV[k]? with
  | none => rw [e] at h; cases h
  | some o =>
    rw [e] at h
    have z := List.all_eq_true.mp this o (List.mem_of_getElem? e)
    simp only [Option.getD_some] at h
    subst h
    simpa using z
theorem law_values (X : Ctx W) {nc nh : Nat} {cs : List Int} {n : Nat} (H : Hnd σ nc nh cs) (hn : n ≤ 100) (h : ∀ σ' m vs, Same σ σ' [nh] → Hnd σ' nc nh cs → σ.length ≤ m → σ'[m]? = some (.list (vs.map ov)) → vs.length = n → NonNeg vs → Q (.ref m) σ') :
    CJ W (d + 2) u_law_values [.ref nc, .ref nh, .int n] σ Q := by
  have hW := X.ok
  refine call.law_values X fun r_ => ?_
  have hlt : nh < σ.length := let ⟨_, e⟩ := H.h; (gq e).1
  have hltc : nc < σ.length := (gq H.c).1
  refine (SsJ.cs (SJ.sn (EJ.list (LJ.of (LEv.cs Ev.cnone (LEv.cs Ev.ci (LEv.cs Ev.ci (LEv.cs Ev.ci (LEv.cs Ev.ci (LEv.cs Ev.ci (LEv.cs Ev.ci (LEv.cs Ev.ci (LEv.cs Ev.ci LEv.nl))))))))) ⟨(lb rfl), (AJ.nm (.i 3) rfl (SsJ.cs (SJ.ret (EJ.comp _ [("rows", _), ("cells", _), ("hand", _)] [("_law_draw", .raw u_law_draw)] (CmpOk.fm ["rows", "cells", "hand"] ["_law_draw"] rfl (by decide +kernel) rfl rfl ⟨(.i 3), rfl, ⟨.zx, rfl, ⟨(.i 1), rfl, trivial⟩⟩⟩ ⟨X.g_law_draw, trivial⟩) (ItE.callE (Ev.gl hW .zx) Keeps.type (LEv.cs (Ev.nm (.i 2)) LEv.nl) (ItC.range1 ?_ ⟨?_, trivial, fun C => ?_⟩))))))⟩))))
  · exact small_nat (a := 0) (by lia) (by lia)
  · rw [show (0 : Int) = ((0 : Nat) : Int) from rfl, rangeV_len, sizeLine_eq]; lia
  have el : (σ ++ [CO.list [V.none, .int 1, .int 2, .int 3, .int 4, .int 5, .int 7, .int 9, .int 0]]).length = σ.length + 1 := by simp
  rw [el]
  refine CompL.idx (fun i acc τ => ∃ vs, acc = vs.map ov ∧ vs.length = i ∧ NonNeg vs ∧ Same σ τ [nh] ∧ Hnd τ nc nh cs ∧ τ[σ.length]? = some (.list (rowsV.map ov)) ∧ τ[σ.length + 1]? = some (.list acc)) ⟨[], rfl, rfl, by simp [NonNeg], Same.app.trans .app, H.move (js := []) (Same.app.trans .app) (by simp) (by simp), kA kN, by rw [← el]; exact kN⟩ ?_ ?_
  · rintro i c acc τ hc ⟨vs, rfl, hvl, hv, hs, H, hr, ha⟩
    refine (EJ.sub (EJ.of (Ev.nm (.i 1)) (EJ.ce (Ev.gl hW .zx) X.k_law_draw (LEv.cs (Ev.nm (.i 2)) (LEv.cs (Ev.nm (.i 3)) (LEv.cs Ev.ci LEv.nl))) (CJ.up (d' := 1) (law_draw X H (by decide) fun x σ' hx0 hx1 hs' H' => have hr := hs'.get hr (fun q => by have := mq q; lia); (GiJ.list (by nofun) (rowsV_item hx0 hx1) ?_ ?_)) dd))))
    · exact lb rfl
    · have hn1 : σ.length + 1 ∉ [nh] := fun q => by have := mq q; lia
      have z := hs'.get ha hn1
      refine ⟨z, trivial, vs ++ [rowsV.getD x.toNat none], by simp, by simp [hvl], ?_, (hs.trans hs').setNew (by lia), H'.move (js := [σ.length + 1]) (.set (by simp)) (fun q => by have := mq q; lia) (fun q => by have := mq q; lia), get_ne hr (by lia), kS z⟩
      intro o ho j hj
      rcases List.mem_append.mp ho with ho | ho
      · exact hv o ho j hj
      · subst hj
        exact rowsV_nn (mq ho).symm
  · rintro acc τ ⟨vs, rfl, hvl, hv, hs, H, hr, ha⟩
    rw [show (0 : Int) = ((0 : Nat) : Int) from rfl, rangeV_len] at hvl
    exact h _ _ vs hs H (by lia) ha (by lia) hv
end
structure Shw (σ : List CO) (n : Nat) (rs : List Nat) (g : List (List Cell)) : Prop where
  out : σ[n]? = some (.list (rs.map V.ref))
  l : Lists σ rs g
  lg : g.length = 3
  w : ∀ r, r < 3 → (row g r).length = 6
  ap : n ∉ rs
theorem Shw.move {σ σ' : List CO} {n : Nat} {rs : List Nat} {g : List (List Cell)} {js : List Nat} (S : Shw σ n rs g) (s : Same σ σ' js) (h1 : n ∉ js) (h2 : ∀ m ∈ rs, m ∉ js) : Shw σ' n rs g :=
  ⟨s.get S.out h1, S.l.move s h2, S.lg, S.w, S.ap⟩
theorem Shw.len {σ : List CO} {n : Nat} {rs : List Nat} {g : List (List Cell)} (S : Shw σ n rs g) : rs.length = 3 := S.l.1.trans S.lg
noncomputable def rowId (rs : List Nat) (r : Nat) : Nat := rs.getD r 0
theorem rowId_get {rs : List Nat} {r : Nat} (h : r < rs.length) : rs[r]? = some (rowId rs r) := by
  rw [List.getElem?_eq_getElem h]; simp [rowId, List.getD_eq_getElem?_getD, h]
theorem row_get {g : List (List Cell)} {r : Nat} (h : r < g.length) : g[r]? = some (row g r) := by
  rw [List.getElem?_eq_getElem h]; simp [row, List.getD_eq_getElem?_getD, h]
theorem Shw.row {σ : List CO} {n : Nat} {rs : List Nat} {g : List (List Cell)} (S : Shw σ n rs g) {r : Nat} (h : r < 3) : σ[rowId rs r]? = some (.list ((Mine.row g r).map Cell.v)) :=
  S.l.2 r _ _ (rowId_get (by rw [S.len]; exact h)) (row_get (by rw [S.lg]; exact h))
theorem Shw.item {σ : List CO} {n : Nat} {rs : List Nat} {g : List (List Cell)} (S : Shw σ n rs g) {r : Nat} {k : Int} (hk : k = r) (h : r < 3) : item (rs.map V.ref) k = some (.ref (rowId rs r)) :=
  item_nat hk (by rw [List.getElem?_map, rowId_get (by rw [S.len]; exact h)]; rfl)
theorem Shw.mem {σ : List CO} {n : Nat} {rs : List Nat} {g : List (List Cell)} (S : Shw σ n rs g) {r : Nat} (h : r < 3) : rowId rs r ∈ rs := List.mem_of_getElem? (rowId_get (by rw [S.len]; exact h))
theorem Shw.setRow {σ : List CO} {n m : Nat} {rs : List Nat} {g : List (List Cell)} {r : Nat} {l : List Cell} (S : Shw σ n rs g) (hr : r < 3) (hm : σ[m]? = some (.list (l.map Cell.v))) (hl : l.length = 6) (hne : n ≠ m) :
    Shw (σ.set n (.list ((rs.map V.ref).set r (.ref m)))) n (rs.set r m) (g.set r l) := by
  have hrs : r < rs.length := by rw [S.len]; exact hr
  have hg : r < g.length := by rw [S.lg]; exact hr
  refine ⟨by rw [kS S.out, List.map_set], ⟨by simp [S.l.1], fun j k x h1 h2 => ?_⟩, by simpa using S.lg, fun q hq => ?_, fun q => ?_⟩
  · rw [List.getElem?_set] at h1 h2
    by_cases e : r = j
    · subst e
      rw [if_pos rfl, if_pos hrs] at h1
      rw [if_pos rfl, if_pos hg] at h2
      cases h1; cases h2
      exact get_ne hm hne
    · rw [if_neg e] at h1 h2
      exact get_ne (S.l.2 j k x h1 h2) fun q => S.ap (q ▸ List.mem_of_getElem? h1)
  · rw [row_set hg]
    split
    · exact hl
    · exact S.w q hq
  · rcases List.mem_or_eq_of_mem_set q with q | q
    · exact S.ap q
    · exact hne q
theorem Shw.updRow {σ σ' : List CO} {n : Nat} {rs : List Nat} {g : List (List Cell)} {r : Nat} {l : List Cell} (S : Shw σ n rs g) (nd : rs.Nodup) (hr : r < 3) (hl : l.length = 6) (u : Upd σ σ' (rowId rs r) l) : Shw σ' n rs (g.set r l) := by
  have hg : r < g.length := by rw [S.lg]; exact hr
  refine ⟨u.1.get S.out (fun q => S.ap (mq q ▸ S.mem hr)), ⟨by simp [S.l.1], fun j k x h1 h2 => ?_⟩, by simpa using S.lg, fun q hq => ?_, S.ap⟩
  · rw [List.getElem?_set] at h2
    by_cases e : r = j
    · subst e
      rw [if_pos rfl, if_pos hg] at h2
      cases h2
      rw [rowId_get (by rw [S.len]; exact hr)] at h1
      cases h1
      exact u.2
    · rw [if_neg e] at h2
      refine u.1.get (S.l.2 j k x h1 h2) fun q => ?_
      have q := mq q
      subst q
      have h3 := rowId_get (rs := rs) (r := r) (by rw [S.len]; exact hr)
      obtain ⟨l1, e1⟩ := gq h1
      obtain ⟨l2, e2⟩ := gq h3
      exact e ((List.getElem_inj nd).mp (e2.trans e1.symm))
  · rw [row_set hg]
    split
    · exact hl
    · exact S.w q hq
section
variable {W : Wd} {d : Nat} {σ : List CO} {Q : V → List CO → Prop}
theorem copies {F' : Fm} {elt : Xp} {caps : List (Sr × V)} {n : Nat} {rs : List Nat} {g : List (List Cell)} {Qe : List CO → Prop} (S : Shw σ n rs g)
    (he : ∀ (m : Nat) (l : List V) (τ : List CO) (R : V → List CO → Prop), τ[m]? = some (.list l) → l.length ≤ 100000 → R (.ref τ.length) (τ ++ [.list l]) → EJ W d F' elt (("line", some (.ref m)) :: capR caps) τ R)
    (hq : ∀ σ' rs', Same σ σ' [] → Shw σ' σ.length rs' g → (∀ m ∈ rs', σ.length < m) → rs'.Nodup → Qe σ') : CompL W d F' elt "line" caps (fun τ => τ[n]? = some (.list (rs.map V.ref))) σ.length Qe (rs.map V.ref) [] (σ ++ [.list []]) := by
  have hn := (gq S.out).1
  refine CompL.idx (fun i acc τ => ∃ rs', acc = rs'.map V.ref ∧ Same σ τ [] ∧ τ[σ.length]? = some (.list acc) ∧ Lists τ rs' (g.take i) ∧ (∀ m ∈ rs', σ.length < m ∧ m < τ.length) ∧ rs'.Nodup) ⟨[], rfl, .app, kN, .nil, by simp, .nil⟩ ?_ ?_
  · rintro i c acc τ hc ⟨rs', rfl, hs, hτ, hL, hm, nd⟩
    rw [List.getElem?_map] at hc
    obtain ⟨m, hmi, rfl⟩ := Option.map_eq_some_iff.mp hc
    have hi := (gq hmi).1
    have hgi := row_get (g := g) (r := i) (by rw [← S.l.1]; exact hi)
    have hlm := hs.get (S.l.2 i m _ hmi hgi) (by simp)
    have hlt := (gq hτ).1
    refine he m _ τ _ hlm (by have := S.w i (by rw [← S.len]; exact hi); simp; lia) ?_
    have z : (τ ++ [CO.list ((row g i).map Cell.v)])[σ.length]? = some (.list (rs'.map V.ref)) := kA hτ
    refine ⟨z, get_ne (kA (hs.get S.out (by simp))) (by lia), rs' ++ [τ.length], by simp, (hs.trans .app).setNew (Nat.le_refl _), kS z, ?_, fun q hq => ?_, ?_⟩
    · rw [List.take_add_one, hgi]
      refine Lists.move (js := [σ.length]) (Lists.snoc (hL.move (js := []) .app (by simp)) kN) (.set (by simp)) fun q hq => ?_
      rcases List.mem_append.mp hq with hq | hq
      · have := hm q hq; simp; lia
      · simp at hq; simp; lia
    · rcases List.mem_append.mp hq with hq | hq
      · have := hm q hq; simp; lia
      · simp at hq; simp; lia
    · refine List.nodup_append.mpr ⟨nd, by simp, fun a ha b hb => ?_⟩
      have := hm a ha
      simp at hb; lia
  · rintro acc τ ⟨rs', rfl, hs, hτ, hL, hm, nd⟩
    rw [List.length_map, S.len, ← S.lg, List.take_length] at hL
    exact hq τ rs' hs ⟨hτ, hL, S.lg, S.w, fun q => absurd (hm _ q).1 (Nat.lt_irrefl _)⟩ (fun m h => (hm m h).1) nd
end
noncomputable def fillL (g : List (List Cell)) (A : Lim) (x : Cell) : List (List Cell) := rowsMap g A.t (A.b + 1) fun _ y => lawOver y A.l (List.replicate (A.r + 1 - A.l) x)
section
variable {W : Wd} {d : Nat} {σ : List CO} {Q : V → List CO → Prop}
theorem law_filled (X : Ctx W) {n : Nat} {rs : List Nat} {g : List (List Cell)} {A : Lim} {x : Cell} (S : Shw σ n rs g) (hA : A.Ok)
    (h : ∀ σ' m rs', Same σ σ' [] → σ.length ≤ m → (∀ k ∈ rs', σ.length ≤ k) → Shw σ' m rs' (fillL g A x) → Q (.ref m) σ') : CJ W (d + 4) u_law_filled [.ref n, A.v, x.v] σ Q := by
  have hW := X.ok
  refine call.law_filled X fun r_ => ?_
  have hn := S.out
  have h1 := hA.tb
  have h2 := hA.b3
  have h3 := hA.lr
  have h4 := hA.r6
  have eb : (A.b : Int) + 1 = ((A.b + 1 : Nat) : Int) := by simp
  refine (SsJ.cs (SJ.assignComp _ [] [("list", .raw (.type "list"))] (CmpOk.fm [] ["list"] rfl (by decide +kernel) rfl rfl trivial ⟨X.g_list, trivial⟩) rfl rfl (ItE.ofE (Ev.nm .zx) (ItV.list (by nofun) ⟨?_, kA hn, _, (.i 3), fun C => copies S ?_ ?_⟩))))
  · rw [List.length_map, S.len, sizeLine_eq]; lia
  · intro m l τ R hm hl hR
    refine (EJ.ce (Ev.gl hW .zx) Keeps.type (LEv.cs (Ev.nm .zx) LEv.nl) (CJ.listList hm ?_ ?_))
    · exact hl
    · exact hR
  intro σA rsA hsA SA hmA ndA
  refine (SsJ.cs (SJ.for (ItE.callE (Ev.gl hW .zx) Keeps.type (LEv.cs (Ev.subTup (Ev.nm (.i 1)) Ev.ci rfl (lb rfl)) (LEv.cs (Ev.ad (Ev.subTup (Ev.nm (.i 1)) Ev.ci rfl (lb rfl)) Ev.ci) LEv.nl)) (ItC.range2 ?_ ?_))))
  · rw [eb]; exact sn hA.tb hA.b3
  rw [eb]
  refine LoopJ.idx (fun j ρ τ => ∃ o, ρ = ([("shown", some (.ref n)), ("area", some A.v), ("cell", some x.v), ("found", some (.ref σ.length)), ("row", o)] : Rho) ∧ Same σ τ [] ∧
    ∃ rs', Shw τ σ.length rs' (rowsMap g A.t (A.t + j) fun _ y => lawOver y A.l (List.replicate (A.r + 1 - A.l) x)) ∧ ∀ k ∈ rs', σ.length ≤ k) ⟨none, rfl, hsA, rsA, by rw [Nat.add_zero, rowsMap_zero]; exact SA, fun k hk => Nat.le_of_lt (hmA k hk)⟩ ?_ ?_
  · rintro j c ρ τ hc ⟨o, rfl, hs, rs', S', hk'⟩
    obtain ⟨hj, rfl⟩ := rangeV_get hc
    have hr3 : A.t + j < 3 := ar3 hj hA.b3
    have hrow : row (rowsMap g A.t (A.t + j) fun _ y => lawOver y A.l (List.replicate (A.r + 1 - A.l) x)) (A.t + j) = row g (A.t + j) := rowsMap_at (S.lg.symm ▸ hr3)
    have k1 := S'.row hr3
    rw [hrow] at k1
    have k2 := S'.out
    have es : ((A.r : Int) + 1 - (A.l : Int)).toNat = A.r + 1 - A.l := congrArg Int.toNat (Int.ofNat_sub (Nat.le_succ_of_le hA.lr)).symm
    have hst := rowsMap_step (g := g) (t := A.t) (m := A.t + j) (f := fun _ y => lawOver y A.l (List.replicate (A.r + 1 - A.l) x)) (Nat.le_add_right _ _) (S.lg.symm ▸ hr3)
    have hlen := S.w _ hr3
    have er : List.replicate (A.r + 1 - A.l) x.v = (List.replicate (A.r + 1 - A.l) x).map Cell.v := by simp
    refine (AJ.nm (.i 4) rfl (SsJ.cs (SJ.sn (EJ.call (EJ.glob hW (.i 1) ⟨_, rfl, X.k_law_over, (LJ.cons (EJ.of (Ev.subList (Ev.nm (.i 3)) (Ev.nm (.i 4)) (by first | assumption | exact kN) (S'.item rfl hr3) ?_) (LJ.cons (EJ.of (Ev.subTup (Ev.nm (.i 1)) Ev.ci rfl (lb rfl)) (LJ.cons (EJ.binop (EJ.list (LJ.of (LEv.cs (Ev.nm (.i 2)) LEv.nl) ⟨(lb rfl), (EJ.of (Ev.sb (Ev.ad (Ev.subTup (Ev.nm (.i 1)) Ev.ci rfl (lb rfl)) Ev.ci) (Ev.subTup (Ev.nm (.i 1)) Ev.ci rfl (lb rfl))) (OpJ.mulList (by first | assumption | exact kN) ?_ ?_ (LJ.of LEv.nl (CJ.up (d' := 3) (law_over X rfl (l := row g (A.t + j)) (kA (kA k1)) (by rw [es, er]; exact kN) (by lia) (by simp; lia) fun σB mB hsB hmB hgB => have SB := S'.move (js := []) (Same.app.trans (Same.app.trans hsB)) (by simp) (by simp); have k3 := SB.out; (AJ.itemE (Ev.nm (.i 3)) (Ev.nm (.i 4)) (by first | assumption | exact kN) ?_ ?_ ?_ (SsJ.nl ?_))) dd))))⟩))))))))⟩)))))
    all_goals first | (simp [S'.len]; done) | (simp [S'.len]; lia) | lia | skip
    have hlt := (gq k2).1
    have hne : σ.length ≠ mB := by simp at hmB; lia
    refine ⟨trivial, _, rfl, (hs.trans (Same.app.trans (Same.app.trans hsB))).setNew (Nat.le_refl _), rs'.set (A.t + j) mB, ?_, fun k hk => ?_⟩
    · rw [Int.toNat_natCast, show A.t + (j + 1) = A.t + j + 1 from rfl, ← hst]
      exact SB.setRow hr3 hgB (by rw [lawOver_len (by simp; lia)]; exact hlen) hne
    · rcases List.mem_or_eq_of_mem_set hk with q | q
      · exact hk' k q
      · subst q; simp at hmB; lia
  · rintro ρ τ ⟨o, rfl, hs, rs', S', hk'⟩
    rw [rangeV_len, are hA.tb] at S'
    refine (SsJ.cs (SJ.retE (Ev.nm (.i 3)) ?_))
    exact h _ _ rs' hs (Nat.le_refl _) hk' S'
end
noncomputable def takeL (l : List Cell) (a m : Nat) : List Cell := ((lawCut (lawCut l a) (a + m)).take (a + m)).drop a
theorem takeL_len {l : List Cell} {a m : Nat} (h : a + m ≤ l.length) : (takeL l a m).length = m := by simp [takeL, lawCut_len]; lia
noncomputable def copyLF (g : List (List Cell)) (u A : Lim) (rw_ cl : Nat) (q : Nat) (y : List Cell) : List Cell := lawOver y cl (takeL (row g (A.t + (q - rw_))) A.l (min (A.r - A.l) (u.r - cl) + 1))
noncomputable def copyL (g : List (List Cell)) (u A : Lim) (vs : List (Option Int)) : List (List Cell) :=
  let rw_ := u.t + (valO vs 5 1).toNat - 1
  let cl := u.l + (valO vs 6 1).toNat - 1
  if rw_ ≤ u.b ∧ cl ≤ u.r then rowsMap g rw_ (rw_ + (min (A.b - A.t) (u.b - rw_) + 1)) (copyLF g u A rw_ cl) else g
section
variable {W : Wd} {d : Nat} {σ : List CO} {Q : V → List CO → Prop}
theorem law_copied (X : Ctx W) {n nv : Nat} {rs : List Nat} {g : List (List Cell)} {u A : Lim} {vs : List (Option Int)} (S : Shw σ n rs g) (hA : A.Ok) (hu : u.Ok) (hvs : σ[nv]? = some (.list (vs.map ov))) (hv : NonNeg vs) (hlv : vs.length ≤ 100)
    (h : ∀ σ' m rs', Same σ σ' [] → σ.length ≤ m → (∀ k ∈ rs', σ.length ≤ k) → Shw σ' m rs' (copyL g u A vs) → Q (.ref m) σ') : CJ W (d + 4) u_law_copied [.ref n, A.v, .ref nv, u.v] σ Q := by
  have hW := X.ok
  refine call.law_copied X fun r_ => ?_
  have hn := S.out
  have h1 := hA.tb
  have h2 := hA.b3
  have h3 := hA.lr
  have h4 := hA.r6
  have h5 := hu.b3
  have h6 := hu.r6
  unfold copyL at h
  dsimp only at h
  refine (SsJ.cs (SJ.assignSwap (names := ["row", "column"]) (EJ.tuple (LJ.cons (EJ.ce (Ev.gl hW .zx) X.k_law_place (LEv.cs (Ev.nm (.i 2)) (LEv.cs Ev.ci (LEv.cs (Ev.nm (.i 3)) (LEv.cs Ev.ci LEv.nl)))) (CJ.up (d' := 1) (law_place X (k := 5) rfl hvs hlv hv (lim_item (i := 0) (by decide)) (LJ.cons (EJ.ce (Ev.gl hW .zx) X.k_law_place (LEv.cs (Ev.nm (.i 2)) (LEv.cs Ev.ci (LEv.cs (Ev.nm (.i 3)) (LEv.cs Ev.ci LEv.nl)))) (CJ.up (d' := 1) (law_place X (k := 6) rfl hvs hlv hv (lim_item (i := 1) (by decide)) (LJ.of LEv.nl ⟨(lb rfl), ⟨_, _, rfl, rfl, (PutAll.cons (.i 5) (PutAll.cons (.i 4) PutAll.nil)), ?_⟩⟩)) dd)))) dd)))) rfl))
  simp only [show limI u 0 = u.t from rfl, show limI u 1 = u.l from rfl]
  rw [← cU (valO_pos hv (Int.le_refl _)), ← cU (valO_pos hv (Int.le_refl _))]
  generalize u.t + (valO vs 5 1).toNat - 1 = rw_ at h ⊢
  generalize u.l + (valO vs 6 1).toNat - 1 = cl at h ⊢
  refine (SsJ.cs (SJ.assignComp _ [] [("list", .raw (.type "list"))] (CmpOk.fm [] ["list"] rfl (by decide +kernel) rfl rfl trivial ⟨X.g_list, trivial⟩) rfl rfl (ItE.ofE (Ev.nm .zx) (ItV.list (by nofun) ⟨?_, kA hn, _, (.i 6), fun C => copies S ?_ ?_⟩))))
  · rw [List.length_map, S.len, sizeLine_eq]; lia
  · intro m l τ R hm hl hR
    refine (EJ.ce (Ev.gl hW .zx) Keeps.type (LEv.cs (Ev.nm .zx) LEv.nl) (CJ.listList hm ?_ ?_))
    · exact hl
    · exact hR
  intro σA rsA hsA SA hmA ndA
  by_cases hc : rw_ ≤ u.b ∧ cl ≤ u.r
  · rw [if_pos hc] at h
    obtain ⟨hc1, hc2⟩ := hc
    have em := ar7 hc1 h1
    have ec := ar7 hc2 h3
    have hN := ar6 (k := A.b - A.t) hc1 h5
    have hN2 := ar5 (k := u.b - rw_) h1 h2
    have hM := ar5 (k := u.r - cl) h3 h4
    have hM2 := ar6 (k := A.r - A.l) hc2 h6
    refine (SsJ.cs (SJ.ite (TJ.or (TJ.cmp (EJ.of (Ev.nm (.i 4)) (EJ.of (Ev.subTup (Ev.nm (.i 3)) Ev.ci rfl (lb rfl)) (CmpJ.gt (TrJ.bl (iteN (dF hc1) (TJ.or (TJ.cmp (EJ.of (Ev.nm (.i 5)) (EJ.of (Ev.subTup (Ev.nm (.i 3)) Ev.ci rfl (lb rfl)) (CmpJ.gt (TrJ.bl (iteN (dF hc2) (TJ.or_nil (iteF (SsJ.nl (SsJ.cs (SJ.for (ItE.callE (Ev.gl hW (.i 1)) Keeps.type (LEv.cs (Ev.ad (Ev.call (Ev.gl hW (.i 2)) Keeps.builtin (LEv.cs (Ev.sb (Ev.subTup (Ev.nm (.i 1)) Ev.ci rfl (lb rfl)) (Ev.subTup (Ev.nm (.i 1)) Ev.ci rfl (lb rfl))) (LEv.cs (Ev.sb (Ev.subTup (Ev.nm (.i 3)) Ev.ci rfl (lb rfl)) (Ev.nm (.i 4))) LEv.nl)) CE.min2) Ev.ci) LEv.nl) (ItC.range1 ?_ ?_)))))))))))))))))))))))
    · rw [em]; exact sm (a := 0) (by decide) (Nat.le_trans (Nat.le_trans (Nat.le_add_left _ _) hN) (by decide))
    rw [em, show (0 : Int) = ((0 : Nat) : Int) from rfl]
    have hF : ∀ q y, copyLF g u A rw_ cl q y = lawOver y cl (takeL (row g (A.t + (q - rw_))) A.l (min (A.r - A.l) (u.r - cl) + 1)) := fun _ _ => rfl
    clear em
    generalize copyLF g u A rw_ cl = cf at hF h
    generalize min (A.b - A.t) (u.b - rw_) + 1 = N at hN hN2 h ⊢
    generalize min (A.r - A.l) (u.r - cl) + 1 = M at hM hM2 hF ec
    refine LoopJ.idx (fun j ρ τ => ∃ o : Nat → Option V, ρ = ([("shown", some (.ref n)), ("area", some A.v), ("values", some (.ref nv)), ("limits", some u.v), ("row", some (.int rw_)), ("column", some (.int cl)), ("found", some (.ref σ.length)), ("k", o 0), ("many", o 1), ("part", o 2)] : Rho) ∧ Same σ τ [] ∧
      ∃ rs', Shw τ σ.length rs' (rowsMap g rw_ (rw_ + j) cf) ∧ ∀ k ∈ rs', σ.length ≤ k) ⟨fun _ => none, rfl, hsA, rsA, by rw [Nat.add_zero, rowsMap_zero]; exact SA, fun k hk => Nat.le_of_lt (hmA k hk)⟩ ?_ ?_
    · rintro j c ρ τ hcc ⟨o, rfl, hs, rs', S', hk'⟩
      obtain ⟨hj, rfl⟩ := rangeV_get hcc
      rw [Nat.zero_add]
      have hr3 : rw_ + j < 3 := Nat.lt_of_lt_of_le (Nat.add_lt_add_left hj _) hN
      have hr3' : A.t + j < 3 := Nat.lt_of_lt_of_le (Nat.add_lt_add_left hj _) hN2
      have hrow : row (rowsMap g rw_ (rw_ + j) cf) (rw_ + j) = row g (rw_ + j) := by rw [rowsMap_row (S.lg.symm ▸ hr3), if_neg fun z => Nat.lt_irrefl _ z.2]
      have k1 := S'.row hr3
      rw [hrow] at k1
      have k2 := S'.out
      have S0 := S.move hs (by simp) (by simp)
      have k4 := S0.out
      have k5 := S0.row hr3'
      have hst := rowsMap_step (g := g) (t := rw_) (m := rw_ + j) (f := cf) (Nat.le_add_right _ _) (S.lg.symm ▸ hr3)
      have hlen := S.w _ hr3
      have hlen' := S.w _ hr3'
      rw [hF, Nat.add_sub_cancel_left] at hst
      have e5 : (A.l : Int) + (M : Int) = ((A.l + M : Nat) : Int) := by simp
      have hsl : slc ((lawCut (lawCut (row g (A.t + j)) A.l) (A.l + M)).map Cell.v) (some (A.l : Int)) (some ((A.l : Int) + (M : Int))) = (takeL (row g (A.t + j)) A.l M).map Cell.v := by
        rw [e5, slc_ab, takeL, List.map_drop, List.map_take]
      have htl := takeL_len (l := row g (A.t + j)) (a := A.l) (m := M) (hlen'.symm ▸ hM)
      refine (AJ.nm (.i 7) rfl (SsJ.cs (SJ.setE (Ev.ad (Ev.call (Ev.gl hW (.i 2)) Keeps.builtin (LEv.cs (Ev.sb (Ev.subTup (Ev.nm (.i 1)) Ev.ci rfl (lb rfl)) (Ev.subTup (Ev.nm (.i 1)) Ev.ci rfl (lb rfl))) (LEv.cs (Ev.sb (Ev.subTup (Ev.nm (.i 3)) Ev.ci rfl (lb rfl)) (Ev.nm (.i 5))) LEv.nl)) CE.min2) Ev.ci) (.i 8) rfl ?_)))
      rw [ec]
      refine (SsJ.cs (SJ.sn (EJ.slice (EJ.call (EJ.glob hW (.i 3) ⟨_, rfl, X.k_law_cut, (LJ.cons (EJ.ce (Ev.gl hW (.i 3)) X.k_law_cut (LEv.cs (Ev.subList (Ev.nm .zx) (Ev.ad (Ev.subTup (Ev.nm (.i 1)) Ev.ci rfl (lb rfl)) (Ev.nm (.i 7))) (by nofun) (S0.item (by simp) hr3') ?_) (LEv.cs (Ev.subTup (Ev.nm (.i 1)) Ev.ci rfl (lb rfl)) LEv.nl)) (CJ.up (d' := 2) (law_cut X rfl k5 (by lia) fun σB mB hsB hmB hgB => (LJ.of (LEv.cs (Ev.ad (Ev.subTup (Ev.nm (.i 1)) Ev.ci rfl (lb rfl)) (Ev.nm (.i 8))) LEv.nl) (CJ.up (d' := 2) (law_cut X e5 hgB (by rw [lawCut_len]; lia) fun σC mC hsC hmC hgC => have SC := S'.move (js := []) ((hsB.trans hsC).trans .app) (by simp) (by simp); have k6 := SC.out; (EPJ.some (EJ.of (Ev.subTup (Ev.nm (.i 1)) Ev.ci rfl (lb rfl)) (EPJ.some (EJ.of (Ev.ad (Ev.subTup (Ev.nm (.i 1)) Ev.ci rfl (lb rfl)) (Ev.nm (.i 8))) (SlJ.list (by nofun) rfl rfl ?_ (AJ.nm (.i 9) rfl (SsJ.cs (SJ.sn (EJ.ce (Ev.gl hW (.i 4)) X.k_law_over (LEv.cs (Ev.subList (Ev.nm (.i 6)) (Ev.ad (Ev.nm (.i 4)) (Ev.nm (.i 7))) (by nofun) (S'.item (by simp) hr3) ?_) (LEv.cs (Ev.nm (.i 5)) (LEv.cs (Ev.nm (.i 9)) LEv.nl))) (CJ.up (d' := 3) (law_over X rfl (SC.row hr3) (by rw [hsl]; exact kN) (by rw [hrow]; lia) (by lia) fun σD mD hsD hmD hgD => have SD := SC.move (js := []) hsD (by simp) (by simp); have k7 := SD.out; (AJ.itemE (Ev.nm (.i 6)) (Ev.ad (Ev.nm (.i 4)) (Ev.nm (.i 7))) (by nofun) ?_ ?_ ?_ (SsJ.nl ?_))) dd))))))))))) dd))) dd)))⟩)))))
      all_goals first | (simp [S'.len, S.len, lawCut_len]; done) | (simp [S'.len, S.len, lawCut_len]; lia) | lia | skip
      have hlt := (gq k2).1
      have q2 := hsB.1
      have q3 := hsC.1
      have hne : σ.length ≠ mD := by simp at hmD; lia
      refine ⟨trivial, ol [_, _, _], rfl, (hs.trans ((((hsB.trans hsC).trans .app)).trans hsD)).setNew (Nat.le_refl _), rs'.set (rw_ + j) mD, ?_, fun k hk => ?_⟩
      · rw [show ((rw_ : Int) + (j : Int)).toNat = rw_ + j from rfl, ← Nat.add_assoc, ← hst]
        rw [hrow] at hgD
        exact SD.setRow hr3 hgD (by rw [lawOver_len (by rw [htl, hlen]; exact hM2)]; exact hlen) hne
      · rcases List.mem_or_eq_of_mem_set hk with q | q
        · exact hk' k q
        · subst q; simp at hmD; lia
    · rintro ρ τ ⟨o, rfl, hs, rs', S', hk'⟩
      rw [rangeV_len] at S'
      refine (SsJ.cs (SJ.retE (Ev.nm (.i 6)) ?_))
      exact h _ _ rs' hs (Nat.le_refl _) hk' S'
  · rw [if_neg hc] at h
    by_cases hc1 : u.b < rw_
    · refine (SsJ.cs (SJ.ite (TJ.or (TJ.cmp (EJ.of (Ev.nm (.i 4)) (EJ.of (Ev.subTup (Ev.nm (.i 3)) Ev.ci rfl (lb rfl)) (CmpJ.gt (TrJ.bl (iteY (dT hc1) (iteT (SsJ.cs (SJ.retE (Ev.nm (.i 6)) ?_))))))))))))
      exact h _ _ rsA hsA (Nat.le_refl _) (fun k hk => Nat.le_of_lt (hmA k hk)) SA
    · refine (SsJ.cs (SJ.ite (TJ.or (TJ.cmp (EJ.of (Ev.nm (.i 4)) (EJ.of (Ev.subTup (Ev.nm (.i 3)) Ev.ci rfl (lb rfl)) (CmpJ.gt (TrJ.bl (iteN (dF (Nat.le_of_not_lt hc1)) (TJ.or (TJ.cmp (EJ.of (Ev.nm (.i 5)) (EJ.of (Ev.subTup (Ev.nm (.i 3)) Ev.ci rfl (lb rfl)) (CmpJ.gt (TrJ.bl (iteY (dT (Nat.lt_of_not_le fun z => hc ⟨Nat.le_of_not_lt hc1, z⟩)) (iteT (SsJ.cs (SJ.retE (Ev.nm (.i 6)) ?_)))))))))))))))))))
      exact h _ _ rsA hsA (Nat.le_refl _) (fun k hk => Nat.le_of_lt (hmA k hk)) SA
end
noncomputable def spare1 (l0 : List Cell) (a : Nat) (l : List Cell) (j : Nat) : List Cell := if j = a ∧ (at_ l0 j).w = 0 then l.set (j - 1) (at_ l0 j).p.blank else l
noncomputable def spare2 (l0 : List Cell) (b : Nat) (l : List Cell) (j : Nat) : List Cell := if j = b ∧ (at_ l0 j).w = 2 then l.set (j + 1) (at_ l0 j).p.blank else l
noncomputable def spareStep (l0 : List Cell) (a b : Nat) (x : Cell) (l : List Cell) (j : Nat) : List Cell := if (at_ l0 j).k = true then l else spare2 l0 b (spare1 l0 a (l.set j x) j) j
noncomputable def spareRow (a b : Nat) (x : Cell) (l0 : List Cell) (n : Nat) : List Cell := (List.range n).foldl (fun l i => spareStep l0 a b x l (a + i)) l0
theorem spare1_len (l0 : List Cell) (a : Nat) (l : List Cell) (j : Nat) : (spare1 l0 a l j).length = l.length := by unfold spare1; split <;> simp
theorem spare2_len (l0 : List Cell) (a : Nat) (l : List Cell) (j : Nat) : (spare2 l0 a l j).length = l.length := by unfold spare2; split <;> simp
theorem spareStep_len (l0 : List Cell) (a b : Nat) (x : Cell) (l : List Cell) (j : Nat) : (spareStep l0 a b x l j).length = l.length := by
  unfold spareStep; split
  · rfl
  · rw [spare2_len, spare1_len, List.length_set]
theorem spareRow_succ (a b : Nat) (x : Cell) (l0 : List Cell) (n : Nat) : spareRow a b x l0 (n + 1) = spareStep l0 a b x (spareRow a b x l0 n) (a + n) := by
  unfold spareRow; rw [List.range_succ, List.foldl_append]; rfl
theorem spareRow_len (a b : Nat) (x : Cell) (l0 : List Cell) (n : Nat) : (spareRow a b x l0 n).length = l0.length := by
  induction n with
  | zero => rfl
  | succ n ih => rw [spareRow_succ, spareStep_len, ih]
noncomputable def spareL (g : List (List Cell)) (A : Lim) (x : Cell) : List (List Cell) := rowsMap g A.t (A.b + 1) fun _ y => spareRow A.l A.r x y (A.r + 1 - A.l)
def W0 (l : List Cell) : Prop := (at_ l 0).w ≠ 0
section
variable {W : Wd} {d : Nat} {σ : List CO} {Q : V → List CO → Prop}
theorem law_spared (X : Ctx W) {n : Nat} {rs : List Nat} {g : List (List Cell)} {A : Lim} {x : Cell} (S : Shw σ n rs g) (hA : A.Ok) (hw2 : ∀ q, q < 3 → W2 (row g q)) (hw0 : ∀ q, q < 3 → W0 (row g q))
    (h : ∀ σ' m rs', Same σ σ' [] → σ.length ≤ m → (∀ k ∈ rs', σ.length ≤ k) → Shw σ' m rs' (spareL g A x) → Q (.ref m) σ') : CJ W (d + 4) u_law_spared [.ref n, A.v, x.v] σ Q := by
  have hW := X.ok
  refine call.law_spared X fun r_ => ?_
  have hn := S.out
  have h1 := hA.tb
  have h2 := hA.b3
  have h3 := hA.lr
  have h4 := hA.r6
  have eb : (A.b : Int) + 1 = ((A.b + 1 : Nat) : Int) := by simp
  have er : (A.r : Int) + 1 = ((A.r + 1 : Nat) : Int) := by simp
  refine (SsJ.cs (SJ.assignComp _ [] [("list", .raw (.type "list"))] (CmpOk.fm [] ["list"] rfl (by decide +kernel) rfl rfl trivial ⟨X.g_list, trivial⟩) rfl rfl (ItE.ofE (Ev.nm .zx) (ItV.list (by nofun) ⟨?_, kA hn, _, (.i 3), fun C => copies S ?_ ?_⟩))))
  · rw [List.length_map, S.len, sizeLine_eq]; lia
  · intro m l τ R hm hl hR
    refine (EJ.ce (Ev.gl hW .zx) Keeps.type (LEv.cs (Ev.nm .zx) LEv.nl) (CJ.listList hm ?_ ?_))
    · exact hl
    · exact hR
  intro σA rsA hsA SA hmA ndA
  refine (SsJ.cs (SJ.for (ItE.callE (Ev.gl hW .zx) Keeps.type (LEv.cs (Ev.subTup (Ev.nm (.i 1)) Ev.ci rfl (lb rfl)) (LEv.cs (Ev.ad (Ev.subTup (Ev.nm (.i 1)) Ev.ci rfl (lb rfl)) Ev.ci) LEv.nl)) (ItC.range2 ?_ ?_))))
  · rw [eb]; exact sn h1 h2
  rw [eb]
  refine LoopJ.idx (fun j ρ τ => ∃ o oA oB, ρ = ([("shown", some (.ref n)), ("area", some A.v), ("cell", some x.v), ("found", some (.ref σ.length)), ("row", o), ("line", oA), ("column", oB)] : Rho) ∧ Same σ τ [] ∧
    Shw τ σ.length rsA (rowsMap g A.t (A.t + j) fun _ y => spareRow A.l A.r x y (A.r + 1 - A.l))) ⟨none, none, none, rfl, hsA, by rw [Nat.add_zero, rowsMap_zero]; exact SA⟩ ?_ ?_
  · rintro j c ρ τ hc ⟨o, oA, oB, rfl, hs, S'⟩
    obtain ⟨hj, rfl⟩ := rangeV_get hc
    have hr3 : A.t + j < 3 := ar3 hj h2
    have hrow : row (rowsMap g A.t (A.t + j) fun _ y => spareRow A.l A.r x y (A.r + 1 - A.l)) (A.t + j) = row g (A.t + j) := rowsMap_at (S.lg.symm ▸ hr3)
    have hst := rowsMap_step (g := g) (t := A.t) (m := A.t + j) (f := fun _ y => spareRow A.l A.r x y (A.r + 1 - A.l)) (Nat.le_add_right _ _) (S.lg.symm ▸ hr3)
    have S0 := S.move hs (by simp) (by simp)
    have k0 := S0.out
    have k1 := S0.row hr3
    have k2 := S'.out
    have k3 := S'.row hr3
    rw [hrow] at k3
    have hlen := S.w _ hr3
    have hw2' := hw2 _ hr3
    have hw0' := hw0 _ hr3
    have hid : rowId rs (A.t + j) ≠ rowId rsA (A.t + j) := fun q => by
      have a1 := hmA _ (S'.mem hr3)
      have a2 := (gq (S.row hr3)).1
      lia
    have hid2 : σ.length ≠ rowId rsA (A.t + j) := fun q => S'.ap (q ▸ S'.mem hr3)
    refine (AJ.nm (.i 4) rfl (SsJ.cs (SJ.setE (Ev.subList (Ev.nm .zx) (Ev.nm (.i 4)) (by nofun) (S0.item rfl hr3) ?_) (.i 5) rfl ?_)))
    · simp [S.len]
    refine (SsJ.cs (SJ.for (ItE.callE (Ev.gl hW .zx) Keeps.type (LEv.cs (Ev.subTup (Ev.nm (.i 1)) Ev.ci rfl (lb rfl)) (LEv.cs (Ev.ad (Ev.subTup (Ev.nm (.i 1)) Ev.ci rfl (lb rfl)) Ev.ci) LEv.nl)) (ItC.range2 ?_ ?_))))
    · rw [er]; exact sn h3 h4
    rw [er]
    generalize hl0 : row g (A.t + j) = l0 at *
    refine LoopJ.idx (fun z ρ τ' => ∃ oB, ρ = ([("shown", some (.ref n)), ("area", some A.v), ("cell", some x.v), ("found", some (.ref σ.length)), ("row", some (.int ((A.t + j : Nat) : Int))), ("line", some (.ref (rowId rs (A.t + j)))), ("column", oB)] : Rho) ∧ Upd τ τ' (rowId rsA (A.t + j)) (spareRow A.l A.r x l0 z)) ⟨oB, rfl, .self k3⟩ ?_ ?_
    · rintro z c ρ τ' hcc ⟨oB, rfl, hu⟩
      obtain ⟨hz, rfl⟩ := rangeV_get hcc
      have hpl := spareRow_len A.l A.r x l0 z
      have hsu := spareRow_succ A.l A.r x l0 z
      generalize spareRow A.l A.r x l0 z = pl at *
      have hzl : A.l + z < l0.length := hlen.symm ▸ ar3 hz h4
      have g0 := at_get (l := l0) (k := A.l + z) hzl
      have q1 := hu.1.get k1 (by simpa using hid)
      have q2 := hu.1.get k2 (by simpa using hid2)
      have q3 := hu.2
      have hr1 : (rsA.map V.ref).length ≤ 100000 := by rw [List.length_map, S'.len]; decide
      have hr2 : (l0.map Cell.v).length ≤ 100000 := by rw [List.length_map]; lia
      cases hk : (at_ l0 (A.l + z)).k with
      | true =>
        have e : spareStep l0 A.l A.r x pl (A.l + z) = pl := if_pos hk
        refine (AJ.nm (.i 6) rfl (SsJ.cs (SJ.iteT (TEv.bool (Ev.subTup (Ev.subList (Ev.nm (.i 5)) (Ev.nm (.i 6)) (by nofun) (item_nat rfl g0) ?_) Ev.ci rfl (lb rfl))) (by simpa using hk) (SsJ.cs (SJ.cont ?_)))))
        all_goals first | exact hr2 | skip
        exact ⟨trivial, _, rfl, by rw [hsu, e]; exact hu⟩
      | false =>
        have e : spareStep l0 A.l A.r x pl (A.l + z) = spare2 l0 A.r (spare1 l0 A.l (pl.set (A.l + z) x) (A.l + z)) (A.l + z) := if_neg (by simp [hk])
        refine (AJ.nm (.i 6) rfl (SsJ.cs (SJ.iteF (TEv.bool (Ev.subTup (Ev.subList (Ev.nm (.i 5)) (Ev.nm (.i 6)) (by nofun) (item_nat rfl g0) ?_) Ev.ci rfl (lb rfl))) (by simpa using hk) (SsJ.nl (SsJ.cs (SJ.sn (EJ.of (Ev.nm (.i 2)) (AJ.cellE (Ev.subList (Ev.nm (.i 3)) (Ev.nm (.i 4)) (by nofun) (S'.item rfl hr3) ?_) (Ev.nm (.i 6)) rfl (by first | assumption | exact rfl) (by nofun) ?_ ?_ ?_))))))))
        all_goals first | exact hr1 | exact hr2 | lia | skip
        have hu1 := hu.set (l' := pl.set (A.l + z) x)
        generalize τ'.set (rowId rsA (A.t + j)) (CO.list ((pl.set (A.l + z) x).map Cell.v)) = τA at hu1 ⊢
        have hl1 : (pl.set (A.l + z) x).length = 6 := by rw [List.length_set, hpl]; exact hlen
        rw [e] at hsu
        generalize pl.set (A.l + z) x = p1 at *
        clear q1 q2 q3 hu
        refine SsJ.mid (fun ρ τB => ρ = ([("shown", some (.ref n)), ("area", some A.v), ("cell", some x.v), ("found", some (.ref σ.length)), ("row", some (.int ((A.t + j : Nat) : Int))), ("line", some (.ref (rowId rs (A.t + j)))), ("column", some (.int ((A.l + z : Nat) : Int)))] : Rho) ∧ Upd τ τB (rowId rsA (A.t + j)) (spare1 l0 A.l p1 (A.l + z))) ?_ ?_
        · have q1 := hu1.1.get k1 (by simpa using hid)
          have q2 := hu1.1.get k2 (by simpa using hid2)
          have q3 := hu1.2
          by_cases hz0 : (at_ l0 (A.l + z)).w = 0
          · have hpos : 0 < A.l + z := Nat.pos_of_ne_zero fun q => hw0' (by rw [q] at hz0; exact hz0)
            have ek : ((A.l + z : Nat) : Int) - 1 = ((A.l + z - 1 : Nat) : Int) := by lia
            by_cases hja : A.l + z = A.l
            · refine (SJ.ite (TJ.and (TJ.cmp (EJ.of (Ev.nm (.i 6)) (EJ.of (Ev.subTup (Ev.nm (.i 1)) Ev.ci rfl (lb rfl)) (CmpJ.eq (TrJ.bl (iteY (by simp; lia) (TJ.and (TJ.cmp (EJ.of (Ev.subTup (Ev.subList (Ev.nm (.i 5)) (Ev.nm (.i 6)) (by nofun) (item_nat rfl g0) ?_) Ev.ci rfl (lb rfl)) (EJ.of Ev.ci (CmpJ.eq (TrJ.bl (iteY (by simpa using hz0) (TJ.and_nil (iteT (SsJ.cs (SJ.sn (EJ.ce (Ev.gl hW (.i 1)) X.k_law_empty (LEv.cs (Ev.subTup (Ev.subList (Ev.nm (.i 5)) (Ev.nm (.i 6)) (by nofun) (item_nat rfl g0) ?_) Ev.ci rfl (lb rfl)) LEv.nl) (CJ.up (d' := 1) (law_empty X (AJ.cellE (Ev.subList (Ev.nm (.i 3)) (Ev.nm (.i 4)) (by nofun) (S'.item rfl hr3) ?_) (Ev.sb (Ev.nm (.i 6)) Ev.ci) rfl (by first | assumption | exact rfl) (by nofun) ?_ ?_ (SsJ.nl ?_))) dd)))))))))))))))))))))
              all_goals first | exact hr1 | exact hr2 | lia | skip
              exact ⟨rfl, by rw [spare1, if_pos ⟨hja, hz0⟩]; exact hu1.set⟩
            · refine (SJ.ite (TJ.and (TJ.cmp (EJ.of (Ev.nm (.i 6)) (EJ.of (Ev.subTup (Ev.nm (.i 1)) Ev.ci rfl (lb rfl)) (CmpJ.eq (TrJ.bl (iteN (by simp; lia) (iteF (SsJ.nl ?_))))))))))
              exact ⟨rfl, by rw [spare1, if_neg (fun q => hja q.1)]; exact hu1⟩
          · by_cases hja : A.l + z = A.l
            · refine (SJ.ite (TJ.and (TJ.cmp (EJ.of (Ev.nm (.i 6)) (EJ.of (Ev.subTup (Ev.nm (.i 1)) Ev.ci rfl (lb rfl)) (CmpJ.eq (TrJ.bl (iteY (by simp; lia) (TJ.and (TJ.cmp (EJ.of (Ev.subTup (Ev.subList (Ev.nm (.i 5)) (Ev.nm (.i 6)) (by nofun) (item_nat rfl g0) ?_) Ev.ci rfl (lb rfl)) (EJ.of Ev.ci (CmpJ.eq (TrJ.bl (iteN (by simpa using hz0) (iteF (SsJ.nl ?_)))))))))))))))))
              all_goals first | exact hr1 | exact hr2 | lia | skip
              exact ⟨rfl, by rw [spare1, if_neg (fun q => hz0 q.2)]; exact hu1⟩
            · refine (SJ.ite (TJ.and (TJ.cmp (EJ.of (Ev.nm (.i 6)) (EJ.of (Ev.subTup (Ev.nm (.i 1)) Ev.ci rfl (lb rfl)) (CmpJ.eq (TrJ.bl (iteN (by simp; lia) (iteF (SsJ.nl ?_))))))))))
              exact ⟨rfl, by rw [spare1, if_neg (fun q => hja q.1)]; exact hu1⟩
        · rintro ρB τB ⟨rfl, hu2⟩
          have hl2 : (spare1 l0 A.l p1 (A.l + z)).length = 6 := by rw [spare1_len]; exact hl1
          generalize spare1 l0 A.l p1 (A.l + z) = p2 at *
          have q1 := hu2.1.get k1 (by simpa using hid)
          have q2 := hu2.1.get k2 (by simpa using hid2)
          have q3 := hu2.2
          by_cases hz2 : (at_ l0 (A.l + z)).w = 2
          · have hpos := hw2' _ hzl hz2
            have ek : ((A.l + z : Nat) : Int) + 1 = ((A.l + z + 1 : Nat) : Int) := by lia
            by_cases hjb : A.l + z = A.r
            · refine (SsJ.cs (SJ.ite (TJ.and (TJ.cmp (EJ.of (Ev.nm (.i 6)) (EJ.of (Ev.subTup (Ev.nm (.i 1)) Ev.ci rfl (lb rfl)) (CmpJ.eq (TrJ.bl (iteY (by simp; lia) (TJ.and (TJ.cmp (EJ.of (Ev.subTup (Ev.subList (Ev.nm (.i 5)) (Ev.nm (.i 6)) (by nofun) (item_nat rfl g0) ?_) Ev.ci rfl (lb rfl)) (EJ.of Ev.ci (CmpJ.eq (TrJ.bl (iteY (by simpa using hz2) (TJ.and_nil (iteT (SsJ.cs (SJ.sn (EJ.ce (Ev.gl hW (.i 1)) X.k_law_empty (LEv.cs (Ev.subTup (Ev.subList (Ev.nm (.i 5)) (Ev.nm (.i 6)) (by nofun) (item_nat rfl g0) ?_) Ev.ci rfl (lb rfl)) LEv.nl) (CJ.up (d' := 1) (law_empty X (AJ.cellE (Ev.subList (Ev.nm (.i 3)) (Ev.nm (.i 4)) (by nofun) (S'.item rfl hr3) ?_) (Ev.ad (Ev.nm (.i 6)) Ev.ci) rfl (by first | assumption | exact rfl) (by nofun) ?_ ?_ (SsJ.nl (SsJ.nl ?_)))) dd))))))))))))))))))))))
              all_goals first | exact hr1 | exact hr2 | lia | skip
              exact ⟨trivial, _, rfl, by rw [hsu, spare2, if_pos ⟨hjb, hz2⟩]; exact hu2.set⟩
            · refine (SsJ.cs (SJ.ite (TJ.and (TJ.cmp (EJ.of (Ev.nm (.i 6)) (EJ.of (Ev.subTup (Ev.nm (.i 1)) Ev.ci rfl (lb rfl)) (CmpJ.eq (TrJ.bl (iteN (by simp; lia) (iteF (SsJ.nl (SsJ.nl ?_))))))))))))
              exact ⟨trivial, _, rfl, by rw [hsu, spare2, if_neg (fun q => hjb q.1)]; exact hu2⟩
          · by_cases hjb : A.l + z = A.r
            · refine (SsJ.cs (SJ.ite (TJ.and (TJ.cmp (EJ.of (Ev.nm (.i 6)) (EJ.of (Ev.subTup (Ev.nm (.i 1)) Ev.ci rfl (lb rfl)) (CmpJ.eq (TrJ.bl (iteY (by simp; lia) (TJ.and (TJ.cmp (EJ.of (Ev.subTup (Ev.subList (Ev.nm (.i 5)) (Ev.nm (.i 6)) (by nofun) (item_nat rfl g0) ?_) Ev.ci rfl (lb rfl)) (EJ.of Ev.ci (CmpJ.eq (TrJ.bl (iteN (by simpa using hz2) (iteF (SsJ.nl (SsJ.nl ?_)))))))))))))))))))
              all_goals first | exact hr1 | exact hr2 | lia | skip
              exact ⟨trivial, _, rfl, by rw [hsu, spare2, if_neg (fun q => hz2 q.2)]; exact hu2⟩
            · refine (SsJ.cs (SJ.ite (TJ.and (TJ.cmp (EJ.of (Ev.nm (.i 6)) (EJ.of (Ev.subTup (Ev.nm (.i 1)) Ev.ci rfl (lb rfl)) (CmpJ.eq (TrJ.bl (iteN (by simp; lia) (iteF (SsJ.nl (SsJ.nl ?_))))))))))))
              exact ⟨trivial, _, rfl, by rw [hsu, spare2, if_neg (fun q => hjb q.1)]; exact hu2⟩
    · rintro ρ τ' ⟨oB, rfl, hu⟩
      rw [rangeV_len] at hu
      refine SsJ.nl ⟨trivial, _, _, _, rfl, ⟨Nat.le_trans hs.1 hu.1.1, fun k o _ ho => hu.1.get (hs.get ho (by simp)) fun q => ?_⟩, ?_⟩
      · have a1 := hmA _ (S'.mem hr3)
        have a2 := (gq ho).1
        have a3 := mq q
        lia
      · rw [show A.t + (j + 1) = A.t + j + 1 from rfl, ← hst]
        exact S'.updRow ndA hr3 (by rw [spareRow_len]; lia) hu
  · rintro ρ τ ⟨o, oA, oB, rfl, hs, S'⟩
    rw [rangeV_len, are h1] at S'
    refine (SsJ.cs (SJ.retE (Ev.nm (.i 3)) ?_))
    exact h _ _ rsA hs (Nat.le_refl _) (fun k hk => Nat.le_of_lt (hmA k hk)) S'
end
noncomputable def bitOf (one : Int) : Int := if one = 1 then 1 else if one = 5 then 8 else if one = 7 then 32 else 64
noncomputable def kindOf (f : Int) : Int := (f.fdiv 512).fmod 8
noncomputable def flipI (f b : Int) : Int := f + if (f.fdiv b).fmod 2 = 0 then b else -b
noncomputable def clearI (f b : Int) : Int := f - (f.fdiv b).fmod 2 * b
noncomputable def lawOne (rev : Bool) (v f one : Int) : Int :=
  if rev = true then
    if (v = 0 ∧ (one = 1 ∨ one = 4 ∨ one = 5 ∨ one = 7)) ∨ (v = one ∧ 0 < one) then
      if one = 4 then f - 512 * kindOf f + (if 0 < kindOf f then 0 else 512) else flipI f (bitOf one)
    else f
  else if one = 4 then
    if v = 0 ∨ v = 24 ∨ v = 4 then f - 512 * kindOf f + (if v = 4 then 512 else 0) else f
  else if one = 0 then f
  else if v = 0 ∨ v = one ∨ v = (if one = 1 then 22 else 20 + one) then clearI f (bitOf one) + (if v = one then bitOf one else 0) else f
noncomputable def six : List Int := [0, 1, 4, 5, 7, 8]
noncomputable def lawNum (rev : Bool) (f v : Int) : Int := six.foldl (lawOne rev v) f
noncomputable def numsL (os : List (Option Int)) : List (Option Int) := if os = [] then [none] else os
noncomputable def lawT (rev : Bool) (os : List (Option Int)) (f : Int) : Int := (numsL os).foldl (fun f o => lawNum rev f (o.getD 0)) f
noncomputable def forBody : PySem.Stmt → List PySem.Stmt
  | .For _ _ b _ _ => b
  | _ => []
section
variable {W : Wd} {d : Nat} {σ : List CO} {Q : V → List CO → Prop}
noncomputable def ovD : Option Int → PyData
  | none => .none
  | some i => .int i
theorem dv_ovs : ∀ l : List (Option Int), DVs σ (l.map ov) (l.map ovD)
  | [] => .nil
  | none :: l => .cons .none (dv_ovs l)
  | some _ :: l => .cons .int (dv_ovs l)
theorem lay_ovs : ∀ l : List (Option Int), PyData.canLayAll0 (l.map ovD) = true ∧ PyData.depthAll (l.map ovD) = 0
  | [] => ⟨rfl, rfl⟩
  | none :: l => by simp [PyData.canLayAll0, PyData.depthAll, PyData.canLay0, PyData.depth, ovD, lay_ovs l]
  | some _ :: l => by simp [PyData.canLayAll0, PyData.depthAll, PyData.canLay0, PyData.depth, ovD, lay_ovs l]
theorem CmpJ.neNilO {F : Fm} {ρ : Rho} {m k : Nat} {l : List (Option Int)} (hm : σ[m]? = some (.list (l.map ov))) (hk : σ[k]? = some (.list [])) {Q : V → List CO → Prop} (q : Q (.bool (!l.isEmpty)) σ) : CmpJ W d F .NotEq (.ref m) (.ref k) ρ σ Q := by
  refine CmpJ.neD (.list hm (dv_ovs l)) (.list hk .nil) (by simp [SeqAt.shaped, PyData.canLay0, PyData.depth, lay_ovs]) rfl ?_
  have e : PyData.eqv (.list (l.map ovD)) (.list []) = l.isEmpty := by
    cases l <;> simp [PyData.eqv, PyData.eqvAll]
  rw [e]; exact q
noncomputable abbrev bitsD : List (Int × V) := [(1, .int 1), (5, .int 8), (7, .int 32), (8, .int 64)]
theorem turned_0_true (X : Ctx W) {r_ : FrD} {f v : Int} {m bd : Nat} {o : Option Int} (hb : σ[bd]? = some (.dict bitsD)) {Q : Fl → Rho → List CO → Prop}
    (h : Q .next ([("flags", some (.int (lawOne true v f 0))), ("numbers", some (.ref m)), ("is_reversed", some (.bool true)), ("bits", some (.ref bd)), ("number", some (ov o)), ("one", some (.int 0)), ("value", some (.int v)), ("kind", some (.int (kindOf f)))] : Rho) σ) :
    SJ W d (F_law_turned r_) (stAt (forBody (stAt (forBody (stAt D_law_turned.body 1)) 0)) 1) ([("flags", some (.int f)), ("numbers", some (.ref m)), ("is_reversed", some (.bool true)), ("bits", some (.ref bd)), ("number", some (ov o)), ("one", some (.int 0)), ("value", some (.int v)), ("kind", some (.int (kindOf f)))] : Rho) σ Q := by
  have hW := X.ok
  refine (SJ.ite (TJ.or (TJ.and (TJ.plain (EJ.of (Ev.nm (.i 2)) (TrJ.bl (iteY rfl (TJ.and (TJ.cmp (EJ.of (Ev.nm (.i 6)) (EJ.of Ev.ci (CmpJ.eq (TrJ.bl (iteB (fun hc1 => (TJ.and (TJ.cmp (EJ.of (Ev.nm (.i 5)) (EJ.of (Ev.tu (LEv.cs Ev.ci (LEv.cs Ev.ci (LEv.cs Ev.ci (LEv.cs Ev.ci LEv.nl)))) (lb rfl)) (CmpJ.inTup [1, 4, 5, 7] rfl (TrJ.bl (iteN rfl (iteF (TJ.or (TJ.and (TJ.plain (EJ.of (Ev.nm (.i 2)) (TrJ.bl (iteY rfl (TJ.and (TJ.chain (EJ.of (Ev.nm (.i 6)) (ChJ.link (EJ.of (Ev.nm (.i 5)) (CmpJ.eq (TrJ.bl (iteB (fun hc2 => (ChJ.last (EJ.of Ev.ci (CmpJ.gt (TrJ.bl (iteN rfl (iteF (TJ.or_nil (iteF (SsJ.cs (SJ.ite (TJ.and (TJ.not (TJ.plain (EJ.of (Ev.nm (.i 2)) (TrJ.bl (iteN rfl (iteF (SsJ.cs (SJ.ite (TJ.and (TJ.not (TJ.plain (EJ.of (Ev.nm (.i 2)) (TrJ.bl (iteN rfl (iteF (SsJ.nl (SsJ.nl (SsJ.nl ?_)))))))))))))))))))))))))))))) (fun hc2 => (iteF (iteF (TJ.or_nil (iteF (SsJ.cs (SJ.ite (TJ.and (TJ.not (TJ.plain (EJ.of (Ev.nm (.i 2)) (TrJ.bl (iteN rfl (iteF (SsJ.cs (SJ.ite (TJ.and (TJ.not (TJ.plain (EJ.of (Ev.nm (.i 2)) (TrJ.bl (iteN rfl (iteF (SsJ.nl (SsJ.nl (SsJ.nl ?_))))))))))))))))))))))))))))))))))))))))))))))))) (fun hc1 => (iteF (TJ.or (TJ.and (TJ.plain (EJ.of (Ev.nm (.i 2)) (TrJ.bl (iteY rfl (TJ.and (TJ.chain (EJ.of (Ev.nm (.i 6)) (ChJ.link (EJ.of (Ev.nm (.i 5)) (CmpJ.eq (TrJ.bl (iteB (fun hc3 => (ChJ.last (EJ.of Ev.ci (CmpJ.gt (TrJ.bl (iteN rfl (iteF (TJ.or_nil (iteF (SsJ.cs (SJ.ite (TJ.and (TJ.not (TJ.plain (EJ.of (Ev.nm (.i 2)) (TrJ.bl (iteN rfl (iteF (SsJ.cs (SJ.ite (TJ.and (TJ.not (TJ.plain (EJ.of (Ev.nm (.i 2)) (TrJ.bl (iteN rfl (iteF (SsJ.nl (SsJ.nl (SsJ.nl ?_)))))))))))))))))))))))))))))) (fun hc3 => (iteF (iteF (TJ.or_nil (iteF (SsJ.cs (SJ.ite (TJ.and (TJ.not (TJ.plain (EJ.of (Ev.nm (.i 2)) (TrJ.bl (iteN rfl (iteF (SsJ.cs (SJ.ite (TJ.and (TJ.not (TJ.plain (EJ.of (Ev.nm (.i 2)) (TrJ.bl (iteN rfl (iteF (SsJ.nl (SsJ.nl (SsJ.nl ?_))))))))))))))))))))))))))))))))))))))))))))))))))))))))
  all_goals first
    | exact PyProof.noPylong_small (by decide)
    | decide
    | exact IntMulOk.of_left (by decide)
    | exact IntMulOk.of_right (by decide)
    | (simp_all [lawOne, flipI, clearI, bitOf]; done)
    | (unfold lawOne at h; try unfold flipI at h; try unfold clearI at h; try unfold bitOf at h
       (try simp only [if_true, if_false, or_true, true_or, and_true, List.any_cons, List.any_nil, Bool.or_false, Bool.or_eq_true, Bool.or_eq_false_iff, beq_iff_eq, beq_eq_false_iff_ne, decide_eq_true_eq, decide_eq_false_iff_not] at *)
       repeat (first | rw [if_pos (by first | trivial | lia | decide)] at h | rw [if_neg (by first | trivial | lia | decide)] at h)
       exact h)
theorem turned_0_false (X : Ctx W) {r_ : FrD} {f v : Int} {m bd : Nat} {o : Option Int} (hb : σ[bd]? = some (.dict bitsD)) {Q : Fl → Rho → List CO → Prop}
    (h : Q .next ([("flags", some (.int (lawOne false v f 0))), ("numbers", some (.ref m)), ("is_reversed", some (.bool false)), ("bits", some (.ref bd)), ("number", some (ov o)), ("one", some (.int 0)), ("value", some (.int v)), ("kind", some (.int (kindOf f)))] : Rho) σ) :
    SJ W d (F_law_turned r_) (stAt (forBody (stAt (forBody (stAt D_law_turned.body 1)) 0)) 1) ([("flags", some (.int f)), ("numbers", some (.ref m)), ("is_reversed", some (.bool false)), ("bits", some (.ref bd)), ("number", some (ov o)), ("one", some (.int 0)), ("value", some (.int v)), ("kind", some (.int (kindOf f)))] : Rho) σ Q := by
  have hW := X.ok
  refine (SJ.ite (TJ.or (TJ.and (TJ.plain (EJ.of (Ev.nm (.i 2)) (TrJ.bl (iteN rfl (iteF (TJ.or (TJ.and (TJ.plain (EJ.of (Ev.nm (.i 2)) (TrJ.bl (iteN rfl (iteF (TJ.or_nil (iteF (SsJ.cs (SJ.ite (TJ.and (TJ.not (TJ.plain (EJ.of (Ev.nm (.i 2)) (TrJ.bl (iteY rfl (TJ.and (TJ.cmp (EJ.of (Ev.nm (.i 5)) (EJ.of Ev.ci (CmpJ.eq (TrJ.bl (iteN rfl (iteF (SsJ.cs (SJ.ite (TJ.and (TJ.not (TJ.plain (EJ.of (Ev.nm (.i 2)) (TrJ.bl (iteY rfl (TJ.and (TJ.cmp (EJ.of (Ev.nm (.i 5)) (EJ.of (Ev.nm (.i 3)) (CmpJ.inDict (by nofun) (TrJ.bl (iteN rfl (iteF (SsJ.nl (SsJ.nl (SsJ.nl ?_))))))))))))))))))))))))))))))))))))))))))))))))))))
  all_goals first
    | exact PyProof.noPylong_small (by decide)
    | decide
    | exact IntMulOk.of_left (by decide)
    | exact IntMulOk.of_right (by decide)
    | (simp_all [lawOne, flipI, clearI, bitOf]; done)
    | (unfold lawOne at h; try unfold flipI at h; try unfold clearI at h; try unfold bitOf at h
       (try simp only [if_true, if_false, or_true, true_or, and_true, List.any_cons, List.any_nil, Bool.or_false, Bool.or_eq_true, Bool.or_eq_false_iff, beq_iff_eq, beq_eq_false_iff_ne, decide_eq_true_eq, decide_eq_false_iff_not] at *)
       repeat (first | rw [if_pos (by first | trivial | lia | decide)] at h | rw [if_neg (by first | trivial | lia | decide)] at h)
       exact h)
theorem turned_1_true (X : Ctx W) {r_ : FrD} {f v : Int} {m bd : Nat} {o : Option Int} (hb : σ[bd]? = some (.dict bitsD)) {Q : Fl → Rho → List CO → Prop}
    (h : Q .next ([("flags", some (.int (lawOne true v f 1))), ("numbers", some (.ref m)), ("is_reversed", some (.bool true)), ("bits", some (.ref bd)), ("number", some (ov o)), ("one", some (.int 1)), ("value", some (.int v)), ("kind", some (.int (kindOf f)))] : Rho) σ) :
    SJ W d (F_law_turned r_) (stAt (forBody (stAt (forBody (stAt D_law_turned.body 1)) 0)) 1) ([("flags", some (.int f)), ("numbers", some (.ref m)), ("is_reversed", some (.bool true)), ("bits", some (.ref bd)), ("number", some (ov o)), ("one", some (.int 1)), ("value", some (.int v)), ("kind", some (.int (kindOf f)))] : Rho) σ Q := by
  have hW := X.ok
  refine (SJ.ite (TJ.or (TJ.and (TJ.plain (EJ.of (Ev.nm (.i 2)) (TrJ.bl (iteY rfl (TJ.and (TJ.cmp (EJ.of (Ev.nm (.i 6)) (EJ.of Ev.ci (CmpJ.eq (TrJ.bl (iteB (fun hc1 => (TJ.and (TJ.cmp (EJ.of (Ev.nm (.i 5)) (EJ.of (Ev.tu (LEv.cs Ev.ci (LEv.cs Ev.ci (LEv.cs Ev.ci (LEv.cs Ev.ci LEv.nl)))) (lb rfl)) (CmpJ.inTup [1, 4, 5, 7] rfl (TrJ.bl (iteY rfl (TJ.and_nil (iteT (iteT (SsJ.cs (SJ.iteF (TEv.cmp (Ev.nm (.i 5)) Ev.ci CmpE.eq) rfl (SsJ.cs (SJ.sn (EJ.binop (EJ.of (Ev.nm .zx) (EJ.ite (TJ.cmp (EJ.of (Ev.fmod (Ev.fdiv (Ev.nm .zx) (Ev.subDict (Ev.nm (.i 3)) (Ev.nm (.i 5)) (by nofun) rfl) (by decide) ?_) Ev.ci ?_) (EJ.of Ev.ci (CmpJ.eq (TrJ.bl (iteB (fun hc2 => (EJ.of (Ev.subDict (Ev.nm (.i 3)) (Ev.nm (.i 5)) (by nofun) rfl) (OpJ.add (AJ.nm .zx rfl (SsJ.nl (SsJ.nl ?_)))))) (fun hc2 => (EJ.of (Ev.neg (Ev.subDict (Ev.nm (.i 3)) (Ev.nm (.i 5)) (by nofun) rfl)) (OpJ.add (AJ.nm .zx rfl (SsJ.nl (SsJ.nl ?_)))))))))))))))))))))))))))))) (fun hc1 => (iteF (TJ.or (TJ.and (TJ.plain (EJ.of (Ev.nm (.i 2)) (TrJ.bl (iteY rfl (TJ.and (TJ.chain (EJ.of (Ev.nm (.i 6)) (ChJ.link (EJ.of (Ev.nm (.i 5)) (CmpJ.eq (TrJ.bl (iteB (fun hc3 => (ChJ.last (EJ.of Ev.ci (CmpJ.gt (TrJ.bl (iteY rfl (TJ.and_nil (iteT (iteT (SsJ.cs (SJ.iteF (TEv.cmp (Ev.nm (.i 5)) Ev.ci CmpE.eq) rfl (SsJ.cs (SJ.sn (EJ.binop (EJ.of (Ev.nm .zx) (EJ.ite (TJ.cmp (EJ.of (Ev.fmod (Ev.fdiv (Ev.nm .zx) (Ev.subDict (Ev.nm (.i 3)) (Ev.nm (.i 5)) (by nofun) rfl) (by decide) ?_) Ev.ci ?_) (EJ.of Ev.ci (CmpJ.eq (TrJ.bl (iteB (fun hc4 => (EJ.of (Ev.subDict (Ev.nm (.i 3)) (Ev.nm (.i 5)) (by nofun) rfl) (OpJ.add (AJ.nm .zx rfl (SsJ.nl (SsJ.nl ?_)))))) (fun hc4 => (EJ.of (Ev.neg (Ev.subDict (Ev.nm (.i 3)) (Ev.nm (.i 5)) (by nofun) rfl)) (OpJ.add (AJ.nm .zx rfl (SsJ.nl (SsJ.nl ?_)))))))))))))))))))))))))))) (fun hc3 => (iteF (iteF (TJ.or_nil (iteF (SsJ.cs (SJ.ite (TJ.and (TJ.not (TJ.plain (EJ.of (Ev.nm (.i 2)) (TrJ.bl (iteN rfl (iteF (SsJ.cs (SJ.ite (TJ.and (TJ.not (TJ.plain (EJ.of (Ev.nm (.i 2)) (TrJ.bl (iteN rfl (iteF (SsJ.nl (SsJ.nl (SsJ.nl ?_))))))))))))))))))))))))))))))))))))))))))))))))))))))))
  all_goals first
    | exact PyProof.noPylong_small (by decide)
    | decide
    | exact IntMulOk.of_left (by decide)
    | exact IntMulOk.of_right (by decide)
    | (simp_all [lawOne, flipI, clearI, bitOf]; done)
    | (unfold lawOne at h; try unfold flipI at h; try unfold clearI at h; try unfold bitOf at h
       (try simp only [if_true, if_false, or_true, true_or, and_true, List.any_cons, List.any_nil, Bool.or_false, Bool.or_eq_true, Bool.or_eq_false_iff, beq_iff_eq, beq_eq_false_iff_ne, decide_eq_true_eq, decide_eq_false_iff_not] at *)
       repeat (first | rw [if_pos (by first | trivial | lia | decide)] at h | rw [if_neg (by first | trivial | lia | decide)] at h)
       exact h)
theorem turned_1_false (X : Ctx W) {r_ : FrD} {f v : Int} {m bd : Nat} {o : Option Int} (hb : σ[bd]? = some (.dict bitsD)) {Q : Fl → Rho → List CO → Prop}
    (h : Q .next ([("flags", some (.int (lawOne false v f 1))), ("numbers", some (.ref m)), ("is_reversed", some (.bool false)), ("bits", some (.ref bd)), ("number", some (ov o)), ("one", some (.int 1)), ("value", some (.int v)), ("kind", some (.int (kindOf f)))] : Rho) σ) :
    SJ W d (F_law_turned r_) (stAt (forBody (stAt (forBody (stAt D_law_turned.body 1)) 0)) 1) ([("flags", some (.int f)), ("numbers", some (.ref m)), ("is_reversed", some (.bool false)), ("bits", some (.ref bd)), ("number", some (ov o)), ("one", some (.int 1)), ("value", some (.int v)), ("kind", some (.int (kindOf f)))] : Rho) σ Q := by
  have hW := X.ok
  refine (SJ.ite (TJ.or (TJ.and (TJ.plain (EJ.of (Ev.nm (.i 2)) (TrJ.bl (iteN rfl (iteF (TJ.or (TJ.and (TJ.plain (EJ.of (Ev.nm (.i 2)) (TrJ.bl (iteN rfl (iteF (TJ.or_nil (iteF (SsJ.cs (SJ.ite (TJ.and (TJ.not (TJ.plain (EJ.of (Ev.nm (.i 2)) (TrJ.bl (iteY rfl (TJ.and (TJ.cmp (EJ.of (Ev.nm (.i 5)) (EJ.of Ev.ci (CmpJ.eq (TrJ.bl (iteN rfl (iteF (SsJ.cs (SJ.ite (TJ.and (TJ.not (TJ.plain (EJ.of (Ev.nm (.i 2)) (TrJ.bl (iteY rfl (TJ.and (TJ.cmp (EJ.of (Ev.nm (.i 5)) (EJ.of (Ev.nm (.i 3)) (CmpJ.inDict (by nofun) (TrJ.bl (iteY rfl (TJ.and (TJ.cmp (EJ.of (Ev.nm (.i 6)) (EJ.tuple (LJ.cons (EJ.of Ev.ci (LJ.cons (EJ.of (Ev.nm (.i 5)) (LJ.cons (EJ.ite (TJ.cmp (EJ.of (Ev.nm (.i 5)) (EJ.of Ev.ci (CmpJ.eq (TrJ.bl (iteY rfl (EJ.of Ev.ci (LJ.of LEv.nl ⟨(lb rfl), (CmpJ.inTup [0, 1, 22] rfl (TrJ.bl (iteB (fun hc1 => (TJ.and_nil (iteT (SsJ.cs (SJ.sn (EJ.binop (EJ.of (Ev.sb (Ev.nm .zx) (Ev.mul (Ev.fmod (Ev.fdiv (Ev.nm .zx) (Ev.subDict (Ev.nm (.i 3)) (Ev.nm (.i 5)) (by nofun) rfl) (by decide) ?_) Ev.ci ?_) (Ev.subDict (Ev.nm (.i 3)) (Ev.nm (.i 5)) (by nofun) rfl) ?_)) (EJ.ite (TJ.cmp (EJ.of (Ev.nm (.i 6)) (EJ.of (Ev.nm (.i 5)) (CmpJ.eq (TrJ.bl (iteB (fun hc2 => (EJ.of (Ev.subDict (Ev.nm (.i 3)) (Ev.nm (.i 5)) (by nofun) rfl) (OpJ.add (AJ.nm .zx rfl (SsJ.nl (SsJ.nl (SsJ.nl ?_))))))) (fun hc2 => (EJ.of Ev.ci (OpJ.add (AJ.nm .zx rfl (SsJ.nl (SsJ.nl (SsJ.nl ?_))))))))))))))))))))) (fun hc1 => (iteF (SsJ.nl (SsJ.nl (SsJ.nl ?_))))))))⟩))))))))))))))))))))))))))))))))))))))))))))))))))))))))))))))))))
  all_goals first
    | exact PyProof.noPylong_small (by decide)
    | decide
    | exact IntMulOk.of_left (by decide)
    | exact IntMulOk.of_right (by decide)
    | (simp_all [lawOne, flipI, clearI, bitOf]; done)
    | (unfold lawOne at h; try unfold flipI at h; try unfold clearI at h; try unfold bitOf at h
       (try simp only [if_true, if_false, or_true, true_or, and_true, List.any_cons, List.any_nil, Bool.or_false, Bool.or_eq_true, Bool.or_eq_false_iff, beq_iff_eq, beq_eq_false_iff_ne, decide_eq_true_eq, decide_eq_false_iff_not] at *)
       repeat (first | rw [if_pos (by first | trivial | lia | decide)] at h | rw [if_neg (by first | trivial | lia | decide)] at h)
       exact h)
theorem turned_4_true (X : Ctx W) {r_ : FrD} {f v : Int} {m bd : Nat} {o : Option Int} (hb : σ[bd]? = some (.dict bitsD)) {Q : Fl → Rho → List CO → Prop}
    (h : Q .next ([("flags", some (.int (lawOne true v f 4))), ("numbers", some (.ref m)), ("is_reversed", some (.bool true)), ("bits", some (.ref bd)), ("number", some (ov o)), ("one", some (.int 4)), ("value", some (.int v)), ("kind", some (.int (kindOf f)))] : Rho) σ) :
    SJ W d (F_law_turned r_) (stAt (forBody (stAt (forBody (stAt D_law_turned.body 1)) 0)) 1) ([("flags", some (.int f)), ("numbers", some (.ref m)), ("is_reversed", some (.bool true)), ("bits", some (.ref bd)), ("number", some (ov o)), ("one", some (.int 4)), ("value", some (.int v)), ("kind", some (.int (kindOf f)))] : Rho) σ Q := by
  have hW := X.ok
  refine (SJ.ite (TJ.or (TJ.and (TJ.plain (EJ.of (Ev.nm (.i 2)) (TrJ.bl (iteY rfl (TJ.and (TJ.cmp (EJ.of (Ev.nm (.i 6)) (EJ.of Ev.ci (CmpJ.eq (TrJ.bl (iteB (fun hc1 => (TJ.and (TJ.cmp (EJ.of (Ev.nm (.i 5)) (EJ.of (Ev.tu (LEv.cs Ev.ci (LEv.cs Ev.ci (LEv.cs Ev.ci (LEv.cs Ev.ci LEv.nl)))) (lb rfl)) (CmpJ.inTup [1, 4, 5, 7] rfl (TrJ.bl (iteY rfl (TJ.and_nil (iteT (iteT (SsJ.cs (SJ.iteT (TEv.cmp (Ev.nm (.i 5)) Ev.ci CmpE.eq) rfl (SsJ.cs (SJ.sn (EJ.binop (EJ.of (Ev.sb (Ev.nm .zx) (Ev.mul Ev.ci (Ev.nm (.i 7)) ?_)) (EJ.ite (TJ.cmp (EJ.of (Ev.nm (.i 7)) (EJ.of Ev.ci (CmpJ.gt (TrJ.bl (iteB (fun hc2 => (EJ.of Ev.ci (OpJ.add (AJ.nm .zx rfl (SsJ.nl (SsJ.nl ?_)))))) (fun hc2 => (EJ.of Ev.ci (OpJ.add (AJ.nm .zx rfl (SsJ.nl (SsJ.nl ?_)))))))))))))))))))))))))))))) (fun hc1 => (iteF (TJ.or (TJ.and (TJ.plain (EJ.of (Ev.nm (.i 2)) (TrJ.bl (iteY rfl (TJ.and (TJ.chain (EJ.of (Ev.nm (.i 6)) (ChJ.link (EJ.of (Ev.nm (.i 5)) (CmpJ.eq (TrJ.bl (iteB (fun hc3 => (ChJ.last (EJ.of Ev.ci (CmpJ.gt (TrJ.bl (iteY rfl (TJ.and_nil (iteT (iteT (SsJ.cs (SJ.iteT (TEv.cmp (Ev.nm (.i 5)) Ev.ci CmpE.eq) rfl (SsJ.cs (SJ.sn (EJ.binop (EJ.of (Ev.sb (Ev.nm .zx) (Ev.mul Ev.ci (Ev.nm (.i 7)) ?_)) (EJ.ite (TJ.cmp (EJ.of (Ev.nm (.i 7)) (EJ.of Ev.ci (CmpJ.gt (TrJ.bl (iteB (fun hc4 => (EJ.of Ev.ci (OpJ.add (AJ.nm .zx rfl (SsJ.nl (SsJ.nl ?_)))))) (fun hc4 => (EJ.of Ev.ci (OpJ.add (AJ.nm .zx rfl (SsJ.nl (SsJ.nl ?_)))))))))))))))))))))))))))) (fun hc3 => (iteF (iteF (TJ.or_nil (iteF (SsJ.cs (SJ.ite (TJ.and (TJ.not (TJ.plain (EJ.of (Ev.nm (.i 2)) (TrJ.bl (iteN rfl (iteF (SsJ.cs (SJ.ite (TJ.and (TJ.not (TJ.plain (EJ.of (Ev.nm (.i 2)) (TrJ.bl (iteN rfl (iteF (SsJ.nl (SsJ.nl (SsJ.nl ?_))))))))))))))))))))))))))))))))))))))))))))))))))))))))
  all_goals first
    | exact PyProof.noPylong_small (by decide)
    | decide
    | exact IntMulOk.of_left (by decide)
    | exact IntMulOk.of_right (by decide)
    | (simp_all [lawOne, flipI, clearI, bitOf]; done)
    | (unfold lawOne at h; try unfold flipI at h; try unfold clearI at h; try unfold bitOf at h
       (try simp only [if_true, if_false, or_true, true_or, and_true, List.any_cons, List.any_nil, Bool.or_false, Bool.or_eq_true, Bool.or_eq_false_iff, beq_iff_eq, beq_eq_false_iff_ne, decide_eq_true_eq, decide_eq_false_iff_not] at *)
       repeat (first | rw [if_pos (by first | trivial | lia | decide)] at h | rw [if_neg (by first | trivial | lia | decide)] at h)
       exact h)
theorem turned_4_false (X : Ctx W) {r_ : FrD} {f v : Int} {m bd : Nat} {o : Option Int} (hb : σ[bd]? = some (.dict bitsD)) {Q : Fl → Rho → List CO → Prop}
    (h : Q .next ([("flags", some (.int (lawOne false v f 4))), ("numbers", some (.ref m)), ("is_reversed", some (.bool false)), ("bits", some (.ref bd)), ("number", some (ov o)), ("one", some (.int 4)), ("value", some (.int v)), ("kind", some (.int (kindOf f)))] : Rho) σ) :
    SJ W d (F_law_turned r_) (stAt (forBody (stAt (forBody (stAt D_law_turned.body 1)) 0)) 1) ([("flags", some (.int f)), ("numbers", some (.ref m)), ("is_reversed", some (.bool false)), ("bits", some (.ref bd)), ("number", some (ov o)), ("one", some (.int 4)), ("value", some (.int v)), ("kind", some (.int (kindOf f)))] : Rho) σ Q := by
  have hW := X.ok
  refine (SJ.ite (TJ.or (TJ.and (TJ.plain (EJ.of (Ev.nm (.i 2)) (TrJ.bl (iteN rfl (iteF (TJ.or (TJ.and (TJ.plain (EJ.of (Ev.nm (.i 2)) (TrJ.bl (iteN rfl (iteF (TJ.or_nil (iteF (SsJ.cs (SJ.ite (TJ.and (TJ.not (TJ.plain (EJ.of (Ev.nm (.i 2)) (TrJ.bl (iteY rfl (TJ.and (TJ.cmp (EJ.of (Ev.nm (.i 5)) (EJ.of Ev.ci (CmpJ.eq (TrJ.bl (iteY rfl (TJ.and (TJ.cmp (EJ.of (Ev.nm (.i 6)) (EJ.of (Ev.tu (LEv.cs Ev.ci (LEv.cs Ev.ci (LEv.cs Ev.ci LEv.nl))) (lb rfl)) (CmpJ.inTup [0, 24, 4] rfl (TrJ.bl (iteB (fun hc1 => (TJ.and_nil (iteT (SsJ.cs (SJ.sn (EJ.binop (EJ.of (Ev.sb (Ev.nm .zx) (Ev.mul Ev.ci (Ev.nm (.i 7)) ?_)) (EJ.ite (TJ.cmp (EJ.of (Ev.nm (.i 6)) (EJ.of Ev.ci (CmpJ.eq (TrJ.bl (iteB (fun hc2 => (EJ.of Ev.ci (OpJ.add (AJ.nm .zx rfl (SsJ.nl (SsJ.nl ?_)))))) (fun hc2 => (EJ.of Ev.ci (OpJ.add (AJ.nm .zx rfl (SsJ.nl (SsJ.nl ?_)))))))))))))))))))) (fun hc1 => (iteF (SsJ.cs (SJ.ite (TJ.and (TJ.not (TJ.plain (EJ.of (Ev.nm (.i 2)) (TrJ.bl (iteY rfl (TJ.and (TJ.cmp (EJ.of (Ev.nm (.i 5)) (EJ.of (Ev.nm (.i 3)) (CmpJ.inDict (by nofun) (TrJ.bl (iteN rfl (iteF (SsJ.nl (SsJ.nl (SsJ.nl ?_))))))))))))))))))))))))))))))))))))))))))))))))))))))))))))
  all_goals first
    | exact PyProof.noPylong_small (by decide)
    | decide
    | exact IntMulOk.of_left (by decide)
    | exact IntMulOk.of_right (by decide)
    | (simp_all [lawOne, flipI, clearI, bitOf]; done)
    | (unfold lawOne at h; try unfold flipI at h; try unfold clearI at h; try unfold bitOf at h
       (try simp only [if_true, if_false, or_true, true_or, and_true, List.any_cons, List.any_nil, Bool.or_false, Bool.or_eq_true, Bool.or_eq_false_iff, beq_iff_eq, beq_eq_false_iff_ne, decide_eq_true_eq, decide_eq_false_iff_not] at *)
       repeat (first | rw [if_pos (by first | trivial | lia | decide)] at h | rw [if_neg (by first | trivial | lia | decide)] at h)
       exact h)
theorem turned_5_true (X : Ctx W) {r_ : FrD} {f v : Int} {m bd : Nat} {o : Option Int} (hb : σ[bd]? = some (.dict bitsD)) {Q : Fl → Rho → List CO → Prop}
    (h : Q .next ([("flags", some (.int (lawOne true v f 5))), ("numbers", some (.ref m)), ("is_reversed", some (.bool true)), ("bits", some (.ref bd)), ("number", some (ov o)), ("one", some (.int 5)), ("value", some (.int v)), ("kind", some (.int (kindOf f)))] : Rho) σ) :
    SJ W d (F_law_turned r_) (stAt (forBody (stAt (forBody (stAt D_law_turned.body 1)) 0)) 1) ([("flags", some (.int f)), ("numbers", some (.ref m)), ("is_reversed", some (.bool true)), ("bits", some (.ref bd)), ("number", some (ov o)), ("one", some (.int 5)), ("value", some (.int v)), ("kind", some (.int (kindOf f)))] : Rho) σ Q := by
  have hW := X.ok
  refine (SJ.ite (TJ.or (TJ.and (TJ.plain (EJ.of (Ev.nm (.i 2)) (TrJ.bl (iteY rfl (TJ.and (TJ.cmp (EJ.of (Ev.nm (.i 6)) (EJ.of Ev.ci (CmpJ.eq (TrJ.bl (iteB (fun hc1 => (TJ.and (TJ.cmp (EJ.of (Ev.nm (.i 5)) (EJ.of (Ev.tu (LEv.cs Ev.ci (LEv.cs Ev.ci (LEv.cs Ev.ci (LEv.cs Ev.ci LEv.nl)))) (lb rfl)) (CmpJ.inTup [1, 4, 5, 7] rfl (TrJ.bl (iteY rfl (TJ.and_nil (iteT (iteT (SsJ.cs (SJ.iteF (TEv.cmp (Ev.nm (.i 5)) Ev.ci CmpE.eq) rfl (SsJ.cs (SJ.sn (EJ.binop (EJ.of (Ev.nm .zx) (EJ.ite (TJ.cmp (EJ.of (Ev.fmod (Ev.fdiv (Ev.nm .zx) (Ev.subDict (Ev.nm (.i 3)) (Ev.nm (.i 5)) (by nofun) rfl) (by decide) ?_) Ev.ci ?_) (EJ.of Ev.ci (CmpJ.eq (TrJ.bl (iteB (fun hc2 => (EJ.of (Ev.subDict (Ev.nm (.i 3)) (Ev.nm (.i 5)) (by nofun) rfl) (OpJ.add (AJ.nm .zx rfl (SsJ.nl (SsJ.nl ?_)))))) (fun hc2 => (EJ.of (Ev.neg (Ev.subDict (Ev.nm (.i 3)) (Ev.nm (.i 5)) (by nofun) rfl)) (OpJ.add (AJ.nm .zx rfl (SsJ.nl (SsJ.nl ?_)))))))))))))))))))))))))))))) (fun hc1 => (iteF (TJ.or (TJ.and (TJ.plain (EJ.of (Ev.nm (.i 2)) (TrJ.bl (iteY rfl (TJ.and (TJ.chain (EJ.of (Ev.nm (.i 6)) (ChJ.link (EJ.of (Ev.nm (.i 5)) (CmpJ.eq (TrJ.bl (iteB (fun hc3 => (ChJ.last (EJ.of Ev.ci (CmpJ.gt (TrJ.bl (iteY rfl (TJ.and_nil (iteT (iteT (SsJ.cs (SJ.iteF (TEv.cmp (Ev.nm (.i 5)) Ev.ci CmpE.eq) rfl (SsJ.cs (SJ.sn (EJ.binop (EJ.of (Ev.nm .zx) (EJ.ite (TJ.cmp (EJ.of (Ev.fmod (Ev.fdiv (Ev.nm .zx) (Ev.subDict (Ev.nm (.i 3)) (Ev.nm (.i 5)) (by nofun) rfl) (by decide) ?_) Ev.ci ?_) (EJ.of Ev.ci (CmpJ.eq (TrJ.bl (iteB (fun hc4 => (EJ.of (Ev.subDict (Ev.nm (.i 3)) (Ev.nm (.i 5)) (by nofun) rfl) (OpJ.add (AJ.nm .zx rfl (SsJ.nl (SsJ.nl ?_)))))) (fun hc4 => (EJ.of (Ev.neg (Ev.subDict (Ev.nm (.i 3)) (Ev.nm (.i 5)) (by nofun) rfl)) (OpJ.add (AJ.nm .zx rfl (SsJ.nl (SsJ.nl ?_)))))))))))))))))))))))))))) (fun hc3 => (iteF (iteF (TJ.or_nil (iteF (SsJ.cs (SJ.ite (TJ.and (TJ.not (TJ.plain (EJ.of (Ev.nm (.i 2)) (TrJ.bl (iteN rfl (iteF (SsJ.cs (SJ.ite (TJ.and (TJ.not (TJ.plain (EJ.of (Ev.nm (.i 2)) (TrJ.bl (iteN rfl (iteF (SsJ.nl (SsJ.nl (SsJ.nl ?_))))))))))))))))))))))))))))))))))))))))))))))))))))))))
  all_goals first
    | exact PyProof.noPylong_small (by decide)
    | decide
    | exact IntMulOk.of_left (by decide)
    | exact IntMulOk.of_right (by decide)
    | (simp_all [lawOne, flipI, clearI, bitOf]; done)
    | (unfold lawOne at h; try unfold flipI at h; try unfold clearI at h; try unfold bitOf at h
       (try simp only [if_true, if_false, or_true, true_or, and_true, List.any_cons, List.any_nil, Bool.or_false, Bool.or_eq_true, Bool.or_eq_false_iff, beq_iff_eq, beq_eq_false_iff_ne, decide_eq_true_eq, decide_eq_false_iff_not] at *)
       repeat (first | rw [if_pos (by first | trivial | lia | decide)] at h | rw [if_neg (by first | trivial | lia | decide)] at h)
       exact h)
theorem turned_5_false (X : Ctx W) {r_ : FrD} {f v : Int} {m bd : Nat} {o : Option Int} (hb : σ[bd]? = some (.dict bitsD)) {Q : Fl → Rho → List CO → Prop}
    (h : Q .next ([("flags", some (.int (lawOne false v f 5))), ("numbers", some (.ref m)), ("is_reversed", some (.bool false)), ("bits", some (.ref bd)), ("number", some (ov o)), ("one", some (.int 5)), ("value", some (.int v)), ("kind", some (.int (kindOf f)))] : Rho) σ) :
    SJ W d (F_law_turned r_) (stAt (forBody (stAt (forBody (stAt D_law_turned.body 1)) 0)) 1) ([("flags", some (.int f)), ("numbers", some (.ref m)), ("is_reversed", some (.bool false)), ("bits", some (.ref bd)), ("number", some (ov o)), ("one", some (.int 5)), ("value", some (.int v)), ("kind", some (.int (kindOf f)))] : Rho) σ Q := by
  have hW := X.ok
  refine (SJ.ite (TJ.or (TJ.and (TJ.plain (EJ.of (Ev.nm (.i 2)) (TrJ.bl (iteN rfl (iteF (TJ.or (TJ.and (TJ.plain (EJ.of (Ev.nm (.i 2)) (TrJ.bl (iteN rfl (iteF (TJ.or_nil (iteF (SsJ.cs (SJ.ite (TJ.and (TJ.not (TJ.plain (EJ.of (Ev.nm (.i 2)) (TrJ.bl (iteY rfl (TJ.and (TJ.cmp (EJ.of (Ev.nm (.i 5)) (EJ.of Ev.ci (CmpJ.eq (TrJ.bl (iteN rfl (iteF (SsJ.cs (SJ.ite (TJ.and (TJ.not (TJ.plain (EJ.of (Ev.nm (.i 2)) (TrJ.bl (iteY rfl (TJ.and (TJ.cmp (EJ.of (Ev.nm (.i 5)) (EJ.of (Ev.nm (.i 3)) (CmpJ.inDict (by nofun) (TrJ.bl (iteY rfl (TJ.and (TJ.cmp (EJ.of (Ev.nm (.i 6)) (EJ.tuple (LJ.cons (EJ.of Ev.ci (LJ.cons (EJ.of (Ev.nm (.i 5)) (LJ.cons (EJ.ite (TJ.cmp (EJ.of (Ev.nm (.i 5)) (EJ.of Ev.ci (CmpJ.eq (TrJ.bl (iteN rfl (EJ.of (Ev.ad Ev.ci (Ev.nm (.i 5))) (LJ.of LEv.nl ⟨(lb rfl), (CmpJ.inTup [0, 5, 25] rfl (TrJ.bl (iteB (fun hc1 => (TJ.and_nil (iteT (SsJ.cs (SJ.sn (EJ.binop (EJ.of (Ev.sb (Ev.nm .zx) (Ev.mul (Ev.fmod (Ev.fdiv (Ev.nm .zx) (Ev.subDict (Ev.nm (.i 3)) (Ev.nm (.i 5)) (by nofun) rfl) (by decide) ?_) Ev.ci ?_) (Ev.subDict (Ev.nm (.i 3)) (Ev.nm (.i 5)) (by nofun) rfl) ?_)) (EJ.ite (TJ.cmp (EJ.of (Ev.nm (.i 6)) (EJ.of (Ev.nm (.i 5)) (CmpJ.eq (TrJ.bl (iteB (fun hc2 => (EJ.of (Ev.subDict (Ev.nm (.i 3)) (Ev.nm (.i 5)) (by nofun) rfl) (OpJ.add (AJ.nm .zx rfl (SsJ.nl (SsJ.nl (SsJ.nl ?_))))))) (fun hc2 => (EJ.of Ev.ci (OpJ.add (AJ.nm .zx rfl (SsJ.nl (SsJ.nl (SsJ.nl ?_))))))))))))))))))))) (fun hc1 => (iteF (SsJ.nl (SsJ.nl (SsJ.nl ?_))))))))⟩))))))))))))))))))))))))))))))))))))))))))))))))))))))))))))))))))
  all_goals first
    | exact PyProof.noPylong_small (by decide)
    | decide
    | exact IntMulOk.of_left (by decide)
    | exact IntMulOk.of_right (by decide)
    | (simp_all [lawOne, flipI, clearI, bitOf]; done)
    | (unfold lawOne at h; try unfold flipI at h; try unfold clearI at h; try unfold bitOf at h
       (try simp only [if_true, if_false, or_true, true_or, and_true, List.any_cons, List.any_nil, Bool.or_false, Bool.or_eq_true, Bool.or_eq_false_iff, beq_iff_eq, beq_eq_false_iff_ne, decide_eq_true_eq, decide_eq_false_iff_not] at *)
       repeat (first | rw [if_pos (by first | trivial | lia | decide)] at h | rw [if_neg (by first | trivial | lia | decide)] at h)
       exact h)
theorem turned_7_true (X : Ctx W) {r_ : FrD} {f v : Int} {m bd : Nat} {o : Option Int} (hb : σ[bd]? = some (.dict bitsD)) {Q : Fl → Rho → List CO → Prop}
    (h : Q .next ([("flags", some (.int (lawOne true v f 7))), ("numbers", some (.ref m)), ("is_reversed", some (.bool true)), ("bits", some (.ref bd)), ("number", some (ov o)), ("one", some (.int 7)), ("value", some (.int v)), ("kind", some (.int (kindOf f)))] : Rho) σ) :
    SJ W d (F_law_turned r_) (stAt (forBody (stAt (forBody (stAt D_law_turned.body 1)) 0)) 1) ([("flags", some (.int f)), ("numbers", some (.ref m)), ("is_reversed", some (.bool true)), ("bits", some (.ref bd)), ("number", some (ov o)), ("one", some (.int 7)), ("value", some (.int v)), ("kind", some (.int (kindOf f)))] : Rho) σ Q := by
  have hW := X.ok
  refine (SJ.ite (TJ.or (TJ.and (TJ.plain (EJ.of (Ev.nm (.i 2)) (TrJ.bl (iteY rfl (TJ.and (TJ.cmp (EJ.of (Ev.nm (.i 6)) (EJ.of Ev.ci (CmpJ.eq (TrJ.bl (iteB (fun hc1 => (TJ.and (TJ.cmp (EJ.of (Ev.nm (.i 5)) (EJ.of (Ev.tu (LEv.cs Ev.ci (LEv.cs Ev.ci (LEv.cs Ev.ci (LEv.cs Ev.ci LEv.nl)))) (lb rfl)) (CmpJ.inTup [1, 4, 5, 7] rfl (TrJ.bl (iteY rfl (TJ.and_nil (iteT (iteT (SsJ.cs (SJ.iteF (TEv.cmp (Ev.nm (.i 5)) Ev.ci CmpE.eq) rfl (SsJ.cs (SJ.sn (EJ.binop (EJ.of (Ev.nm .zx) (EJ.ite (TJ.cmp (EJ.of (Ev.fmod (Ev.fdiv (Ev.nm .zx) (Ev.subDict (Ev.nm (.i 3)) (Ev.nm (.i 5)) (by nofun) rfl) (by decide) ?_) Ev.ci ?_) (EJ.of Ev.ci (CmpJ.eq (TrJ.bl (iteB (fun hc2 => (EJ.of (Ev.subDict (Ev.nm (.i 3)) (Ev.nm (.i 5)) (by nofun) rfl) (OpJ.add (AJ.nm .zx rfl (SsJ.nl (SsJ.nl ?_)))))) (fun hc2 => (EJ.of (Ev.neg (Ev.subDict (Ev.nm (.i 3)) (Ev.nm (.i 5)) (by nofun) rfl)) (OpJ.add (AJ.nm .zx rfl (SsJ.nl (SsJ.nl ?_)))))))))))))))))))))))))))))) (fun hc1 => (iteF (TJ.or (TJ.and (TJ.plain (EJ.of (Ev.nm (.i 2)) (TrJ.bl (iteY rfl (TJ.and (TJ.chain (EJ.of (Ev.nm (.i 6)) (ChJ.link (EJ.of (Ev.nm (.i 5)) (CmpJ.eq (TrJ.bl (iteB (fun hc3 => (ChJ.last (EJ.of Ev.ci (CmpJ.gt (TrJ.bl (iteY rfl (TJ.and_nil (iteT (iteT (SsJ.cs (SJ.iteF (TEv.cmp (Ev.nm (.i 5)) Ev.ci CmpE.eq) rfl (SsJ.cs (SJ.sn (EJ.binop (EJ.of (Ev.nm .zx) (EJ.ite (TJ.cmp (EJ.of (Ev.fmod (Ev.fdiv (Ev.nm .zx) (Ev.subDict (Ev.nm (.i 3)) (Ev.nm (.i 5)) (by nofun) rfl) (by decide) ?_) Ev.ci ?_) (EJ.of Ev.ci (CmpJ.eq (TrJ.bl (iteB (fun hc4 => (EJ.of (Ev.subDict (Ev.nm (.i 3)) (Ev.nm (.i 5)) (by nofun) rfl) (OpJ.add (AJ.nm .zx rfl (SsJ.nl (SsJ.nl ?_)))))) (fun hc4 => (EJ.of (Ev.neg (Ev.subDict (Ev.nm (.i 3)) (Ev.nm (.i 5)) (by nofun) rfl)) (OpJ.add (AJ.nm .zx rfl (SsJ.nl (SsJ.nl ?_)))))))))))))))))))))))))))) (fun hc3 => (iteF (iteF (TJ.or_nil (iteF (SsJ.cs (SJ.ite (TJ.and (TJ.not (TJ.plain (EJ.of (Ev.nm (.i 2)) (TrJ.bl (iteN rfl (iteF (SsJ.cs (SJ.ite (TJ.and (TJ.not (TJ.plain (EJ.of (Ev.nm (.i 2)) (TrJ.bl (iteN rfl (iteF (SsJ.nl (SsJ.nl (SsJ.nl ?_))))))))))))))))))))))))))))))))))))))))))))))))))))))))
  all_goals first
    | exact PyProof.noPylong_small (by decide)
    | decide
    | exact IntMulOk.of_left (by decide)
    | exact IntMulOk.of_right (by decide)
    | (simp_all [lawOne, flipI, clearI, bitOf]; done)
    | (unfold lawOne at h; try unfold flipI at h; try unfold clearI at h; try unfold bitOf at h
       (try simp only [if_true, if_false, or_true, true_or, and_true, List.any_cons, List.any_nil, Bool.or_false, Bool.or_eq_true, Bool.or_eq_false_iff, beq_iff_eq, beq_eq_false_iff_ne, decide_eq_true_eq, decide_eq_false_iff_not] at *)
       repeat (first | rw [if_pos (by first | trivial | lia | decide)] at h | rw [if_neg (by first | trivial | lia | decide)] at h)
       exact h)
theorem turned_7_false (X : Ctx W) {r_ : FrD} {f v : Int} {m bd : Nat} {o : Option Int} (hb : σ[bd]? = some (.dict bitsD)) {Q : Fl → Rho → List CO → Prop}
    (h : Q .next ([("flags", some (.int (lawOne false v f 7))), ("numbers", some (.ref m)), ("is_reversed", some (.bool false)), ("bits", some (.ref bd)), ("number", some (ov o)), ("one", some (.int 7)), ("value", some (.int v)), ("kind", some (.int (kindOf f)))] : Rho) σ) :
    SJ W d (F_law_turned r_) (stAt (forBody (stAt (forBody (stAt D_law_turned.body 1)) 0)) 1) ([("flags", some (.int f)), ("numbers", some (.ref m)), ("is_reversed", some (.bool false)), ("bits", some (.ref bd)), ("number", some (ov o)), ("one", some (.int 7)), ("value", some (.int v)), ("kind", some (.int (kindOf f)))] : Rho) σ Q := by
  have hW := X.ok
  refine (SJ.ite (TJ.or (TJ.and (TJ.plain (EJ.of (Ev.nm (.i 2)) (TrJ.bl (iteN rfl (iteF (TJ.or (TJ.and (TJ.plain (EJ.of (Ev.nm (.i 2)) (TrJ.bl (iteN rfl (iteF (TJ.or_nil (iteF (SsJ.cs (SJ.ite (TJ.and (TJ.not (TJ.plain (EJ.of (Ev.nm (.i 2)) (TrJ.bl (iteY rfl (TJ.and (TJ.cmp (EJ.of (Ev.nm (.i 5)) (EJ.of Ev.ci (CmpJ.eq (TrJ.bl (iteN rfl (iteF (SsJ.cs (SJ.ite (TJ.and (TJ.not (TJ.plain (EJ.of (Ev.nm (.i 2)) (TrJ.bl (iteY rfl (TJ.and (TJ.cmp (EJ.of (Ev.nm (.i 5)) (EJ.of (Ev.nm (.i 3)) (CmpJ.inDict (by nofun) (TrJ.bl (iteY rfl (TJ.and (TJ.cmp (EJ.of (Ev.nm (.i 6)) (EJ.tuple (LJ.cons (EJ.of Ev.ci (LJ.cons (EJ.of (Ev.nm (.i 5)) (LJ.cons (EJ.ite (TJ.cmp (EJ.of (Ev.nm (.i 5)) (EJ.of Ev.ci (CmpJ.eq (TrJ.bl (iteN rfl (EJ.of (Ev.ad Ev.ci (Ev.nm (.i 5))) (LJ.of LEv.nl ⟨(lb rfl), (CmpJ.inTup [0, 7, 27] rfl (TrJ.bl (iteB (fun hc1 => (TJ.and_nil (iteT (SsJ.cs (SJ.sn (EJ.binop (EJ.of (Ev.sb (Ev.nm .zx) (Ev.mul (Ev.fmod (Ev.fdiv (Ev.nm .zx) (Ev.subDict (Ev.nm (.i 3)) (Ev.nm (.i 5)) (by nofun) rfl) (by decide) ?_) Ev.ci ?_) (Ev.subDict (Ev.nm (.i 3)) (Ev.nm (.i 5)) (by nofun) rfl) ?_)) (EJ.ite (TJ.cmp (EJ.of (Ev.nm (.i 6)) (EJ.of (Ev.nm (.i 5)) (CmpJ.eq (TrJ.bl (iteB (fun hc2 => (EJ.of (Ev.subDict (Ev.nm (.i 3)) (Ev.nm (.i 5)) (by nofun) rfl) (OpJ.add (AJ.nm .zx rfl (SsJ.nl (SsJ.nl (SsJ.nl ?_))))))) (fun hc2 => (EJ.of Ev.ci (OpJ.add (AJ.nm .zx rfl (SsJ.nl (SsJ.nl (SsJ.nl ?_))))))))))))))))))))) (fun hc1 => (iteF (SsJ.nl (SsJ.nl (SsJ.nl ?_))))))))⟩))))))))))))))))))))))))))))))))))))))))))))))))))))))))))))))))))
  all_goals first
    | exact PyProof.noPylong_small (by decide)
    | decide
    | exact IntMulOk.of_left (by decide)
    | exact IntMulOk.of_right (by decide)
    | (simp_all [lawOne, flipI, clearI, bitOf]; done)
    | (unfold lawOne at h; try unfold flipI at h; try unfold clearI at h; try unfold bitOf at h
       (try simp only [if_true, if_false, or_true, true_or, and_true, List.any_cons, List.any_nil, Bool.or_false, Bool.or_eq_true, Bool.or_eq_false_iff, beq_iff_eq, beq_eq_false_iff_ne, decide_eq_true_eq, decide_eq_false_iff_not] at *)
       repeat (first | rw [if_pos (by first | trivial | lia | decide)] at h | rw [if_neg (by first | trivial | lia | decide)] at h)
       exact h)
theorem turned_8_true (X : Ctx W) {r_ : FrD} {f v : Int} {m bd : Nat} {o : Option Int} (hb : σ[bd]? = some (.dict bitsD)) {Q : Fl → Rho → List CO → Prop}
    (h : Q .next ([("flags", some (.int (lawOne true v f 8))), ("numbers", some (.ref m)), ("is_reversed", some (.bool true)), ("bits", some (.ref bd)), ("number", some (ov o)), ("one", some (.int 8)), ("value", some (.int v)), ("kind", some (.int (kindOf f)))] : Rho) σ) :
    SJ W d (F_law_turned r_) (stAt (forBody (stAt (forBody (stAt D_law_turned.body 1)) 0)) 1) ([("flags", some (.int f)), ("numbers", some (.ref m)), ("is_reversed", some (.bool true)), ("bits", some (.ref bd)), ("number", some (ov o)), ("one", some (.int 8)), ("value", some (.int v)), ("kind", some (.int (kindOf f)))] : Rho) σ Q := by
  have hW := X.ok
  refine (SJ.ite (TJ.or (TJ.and (TJ.plain (EJ.of (Ev.nm (.i 2)) (TrJ.bl (iteY rfl (TJ.and (TJ.cmp (EJ.of (Ev.nm (.i 6)) (EJ.of Ev.ci (CmpJ.eq (TrJ.bl (iteB (fun hc1 => (TJ.and (TJ.cmp (EJ.of (Ev.nm (.i 5)) (EJ.of (Ev.tu (LEv.cs Ev.ci (LEv.cs Ev.ci (LEv.cs Ev.ci (LEv.cs Ev.ci LEv.nl)))) (lb rfl)) (CmpJ.inTup [1, 4, 5, 7] rfl (TrJ.bl (iteN rfl (iteF (TJ.or (TJ.and (TJ.plain (EJ.of (Ev.nm (.i 2)) (TrJ.bl (iteY rfl (TJ.and (TJ.chain (EJ.of (Ev.nm (.i 6)) (ChJ.link (EJ.of (Ev.nm (.i 5)) (CmpJ.eq (TrJ.bl (iteB (fun hc2 => (ChJ.last (EJ.of Ev.ci (CmpJ.gt (TrJ.bl (iteY rfl (TJ.and_nil (iteT (iteT (SsJ.cs (SJ.iteF (TEv.cmp (Ev.nm (.i 5)) Ev.ci CmpE.eq) rfl (SsJ.cs (SJ.sn (EJ.binop (EJ.of (Ev.nm .zx) (EJ.ite (TJ.cmp (EJ.of (Ev.fmod (Ev.fdiv (Ev.nm .zx) (Ev.subDict (Ev.nm (.i 3)) (Ev.nm (.i 5)) (by nofun) rfl) (by decide) ?_) Ev.ci ?_) (EJ.of Ev.ci (CmpJ.eq (TrJ.bl (iteB (fun hc3 => (EJ.of (Ev.subDict (Ev.nm (.i 3)) (Ev.nm (.i 5)) (by nofun) rfl) (OpJ.add (AJ.nm .zx rfl (SsJ.nl (SsJ.nl ?_)))))) (fun hc3 => (EJ.of (Ev.neg (Ev.subDict (Ev.nm (.i 3)) (Ev.nm (.i 5)) (by nofun) rfl)) (OpJ.add (AJ.nm .zx rfl (SsJ.nl (SsJ.nl ?_)))))))))))))))))))))))))))) (fun hc2 => (iteF (iteF (TJ.or_nil (iteF (SsJ.cs (SJ.ite (TJ.and (TJ.not (TJ.plain (EJ.of (Ev.nm (.i 2)) (TrJ.bl (iteN rfl (iteF (SsJ.cs (SJ.ite (TJ.and (TJ.not (TJ.plain (EJ.of (Ev.nm (.i 2)) (TrJ.bl (iteN rfl (iteF (SsJ.nl (SsJ.nl (SsJ.nl ?_))))))))))))))))))))))))))))))))))))))))))))))))) (fun hc1 => (iteF (TJ.or (TJ.and (TJ.plain (EJ.of (Ev.nm (.i 2)) (TrJ.bl (iteY rfl (TJ.and (TJ.chain (EJ.of (Ev.nm (.i 6)) (ChJ.link (EJ.of (Ev.nm (.i 5)) (CmpJ.eq (TrJ.bl (iteB (fun hc4 => (ChJ.last (EJ.of Ev.ci (CmpJ.gt (TrJ.bl (iteY rfl (TJ.and_nil (iteT (iteT (SsJ.cs (SJ.iteF (TEv.cmp (Ev.nm (.i 5)) Ev.ci CmpE.eq) rfl (SsJ.cs (SJ.sn (EJ.binop (EJ.of (Ev.nm .zx) (EJ.ite (TJ.cmp (EJ.of (Ev.fmod (Ev.fdiv (Ev.nm .zx) (Ev.subDict (Ev.nm (.i 3)) (Ev.nm (.i 5)) (by nofun) rfl) (by decide) ?_) Ev.ci ?_) (EJ.of Ev.ci (CmpJ.eq (TrJ.bl (iteB (fun hc5 => (EJ.of (Ev.subDict (Ev.nm (.i 3)) (Ev.nm (.i 5)) (by nofun) rfl) (OpJ.add (AJ.nm .zx rfl (SsJ.nl (SsJ.nl ?_)))))) (fun hc5 => (EJ.of (Ev.neg (Ev.subDict (Ev.nm (.i 3)) (Ev.nm (.i 5)) (by nofun) rfl)) (OpJ.add (AJ.nm .zx rfl (SsJ.nl (SsJ.nl ?_)))))))))))))))))))))))))))) (fun hc4 => (iteF (iteF (TJ.or_nil (iteF (SsJ.cs (SJ.ite (TJ.and (TJ.not (TJ.plain (EJ.of (Ev.nm (.i 2)) (TrJ.bl (iteN rfl (iteF (SsJ.cs (SJ.ite (TJ.and (TJ.not (TJ.plain (EJ.of (Ev.nm (.i 2)) (TrJ.bl (iteN rfl (iteF (SsJ.nl (SsJ.nl (SsJ.nl ?_))))))))))))))))))))))))))))))))))))))))))))))))))))))))
  all_goals first
    | exact PyProof.noPylong_small (by decide)
    | decide
    | exact IntMulOk.of_left (by decide)
    | exact IntMulOk.of_right (by decide)
    | (simp_all [lawOne, flipI, clearI, bitOf]; done)
    | (unfold lawOne at h; try unfold flipI at h; try unfold clearI at h; try unfold bitOf at h
       (try simp only [if_true, if_false, or_true, true_or, and_true, List.any_cons, List.any_nil, Bool.or_false, Bool.or_eq_true, Bool.or_eq_false_iff, beq_iff_eq, beq_eq_false_iff_ne, decide_eq_true_eq, decide_eq_false_iff_not] at *)
       repeat (first | rw [if_pos (by first | trivial | lia | decide)] at h | rw [if_neg (by first | trivial | lia | decide)] at h)
       exact h)
theorem turned_8_false (X : Ctx W) {r_ : FrD} {f v : Int} {m bd : Nat} {o : Option Int} (hb : σ[bd]? = some (.dict bitsD)) {Q : Fl → Rho → List CO → Prop}
    (h : Q .next ([("flags", some (.int (lawOne false v f 8))), ("numbers", some (.ref m)), ("is_reversed", some (.bool false)), ("bits", some (.ref bd)), ("number", some (ov o)), ("one", some (.int 8)), ("value", some (.int v)), ("kind", some (.int (kindOf f)))] : Rho) σ) :
    SJ W d (F_law_turned r_) (stAt (forBody (stAt (forBody (stAt D_law_turned.body 1)) 0)) 1) ([("flags", some (.int f)), ("numbers", some (.ref m)), ("is_reversed", some (.bool false)), ("bits", some (.ref bd)), ("number", some (ov o)), ("one", some (.int 8)), ("value", some (.int v)), ("kind", some (.int (kindOf f)))] : Rho) σ Q := by
  have hW := X.ok
  refine (SJ.ite (TJ.or (TJ.and (TJ.plain (EJ.of (Ev.nm (.i 2)) (TrJ.bl (iteN rfl (iteF (TJ.or (TJ.and (TJ.plain (EJ.of (Ev.nm (.i 2)) (TrJ.bl (iteN rfl (iteF (TJ.or_nil (iteF (SsJ.cs (SJ.ite (TJ.and (TJ.not (TJ.plain (EJ.of (Ev.nm (.i 2)) (TrJ.bl (iteY rfl (TJ.and (TJ.cmp (EJ.of (Ev.nm (.i 5)) (EJ.of Ev.ci (CmpJ.eq (TrJ.bl (iteN rfl (iteF (SsJ.cs (SJ.ite (TJ.and (TJ.not (TJ.plain (EJ.of (Ev.nm (.i 2)) (TrJ.bl (iteY rfl (TJ.and (TJ.cmp (EJ.of (Ev.nm (.i 5)) (EJ.of (Ev.nm (.i 3)) (CmpJ.inDict (by nofun) (TrJ.bl (iteY rfl (TJ.and (TJ.cmp (EJ.of (Ev.nm (.i 6)) (EJ.tuple (LJ.cons (EJ.of Ev.ci (LJ.cons (EJ.of (Ev.nm (.i 5)) (LJ.cons (EJ.ite (TJ.cmp (EJ.of (Ev.nm (.i 5)) (EJ.of Ev.ci (CmpJ.eq (TrJ.bl (iteN rfl (EJ.of (Ev.ad Ev.ci (Ev.nm (.i 5))) (LJ.of LEv.nl ⟨(lb rfl), (CmpJ.inTup [0, 8, 28] rfl (TrJ.bl (iteB (fun hc1 => (TJ.and_nil (iteT (SsJ.cs (SJ.sn (EJ.binop (EJ.of (Ev.sb (Ev.nm .zx) (Ev.mul (Ev.fmod (Ev.fdiv (Ev.nm .zx) (Ev.subDict (Ev.nm (.i 3)) (Ev.nm (.i 5)) (by nofun) rfl) (by decide) ?_) Ev.ci ?_) (Ev.subDict (Ev.nm (.i 3)) (Ev.nm (.i 5)) (by nofun) rfl) ?_)) (EJ.ite (TJ.cmp (EJ.of (Ev.nm (.i 6)) (EJ.of (Ev.nm (.i 5)) (CmpJ.eq (TrJ.bl (iteB (fun hc2 => (EJ.of (Ev.subDict (Ev.nm (.i 3)) (Ev.nm (.i 5)) (by nofun) rfl) (OpJ.add (AJ.nm .zx rfl (SsJ.nl (SsJ.nl (SsJ.nl ?_))))))) (fun hc2 => (EJ.of Ev.ci (OpJ.add (AJ.nm .zx rfl (SsJ.nl (SsJ.nl (SsJ.nl ?_))))))))))))))))))))) (fun hc1 => (iteF (SsJ.nl (SsJ.nl (SsJ.nl ?_))))))))⟩))))))))))))))))))))))))))))))))))))))))))))))))))))))))))))))))))
  all_goals first
    | exact PyProof.noPylong_small (by decide)
    | decide
    | exact IntMulOk.of_left (by decide)
    | exact IntMulOk.of_right (by decide)
    | (simp_all [lawOne, flipI, clearI, bitOf]; done)
    | (unfold lawOne at h; try unfold flipI at h; try unfold clearI at h; try unfold bitOf at h
       (try simp only [if_true, if_false, or_true, true_or, and_true, List.any_cons, List.any_nil, Bool.or_false, Bool.or_eq_true, Bool.or_eq_false_iff, beq_iff_eq, beq_eq_false_iff_ne, decide_eq_true_eq, decide_eq_false_iff_not] at *)
       repeat (first | rw [if_pos (by first | trivial | lia | decide)] at h | rw [if_neg (by first | trivial | lia | decide)] at h)
       exact h)
theorem six_item {j : Nat} {c : V} (h : (six.map V.int)[j]? = some c) : ∃ one, six[j]? = some one ∧ c = .int one := by
  rw [List.getElem?_map] at h
  obtain ⟨one, h1, rfl⟩ := Option.map_eq_some_iff.mp h
  exact ⟨one, h1, rfl⟩
theorem turned_one (X : Ctx W) {r_ : FrD} {f v one : Int} {m bd : Nat} {o : Option Int} {rev : Bool} (h1 : one ∈ six) (hb : σ[bd]? = some (.dict bitsD)) {Q : Fl → Rho → List CO → Prop}
    (h : Q .next ([("flags", some (.int (lawOne rev v f one))), ("numbers", some (.ref m)), ("is_reversed", some (.bool rev)), ("bits", some (.ref bd)), ("number", some (ov o)), ("one", some (.int one)), ("value", some (.int v)), ("kind", some (.int (kindOf f)))] : Rho) σ) :
    SJ W d (F_law_turned r_) (stAt (forBody (stAt (forBody (stAt D_law_turned.body 1)) 0)) 1) ([("flags", some (.int f)), ("numbers", some (.ref m)), ("is_reversed", some (.bool rev)), ("bits", some (.ref bd)), ("number", some (ov o)), ("one", some (.int one)), ("value", some (.int v)), ("kind", some (.int (kindOf f)))] : Rho) σ Q := by
  simp only [six, List.mem_cons, List.not_mem_nil, or_false] at h1
  cases rev <;> rcases h1 with rfl | rfl | rfl | rfl | rfl | rfl
  · exact turned_0_false X hb h
  · exact turned_1_false X hb h
  · exact turned_4_false X hb h
  · exact turned_5_false X hb h
  · exact turned_7_false X hb h
  · exact turned_8_false X hb h
  · exact turned_0_true X hb h
  · exact turned_1_true X hb h
  · exact turned_4_true X hb h
  · exact turned_5_true X hb h
  · exact turned_7_true X hb h
  · exact turned_8_true X hb h
noncomputable def forTgt : PySem.Stmt → Xp
  | .For t _ _ _ _ => t
  | _ => default
theorem turned_loop (X : Ctx W) {r_ : FrD} {m bd : Nat} {os : List (Option Int)} {fO : Int} {rev : Bool} {Src : List CO → Prop} (hs : Src σ) (hb : ∀ τ, Same σ τ [] → Src τ) (hbd : σ[bd]? = some (.dict bitsD)) {Q : Fl → Rho → List CO → Prop}
    (h : ∀ oA oB oM oD τ, Same σ τ [] → Q .next ([("flags", some (.int (os.foldl (fun f o => lawNum rev f (o.getD 0)) fO))), ("numbers", some (.ref m)), ("is_reversed", some (.bool rev)), ("bits", some (.ref bd)), ("number", oA), ("one", oB), ("value", oM), ("kind", oD)] : Rho) τ) :
    LoopJ W d (F_law_turned r_) (forTgt (stAt D_law_turned.body 1)) (forBody (stAt D_law_turned.body 1)) Src Q (os.map ov) ([("flags", some (.int fO)), ("numbers", some (.ref m)), ("is_reversed", some (.bool rev)), ("bits", some (.ref bd)), ("number", none), ("one", none), ("value", none), ("kind", none)] : Rho) σ := by
  have hW := X.ok
  refine LoopJ.idx (fun i ρ τ => ∃ oA oB oM oD, ρ = ([("flags", some (.int ((os.take i).foldl (fun f o => lawNum rev f (o.getD 0)) fO))), ("numbers", some (.ref m)), ("is_reversed", some (.bool rev)), ("bits", some (.ref bd)), ("number", oA), ("one", oB), ("value", oM), ("kind", oD)] : Rho) ∧ Same σ τ []) ⟨none, none, none, none, rfl, .refl⟩ ?_ ?_
  · rintro i c ρ τ hc ⟨oA, oB, oM, oD, rfl, hst⟩
    rw [List.getElem?_map] at hc
    obtain ⟨o, ho, rfl⟩ := Option.map_eq_some_iff.mp hc
    have e := foldl_take (fun f o => lawNum rev f (o.getD 0)) fO ho
    generalize (os.take i).foldl (fun f o => lawNum rev f (o.getD 0)) fO = f at *
    refine (AJ.nm (.i 4) rfl (SsJ.cs (SJ.for (ItE.of (EJ.list (LJ.of (LEv.cs Ev.ci (LEv.cs Ev.ci (LEv.cs Ev.ci (LEv.cs Ev.ci (LEv.cs Ev.ci (LEv.cs Ev.ci LEv.nl)))))) ⟨(lb rfl), (ItV.list kN ?_)⟩))))))
    refine LoopJ.idx (fun j ρ τ' => ∃ oB oM oD, ρ = ([("flags", some (.int ((six.take j).foldl (lawOne rev (o.getD 0)) f))), ("numbers", some (.ref m)), ("is_reversed", some (.bool rev)), ("bits", some (.ref bd)), ("number", some (ov o)), ("one", oB), ("value", oM), ("kind", oD)] : Rho) ∧ Same σ τ' [] ∧ τ'[τ.length]? = some (.list (six.map V.int))) ⟨oB, oM, oD, rfl, hst.trans .app, kN⟩ ?_ ?_
    · rintro j c ρ τ' hcc ⟨oB, oM, oD, rfl, hst', hsx⟩
      obtain ⟨one, h1, rfl⟩ := six_item hcc
      have e2 := foldl_take (lawOne rev (o.getD 0)) f h1
      generalize (six.take j).foldl (lawOne rev (o.getD 0)) f = f' at *
      cases o with
      | none =>
        refine (AJ.nm (.i 5) rfl (SsJ.cs (SJ.assignSwap (names := ["value", "kind"]) (EJ.tuple (LJ.cons (EJ.ite (TJ.cmp (EJ.of (Ev.nm (.i 4)) (EJ.of Ev.cnone (CmpJ.isNone rfl (TrJ.bl (iteY rfl (EJ.of Ev.ci (LJ.of (LEv.cs (Ev.fmod (Ev.fdiv (Ev.nm .zx) Ev.ci (by decide) ?_) Ev.ci ?_) LEv.nl) ⟨(lb rfl), ⟨_, _, rfl, rfl, (PutAll.cons (.i 7) (PutAll.cons (.i 6) PutAll.nil)), ?_⟩⟩))))))))))) rfl)))
        · exact PyProof.noPylong_small (by decide)
        · decide
        exact SsJ.cs (turned_one X (o := none) (v := 0) (List.mem_of_getElem? h1) (hst'.get hbd (by simp)) (SsJ.nl ⟨hsx, _, _, _, by rw [e2]; rfl, hst', hsx⟩))
      | some v =>
        refine (AJ.nm (.i 5) rfl (SsJ.cs (SJ.assignSwap (names := ["value", "kind"]) (EJ.tuple (LJ.cons (EJ.ite (TJ.cmp (EJ.of (Ev.nm (.i 4)) (EJ.of Ev.cnone (CmpJ.isNone rfl (TrJ.bl (iteN rfl (EJ.of (Ev.nm (.i 4)) (LJ.of (LEv.cs (Ev.fmod (Ev.fdiv (Ev.nm .zx) Ev.ci (by decide) ?_) Ev.ci ?_) LEv.nl) ⟨(lb rfl), ⟨_, _, rfl, rfl, (PutAll.cons (.i 7) (PutAll.cons (.i 6) PutAll.nil)), ?_⟩⟩))))))))))) rfl)))
        · exact PyProof.noPylong_small (by decide)
        · decide
        exact SsJ.cs (turned_one X (o := some v) (v := v) (List.mem_of_getElem? h1) (hst'.get hbd (by simp)) (SsJ.nl ⟨hsx, _, _, _, by rw [e2]; rfl, hst', hsx⟩))
    · rintro ρ τ' ⟨oB, oM, oD, rfl, hst', hsx⟩
      refine SsJ.nl ⟨hb _ hst', some (ov o), oB, oM, oD, ?_, hst'⟩
      rw [e]; rfl
  · rintro ρ τ ⟨oA, oB, oM, oD, rfl, hst⟩
    rw [List.length_map, List.take_length]
    exact h _ _ _ _ _ hst
theorem law_turned (X : Ctx W) {m : Nat} {os : List (Option Int)} {f : Int} {rev : Bool} (hm : σ[m]? = some (.list (os.map ov))) (hlen : os.length ≤ 100) (h : ∀ σ', Same σ σ' [] → Q (.int (lawT rev os f)) σ') : CJ W (d + 1) u_law_turned [.int f, .ref m, .bool rev] σ Q := by
  have hW := X.ok
  refine call.law_turned X fun r_ => ?_
  by_cases hn : os = []
  · have e : lawT rev os f = [none].foldl (fun f o => lawNum rev f (o.getD 0)) f := by rw [lawT, numsL, if_pos hn]
    rw [e] at h
    refine (SsJ.cs (SJ.sn (EJ.dictInts hW rfl (by decide) rfl rfl (by simp) (by decide) (AJ.nm (.i 3) rfl (SsJ.cs (SJ.for (ItE.of (EJ.ite (TJ.cmp (EJ.of (Ev.nm (.i 1)) (EJ.list (LJ.of LEv.nl ⟨(lb rfl), (CmpJ.neNilO (kA (kA hm)) kN (TrJ.bl (iteN (by simp [hn]) (EJ.list (LJ.of (LEv.cs Ev.cnone LEv.nl) ⟨(lb rfl), (ItV.list (by first | exact kA (kA hm) | exact kN) ?_)⟩)))))⟩))))))))))))
    refine turned_loop X (os := [none]) kN (fun τ hs => hs.get kN (by simp)) (kA (kA kN)) fun oA oB oM oD τ hs => ?_
    refine (SsJ.cs (SJ.retE (Ev.nm .zx) ?_))
    exact h _ ((Same.app.trans (Same.app.trans .app)).trans hs)
  · have e : lawT rev os f = os.foldl (fun f o => lawNum rev f (o.getD 0)) f := by rw [lawT, numsL, if_neg hn]
    rw [e] at h
    refine (SsJ.cs (SJ.sn (EJ.dictInts hW rfl (by decide) rfl rfl (by simp) (by decide) (AJ.nm (.i 3) rfl (SsJ.cs (SJ.for (ItE.of (EJ.ite (TJ.cmp (EJ.of (Ev.nm (.i 1)) (EJ.list (LJ.of LEv.nl ⟨(lb rfl), (CmpJ.neNilO (kA (kA hm)) kN (TrJ.bl (iteY (by simp [hn]) (EJ.of (Ev.nm (.i 1)) (ItV.list (by first | exact kA (kA hm) | exact kN) ?_)))))⟩))))))))))))
    refine turned_loop X (os := os) (kA (kA hm)) (fun τ hs => hs.get (kA (kA hm)) (by simp)) (kA kN) fun oA oB oM oD τ hs => ?_
    refine (SsJ.cs (SJ.retE (Ev.nm .zx) ?_))
    exact h _ ((Same.app.trans .app).trans hs)
end
noncomputable def repStep (tf : Pen → Pen) (l0 l : List Cell) (j : Nat) : List Cell :=
  let x := at_ l0 j
  let l1 := if 0 < x.w then l.set j ⟨x.c, x.w, tf x.p, x.k⟩ else l
  if x.w = 2 then l1.set (j + 1) ⟨[], 0, tf x.p, x.k⟩ else l1
noncomputable def repRow (tf : Pen → Pen) (f : Nat) (l0 : List Cell) (n : Nat) : List Cell := (List.range n).foldl (fun l i => repStep tf l0 l (f + i)) l0
theorem repStep_len (tf : Pen → Pen) (l0 l : List Cell) (k : Nat) : (repStep tf l0 l k).length = l.length := by
  unfold repStep; dsimp only; split <;> split <;> simp
theorem repRow_succ (tf : Pen → Pen) (f n : Nat) (l : List Cell) : repRow tf f l (n + 1) = repStep tf l (repRow tf f l n) (f + n) := by
  unfold repRow; rw [List.range_succ, List.foldl_append]; rfl
theorem repRow_len (tf : Pen → Pen) (f n : Nat) (l : List Cell) : (repRow tf f l n).length = l.length := by
  induction n with
  | zero => rfl
  | succ n ih => rw [repRow_succ, repStep_len, ih]
noncomputable def lawP (rev : Bool) (os : List (Option Int)) (p : Pen) : Pen := ⟨lawT rev os p.f, p.b, p.g⟩
noncomputable def repenL (g : List (List Cell)) (u A : Lim) (st : Bool) (tf : Pen → Pen) : List (List Cell) := rowsMap g A.t (A.b + 1) fun q y => repRow tf (stF u A st q) y (stL u A st q + 1 - stF u A st q)
section
variable {W : Wd} {d : Nat} {σ : List CO} {Q : V → List CO → Prop}
theorem law_repenned (X : Ctx W) {n nn : Nat} {rs : List Nat} {g : List (List Cell)} {u A : Lim} {st rev : Bool} {os : List (Option Int)} (S : Shw σ n rs g) (hA : A.Ok) (hu : u.Ok) (hos : σ[nn]? = some (.list (os.map ov))) (hol : os.length ≤ 100) (hw2 : ∀ q, q < 3 → W2 (row g q))
    (h : ∀ σ' m rs', Same σ σ' [] → σ.length ≤ m → (∀ k ∈ rs', σ.length ≤ k) → Shw σ' m rs' (repenL g u A st (lawP rev os)) → Q (.ref m) σ') : CJ W (d + 4) u_law_repenned [.ref n, A.v, u.v, .bool st, .ref nn, .bool rev] σ Q := by
  have hW := X.ok
  refine call.law_repenned X fun r_ => ?_
  have hn := S.out
  have h1 := hA.tb
  have h2 := hA.b3
  have h3 := hA.lr
  have h4 := hA.r6
  have h5 := hu.lr
  have h6 := hu.r6
  have eb : (A.b : Int) + 1 = ((A.b + 1 : Nat) : Int) := by simp
  refine (SsJ.cs (SJ.assignComp _ [] [("list", .raw (.type "list"))] (CmpOk.fm [] ["list"] rfl (by decide +kernel) rfl rfl trivial ⟨X.g_list, trivial⟩) rfl rfl (ItE.ofE (Ev.nm .zx) (ItV.list (by nofun) ⟨?_, kA hn, _, (.i 6), fun C => copies S ?_ ?_⟩))))
  · rw [List.length_map, S.len, sizeLine_eq]; lia
  · intro m l τ R hm hl hR
    refine (EJ.ce (Ev.gl hW .zx) Keeps.type (LEv.cs (Ev.nm .zx) LEv.nl) (CJ.listList hm ?_ ?_))
    · exact hl
    · exact hR
  intro σA rsA hsA SA hmA ndA
  refine (SsJ.cs (SJ.sn (EJ.of (Ev.nm (.i 1)) (AJ.tuple (AsJ.cons (AJ.nm (.i 7) rfl (AsJ.cons (AJ.nm (.i 8) rfl (AsJ.cons (AJ.nm (.i 9) rfl (AsJ.cons (AJ.nm (.i 10) rfl (AsJ.nil (SsJ.cs (SJ.for (ItE.callE (Ev.gl hW .zx) Keeps.type (LEv.cs (Ev.nm (.i 7)) (LEv.cs (Ev.ad (Ev.nm (.i 9)) Ev.ci) LEv.nl)) (ItC.range2 ?_ ?_)))))))))))))))))
  · rw [eb]; exact sn h1 h2
  rw [eb]
  refine LoopJ.idx (fun j ρ τ => ∃ o : Nat → Option V, ρ = ([("shown", some (.ref n)), ("area", some A.v), ("limits", some u.v), ("is_stream", some (.bool st)), ("numbers", some (.ref nn)), ("is_reversed", some (.bool rev)), ("found", some (.ref σ.length)), ("top", some (.int A.t)), ("left", some (.int A.l)), ("bottom", some (.int A.b)), ("right", some (.int A.r)), ("row", o 0), ("first", o 1), ("last", o 2), ("column", o 3), ("codes", o 4), ("width", o 5), ("pen", o 6), ("is_guarded", o 7)] : Rho) ∧ Same σ τ [] ∧
    Shw τ σ.length rsA (rowsMap g A.t (A.t + j) fun q y => repRow (lawP rev os) (stF u A st q) y (stL u A st q + 1 - stF u A st q))) ⟨fun _ => none, rfl, hsA, by rw [Nat.add_zero, rowsMap_zero]; exact SA⟩ ?_ ?_
  · rintro j c ρ τ hc ⟨o, rfl, hs, S'⟩
    obtain ⟨hj, rfl⟩ := rangeV_get hc
    have hr3 : A.t + j < 3 := ar3 hj h2
    have hrow : row (rowsMap g A.t (A.t + j) fun q y => repRow (lawP rev os) (stF u A st q) y (stL u A st q + 1 - stF u A st q)) (A.t + j) = row g (A.t + j) := rowsMap_at (S.lg.symm ▸ hr3)
    have hst := rowsMap_step (g := g) (t := A.t) (m := A.t + j) (f := fun q y => repRow (lawP rev os) (stF u A st q) y (stL u A st q + 1 - stF u A st q)) (Nat.le_add_right _ _) (S.lg.symm ▸ hr3)
    have S0 := S.move hs (by simp) (by simp)
    have k0 := S0.out
    have k1 := S0.row hr3
    have k2 := S'.out
    have k3 := S'.row hr3
    have k4 := hs.get hos (by simp)
    rw [hrow] at k3
    have hlen := S.w _ hr3
    have hw2' := hw2 _ hr3
    have hid : rowId rs (A.t + j) ≠ rowId rsA (A.t + j) := fun q => by
      have a1 := hmA _ (S'.mem hr3)
      have a2 := (gq (S.row hr3)).1
      lia
    have hid2 : σ.length ≠ rowId rsA (A.t + j) := fun q => S'.ap (q ▸ S'.mem hr3)
    have hid3 : nn ≠ rowId rsA (A.t + j) := fun q => by
      have a1 := hmA _ (S'.mem hr3)
      have a2 := (gq hos).1
      lia
    have hid4 : n ≠ rowId rsA (A.t + j) := fun q => by
      have a1 := hmA _ (S'.mem hr3)
      have a2 := (gq hn).1
      lia
    refine AJ.nm (.i 11) rfl ?_
    refine SsJ.mid (fun ρ τ' => τ = τ' ∧ ρ = ([("shown", some (.ref n)), ("area", some A.v), ("limits", some u.v), ("is_stream", some (.bool st)), ("numbers", some (.ref nn)), ("is_reversed", some (.bool rev)), ("found", some (.ref σ.length)), ("top", some (.int A.t)), ("left", some (.int A.l)), ("bottom", some (.int A.b)), ("right", some (.int A.r)), ("row", some (.int ((A.t + j : Nat) : Int))), ("first", some (.int (stF u A st (A.t + j) : Nat))), ("last", o 2), ("column", o 3), ("codes", o 4), ("width", o 5), ("pen", o 6), ("is_guarded", o 7)] : Rho)) ?_ ?_
    · cases st with
      | false =>
        refine (SJ.sn (EJ.ite (TJ.and (TJ.plain (EJ.of (Ev.nm (.i 3)) (TrJ.bl (iteN rfl (iteF (EJ.of (Ev.nm (.i 8)) (AJ.nm (.i 12) rfl ?_))))))))))
        exact ⟨rfl, by rw [stF, if_neg (by simp)]; rfl⟩
      | true =>
        by_cases hq : A.t < A.t + j
        · refine (SJ.sn (EJ.ite (TJ.and (TJ.plain (EJ.of (Ev.nm (.i 3)) (TrJ.bl (iteY rfl (TJ.and (TJ.cmp (EJ.of (Ev.nm (.i 11)) (EJ.of (Ev.nm (.i 7)) (CmpJ.gt (TrJ.bl (iteY (by simp; lia) (TJ.and_nil (iteT (EJ.of (Ev.subTup (Ev.nm (.i 2)) Ev.ci rfl (lb rfl)) (AJ.nm (.i 12) rfl ?_))))))))))))))))))
          exact ⟨rfl, by rw [stF, if_pos ⟨rfl, hq⟩]; rfl⟩
        · refine (SJ.sn (EJ.ite (TJ.and (TJ.plain (EJ.of (Ev.nm (.i 3)) (TrJ.bl (iteY rfl (TJ.and (TJ.cmp (EJ.of (Ev.nm (.i 11)) (EJ.of (Ev.nm (.i 7)) (CmpJ.gt (TrJ.bl (iteN (by simp; lia) (iteF (EJ.of (Ev.nm (.i 8)) (AJ.nm (.i 12) rfl ?_)))))))))))))))))
          exact ⟨rfl, by rw [stF, if_neg (fun z => hq z.2)]; rfl⟩
    rintro ρA τ' ⟨rfl, rfl⟩
    refine SsJ.mid (fun ρ τ' => τ = τ' ∧ ρ = ([("shown", some (.ref n)), ("area", some A.v), ("limits", some u.v), ("is_stream", some (.bool st)), ("numbers", some (.ref nn)), ("is_reversed", some (.bool rev)), ("found", some (.ref σ.length)), ("top", some (.int A.t)), ("left", some (.int A.l)), ("bottom", some (.int A.b)), ("right", some (.int A.r)), ("row", some (.int ((A.t + j : Nat) : Int))), ("first", some (.int (stF u A st (A.t + j) : Nat))), ("last", some (.int (stL u A st (A.t + j) : Nat))), ("column", o 3), ("codes", o 4), ("width", o 5), ("pen", o 6), ("is_guarded", o 7)] : Rho)) ?_ ?_
    · cases st with
      | false =>
        refine (SJ.sn (EJ.ite (TJ.and (TJ.plain (EJ.of (Ev.nm (.i 3)) (TrJ.bl (iteN rfl (iteF (EJ.of (Ev.nm (.i 10)) (AJ.nm (.i 13) rfl ?_))))))))))
        exact ⟨rfl, by rw [stL, if_neg (by simp)]; rfl⟩
      | true =>
        by_cases hq : A.t + j < A.b
        · refine (SJ.sn (EJ.ite (TJ.and (TJ.plain (EJ.of (Ev.nm (.i 3)) (TrJ.bl (iteY rfl (TJ.and (TJ.cmp (EJ.of (Ev.nm (.i 11)) (EJ.of (Ev.nm (.i 9)) (CmpJ.lt (TrJ.bl (iteY (by simp; lia) (TJ.and_nil (iteT (EJ.of (Ev.subTup (Ev.nm (.i 2)) Ev.ci rfl (lb rfl)) (AJ.nm (.i 13) rfl ?_))))))))))))))))))
          exact ⟨rfl, by rw [stL, if_pos ⟨rfl, hq⟩]; rfl⟩
        · refine (SJ.sn (EJ.ite (TJ.and (TJ.plain (EJ.of (Ev.nm (.i 3)) (TrJ.bl (iteY rfl (TJ.and (TJ.cmp (EJ.of (Ev.nm (.i 11)) (EJ.of (Ev.nm (.i 9)) (CmpJ.lt (TrJ.bl (iteN (by simp; lia) (iteF (EJ.of (Ev.nm (.i 10)) (AJ.nm (.i 13) rfl ?_)))))))))))))))))
          exact ⟨rfl, by rw [stL, if_neg (fun z => hq z.2)]; rfl⟩
    rintro ρA τ' ⟨rfl, rfl⟩
    have hf6 : stF u A st (A.t + j) < 6 := stF_lt hu hA
    have hl6 : stL u A st (A.t + j) < 6 := stL_lt hu hA
    generalize stF u A st (A.t + j) = f at *
    generalize stL u A st (A.t + j) = l at *
    have el : (l : Int) + 1 = ((l + 1 : Nat) : Int) := by simp
    refine (SsJ.cs (SJ.for (ItE.callE (Ev.gl hW .zx) Keeps.type (LEv.cs (Ev.nm (.i 12)) (LEv.cs (Ev.ad (Ev.nm (.i 13)) Ev.ci) LEv.nl)) (ItC.range2 ?_ ?_))))
    · rw [el]; exact sm (Nat.le_trans (Nat.le_of_lt hf6) (by decide)) (Nat.le_trans hl6 (by decide))
    rw [el]
    generalize hl0 : row g (A.t + j) = l0 at *
    refine LoopJ.idx (fun z ρ τ' => ∃ p : Nat → Option V, ρ = ([("shown", some (.ref n)), ("area", some A.v), ("limits", some u.v), ("is_stream", some (.bool st)), ("numbers", some (.ref nn)), ("is_reversed", some (.bool rev)), ("found", some (.ref σ.length)), ("top", some (.int A.t)), ("left", some (.int A.l)), ("bottom", some (.int A.b)), ("right", some (.int A.r)), ("row", some (.int ((A.t + j : Nat) : Int))), ("first", some (.int f)), ("last", some (.int l)), ("column", p 0), ("codes", p 1), ("width", p 2), ("pen", p 3), ("is_guarded", p 4)] : Rho) ∧ Upd τ τ' (rowId rsA (A.t + j)) (repRow (lawP rev os) f l0 z)) ⟨fun n => o (n + 3), rfl, .self k3⟩ ?_ ?_
    · rintro z c ρ τ' hcc ⟨p, rfl, hu⟩
      obtain ⟨hz, rfl⟩ := rangeV_get hcc
      have hpl := repRow_len (lawP rev os) f z l0
      have hsu := repRow_succ (lawP rev os) f z l0
      generalize repRow (lawP rev os) f l0 z = pl at *
      have hzl : f + z < l0.length := hlen.symm ▸ ar3 hz hl6
      have g0 := at_get (l := l0) (k := f + z) hzl
      have q1 := hu.1.get k1 (by simpa using hid)
      have q2 := hu.1.get k2 (by simpa using hid2)
      have q4 := hu.1.get k4 (by simpa using hid3)
      have q0 := hu.1.get k0 (by simpa using hid4)
      have hr1 : (rsA.map V.ref).length ≤ 100000 := by rw [List.length_map, S'.len]; decide
      have hr0 : (rs.map V.ref).length ≤ 100000 := by rw [List.length_map, S.len]; decide
      have hr2 : (l0.map Cell.v).length ≤ 100000 := by rw [List.length_map]; lia
      have ek : ((f + z : Nat) : Int) + 1 = ((f + z + 1 : Nat) : Int) := by simp
      unfold repStep at hsu
      dsimp only at hsu
      by_cases hw2 : (at_ l0 (f + z)).w = 2
      · have hk1 := hw2' (f + z) hzl hw2
        rw [if_pos hw2, if_pos (by lia)] at hsu
        refine (AJ.nm (.i 14) rfl (SsJ.cs (SJ.sn (EJ.of (Ev.subList (Ev.subList (Ev.nm .zx) (Ev.nm (.i 11)) (by first | assumption | exact kS ‹_› | exact get_ne ‹_› hid2.symm) (S0.item rfl hr3) ?_) (Ev.nm (.i 14)) (by first | assumption | exact kS ‹_› | exact get_ne ‹_› hid2.symm) (item_nat rfl g0) ?_) (AJ.tuple (AsJ.cons (AJ.nm (.i 15) rfl (AsJ.cons (AJ.nm (.i 16) rfl (AsJ.cons (AJ.nm (.i 17) rfl (AsJ.cons (AJ.nm (.i 18) rfl (AsJ.nil (SsJ.cs (SJ.iteT (TEv.cmp (Ev.nm (.i 16)) Ev.ci CmpE.gt) (by simp; lia) (SsJ.cs (SJ.sn (EJ.binop (EJ.tuple (LJ.cons (EJ.ce (Ev.gl hW (.i 1)) X.k_law_turned (LEv.cs (Ev.subTup (Ev.nm (.i 17)) Ev.ci rfl (lb rfl)) (LEv.cs (Ev.nm (.i 4)) (LEv.cs (Ev.nm (.i 5)) LEv.nl))) (CJ.up (d' := 1) (law_turned X q4 hol fun σB hsB => have q2 := hsB.get q2 (by simp); have hu := hu.same hsB; have q3 := hu.2; (LJ.of LEv.nl ⟨(lb rfl), (EJ.slice (EJ.of (Ev.nm (.i 17)) (EPJ.some (EJ.of Ev.ci (EPJ.none (SlJ.tupFrom (a := _) ?_ ?_ ?_ (OpJ.addTup ?_ (AJ.nm (.i 17) rfl (SsJ.cs (SJ.sn (EJ.of (Ev.tu (LEv.cs (Ev.nm (.i 15)) (LEv.cs (Ev.nm (.i 16)) (LEv.cs (Ev.nm (.i 17)) (LEv.cs (Ev.nm (.i 18)) LEv.nl)))) (lb rfl)) (AJ.cellE (Ev.subList (Ev.nm (.i 6)) (Ev.nm (.i 11)) (by first | assumption | exact kS ‹_› | exact get_ne ‹_› hid2.symm) (S'.item rfl hr3) ?_) (Ev.nm (.i 14)) (rfl : _ = Cell.v ⟨(at_ l0 (f + z)).c, (at_ l0 (f + z)).w, lawP rev os (at_ l0 (f + z)).p, (at_ l0 (f + z)).k⟩) (by first | assumption | exact rfl) (by first | assumption | exact kS ‹_› | exact get_ne ‹_› hid2.symm) ?_ ?_ (SsJ.nl (SsJ.cs (SJ.iteT (TEv.cmp (Ev.nm (.i 16)) Ev.ci CmpE.eq) (by simp [hw2]) (SsJ.cs (SJ.sn (EJ.of (Ev.tu (LEv.cs (Ev.tu LEv.nl (lb rfl)) (LEv.cs Ev.ci (LEv.cs (Ev.nm (.i 17)) (LEv.cs (Ev.nm (.i 18)) LEv.nl)))) (lb rfl)) (AJ.cellE (Ev.subList (Ev.nm (.i 6)) (Ev.nm (.i 11)) (by first | assumption | exact kS ‹_› | exact get_ne ‹_› hid2.symm) (S'.item rfl hr3) ?_) (Ev.ad (Ev.nm (.i 14)) Ev.ci) (rfl : _ = Cell.v ⟨[], 0, lawP rev os (at_ l0 (f + z)).p, (at_ l0 (f + z)).k⟩) (by first | assumption | exact rfl) (by first | assumption | exact kS ‹_› | exact get_ne ‹_› hid2.symm) ?_ ?_ (SsJ.nl (SsJ.nl ?_)))))))))))))))))))))⟩)) dd)))))))))))))))))))))))
        all_goals first | exact hr1 | exact hr0 | exact hr2 | (simp; lia) | lia | exact lb rfl | skip
        exact ⟨trivial, ol [_, _, _, _, _], rfl, by rw [hsu]; exact hu.set.set⟩
      · rw [if_neg hw2] at hsu
        by_cases hw0 : 0 < (at_ l0 (f + z)).w
        · rw [if_pos hw0] at hsu
          refine (AJ.nm (.i 14) rfl (SsJ.cs (SJ.sn (EJ.of (Ev.subList (Ev.subList (Ev.nm .zx) (Ev.nm (.i 11)) (by first | assumption | exact kS ‹_› | exact get_ne ‹_› hid2.symm) (S0.item rfl hr3) ?_) (Ev.nm (.i 14)) (by first | assumption | exact kS ‹_› | exact get_ne ‹_› hid2.symm) (item_nat rfl g0) ?_) (AJ.tuple (AsJ.cons (AJ.nm (.i 15) rfl (AsJ.cons (AJ.nm (.i 16) rfl (AsJ.cons (AJ.nm (.i 17) rfl (AsJ.cons (AJ.nm (.i 18) rfl (AsJ.nil (SsJ.cs (SJ.iteT (TEv.cmp (Ev.nm (.i 16)) Ev.ci CmpE.gt) (by simpa using hw0) (SsJ.cs (SJ.sn (EJ.binop (EJ.tuple (LJ.cons (EJ.ce (Ev.gl hW (.i 1)) X.k_law_turned (LEv.cs (Ev.subTup (Ev.nm (.i 17)) Ev.ci rfl (lb rfl)) (LEv.cs (Ev.nm (.i 4)) (LEv.cs (Ev.nm (.i 5)) LEv.nl))) (CJ.up (d' := 1) (law_turned X q4 hol fun σB hsB => have q2 := hsB.get q2 (by simp); have hu := hu.same hsB; have q3 := hu.2; (LJ.of LEv.nl ⟨(lb rfl), (EJ.slice (EJ.of (Ev.nm (.i 17)) (EPJ.some (EJ.of Ev.ci (EPJ.none (SlJ.tupFrom (a := _) ?_ ?_ ?_ (OpJ.addTup ?_ (AJ.nm (.i 17) rfl (SsJ.cs (SJ.sn (EJ.of (Ev.tu (LEv.cs (Ev.nm (.i 15)) (LEv.cs (Ev.nm (.i 16)) (LEv.cs (Ev.nm (.i 17)) (LEv.cs (Ev.nm (.i 18)) LEv.nl)))) (lb rfl)) (AJ.cellE (Ev.subList (Ev.nm (.i 6)) (Ev.nm (.i 11)) (by first | assumption | exact kS ‹_› | exact get_ne ‹_› hid2.symm) (S'.item rfl hr3) ?_) (Ev.nm (.i 14)) (rfl : _ = Cell.v ⟨(at_ l0 (f + z)).c, (at_ l0 (f + z)).w, lawP rev os (at_ l0 (f + z)).p, (at_ l0 (f + z)).k⟩) (by first | assumption | exact rfl) (by first | assumption | exact kS ‹_› | exact get_ne ‹_› hid2.symm) ?_ ?_ (SsJ.nl (SsJ.cs (SJ.iteF (TEv.cmp (Ev.nm (.i 16)) Ev.ci CmpE.eq) (by simpa using hw2) (SsJ.nl (SsJ.nl ?_)))))))))))))))))⟩)) dd)))))))))))))))))))))))
          all_goals first | exact hr1 | exact hr0 | exact hr2 | (simp; lia) | lia | exact lb rfl | skip
          exact ⟨trivial, ol [_, _, _, _, _], rfl, by rw [hsu]; exact hu.set⟩
        · rw [if_neg hw0] at hsu
          refine (AJ.nm (.i 14) rfl (SsJ.cs (SJ.sn (EJ.of (Ev.subList (Ev.subList (Ev.nm .zx) (Ev.nm (.i 11)) (by first | assumption | exact kS ‹_› | exact get_ne ‹_› hid2.symm) (S0.item rfl hr3) ?_) (Ev.nm (.i 14)) (by first | assumption | exact kS ‹_› | exact get_ne ‹_› hid2.symm) (item_nat rfl g0) ?_) (AJ.tuple (AsJ.cons (AJ.nm (.i 15) rfl (AsJ.cons (AJ.nm (.i 16) rfl (AsJ.cons (AJ.nm (.i 17) rfl (AsJ.cons (AJ.nm (.i 18) rfl (AsJ.nil (SsJ.cs (SJ.iteF (TEv.cmp (Ev.nm (.i 16)) Ev.ci CmpE.gt) (by simpa using hw0) (SsJ.nl (SsJ.cs (SJ.iteF (TEv.cmp (Ev.nm (.i 16)) Ev.ci CmpE.eq) (by simpa using hw2) (SsJ.nl (SsJ.nl ?_)))))))))))))))))))))
          all_goals first | exact hr1 | exact hr0 | exact hr2 | (simp; omega) | omega | exact lb rfl | skip
          exact ⟨trivial, ol [_, _, _, _, _], rfl, by rw [hsu]; exact hu⟩
    · rintro ρ τ' ⟨p, rfl, hu⟩
      rw [rangeV_len] at hu
      refine SsJ.nl ⟨trivial, ol [_, _, _, _, _, _, _, _], rfl, ⟨Nat.le_trans hs.1 hu.1.1, fun k o _ ho => hu.1.get (hs.get ho (by simp)) fun q => ?_⟩, ?_⟩
      · have a1 := hmA _ (S'.mem hr3)
        have a2 := (gq ho).1
        have a3 := mq q
        lia
      · rw [show A.t + (j + 1) = A.t + j + 1 from rfl, ← hst]
        exact S'.updRow ndA hr3 (by rw [repRow_len]; lia) hu
  · rintro ρ τ ⟨o, rfl, hs, S'⟩
    rw [rangeV_len, are h1] at S'
    refine (SsJ.cs (SJ.retE (Ev.nm (.i 6)) ?_))
    exact h _ _ rsA hs (Nat.le_refl _) (fun k hk => Nat.le_of_lt (hmA k hk)) S'
end
section
variable {W : Wd} {d : Nat} {σ : List CO} {Q : V → List CO → Prop}
theorem Charsets_reset (X : Ctx W) {n : Nat} {v : V} (hn : σ[n]? = some (.inst c_Charsets [("made", v)])) (h : ∀ σ', Same σ σ' [n] → Q .none σ') : CJ W (d + 1) u_Charsets_reset [.ref n] σ Q := by
  have hW := X.ok
  refine call.Charsets_reset X fun r_ => ?_
  refine (SsJ.cs (SJ.sn (EJ.list (LJ.of (LEv.cs (Ev.gl hW .zx) (LEv.cs (Ev.gl hW .zx) (LEv.cs (Ev.gl hW (.i 1)) (LEv.cs (Ev.gl hW (.i 1)) LEv.nl)))) ⟨(lb rfl), (AJ.ta hW (Ev.nm .zx) (by first | assumption | exact kA (by assumption) | exact kS (kA ‹_›) | exact kS (kS (kA ‹_›)) | exact kS (kS (kS (kA ‹_›)))) X.o_Charsets X.a_Charsets_names.take (lb rfl) (SsJ.cs (SJ.sn (EJ.of Ev.ci (AJ.ta hW (Ev.nm .zx) (by first | assumption | exact kA (by assumption) | exact kS (kA ‹_›) | exact kS (kS (kA ‹_›)) | exact kS (kS (kS (kA ‹_›)))) X.o_Charsets X.a_Charsets_left.take (lb rfl) (SsJ.cs (SJ.sn (EJ.of Ev.ci (AJ.ta hW (Ev.nm .zx) (by first | assumption | exact kA (by assumption) | exact kS (kA ‹_›) | exact kS (kS (kA ‹_›)) | exact kS (kS (kS (kA ‹_›)))) X.o_Charsets X.a_Charsets_right.take (lb rfl) (SsJ.cs (SJ.sn (EJ.of Ev.cnone (AJ.ta hW (Ev.nm .zx) (by first | assumption | exact kA (by assumption) | exact kS (kA ‹_›) | exact kS (kS (kA ‹_›)) | exact kS (kS (kS (kA ‹_›)))) X.o_Charsets X.a_Charsets_shift.take (lb rfl) (SsJ.nl ?_))))))))))))))⟩))))
  refine h _ ?_
  repeat (first | exact .app | refine Same.trans ?_ (.set (by simp)))
theorem Charsets_init (X : Ctx W) {n : Nat} (hn : σ[n]? = some (.inst c_Charsets [])) (h : ∀ σ', Same σ σ' [n] → Q .none σ') : CJc W (d + 2) u_Charsets_init [.ref n] σ Q := by
  have hW := X.ok
  refine call.Charsets_init1 X fun r_ => ?_
  have e : ∀ v, putF [] "made" v = ([("made", v)] : List (Sr × V)) := fun v => by kernel_rfl
  have hl : ∀ v, ((σ ++ [CO.dict []]).set n (.inst c_Charsets (putF [] "made" v)))[n]? = some (.inst c_Charsets [("made", v)]) := fun v => by rw [e]; exact kS (kA hn)
  refine (SsJ.cs (SJ.sn (EJ.ite (TJ.cmp (EJ.of (Ev.nm (.i 1)) (EJ.of Ev.cnone (CmpJ.isNone rfl (TrJ.bl (iteY rfl (EJ.dict0 hW (AJ.ta hW (Ev.nm .zx) (by first | exact kA hn | exact hl _) X.o_Charsets X.a_Charsets_made.take (lb rfl) (SsJ.cs (SJ.expr (EJ.meth0E hW (Ev.nm .zx) (by first | exact kA hn | exact hl _) X.m_Charsets_reset (by kernel_rfl) (CJ.up (d' := 1) (Charsets_reset X (hl _) fun σ' hs => (SsJ.nl ?_)) dd)))))))))))))))
  exact h _ ((Same.app.trans (.set (by simp))).trans hs)
theorem Cursor_init (X : Ctx W) {n : Nat} (hn : σ[n]? = some (.inst c_Cursor [])) (h : ∀ σ', Same σ σ' [n] → σ'[n]? = some (cursorO ⟨0, 0, false, ⟨0, -1, 0⟩, false, false⟩) → Q .none σ') : CJc W (d + 1) u_Cursor_init [.ref n] σ Q := by
  have hW := X.ok
  refine call.Cursor_init X fun r_ => ?_
  refine (SsJ.cs (SJ.sn (EJ.of Ev.ci (AJ.ta hW (Ev.nm .zx) (by first | exact hn | exact kS hn | exact kS (kS hn) | exact kS (kS (kS hn)) | exact kS (kS (kS (kS hn))) | exact kS (kS (kS (kS (kS hn))))) X.o_Cursor X.a_Cursor_row.take (lb rfl) (SsJ.cs (SJ.sn (EJ.of Ev.ci (AJ.ta hW (Ev.nm .zx) (by first | exact hn | exact kS hn | exact kS (kS hn) | exact kS (kS (kS hn)) | exact kS (kS (kS (kS hn))) | exact kS (kS (kS (kS (kS hn))))) X.o_Cursor X.a_Cursor_column.take (lb rfl) (SsJ.cs (SJ.sn (EJ.of Ev.cbool (AJ.ta hW (Ev.nm .zx) (by first | exact hn | exact kS hn | exact kS (kS hn) | exact kS (kS (kS hn)) | exact kS (kS (kS (kS hn))) | exact kS (kS (kS (kS (kS hn))))) X.o_Cursor X.a_Cursor_is_waiting.take (lb rfl) (SsJ.cs (SJ.sn (EJ.of (Ev.gl hW .zx) (AJ.ta hW (Ev.nm .zx) (by first | exact hn | exact kS hn | exact kS (kS hn) | exact kS (kS (kS hn)) | exact kS (kS (kS (kS hn))) | exact kS (kS (kS (kS (kS hn))))) X.o_Cursor X.a_Cursor_pen.take (lb rfl) (SsJ.cs (SJ.sn (EJ.of Ev.cbool (AJ.ta hW (Ev.nm .zx) (by first | exact hn | exact kS hn | exact kS (kS hn) | exact kS (kS (kS hn)) | exact kS (kS (kS (kS hn))) | exact kS (kS (kS (kS (kS hn))))) X.o_Cursor X.a_Cursor_is_origin.take (lb rfl) (SsJ.cs (SJ.sn (EJ.of Ev.cbool (AJ.ta hW (Ev.nm .zx) (by first | exact hn | exact kS hn | exact kS (kS hn) | exact kS (kS (kS hn)) | exact kS (kS (kS (kS hn))) | exact kS (kS (kS (kS (kS hn))))) X.o_Cursor X.a_Cursor_is_guarding.take (lb rfl) (SsJ.nl ?_)))))))))))))))))))))))))
  simp only [List.set_set]
  refine h _ (.set (by simp)) ?_
  rw [kS hn]
  kernel_rfl
theorem Margins_init (X : Ctx W) {n : Nat} (hn : σ[n]? = some (.inst c_Margins [])) (h : ∀ σ', Same σ σ' [n] → σ'[n]? = some (marginsO whole) → Q .none σ') : CJc W (d + 1) u_Margins_init [.ref n, .int 3, .int 6] σ Q := by
  have hW := X.ok
  refine call.Margins_init X fun r_ => ?_
  refine (SsJ.cs (SJ.sn (EJ.of (Ev.nm (.i 1)) (AJ.ta hW (Ev.nm .zx) (by first | exact hn | exact kS hn | exact kS (kS hn) | exact kS (kS (kS hn)) | exact kS (kS (kS (kS hn))) | exact kS (kS (kS (kS (kS hn))))) X.o_Margins X.a_Margins_rows.take (lb rfl) (SsJ.cs (SJ.sn (EJ.of (Ev.nm (.i 2)) (AJ.ta hW (Ev.nm .zx) (by first | exact hn | exact kS hn | exact kS (kS hn) | exact kS (kS (kS hn)) | exact kS (kS (kS (kS hn))) | exact kS (kS (kS (kS (kS hn))))) X.o_Margins X.a_Margins_columns.take (lb rfl) (SsJ.cs (SJ.sn (EJ.of Ev.ci (AJ.ta hW (Ev.nm .zx) (by first | exact hn | exact kS hn | exact kS (kS hn) | exact kS (kS (kS hn)) | exact kS (kS (kS (kS hn))) | exact kS (kS (kS (kS (kS hn))))) X.o_Margins X.a_Margins_top.take (lb rfl) (SsJ.cs (SJ.sn (EJ.of (Ev.sb (Ev.nm (.i 1)) Ev.ci) (AJ.ta hW (Ev.nm .zx) (by first | exact hn | exact kS hn | exact kS (kS hn) | exact kS (kS (kS hn)) | exact kS (kS (kS (kS hn))) | exact kS (kS (kS (kS (kS hn))))) X.o_Margins X.a_Margins_bottom.take (lb rfl) (SsJ.cs (SJ.sn (EJ.of Ev.ci (AJ.ta hW (Ev.nm .zx) (by first | exact hn | exact kS hn | exact kS (kS hn) | exact kS (kS (kS hn)) | exact kS (kS (kS (kS hn))) | exact kS (kS (kS (kS (kS hn))))) X.o_Margins X.a_Margins_left.take (lb rfl) (SsJ.cs (SJ.sn (EJ.of (Ev.sb (Ev.nm (.i 2)) Ev.ci) (AJ.ta hW (Ev.nm .zx) (by first | exact hn | exact kS hn | exact kS (kS hn) | exact kS (kS (kS hn)) | exact kS (kS (kS (kS hn))) | exact kS (kS (kS (kS (kS hn))))) X.o_Margins X.a_Margins_right.take (lb rfl) (SsJ.nl ?_)))))))))))))))))))))))))
  simp only [List.set_set]
  refine h _ (.set (by simp)) ?_
  rw [kS hn]
  kernel_rfl
theorem Tabs_put_eighths (X : Ctx W) {n : Nat} {v : V} (hn : σ[n]? = some (.inst c_Tabs [("columns", .int 6), ("stops", v)])) (h : Q .none σ) : CJ W (d + 1) u_Tabs_put_eighths [.ref n, .int 0] σ Q := by
  have hW := X.ok
  refine call.Tabs_put_eighths X fun r_ => ?_
  refine (SsJ.cs (SJ.for (ItE.callE (Ev.gl hW .zx) Keeps.type (LEv.cs (Ev.gl hW (.i 1)) (LEv.cs (Ev.ta hW X.o_Tabs (Ev.nm .zx) X.a_Tabs_columns.find (by nofun) (nd_Tabs rfl) .zx rfl) (LEv.cs (Ev.gl hW (.i 1)) LEv.nl))) (ItC.range3 (by decide) ?_ ?_ ?_ ?_))))
  · decide
  · decide
  · decide
  · exact SsJ.nl h
theorem Tabs_init (X : Ctx W) {n : Nat} (hn : σ[n]? = some (.inst c_Tabs [])) (h : ∀ σ', Same σ σ' [n] → Q .none σ') : CJc W (d + 2) u_Tabs_init [.ref n, .int 6] σ Q := by
  have hW := X.ok
  refine call.Tabs_init X fun r_ => ?_
  have e : ∀ v, putF (putF [] "columns" (.int 6)) "stops" v = ([("columns", .int 6), ("stops", v)] : List (Sr × V)) := fun v => by kernel_rfl
  have hl : ∀ v, (((σ.set n (.inst c_Tabs (putF [] "columns" (.int 6)))) ++ [CO.dict []]).set n (.inst c_Tabs (putF (putF [] "columns" (.int 6)) "stops" v)))[n]? = some (.inst c_Tabs [("columns", .int 6), ("stops", v)]) := fun v => by rw [e]; exact kS (kA (kS hn))
  refine (SsJ.cs (SJ.sn (EJ.of (Ev.nm (.i 1)) (AJ.ta hW (Ev.nm .zx) (by first | exact hn | exact kA (kS hn) | exact hl _) X.o_Tabs X.a_Tabs_columns.take (lb rfl) (SsJ.cs (SJ.sn (EJ.dict0 hW (AJ.ta hW (Ev.nm .zx) (by first | exact hn | exact kA (kS hn) | exact hl _) X.o_Tabs X.a_Tabs_stops.take (lb rfl) (SsJ.cs (SJ.expr (EJ.methE hW (Ev.nm .zx) (by first | exact hn | exact kA (kS hn) | exact hl _) X.m_Tabs_put_eighths (by kernel_rfl) (LEv.cs Ev.ci LEv.nl) (CJ.up (d' := 1) (Tabs_put_eighths X (hl _) (SsJ.nl ?_)) dd))))))))))))
  exact h _ (((Same.set (by simp)).trans .app).trans (.set (by simp)))
theorem Line_init (X : Ctx W) {n : Nat} (hn : σ[n]? = some (.inst c_Line [])) (h : ∀ σ' b, Same σ σ' [n] → σ.length ≤ b → σ'[n]? = some (lineO b) → σ'[b]? = some (.list ((List.replicate 6 (Pen.blank ⟨0, -1, 0⟩)).map Cell.v)) → Q .none σ') : CJc W (d + 4) u_Line_init [.ref n, .int 6, Pen.v ⟨0, -1, 0⟩] σ Q := by
  have hW := X.ok
  refine call.Line_init X fun r_ => ?_
  refine (SsJ.cs (SJ.sn (EJ.ce (Ev.gl hW .zx) X.k_line_blanks (LEv.cs (Ev.nm (.i 1)) (LEv.cs (Ev.nm (.i 2)) LEv.nl)) (CJ.up (d' := 3) (line_blanks X (p := ⟨0, -1, 0⟩) (by decide) (by decide) (AJ.ta hW (Ev.nm .zx) (by first | exact hn | exact kA (kA hn) | exact kS (kA (kA hn)) | exact kS (kS (kA (kA hn)))) X.o_Line X.a_Line_cells.take (lb rfl) (SsJ.cs (SJ.sn (EJ.of Ev.cbool (AJ.ta hW (Ev.nm .zx) (by first | exact hn | exact kA (kA hn) | exact kS (kA (kA hn)) | exact kS (kS (kA (kA hn)))) X.o_Line X.a_Line_is_wrapped.take (lb rfl) (SsJ.cs (SJ.sn (EJ.of (Ev.subTup (Ev.gl hW (.i 1)) Ev.ci rfl (lb rfl)) (AJ.ta hW (Ev.nm .zx) (by first | exact hn | exact kA (kA hn) | exact kS (kA (kA hn)) | exact kS (kS (kA (kA hn)))) X.o_Line X.a_Line_size.take (lb rfl) (SsJ.nl ?_))))))))))) dd))))
  simp only [List.set_set]
  have hlt := (gq hn).1
  refine h _ (σ.length + 1) (Same.app.trans (Same.app.trans (.set (by simp)))) (by lia) ?_ ?_
  · rw [kS (kA (kA hn))]
    kernel_rfl
  · rw [List.map_replicate]
    refine get_ne ?_ (by lia)
    have el : (σ ++ [CO.list [(Pen.blank ⟨0, -1, 0⟩).v]]).length = σ.length + 1 := by simp
    rw [← el]
    exact kN
end
noncomputable abbrev blanks : List Cell := List.replicate 6 (Pen.blank ⟨0, -1, 0⟩)
noncomputable abbrev grid0 : List (List Cell) := List.replicate 3 blanks
structure Made (σ : List CO) (lo : Nat) (ls bs : List Nat) : Prop where
  len : ls.length = bs.length
  line : ∀ q, q < ls.length → σ[rowId ls q]? = some (lineO (rowId bs q))
  cells : ∀ q, q < ls.length → σ[rowId bs q]? = some (.list (blanks.map Cell.v))
  lol : ∀ a ∈ ls, lo < a
  lob : ∀ a ∈ bs, lo < a
  nd : bs.Nodup
  ap : ∀ a ∈ ls, a ∉ bs
theorem rowId_mem {ls : List Nat} {q : Nat} (h : q < ls.length) : rowId ls q ∈ ls := List.mem_of_getElem? (rowId_get h)
theorem rowId_eq {ls : List Nat} {i : Nat} (hi : i < ls.length) : rowId ls i = ls[i] := by simp [rowId, List.getD_eq_getElem?_getD, hi]
theorem rowId_app {ls ms : List Nat} {q : Nat} (h : q < ls.length) : rowId (ls ++ ms) q = rowId ls q := by
  simp [rowId, List.getD_eq_getElem?_getD, List.getElem?_append_left h]
theorem rowId_last {ls : List Nat} {a : Nat} : rowId (ls ++ [a]) ls.length = a := by
  simp [rowId, List.getD_eq_getElem?_getD]
theorem Made.snoc {σ σ' : List CO} {lo : Nat} {ls bs : List Nat} {a b : Nat} (M : Made σ lo ls bs) (hs : ∀ i o, lo < i → σ[i]? = some o → σ'[i]? = some o) (ha : σ'[a]? = some (lineO b)) (hb : σ'[b]? = some (.list (blanks.map Cell.v))) (hla : lo < a) (hlb : lo < b)
    (na : ∀ x, σ[a]? ≠ some x) (nb : ∀ x, σ[b]? ≠ some x) : Made σ' lo (ls ++ [a]) (bs ++ [b]) := by
  have hab : a ≠ b := fun q => by rw [q, hb] at ha; cases ha
  have aL : a ∉ bs := fun q => by
    obtain ⟨i, hi, e⟩ := List.mem_iff_getElem.mp q
    have z := M.cells i (by rw [M.len]; exact hi)
    rw [rowId_eq hi, e] at z
    exact na _ z
  have bB : b ∉ bs := fun q => by
    obtain ⟨i, hi, e⟩ := List.mem_iff_getElem.mp q
    have z := M.cells i (by rw [M.len]; exact hi)
    rw [rowId_eq hi, e] at z
    exact nb _ z
  have bL : b ∉ ls := fun q => by
    obtain ⟨i, hi, e⟩ := List.mem_iff_getElem.mp q
    have z := M.line i hi
    rw [rowId_eq hi, e] at z
    exact nb _ z
  refine ⟨by simp [M.len], fun q hq => ?_, fun q hq => ?_, fun x hx => ?_, fun x hx => ?_, ?_, fun x hx z => ?_⟩
  · rcases Nat.lt_or_ge q ls.length with h | h
    · rw [rowId_app h, rowId_app (by rw [← M.len]; exact h)]
      exact hs _ _ (M.lol _ (rowId_mem h)) (M.line q h)
    · have : q = ls.length := by simp at hq; lia
      subst this
      rw [rowId_last, M.len, rowId_last]; exact ha
  · rcases Nat.lt_or_ge q ls.length with h | h
    · rw [rowId_app (by rw [← M.len]; exact h)]
      exact hs _ _ (M.lob _ (rowId_mem (by rw [← M.len]; exact h))) (M.cells q h)
    · have : q = ls.length := by simp at hq; lia
      subst this
      rw [M.len, rowId_last]; exact hb
  · rcases List.mem_append.mp hx with h | h
    · exact M.lol x h
    · rw [mq h]; exact hla
  · rcases List.mem_append.mp hx with h | h
    · exact M.lob x h
    · rw [mq h]; exact hlb
  · refine List.nodup_append.mpr ⟨M.nd, by simp, fun x hx y hy => ?_⟩
    rw [mq hy]
    exact fun q => bB (q ▸ hx)
  · rcases List.mem_append.mp hx with h | h <;> rcases List.mem_append.mp z with k | k
    · exact M.ap x h k
    · exact bL (mq k ▸ h)
    · exact aL (mq h ▸ k)
    · exact hab ((mq h).symm.trans (mq k))
section
variable {W : Wd} {d : Nat} {σ : List CO} {Q : V → List CO → Prop}
theorem Grid_init (X : Ctx W) {n : Nat} (hn : σ[n]? = some (.inst c_Grid [])) (h : ∀ σ' i, Same σ σ' [n] → i.gr = n → Grd σ' i grid0 → (∀ x ∈ i.c, σ.length ≤ x) → Q .none σ') : CJc W (d + 6) u_Grid_init [.ref n, .int 3, .int 6] σ Q := by
  have hW := X.ok
  refine call.Grid_init X fun r_ => ?_
  have hlt := (gq hn).1
  refine (SsJ.cs (SJ.ite (TJ.or (TJ.cmp (EJ.of (Ev.nm (.i 1)) (EJ.of Ev.ci (CmpJ.lt (TrJ.bl (iteN rfl (TJ.or (TJ.cmp (EJ.of (Ev.nm (.i 2)) (EJ.of Ev.ci (CmpJ.lt (TrJ.bl (iteN rfl (TJ.or_nil (iteF (SsJ.nl (SsJ.cs (SJ.sn (EJ.of (Ev.nm (.i 1)) (AJ.ta hW (Ev.nm .zx) (by first | exact hn | exact kS hn) X.o_Grid X.a_Grid_rows.take (lb rfl) (SsJ.cs (SJ.sn (EJ.of (Ev.nm (.i 2)) (AJ.ta hW (Ev.nm .zx) (by first | exact hn | exact kS hn) X.o_Grid X.a_Grid_columns.take (lb rfl) ?_)))))))))))))))))))))))))))
  have e0 : putF (putF [] "rows" (.int 3)) "columns" (.int 6) = ([("rows", .int 3), ("columns", .int 6)] : List (Sr × V)) := by kernel_rfl
  rw [List.set_set, e0]
  have hs1 : Same σ (σ.set n (.inst c_Grid [("rows", .int 3), ("columns", .int 6)])) [n] := .set (by simp)
  have hn1 : (σ.set n (.inst c_Grid [("rows", .int 3), ("columns", .int 6)]))[n]? = some (.inst c_Grid [("rows", .int 3), ("columns", .int 6)]) := kS hn
  have hl1 : (σ.set n (.inst c_Grid [("rows", .int 3), ("columns", .int 6)])).length = σ.length := by simp
  generalize σ.set n (.inst c_Grid [("rows", .int 3), ("columns", .int 6)]) = σA at *
  refine (SsJ.cs (SJ.sn (EJ.comp _ [("columns", _)] [("Line", .raw (.ref c_Line)), ("PLAIN", .tup [.int 0, .int (-1), .int (-1), .int (-1), .int 0])] (CmpOk.fm ["columns"] ["Line", "PLAIN"] rfl (by decide +kernel) rfl rfl ⟨(.i 2), rfl, trivial⟩ ⟨X.g_Line, X.g_PLAIN, trivial⟩) (ItE.callE (Ev.gl hW .zx) Keeps.type (LEv.cs (Ev.nm (.i 1)) LEv.nl) (ItC.range1 ?_ ⟨?_, trivial, fun C => ?_⟩)))))
  · decide
  · rw [show (0 : Int) = ((0 : Nat) : Int) from rfl, show (3 : Int) = ((3 : Nat) : Int) from rfl, rangeV_len, sizeLine_eq]; decide
  refine CompL.idx (fun j acc τ => ∃ ls bs, acc = ls.map V.ref ∧ ls.length = j ∧ Same σA τ [] ∧ τ[σA.length]? = some (.list acc) ∧ Made τ σA.length ls bs) ⟨[], [], rfl, rfl, .app, kN, rfl, by simp, by simp, by simp, by simp, .nil, by simp⟩ ?_ ?_
  · rintro j c acc τ hc ⟨ls, bs, rfl, hj, hs, hτ, M⟩
    have ht := (gq hτ).1
    refine (EJ.ce (Ev.gl hW .zx) X.k_Line (LEv.cs (Ev.nm (.i 1)) (LEv.cs (Ev.gl hW (.i 1)) LEv.nl)) (CJ.cls hW X.m_Line (CJc.up (d' := 4) (Line_init X kN fun σB b hsB hb hlB hcB => ⟨rfl, ?_⟩) (by lia))))
    have hb' : τ.length + 1 ≤ b := by simpa using hb
    have g : ∀ i o, τ[i]? = some o → σB[i]? = some o := fun i o e => hsB.get (kA e) fun q => by
      have := (gq e).1
      have := mq q
      lia
    refine ⟨g _ _ hτ, trivial, ls ++ [τ.length], bs ++ [b], by simp, by simp [hj], ?_, kS (g _ _ hτ), ?_⟩
    · refine Same.setNew (σ' := σB) ⟨?_, fun i o hi e => g _ _ (hs.get e (by simp))⟩ (Nat.le_refl _)
      have a1 := hs.1
      have a2 := hsB.1
      simp at a2; lia
    · refine M.snoc (fun i o hi e => get_ne (g _ _ e) (Nat.ne_of_lt hi)) (get_ne hlB (by lia)) (get_ne hcB (by lia)) ht (by lia) (fun x e => ?_) fun x e => ?_
      · exact absurd (gq e).1 (Nat.lt_irrefl _)
      · have := (gq e).1; lia
  · rintro acc τ ⟨ls, bs, rfl, hj, hs, hτ, M⟩
    have hj3 : ls.length = 3 := hj
    have hb3 : bs.length = 3 := by rw [← M.len]; exact hj3
    have k1 := hs.get hn1 (by simp)
    have hne : n ≠ σA.length := by lia
    refine AJ.ta hW (Ev.nm .zx) k1 X.o_Grid X.a_Grid_lines.take (lb rfl) (SsJ.nl ?_)
    have e1 : putF ([("rows", .int 3), ("columns", .int 6)] : List (Sr × V)) "lines" (.ref σA.length) = ([("rows", .int 3), ("columns", .int 6), ("lines", .ref σA.length)] : List (Sr × V)) := by kernel_rfl
    rw [e1]
    have rg : ∀ r, r < 3 → row grid0 r = blanks := fun r hr => by
      have : r = 0 ∨ r = 1 ∨ r = 2 := by lia
      rcases this with rfl | rfl | rfl <;> rfl
    refine h _ ⟨n, σA.length, ls, bs⟩ ((hs1.trans (hs.weak (by simp))).trans (.set (by simp))) rfl ⟨kS k1, get_ne hτ hne, hj3, hb3, rfl, fun r hr => ?_, fun r hr => ?_, fun r hr => by rw [rg r hr]; rfl, fun q => ?_, fun q => ?_, fun r hr => ?_, fun r s hr hs' hrs q => ?_⟩ fun x hx => ?_
    · exact get_ne (M.line r (by lia)) fun (q : n = rowId ls r) => by have := M.lol _ (rowId_mem (ls := ls) (q := r) (by lia)); lia
    · rw [rg r hr]
      exact get_ne (M.cells r (by lia)) fun (q : n = rowId bs r) => by have := M.lob _ (rowId_mem (ls := bs) (q := r) (by lia)); lia
    · have : σA.length < n := M.lob _ q
      lia
    · exact Nat.lt_irrefl _ (M.lob _ q)
    · exact M.ap _ (rowId_mem (by lia))
    · have e1 : bs[r]'(by lia) = bs[s]'(by lia) := by
        rw [← rowId_eq (by lia), ← rowId_eq (by lia)]; exact q
      exact hrs ((List.getElem_inj M.nd).mp e1)
    · have := M.lob _ hx; lia
end
theorem Same.newer {σ σ' : List CO} {o : CO} {k : Nat} (hk : k = σ.length) (s : Same (σ ++ [o]) σ' [k]) : Same σ σ' [] := by
  have h := s.1
  refine ⟨by simp at h; lia, fun i x hi e => s.get (kA e) fun q => ?_⟩
  have := (gq e).1
  have := mq q
  lia
theorem inst_ne {σ : List CO} {n m C D : Nat} {fs gs : List (Sr × V)} (h1 : σ[n]? = some (.inst C fs)) (h2 : σ[m]? = some (.inst D gs)) (h : C ≠ D) : n ≠ m := fun q => by
  rw [q, h2] at h1; cases h1; exact h rfl
theorem inst_nl {σ : List CO} {n m C : Nat} {fs : List (Sr × V)} {l : List V} (h1 : σ[n]? = some (.inst C fs)) (h2 : σ[m]? = some (.list l)) : n ≠ m := fun q => by
  rw [q, h2] at h1; cases h1
theorem Grd.out {σ : List CO} {i : Ids} {g : List (List Cell)} (G : Grd σ i g) {n C : Nat} {fs : List (Sr × V)} (hn : σ[n]? = some (.inst C fs)) : n ∉ i.c := fun q => by
  obtain ⟨r, hr, e⟩ := List.mem_iff_getElem.mp q
  have z := G.cells r (G.lc ▸ hr)
  have e2 : i.cells r = n := by simp [Ids.cells, List.getD_eq_getElem?_getD, hr, e]
  exact inst_nl hn z e2.symm
theorem Grd.keep {σ σ' : List CO} {i : Ids} {g : List (List Cell)} (G : Grd σ i g) {n C : Nat} {fs : List (Sr × V)} (hn : σ[n]? = some (.inst C fs)) (h1 : c_Grid ≠ C) (h2 : c_Line ≠ C) (s : Same σ σ' [n]) : Grd σ' i g :=
  ⟨s.get G.gr (by simpa using inst_ne G.gr hn h1), s.get G.ls (by simpa using (inst_nl hn G.ls).symm), G.ll, G.lc, G.lg, fun r hr => s.get (G.line r hr) (by simpa using inst_ne (G.line r hr) hn h2), fun r hr => s.get (G.cells r hr) (by simpa using (inst_nl hn (G.cells r hr)).symm), G.wide, G.agr, G.als, G.aln, G.ac⟩
theorem Scn.curs {σ σ' : List CO} {s : ScI} {i : Ids} {c c' : Cur} {m : Lim} {g : List (List Cell)} (S : Scn σ s i c m g) (h : Same σ σ' [s.cu]) (hc : σ'[s.cu]? = some (cursorO c')) : Scn σ' s i c' m g :=
  ⟨h.get S.sc (by simpa using inst_ne S.sc S.cu (by decide)), hc, h.get S.mg (by simpa using inst_ne S.mg S.cu (by decide)), S.G.keep S.cu (by decide) (by decide) h, S.nsc, S.ncu, S.nmg⟩
theorem Scn.marg {σ σ' : List CO} {s : ScI} {i : Ids} {c : Cur} {m m' : Lim} {g : List (List Cell)} (S : Scn σ s i c m g) (h : Same σ σ' [s.mg]) (hc : σ'[s.mg]? = some (marginsO m')) : Scn σ' s i c m' g :=
  ⟨h.get S.sc (by simpa using inst_ne S.sc S.mg (by decide)), h.get S.cu (by simpa using inst_ne S.cu S.mg (by decide)), hc, S.G.keep S.mg (by decide) (by decide) h, S.nsc, S.ncu, S.nmg⟩
section
variable {W : Wd} {d : Nat} {σ : List CO} {Q : V → List CO → Prop}
theorem Cursor_place (X : Ctx W) {n : Nat} {c : Cur} (hn : σ[n]? = some (cursorO c)) (h : Q (.tup [.int c.row, .int c.col]) σ) : CJ W (d + 1) u_Cursor_place [.ref n] σ Q := by
  have hW := X.ok
  refine call.Cursor_place X fun r_ => ?_
  refine (SsJ.cs (SJ.retE (Ev.tu (LEv.cs (Ev.ta hW X.o_Cursor (Ev.nm .zx) X.a_Cursor_row.find (by exact hn) (nd_Cursor rfl) .zx rfl) (LEv.cs (Ev.ta hW X.o_Cursor (Ev.nm .zx) X.a_Cursor_column.find (by exact hn) (nd_Cursor rfl) (.i 1) rfl) LEv.nl)) (lb rfl)) h))
theorem Cursor_go (X : Ctx W) {n : Nat} {c : Cur} {a b : Int} (hn : σ[n]? = some (cursorO c)) (h : ∀ σ', Same σ σ' [n] → σ'[n]? = some (cursorO ⟨a, b, false, c.p, c.o, c.k⟩) → Q .none σ') : CJ W (d + 1) u_Cursor_go [.ref n, .int a, .int b] σ Q := by
  have hW := X.ok
  refine call.Cursor_go X fun r_ => ?_
  refine (SsJ.cs (SJ.sn (EJ.of (Ev.nm (.i 1)) (AJ.ta hW (Ev.nm .zx) (by first | exact hn | exact kS hn | exact kS (kS hn)) X.o_Cursor X.a_Cursor_row.take (lb rfl) (SsJ.cs (SJ.sn (EJ.of (Ev.nm (.i 2)) (AJ.ta hW (Ev.nm .zx) (by first | exact hn | exact kS hn | exact kS (kS hn)) X.o_Cursor X.a_Cursor_column.take (lb rfl) (SsJ.cs (SJ.sn (EJ.of Ev.cbool (AJ.ta hW (Ev.nm .zx) (by first | exact hn | exact kS hn | exact kS (kS hn)) X.o_Cursor X.a_Cursor_is_waiting.take (lb rfl) (SsJ.nl ?_)))))))))))))
  simp only [List.set_set]
  refine h _ (.set (by simp)) ?_
  rw [kS hn]
  kernel_rfl
theorem Margins_set_rows (X : Ctx W) {n : Nat} {m : Lim} {x y : Int} (h0 : 0 ≤ x) (hab : x < y) (hb : y < 3) (hn : σ[n]? = some (marginsO m)) (h : ∀ v σ', Same σ σ' [n] → σ'[n]? = some (marginsO ⟨x.toNat, m.l, y.toNat, m.r⟩) → Q v σ') : CJ W (d + 1) u_Margins_set_rows [.ref n, .int x, .int y] σ Q := by
  have hW := X.ok
  have ex := Int.toNat_of_nonneg h0
  have ey := Int.toNat_of_nonneg (Int.le_of_lt (Int.lt_of_le_of_lt h0 hab))
  simp only [marginsO, ex, ey] at h
  refine call.Margins_set_rows X fun r_ => ?_
  refine (SsJ.cs (SJ.sn (EJ.or (EJ.chain (EJ.of Ev.ci (CvJ.link (EJ.of (Ev.nm (.i 1)) (CmpJ.le (TrJ.bl (iteY (by simpa using h0) (CvJ.link (EJ.of (Ev.nm (.i 2)) (CmpJ.lt (TrJ.bl (iteY (by simpa using hab) (CvJ.last (EJ.of (Ev.ta hW X.o_Margins (Ev.nm .zx) X.a_Margins_rows.find (by first | exact hn | exact kS hn | exact kS (kS hn)) (nd_Margins rfl) .zx rfl) (CmpJ.lt (TrJ.bl (iteY (by simpa using hb) (AJ.nm (.i 3) rfl (SsJ.cs (SJ.iteT (TEv.bool (Ev.nm (.i 3))) (by simpa using hb) (SsJ.cs (SJ.sn (EJ.of (Ev.nm (.i 1)) (AJ.ta hW (Ev.nm .zx) (by first | exact hn | exact kS hn | exact kS (kS hn)) X.o_Margins X.a_Margins_top.take (lb rfl) (SsJ.cs (SJ.sn (EJ.of (Ev.nm (.i 2)) (AJ.ta hW (Ev.nm .zx) (by first | exact hn | exact kS hn | exact kS (kS hn)) X.o_Margins X.a_Margins_bottom.take (lb rfl) (SsJ.nl (SsJ.cs (SJ.retE (Ev.nm (.i 3)) ?_))))))))))))))))))))))))))))))))))
  simp only [List.set_set]
  refine h _ _ (.set (by simp)) ?_
  rw [kS hn]
  kernel_rfl
theorem Margins_set_columns (X : Ctx W) {n : Nat} {m : Lim} {x y : Int} (h0 : 0 ≤ x) (hab : x < y) (hb : y < 6) (hn : σ[n]? = some (marginsO m)) (h : ∀ v σ', Same σ σ' [n] → σ'[n]? = some (marginsO ⟨m.t, x.toNat, m.b, y.toNat⟩) → Q v σ') : CJ W (d + 1) u_Margins_set_columns [.ref n, .int x, .int y] σ Q := by
  have hW := X.ok
  have ex := Int.toNat_of_nonneg h0
  have ey := Int.toNat_of_nonneg (Int.le_of_lt (Int.lt_of_le_of_lt h0 hab))
  simp only [marginsO, ex, ey] at h
  refine call.Margins_set_columns X fun r_ => ?_
  refine (SsJ.cs (SJ.sn (EJ.or (EJ.chain (EJ.of Ev.ci (CvJ.link (EJ.of (Ev.nm (.i 1)) (CmpJ.le (TrJ.bl (iteY (by simpa using h0) (CvJ.link (EJ.of (Ev.nm (.i 2)) (CmpJ.lt (TrJ.bl (iteY (by simpa using hab) (CvJ.last (EJ.of (Ev.ta hW X.o_Margins (Ev.nm .zx) X.a_Margins_columns.find (by first | exact hn | exact kS hn | exact kS (kS hn)) (nd_Margins rfl) (.i 1) rfl) (CmpJ.lt (TrJ.bl (iteY (by simpa using hb) (AJ.nm (.i 3) rfl (SsJ.cs (SJ.iteT (TEv.bool (Ev.nm (.i 3))) (by simpa using hb) (SsJ.cs (SJ.sn (EJ.of (Ev.nm (.i 1)) (AJ.ta hW (Ev.nm .zx) (by first | exact hn | exact kS hn | exact kS (kS hn)) X.o_Margins X.a_Margins_left.take (lb rfl) (SsJ.cs (SJ.sn (EJ.of (Ev.nm (.i 2)) (AJ.ta hW (Ev.nm .zx) (by first | exact hn | exact kS hn | exact kS (kS hn)) X.o_Margins X.a_Margins_right.take (lb rfl) (SsJ.nl (SsJ.cs (SJ.retE (Ev.nm (.i 3)) ?_))))))))))))))))))))))))))))))))))
  simp only [List.set_set]
  refine h _ _ (.set (by simp)) ?_
  rw [kS hn]
  kernel_rfl
end
theorem stage {σA σB : List CO} {n : Nat} {o : CO} {fs fs' : List (Sr × V)} {x : Sr} {v : V} (hn : σA[n]? = some (.inst c_Screen fs)) (h : Same (σA ++ [o]) σB [σA.length]) (e : putF fs x v = fs') :
    σA.length ≠ n ∧ σB[n]? = some (.inst c_Screen fs) ∧ ∃ τ, σB.set n (.inst c_Screen (putF fs x v)) = τ ∧ τ[n]? = some (.inst c_Screen fs') ∧ Same σA τ [n] ∧ Same σB τ [n] ∧ σA.length < τ.length := by
  have z := (h.newer rfl).get hn (by simp)
  have y := (gq hn).1
  have w := h.1
  subst e
  exact ⟨by lia, z, _, rfl, kS z, ((h.newer rfl).weak (by simp)).trans (.set (by simp)), .set (by simp), by simp at w ⊢; lia⟩
section
variable {W : Wd} {d : Nat} {σ : List CO} {Q : V → List CO → Prop}
theorem Screen_init (X : Ctx W) {n : Nat} (hn : σ[n]? = some (.inst c_Screen [])) (h : ∀ σ' s i, s.sc = n → Same σ σ' [n] → Scn σ' s i ⟨0, 0, false, ⟨0, -1, 0⟩, false, false⟩ whole grid0 → (∀ x ∈ i.c, σ.length ≤ x) → σ.length ≤ s.cu → σ.length ≤ s.mg → Q .none σ') : CJc W (d + 8) u_Screen_init [.ref n, .int 3, .int 6, .none, .none] σ Q := by
  have hW := X.ok
  refine call.Screen_init1 X fun r_ => ?_
  have hlt := (gq hn).1
  refine (SsJ.cs (SJ.sn (EJ.of (Ev.nm (.i 1)) (AJ.ta hW (Ev.nm .zx) (by first | exact hn | exact kS hn | exact kS (kS hn) | exact kS (kS (kS hn)) | exact kS (kS (kS (kS hn)))) X.o_Screen X.a_Screen_rows.take (lb rfl) (SsJ.cs (SJ.sn (EJ.of (Ev.nm (.i 2)) (AJ.ta hW (Ev.nm .zx) (by first | exact hn | exact kS hn | exact kS (kS hn) | exact kS (kS (kS hn)) | exact kS (kS (kS (kS hn)))) X.o_Screen X.a_Screen_columns.take (lb rfl) (SsJ.cs (SJ.sn (EJ.of (Ev.nm (.i 3)) (AJ.ta hW (Ev.nm .zx) (by first | exact hn | exact kS hn | exact kS (kS hn) | exact kS (kS (kS hn)) | exact kS (kS (kS (kS hn)))) X.o_Screen X.a_Screen_modes.take (lb rfl) (SsJ.cs (SJ.sn (EJ.of (Ev.nm (.i 4)) (AJ.ta hW (Ev.nm .zx) (by first | exact hn | exact kS hn | exact kS (kS hn) | exact kS (kS (kS hn)) | exact kS (kS (kS (kS hn)))) X.o_Screen X.a_Screen_widths.take (lb rfl) (SsJ.cs (SJ.sn (EJ.of (Ev.nm (.i 5)) (AJ.ta hW (Ev.nm .zx) (by first | exact hn | exact kS hn | exact kS (kS hn) | exact kS (kS (kS hn)) | exact kS (kS (kS (kS hn)))) X.o_Screen X.a_Screen_history.take (lb rfl) ?_))))))))))))))))))))
  simp only [List.set_set]
  have e0 : putF (putF (putF (putF (putF [] "rows" (.int 3)) "columns" (.int 6)) "modes" .none) "widths" .none) "history" .none = ([("rows", .int 3), ("columns", .int 6), ("modes", .none), ("widths", .none), ("history", .none)] : List (Sr × V)) := by kernel_rfl
  rw [e0]
  have hs1 : Same σ (σ.set n (.inst c_Screen [("rows", .int 3), ("columns", .int 6), ("modes", .none), ("widths", .none), ("history", .none)])) [n] := .set (by simp)
  have hn1 : (σ.set n (.inst c_Screen [("rows", .int 3), ("columns", .int 6), ("modes", .none), ("widths", .none), ("history", .none)]))[n]? = some (.inst c_Screen [("rows", .int 3), ("columns", .int 6), ("modes", .none), ("widths", .none), ("history", .none)]) := kS hn
  generalize σ.set n (.inst c_Screen [("rows", .int 3), ("columns", .int 6), ("modes", .none), ("widths", .none), ("history", .none)]) = σA at *
  refine (SsJ.cs (SJ.sn (EJ.ce (Ev.gl hW .zx) X.k_Grid (LEv.cs (Ev.nm (.i 1)) (LEv.cs (Ev.nm (.i 2)) LEv.nl)) (CJ.cls hW X.m_Grid (CJc.up (d' := 6) (Grid_init X kN fun σB i hsB hi hG hcB => ⟨rfl, (AJ.ta hW (Ev.nm .zx) (by exact (stage hn1 hsB (x := "x") (v := .none) rfl).2.1) X.o_Screen X.a_Screen_grid.take (lb rfl) ?_)⟩) (by lia))))))
  obtain ⟨ne2, -, τ2, et2, hn2, q2, r2, l2⟩ := stage hn1 hsB (x := "grid") (v := .ref σA.length) (fs' := ([("rows", .int 3), ("columns", .int 6), ("modes", .none), ("widths", .none), ("history", .none), ("grid", .ref σA.length)] : List (Sr × V))) (by kernel_rfl)
  rw [et2]
  have hG2 : Grd τ2 i grid0 := hG.keep (stage hn1 hsB (x := "x") (v := .none) rfl).2.1 (by decide) (by decide) r2
  refine (SsJ.cs (SJ.sn (EJ.call0 (EJ.glob hW (.i 1) ⟨_, rfl, X.k_Cursor, (CJ.cls hW X.m_Cursor (CJc.up (d' := 1) (Cursor_init X kN fun σB hsB hcu => ⟨rfl, (AJ.ta hW (Ev.nm .zx) (by exact (stage hn2 hsB (x := "x") (v := .none) rfl).2.1) X.o_Screen X.a_Screen_cursor.take (lb rfl) ?_)⟩) (by lia)))⟩))))
  obtain ⟨ne3, -, τ3, et3, hn3, q3, r3, l3⟩ := stage hn2 hsB (x := "cursor") (v := .ref τ2.length) (fs' := ([("rows", .int 3), ("columns", .int 6), ("modes", .none), ("widths", .none), ("history", .none), ("grid", .ref σA.length), ("cursor", .ref τ2.length)] : List (Sr × V))) (by kernel_rfl)
  rw [et3]
  have hG3 : Grd τ3 i grid0 := hG2.keep hn2 (by decide) (by decide) q3
  have cu3 := r3.get hcu (by simpa using ne3)
  refine (SsJ.cs (SJ.sn (EJ.ce (Ev.gl hW (.i 2)) X.k_Margins (LEv.cs (Ev.nm (.i 1)) (LEv.cs (Ev.nm (.i 2)) LEv.nl)) (CJ.cls hW X.m_Margins (CJc.up (d' := 1) (Margins_init X kN fun σB hsB hmg => ⟨rfl, (AJ.ta hW (Ev.nm .zx) (by exact (stage hn3 hsB (x := "x") (v := .none) rfl).2.1) X.o_Screen X.a_Screen_margins.take (lb rfl) ?_)⟩) (by lia))))))
  obtain ⟨ne4, -, τ4, et4, hn4, q4, r4, l4⟩ := stage hn3 hsB (x := "margins") (v := .ref τ3.length) (fs' := ([("rows", .int 3), ("columns", .int 6), ("modes", .none), ("widths", .none), ("history", .none), ("grid", .ref σA.length), ("cursor", .ref τ2.length), ("margins", .ref τ3.length)] : List (Sr × V))) (by kernel_rfl)
  rw [et4]
  have hG4 : Grd τ4 i grid0 := hG3.keep hn3 (by decide) (by decide) q4
  have cu4 := q4.get cu3 (by simpa using ne3)
  have mg4 := r4.get hmg (by simpa using ne4)
  refine (SsJ.cs (SJ.sn (EJ.ce (Ev.gl hW (.i 3)) X.k_Tabs (LEv.cs (Ev.nm (.i 2)) LEv.nl) (CJ.cls hW X.m_Tabs (CJc.up (d' := 2) (Tabs_init X kN fun σB hsB => ⟨rfl, (AJ.ta hW (Ev.nm .zx) (by exact (stage hn4 hsB (x := "x") (v := .none) rfl).2.1) X.o_Screen X.a_Screen_tabs.take (lb rfl) ?_)⟩) (by lia))))))
  obtain ⟨ne5, -, τ5, et5, hn5, q5, r5, l5⟩ := stage hn4 hsB (x := "tabs") (v := .ref τ4.length) (fs' := ([("rows", .int 3), ("columns", .int 6), ("modes", .none), ("widths", .none), ("history", .none), ("grid", .ref σA.length), ("cursor", .ref τ2.length), ("margins", .ref τ3.length), ("tabs", .ref τ4.length)] : List (Sr × V))) (by kernel_rfl)
  rw [et5]
  have hG5 : Grd τ5 i grid0 := hG4.keep hn4 (by decide) (by decide) q5
  have cu5 := q5.get cu4 (by simpa using ne3)
  have mg5 := q5.get mg4 (by simpa using ne4)
  refine (SsJ.cs (SJ.sn (EJ.call0 (EJ.glob hW (.i 4) ⟨_, rfl, X.k_Charsets, (CJ.cls hW X.m_Charsets (CJc.up (d' := 2) (Charsets_init X kN fun σB hsB => ⟨rfl, (AJ.ta hW (Ev.nm .zx) (by exact (stage hn5 hsB (x := "x") (v := .none) rfl).2.1) X.o_Screen X.a_Screen_charsets.take (lb rfl) ?_)⟩) (by lia)))⟩))))
  obtain ⟨ne6, -, τ6, et6, hn6, q6, r6, l6⟩ := stage hn5 hsB (x := "charsets") (v := .ref τ5.length) (fs' := ([("rows", .int 3), ("columns", .int 6), ("modes", .none), ("widths", .none), ("history", .none), ("grid", .ref σA.length), ("cursor", .ref τ2.length), ("margins", .ref τ3.length), ("tabs", .ref τ4.length), ("charsets", .ref τ5.length)] : List (Sr × V))) (by kernel_rfl)
  rw [et6]
  have hG6 : Grd τ6 i grid0 := hG5.keep hn5 (by decide) (by decide) q6
  have cu6 := q6.get cu5 (by simpa using ne3)
  have mg6 := q6.get mg5 (by simpa using ne4)
  refine (SsJ.cs (SJ.sn (EJ.of Ev.cnone (AJ.ta hW (Ev.nm .zx) (by first | exact hn6 | exact kS hn6 | exact kA (kS hn6) | exact kS (kA (kS hn6))) X.o_Screen X.a_Screen_saved.take (lb rfl) (SsJ.cs (SJ.sn (EJ.list (LJ.of LEv.nl ⟨(lb rfl), (AJ.ta hW (Ev.nm .zx) (by first | exact hn6 | exact kS hn6 | exact kA (kS hn6) | exact kS (kA (kS hn6))) X.o_Screen X.a_Screen_last.take (lb rfl) (SsJ.cs (SJ.sn (EJ.of Ev.cbool (AJ.ta hW (Ev.nm .zx) (by first | exact hn6 | exact kS hn6 | exact kA (kS hn6) | exact kS (kA (kS hn6))) X.o_Screen X.a_Screen_has_right.take (lb rfl) (SsJ.nl ?_))))))⟩))))))))
  simp only [List.set_set, List.length_set]
  have l1 := hs1.1
  have l2' := (((hs1.trans q2).trans q3).trans q4).1
  have l3' := (((hs1.trans q2).trans q3)).1
  have l4' := (((hs1.trans q2))).1
  generalize hO : (CO.inst c_Screen (putF (putF (putF _ _ _) _ _) _ _)) = O
  have k6 : ((τ6.set n (CO.inst c_Screen (putF ([("rows", .int 3), ("columns", .int 6), ("modes", .none), ("widths", .none), ("history", .none), ("grid", .ref σA.length), ("cursor", .ref τ2.length), ("margins", .ref τ3.length), ("tabs", .ref τ4.length), ("charsets", .ref τ5.length)] : List (Sr × V)) "saved" .none)) ++ [CO.list []]).set n O)[n]? = some O := kS (kA (kS hn6))
  have sa : Same τ6 ((τ6.set n (CO.inst c_Screen (putF ([("rows", .int 3), ("columns", .int 6), ("modes", .none), ("widths", .none), ("history", .none), ("grid", .ref σA.length), ("cursor", .ref τ2.length), ("margins", .ref τ3.length), ("tabs", .ref τ4.length), ("charsets", .ref τ5.length)] : List (Sr × V)) "saved" .none)) ++ [CO.list []]).set n O) [n] := (Same.trans (.set (by simp)) .app).trans (.set (by simp))
  refine h _ ⟨n, τ2.length, τ3.length, .ref τ4.length, .ref τ5.length, .ref τ6.length⟩ i rfl ((((((hs1.trans q2).trans q3).trans q4).trans q5).trans q6).trans sa) ⟨?_, sa.get cu6 (by simpa using ne3), sa.get mg6 (by simpa using ne4), hG6.keep hn6 (by decide) (by decide) sa, ?_, ?_, ?_⟩ (fun x hx => by have := hcB x hx; simp at this; lia) ?_ ?_
  · refine k6.trans ?_
    rw [← hO, hi]
    kernel_rfl
  · exact fun q => by have := hcB _ q; simp at this; lia
  · exact fun (q : τ2.length ∈ i.c) => by have := hG.lt q; have := r2.1; lia
  · exact fun (q : τ3.length ∈ i.c) => by have := hG.lt q; have := r2.1; have := q3.1; lia
  · exact l4'
  · exact l3'
end
structure Lw (σ : List CO) (L nc nh n : Nat) (cs : List Int) (rs : List Nat) (s : ScI) (i : Ids) (c : Cur) (m : Lim) (g g' : List (List Cell)) : Prop where
  H : Hnd σ nc nh cs
  S : Scn σ s i c m g
  Sh : Shw σ n rs g'
  ic : nc ∉ i.c
  ih : nh ∉ i.c
  lo : ∀ x ∈ i.c, x < L
  hl : nh < L
  cl : nc < L
  ls : i.ls < L
  n : L ≤ n
  r : ∀ x ∈ rs, L ≤ x
theorem Lw.nhn {σ : List CO} {L nc nh n : Nat} {cs : List Int} {rs : List Nat} {s : ScI} {i : Ids} {c : Cur} {m : Lim} {g g' : List (List Cell)} (Z : Lw σ L nc nh n cs rs s i c m g g') : nh ≠ n := by
  have := Z.hl; have := Z.n; lia
theorem Grd.keepl {σ σ' : List CO} {i : Ids} {g : List (List Cell)} {js : List Nat} (G : Grd σ i g) (hj : ∀ x ∈ js, (∃ l, σ[x]? = some (.list l)) ∧ x ≠ i.ls ∧ x ∉ i.c) (s : Same σ σ' js) : Grd σ' i g := by
  have k : ∀ {x C fs}, σ[x]? = some (.inst C fs) → x ∉ js := fun e q => by
    obtain ⟨⟨l, hl⟩, -⟩ := hj _ q
    exact inst_nl e hl rfl
  exact ⟨s.get G.gr (k G.gr), s.get G.ls fun q => (hj _ q).2.1 rfl, G.ll, G.lc, G.lg, fun r hr => s.get (G.line r hr) (k (G.line r hr)), fun r hr => s.get (G.cells r hr) fun q => (hj _ q).2.2 (Ids.cells_mem G.lc hr), G.wide, G.agr, G.als, G.aln, G.ac⟩
section
variable {σ σ' : List CO} {L nc nh n : Nat} {cs : List Int} {rs : List Nat} {s : ScI} {i : Ids} {c c' : Cur} {m m' : Lim} {g g' g2 : List (List Cell)}
theorem Lw.lsh (Z : Lw σ L nc nh n cs rs s i c m g g') : nh ≠ i.ls := fun q => by
  obtain ⟨k, e⟩ := Z.H.h
  have e2 := Z.S.G.ls
  rw [← q, e] at e2
  have e3 := Z.S.G.ll
  have : ([V.int k] : List V) = i.l.map V.ref := by injection e2 with e2; injection e2
  have := congrArg List.length this
  simp at this; lia
theorem Lw.move (Z : Lw σ L nc nh n cs rs s i c m g g') (h : Same σ σ' []) : Lw σ' L nc nh n cs rs s i c m g g' :=
  ⟨Z.H.move h (by simp) (by simp), Z.S.move h, Z.Sh.move h (by simp) (by simp), Z.ic, Z.ih, Z.lo, Z.hl, Z.cl, Z.ls, Z.n, Z.r⟩
theorem Lw.inh (Z : Lw σ L nc nh n cs rs s i c m g g') {x C : Nat} {fs : List (Sr × V)} (h : σ[x]? = some (.inst C fs)) : x ≠ nh := by
  obtain ⟨k, e⟩ := Z.H.h
  exact inst_nl h e
theorem Lw.hand (Z : Lw σ L nc nh n cs rs s i c m g g') (h : Same σ σ' [nh]) (H : Hnd σ' nc nh cs) : Lw σ' L nc nh n cs rs s i c m g g' := by
  obtain ⟨k, e⟩ := Z.H.h
  refine ⟨H, ⟨h.get Z.S.sc (by simpa using Z.inh Z.S.sc), h.get Z.S.cu (by simpa using Z.inh Z.S.cu), h.get Z.S.mg (by simpa using Z.inh Z.S.mg), Z.S.G.keepl (fun x hx => ?_) h, Z.S.nsc, Z.S.ncu, Z.S.nmg⟩, Z.Sh.move h (by simpa using Z.nhn.symm) (fun x hx q => ?_), Z.ic, Z.ih, Z.lo, Z.hl, Z.cl, Z.ls, Z.n, Z.r⟩
  · rw [mq hx]
    exact ⟨⟨_, e⟩, Z.lsh, Z.ih⟩
  · have := Z.r _ hx; have := Z.hl; have := mq q; lia
theorem Lw.cells (Z : Lw σ L nc nh n cs rs s i c m g g') (h : Same σ σ' i.c) (G : Grd σ' i g2) : Lw σ' L nc nh n cs rs s i c m g2 g' :=
  ⟨Z.H.move h Z.ic Z.ih, Z.S.upd h G, Z.Sh.move h (fun q => by have := Z.lo _ q; have := Z.n; lia) (fun x hx q => by have := Z.lo _ q; have := Z.r _ hx; lia), Z.ic, Z.ih, Z.lo, Z.hl, Z.cl, Z.ls, Z.n, Z.r⟩
theorem Lw.curs (Z : Lw σ L nc nh n cs rs s i c m g g') (hl : s.cu < L) (h : Same σ σ' [s.cu]) (hc : σ'[s.cu]? = some (cursorO c')) : Lw σ' L nc nh n cs rs s i c' m g g' :=
  ⟨Z.H.move h (by simpa using (inst_nl Z.S.cu Z.H.c).symm) (by simpa using (Z.inh Z.S.cu).symm), Z.S.curs h hc, Z.Sh.move h (by simpa using (inst_nl Z.S.cu Z.Sh.out).symm) (fun x hx q => by have := Z.r _ hx; have := mq q; lia), Z.ic, Z.ih, Z.lo, Z.hl, Z.cl, Z.ls, Z.n, Z.r⟩
theorem Lw.marg (Z : Lw σ L nc nh n cs rs s i c m g g') (hl : s.mg < L) (h : Same σ σ' [s.mg]) (hc : σ'[s.mg]? = some (marginsO m')) : Lw σ' L nc nh n cs rs s i c m' g g' :=
  ⟨Z.H.move h (by simpa using (inst_nl Z.S.mg Z.H.c).symm) (by simpa using (Z.inh Z.S.mg).symm), Z.S.marg h hc, Z.Sh.move h (by simpa using (inst_nl Z.S.mg Z.Sh.out).symm) (fun x hx q => by have := Z.r _ hx; have := mq q; lia), Z.ic, Z.ih, Z.lo, Z.hl, Z.cl, Z.ls, Z.n, Z.r⟩
theorem Lw.shown (Z : Lw σ L nc nh n cs rs s i c m g g') {n' : Nat} {rs' : List Nat} (S : Shw σ n' rs' g2) (h1 : L ≤ n') (h2 : ∀ x ∈ rs', L ≤ x) : Lw σ L nc nh n' cs rs' s i c m g g2 :=
  ⟨Z.H, Z.S, S, Z.ic, Z.ih, Z.lo, Z.hl, Z.cl, Z.ls, h1, h2⟩
theorem Lw.setRow (Z : Lw σ L nc nh n cs rs s i c m g g') {r k : Nat} {l : List Cell} (hr : r < 3) (hm : σ[k]? = some (.list (l.map Cell.v))) (hl : l.length = 6) (hne : n ≠ k) (hk : L ≤ k) :
    Lw (σ.set n (.list ((rs.map V.ref).set r (.ref k)))) L nc nh n cs (rs.set r k) s i c m g (g'.set r l) := by
  have h : Same σ (σ.set n (.list ((rs.map V.ref).set r (.ref k)))) [n] := .set (by simp)
  have a1 := Z.n
  refine ⟨Z.H.move h (by have := Z.cl; simp; lia) (by simpa using Z.nhn), ⟨h.get Z.S.sc (by simpa using inst_nl Z.S.sc Z.Sh.out), h.get Z.S.cu (by simpa using inst_nl Z.S.cu Z.Sh.out), h.get Z.S.mg (by simpa using inst_nl Z.S.mg Z.Sh.out), Z.S.G.keepl (fun x hx => ?_) h, Z.S.nsc, Z.S.ncu, Z.S.nmg⟩, Z.Sh.setRow hr hm hl hne, Z.ic, Z.ih, Z.lo, Z.hl, Z.cl, Z.ls, Z.n, fun x hx => ?_⟩
  · rw [mq hx]
    exact ⟨⟨_, Z.Sh.out⟩, by have := Z.ls; lia, fun q => by have := Z.lo _ q; lia⟩
  · rcases List.mem_or_eq_of_mem_set hx with q | q
    · exact Z.r _ q
    · exact q ▸ hk
end
section
variable {W : Wd} {d : Nat} {σ : List CO} {Q : V → List CO → Prop}
noncomputable def wideTail (x : Cell) : List Cell := x :: if x.w = 2 then [⟨[], 0, x.p, x.k⟩] else []
theorem put_tail (X : Ctx W) {L nc nh n : Nat} {cs : List Int} {rs : List Nat} {s : ScI} {i : Ids} {c : Cur} {m : Lim} {g g' : List (List Cell)} (Z : Lw σ L nc nh n cs rs s i c m g g') (hL : L ≤ σ.length) {x y wy : Int} {cd : List Int} {p : Pen} {kk : Bool} {w : Int} (hx0 : 0 ≤ x) (hx1 : x < 3) (hy0 : 0 ≤ y) (hy1 : y < 6) (hw : w = 1 ∨ (w = 2 ∧ y + 1 < 6))
    (h : ∀ r k, r < 3 → k < 6 → (w = 1 ∨ (w = 2 ∧ k + 1 < 6)) → ∀ σ' rs', Lw σ' L nc nh n cs rs' s i c m (g.set r (put (row g r) k ⟨cd, w, p, kk⟩)) (g'.set r (lawOver (row g' r) k (wideTail ⟨cd, w, p, kk⟩))) → σ.length ≤ σ'.length → Q .none σ') : ∀ r_ : FrD, SeqQ W (d + 6) (F_law_put r_) (D_law_put.body.drop 4) (RetQ Q) .next
      [("cells", some (.ref nc)), ("hand", some (.ref nh)), ("screen", some (.ref s.sc)), ("shown", some (.ref n)), ("row", some (.int x)), ("column", some (.int y)), ("way", some (.int wy)), ("pen", some p.v), ("is_guarded", some (.bool kk)), ("width", some (.int w)), ("codes", some (.tup (cd.map V.int))), ("part", none)] σ := by
  have hW := X.ok
  intro r_
  obtain ⟨r, rfl⟩ := Int.eq_ofNat_of_zero_le hx0
  obtain ⟨k, rfl⟩ := Int.eq_ofNat_of_zero_le hy0
  have hr : r < 3 := by lia
  have hk : k < 6 := by lia
  have hw : w = 1 ∨ (w = 2 ∧ k + 1 < 6) := by lia
  have h := h r k hr hk hw
  have S := Z.S
  have h1 := S.sc
  have h2 := S.G.gr
  have wl := S.G.wide r hr
  have h3 := S.G.line r hr
  have h4 : i.line r ∉ [i.cells r] := by simpa using inst_nl h3 (S.G.cells r hr)
  have hz : ∀ {σ' w}, Upd σ σ' (i.cells r) (put (row g r) k ⟨cd, w, p, kk⟩) → Lw σ' L nc nh n cs rs s i c m (g.set r (put (row g r) k ⟨cd, w, p, kk⟩)) g' := fun {σ' w} u =>
    Z.cells (u.1.weak (by simpa using Ids.cells_mem S.G.lc hr)) (S.G.upd hr (by rw [put_len]; exact wl) u)
  rcases hw with hw | ⟨hw, hk2⟩
  · subst hw
    refine (SsJ.cs (SJ.expr (EJ.meth hW (EJ.methE hW (Ev.ta hW X.o_Screen (Ev.nm (.i 2)) X.a_Screen_grid.find (by first | assumption | exact kN | exact kA kN | exact kA (kA kN) | exact kA (kA (kA (kA h5))) | exact kA (kA (kA h5))) (nd_Screen rfl) (.i 5) rfl) (by first | assumption | exact kN | exact kA kN | exact kA (kA kN) | exact kA (kA (kA (kA h5))) | exact kA (kA (kA h5))) X.m_Grid_line (na_Grid_line rfl) (LEv.cs (Ev.nm (.i 4)) LEv.nl) (CJ.up (d' := 1) (Grid_line X rfl S.G hr ⟨_, _, _, _, rfl, (by first | assumption | exact kN | exact kA kN | exact kA (kA kN) | exact kA (kA (kA (kA h5))) | exact kA (kA (kA h5))), X.m_Line_put, na_Line_put rfl, (LJ.of (LEv.cs (Ev.nm (.i 5)) (LEv.cs (Ev.tu (LEv.cs (Ev.nm (.i 10)) (LEv.cs (Ev.nm (.i 9)) (LEv.cs (Ev.nm (.i 7)) (LEv.cs (Ev.nm (.i 8)) LEv.nl)))) (lb rfl)) LEv.nl)) (CJ.up (d' := 5) (Line_put X (x := ⟨cd, 1, p, kk⟩) rfl h3 h4 (S.G.cells r hr) (by lia) (by lia) (by left; rfl) fun σ' u => have Z2 := hz u; have h5 := Z2.Sh.out; (SsJ.cs (SJ.sn (EJ.binop (EJ.list (LJ.of (LEv.cs (Ev.tu (LEv.cs (Ev.nm (.i 10)) (LEv.cs (Ev.nm (.i 9)) (LEv.cs (Ev.nm (.i 7)) (LEv.cs (Ev.nm (.i 8)) LEv.nl)))) (lb rfl)) LEv.nl) ⟨(lb rfl), (EJ.binop (EJ.list (LJ.of (LEv.cs (Ev.tu (LEv.cs (Ev.tu LEv.nl (lb rfl)) (LEv.cs Ev.ci (LEv.cs (Ev.nm (.i 7)) (LEv.cs (Ev.nm (.i 8)) LEv.nl)))) (lb rfl)) LEv.nl) ⟨(lb rfl), (EJ.of (Ev.sb (Ev.nm (.i 9)) Ev.ci) (OpJ.mulList (by first | assumption | exact kN | exact kA kN | exact kA (kA kN) | exact kA (kA (kA (kA h5))) | exact kA (kA (kA h5))) ?_ ?_ (OpJ.addList (by first | assumption | exact kN | exact kA kN | exact kA (kA kN) | exact kA (kA (kA (kA h5))) | exact kA (kA (kA h5))) (by first | assumption | exact kN | exact kA kN | exact kA (kA kN) | exact kA (kA (kA (kA h5))) | exact kA (kA (kA h5))) ?_ (AJ.nm (.i 11) rfl (SsJ.cs (SJ.sn (EJ.ce (Ev.gl hW (.i 3)) X.k_law_over (LEv.cs (Ev.subList (Ev.nm (.i 3)) (Ev.nm (.i 4)) (by first | assumption | exact kN | exact kA kN | exact kA (kA kN) | exact kA (kA (kA (kA h5))) | exact kA (kA (kA h5))) (Z2.Sh.item rfl hr) ?_) (LEv.cs (Ev.nm (.i 5)) (LEv.cs (Ev.nm (.i 11)) LEv.nl))) (CJ.up (d' := 3) (law_over X (xs := wideTail ⟨cd, 1, p, kk⟩) rfl (kA (kA (kA (kA (Z2.Sh.row hr))))) kN (by have := Z2.Sh.w r hr; lia) (by simp [wideTail]) fun σB mB hsB hmB hgB => have Z3 := (Z2.move (.trans .app (.trans .app (.trans .app (.trans .app hsB))))); have h6 := Z3.Sh.out; have hm3 := hmB; (AJ.itemE (Ev.nm (.i 3)) (Ev.nm (.i 4)) (by first | assumption | exact kN | exact kA kN | exact kA (kA kN) | exact kA (kA (kA (kA h5))) | exact kA (kA (kA h5))) ?_ ?_ ?_ (SsJ.nl ?_))) dd))))))))⟩)))⟩)))))) dd))⟩) dd)))))
    all_goals first | (simp [Z.Sh.len]; done) | (simp [Z.Sh.len]; lia) | skip
    have u1 := u.1.1
    have u2 := hsB.1
    have u3 := (gq Z.Sh.out).1
    simp at hmB u2
    refine h _ _ (Z3.setRow hr hgB ?_ (by lia) (by lia)) (by simp; lia)
    rw [lawOver_len]
    · exact Z.Sh.w r hr
    · rw [Z.Sh.w r hr]; simp [wideTail]; lia
  · subst hw
    refine (SsJ.cs (SJ.expr (EJ.meth hW (EJ.methE hW (Ev.ta hW X.o_Screen (Ev.nm (.i 2)) X.a_Screen_grid.find (by first | assumption | exact kN | exact kA kN | exact kA (kA kN) | exact kA (kA (kA (kA h5))) | exact kA (kA (kA h5))) (nd_Screen rfl) (.i 5) rfl) (by first | assumption | exact kN | exact kA kN | exact kA (kA kN) | exact kA (kA (kA (kA h5))) | exact kA (kA (kA h5))) X.m_Grid_line (na_Grid_line rfl) (LEv.cs (Ev.nm (.i 4)) LEv.nl) (CJ.up (d' := 1) (Grid_line X rfl S.G hr ⟨_, _, _, _, rfl, (by first | assumption | exact kN | exact kA kN | exact kA (kA kN) | exact kA (kA (kA (kA h5))) | exact kA (kA (kA h5))), X.m_Line_put, na_Line_put rfl, (LJ.of (LEv.cs (Ev.nm (.i 5)) (LEv.cs (Ev.tu (LEv.cs (Ev.nm (.i 10)) (LEv.cs (Ev.nm (.i 9)) (LEv.cs (Ev.nm (.i 7)) (LEv.cs (Ev.nm (.i 8)) LEv.nl)))) (lb rfl)) LEv.nl)) (CJ.up (d' := 5) (Line_put X (x := ⟨cd, 2, p, kk⟩) rfl h3 h4 (S.G.cells r hr) (by lia) (by lia) (by right; exact ⟨rfl, by lia⟩) fun σ' u => have Z2 := hz u; have h5 := Z2.Sh.out; (SsJ.cs (SJ.sn (EJ.binop (EJ.list (LJ.of (LEv.cs (Ev.tu (LEv.cs (Ev.nm (.i 10)) (LEv.cs (Ev.nm (.i 9)) (LEv.cs (Ev.nm (.i 7)) (LEv.cs (Ev.nm (.i 8)) LEv.nl)))) (lb rfl)) LEv.nl) ⟨(lb rfl), (EJ.binop (EJ.list (LJ.of (LEv.cs (Ev.tu (LEv.cs (Ev.tu LEv.nl (lb rfl)) (LEv.cs Ev.ci (LEv.cs (Ev.nm (.i 7)) (LEv.cs (Ev.nm (.i 8)) LEv.nl)))) (lb rfl)) LEv.nl) ⟨(lb rfl), (EJ.of (Ev.sb (Ev.nm (.i 9)) Ev.ci) (OpJ.mulList (by first | assumption | exact kN | exact kA kN | exact kA (kA kN) | exact kA (kA (kA (kA h5))) | exact kA (kA (kA h5))) ?_ ?_ (OpJ.addList (by first | assumption | exact kN | exact kA kN | exact kA (kA kN) | exact kA (kA (kA (kA h5))) | exact kA (kA (kA h5))) (by first | assumption | exact kN | exact kA kN | exact kA (kA kN) | exact kA (kA (kA (kA h5))) | exact kA (kA (kA h5))) ?_ (AJ.nm (.i 11) rfl (SsJ.cs (SJ.sn (EJ.ce (Ev.gl hW (.i 3)) X.k_law_over (LEv.cs (Ev.subList (Ev.nm (.i 3)) (Ev.nm (.i 4)) (by first | assumption | exact kN | exact kA kN | exact kA (kA kN) | exact kA (kA (kA (kA h5))) | exact kA (kA (kA h5))) (Z2.Sh.item rfl hr) ?_) (LEv.cs (Ev.nm (.i 5)) (LEv.cs (Ev.nm (.i 11)) LEv.nl))) (CJ.up (d' := 3) (law_over X (xs := wideTail ⟨cd, 2, p, kk⟩) rfl (kA (kA (kA (kA (Z2.Sh.row hr))))) kN (by have := Z2.Sh.w r hr; lia) (by simp [wideTail]) fun σB mB hsB hmB hgB => have Z3 := (Z2.move (.trans .app (.trans .app (.trans .app (.trans .app hsB))))); have h6 := Z3.Sh.out; have hm3 := hmB; (AJ.itemE (Ev.nm (.i 3)) (Ev.nm (.i 4)) (by first | assumption | exact kN | exact kA kN | exact kA (kA kN) | exact kA (kA (kA (kA h5))) | exact kA (kA (kA h5))) ?_ ?_ ?_ (SsJ.nl ?_))) dd))))))))⟩)))⟩)))))) dd))⟩) dd)))))
    all_goals first | (simp [Z.Sh.len]; done) | (simp [Z.Sh.len]; lia) | skip
    have u1 := u.1.1
    have u2 := hsB.1
    have u3 := (gq Z.Sh.out).1
    simp at hmB u2
    refine h _ _ (Z3.setRow hr hgB ?_ (by lia) (by lia)) (by simp; lia)
    rw [lawOver_len]
    · exact Z.Sh.w r hr
    · rw [Z.Sh.w r hr]; simp [wideTail]; lia
noncomputable def codeI (y c z : Int) : List Int := if z = 0 then [65 + y] else if z = 1 then [c] else [101, 769]
theorem code_item {y c z : Int} (h0 : 0 ≤ z) (h1 : z < 3) : item [V.tup [.int (65 + y)], V.tup [.int c], V.tup [.int 101, .int 769]] z = some (V.tup ((codeI y c z).map V.int)) := by
  have : z = 0 ∨ z = 1 ∨ z = 2 := by lia
  rcases this with rfl | rfl | rfl <;> rfl
theorem law_put (X : Ctx W) {L nc nh n : Nat} {cs : List Int} {rs : List Nat} {s : ScI} {i : Ids} {c : Cur} {m : Lim} {g g' : List (List Cell)} (Z : Lw σ L nc nh n cs rs s i c m g g') (hL : L ≤ σ.length)
    (h : ∀ r k x, r < 3 → k < 6 → (x.w = 1 ∨ (x.w = 2 ∧ k + 1 < 6)) → PenOk x.p → ∀ σ' rs', Lw σ' L nc nh n cs rs' s i c m (g.set r (put (row g r) k x)) (g'.set r (lawOver (row g' r) k (wideTail x))) → σ.length ≤ σ'.length → Q .none σ') :
    CJ W (d + 7) u_law_put [.ref nc, .ref nh, .ref s.sc, .ref n] σ Q := by
  have hW := X.ok
  refine call.law_put X fun r_ => ?_
  have hS : σ.length ≤ σ.length := Nat.le_refl _
  refine (SsJ.cs (SJ.assignSwap (names := ["row", "column", "way"]) (EJ.tuple (LJ.cons (EJ.ce (Ev.gl hW .zx) X.k_law_draw (LEv.cs (Ev.nm .zx) (LEv.cs (Ev.nm (.i 1)) (LEv.cs Ev.ci LEv.nl))) (CJ.up (d' := 1) (law_draw X Z.H (by decide) fun x σ' hx0 hx1 hs H => have Z := Z.hand hs H; have hS := Nat.le_trans hS hs.1; (LJ.cons (EJ.ce (Ev.gl hW .zx) X.k_law_draw (LEv.cs (Ev.nm .zx) (LEv.cs (Ev.nm (.i 1)) (LEv.cs Ev.ci LEv.nl))) (CJ.up (d' := 1) (law_draw X Z.H (by decide) fun y σ' hy0 hy1 hs H => have Z := Z.hand hs H; have hS := Nat.le_trans hS hs.1; (LJ.cons (EJ.ce (Ev.gl hW .zx) X.k_law_draw (LEv.cs (Ev.nm .zx) (LEv.cs (Ev.nm (.i 1)) (LEv.cs Ev.ci LEv.nl))) (CJ.up (d' := 1) (law_draw X Z.H (by decide) fun x σ' hx0 hx1 hs H => have Z := Z.hand hs H; have hS := Nat.le_trans hS hs.1; (LJ.of LEv.nl ⟨(lb rfl), ⟨_, _, rfl, rfl, (PutAll.cons (.i 6) (PutAll.cons (.i 5) (PutAll.cons (.i 4) PutAll.nil))), (SsJ.cs (SJ.assignSwap (names := ["pen", "is_guarded"]) (EJ.tuple (LJ.cons (EJ.ce (Ev.gl hW (.i 1)) X.k_law_pen (LEv.cs (Ev.nm .zx) (LEv.cs (Ev.nm (.i 1)) LEv.nl)) (CJ.up (d' := 2) (law_pen X Z.H fun p σ' hp hs H => have Z := Z.hand hs H; have hS := Nat.le_trans hS hs.1; (LJ.cons (EJ.cmp (EJ.ce (Ev.gl hW .zx) X.k_law_draw (LEv.cs (Ev.nm .zx) (LEv.cs (Ev.nm (.i 1)) (LEv.cs Ev.ci LEv.nl))) (CJ.up (d' := 1) (law_draw X Z.H (by decide) fun b σ' hb0 hb1 hs H => have Z := Z.hand hs H; have hS := Nat.le_trans hS hs.1; (EJ.of Ev.ci (CmpJ.eq (LJ.of LEv.nl ⟨(lb rfl), ⟨_, _, rfl, rfl, (PutAll.cons (.i 8) (PutAll.cons (.i 7) PutAll.nil)), (SsJ.cs (SJ.sn (EJ.ite (TJ.and (TJ.cmp (EJ.of (Ev.nm (.i 6)) (EJ.of Ev.ci (CmpJ.eq (TrJ.bl (iteB (fun hc2 => (TJ.and (TJ.cmp (EJ.of (Ev.ad (Ev.nm (.i 5)) Ev.ci) (EJ.of (Ev.gl hW (.i 2)) (CmpJ.lt (TrJ.bl (iteB (fun hc3 => (TJ.and_nil (iteT (EJ.of Ev.ci (AJ.nm (.i 9) rfl (SsJ.cs (SJ.sn (EJ.sub (EJ.list (LJ.cons (EJ.of (Ev.tu (LEv.cs (Ev.ad Ev.ci (Ev.nm (.i 5))) LEv.nl) (lb rfl)) (LJ.cons (EJ.ite (TJ.cmp (EJ.of (Ev.nm (.i 9)) (EJ.of Ev.ci (CmpJ.eq (TrJ.bl (iteB (fun hc1 => (EJ.of (Ev.tu (LEv.cs Ev.ci LEv.nl) (lb rfl)) (LJ.of (LEv.cs (Ev.tu (LEv.cs Ev.ci (LEv.cs Ev.ci LEv.nl)) (lb rfl)) LEv.nl) ⟨(lb rfl), (EJ.of (Ev.nm (.i 6)) (GiJ.list (by exact kN) (code_item hx0 hx1) ?_ (AJ.nm (.i 10) rfl ?_)))⟩))) (fun hc1 => (EJ.of (Ev.tu (LEv.cs Ev.ci LEv.nl) (lb rfl)) (LJ.of (LEv.cs (Ev.tu (LEv.cs Ev.ci (LEv.cs Ev.ci LEv.nl)) (lb rfl)) LEv.nl) ⟨(lb rfl), (EJ.of (Ev.nm (.i 6)) (GiJ.list (by exact kN) (code_item hx0 hx1) ?_ (AJ.nm (.i 10) rfl ?_)))⟩)))))))))))))))))))))) (fun hc3 => (iteF (EJ.of Ev.ci (AJ.nm (.i 9) rfl (SsJ.cs (SJ.sn (EJ.sub (EJ.list (LJ.cons (EJ.of (Ev.tu (LEv.cs (Ev.ad Ev.ci (Ev.nm (.i 5))) LEv.nl) (lb rfl)) (LJ.cons (EJ.ite (TJ.cmp (EJ.of (Ev.nm (.i 9)) (EJ.of Ev.ci (CmpJ.eq (TrJ.bl (iteB (fun hc1 => (EJ.of (Ev.tu (LEv.cs Ev.ci LEv.nl) (lb rfl)) (LJ.of (LEv.cs (Ev.tu (LEv.cs Ev.ci (LEv.cs Ev.ci LEv.nl)) (lb rfl)) LEv.nl) ⟨(lb rfl), (EJ.of (Ev.nm (.i 6)) (GiJ.list (by exact kN) (code_item hx0 hx1) ?_ (AJ.nm (.i 10) rfl ?_)))⟩))) (fun hc1 => (EJ.of (Ev.tu (LEv.cs Ev.ci LEv.nl) (lb rfl)) (LJ.of (LEv.cs (Ev.tu (LEv.cs Ev.ci (LEv.cs Ev.ci LEv.nl)) (lb rfl)) LEv.nl) ⟨(lb rfl), (EJ.of (Ev.nm (.i 6)) (GiJ.list (by exact kN) (code_item hx0 hx1) ?_ (AJ.nm (.i 10) rfl ?_)))⟩))))))))))))))))))))))))))))) (fun hc2 => (iteF (EJ.of Ev.ci (AJ.nm (.i 9) rfl (SsJ.cs (SJ.sn (EJ.sub (EJ.list (LJ.cons (EJ.of (Ev.tu (LEv.cs (Ev.ad Ev.ci (Ev.nm (.i 5))) LEv.nl) (lb rfl)) (LJ.cons (EJ.ite (TJ.cmp (EJ.of (Ev.nm (.i 9)) (EJ.of Ev.ci (CmpJ.eq (TrJ.bl (iteB (fun hc1 => (EJ.of (Ev.tu (LEv.cs Ev.ci LEv.nl) (lb rfl)) (LJ.of (LEv.cs (Ev.tu (LEv.cs Ev.ci (LEv.cs Ev.ci LEv.nl)) (lb rfl)) LEv.nl) ⟨(lb rfl), (EJ.of (Ev.nm (.i 6)) (GiJ.list (by exact kN) (code_item hx0 hx1) ?_ (AJ.nm (.i 10) rfl ?_)))⟩))) (fun hc1 => (EJ.of (Ev.tu (LEv.cs Ev.ci LEv.nl) (lb rfl)) (LJ.of (LEv.cs (Ev.tu (LEv.cs Ev.ci (LEv.cs Ev.ci LEv.nl)) (lb rfl)) LEv.nl) ⟨(lb rfl), (EJ.of (Ev.nm (.i 6)) (GiJ.list (by exact kN) (code_item hx0 hx1) ?_ (AJ.nm (.i 10) rfl ?_)))⟩)))))))))))))))))))))))))))))))⟩⟩)))) dd))))) dd)))) rfl))⟩⟩)) dd)))) dd)))) dd)))) rfl))
  all_goals first
    | exact lb rfl
    | (try simp only [decide_eq_true_eq] at *
       refine put_tail X (Z.move .app) ?_ ?_ ?_ hy0 hy1 ?_ (fun r k hr hk hw σ' rs' Z' hl => h r k ⟨_, _, _, _⟩ hr hk hw ?_ σ' rs' Z' ?_) _
       · simp; lia
       · assumption
       · assumption
       · first | exact .inl rfl | exact .inr ⟨rfl, by lia⟩
       · assumption
       · simp at hl; lia)
end
section
variable {σ σ' : List CO} {L nc nh n : Nat} {cs : List Int} {rs : List Nat} {s : ScI} {i : Ids} {c c' : Cur} {m m' : Lim} {g g' g2 : List (List Cell)}
theorem Lw.own (Z : Lw σ L nc nh n cs rs s i c m g g') {f : Nat} {l : List V} (h1 : L ≤ f) (h2 : f ≠ n) (h3 : f ∉ rs) (hf : σ[f]? = some (.list l)) {o : CO} : Lw (σ.set f o) L nc nh n cs rs s i c m g g' := by
  have h : Same σ (σ.set f o) [f] := .set (by simp)
  have := Z.hl
  have := Z.cl
  have := Z.ls
  exact ⟨Z.H.move h (by simp; lia) (by simp; lia), ⟨h.get Z.S.sc (by simpa using inst_nl Z.S.sc hf), h.get Z.S.cu (by simpa using inst_nl Z.S.cu hf), h.get Z.S.mg (by simpa using inst_nl Z.S.mg hf), Z.S.G.keepl (fun x hx => by
    rw [mq hx]
    exact ⟨⟨_, hf⟩, by lia, fun q => by have := Z.lo _ q; lia⟩) h, Z.S.nsc, Z.S.ncu, Z.S.nmg⟩, Z.Sh.move h (by simpa using h2.symm) (fun x hx q => h3 (mq q ▸ hx)), Z.ic, Z.ih, Z.lo, Z.hl, Z.cl, Z.ls, Z.n, Z.r⟩
end
section
variable {W : Wd} {d : Nat} {σ : List CO} {Q : V → List CO → Prop}
noncomputable abbrev cuF (a b w p o k : V) : List (Sr × V) := [("row", a), ("column", b), ("is_waiting", w), ("pen", p), ("is_origin", o), ("is_guarding", k)]
theorem cu_o {a b w p o k v : V} : putF (cuF a b w p o k) "is_origin" v = cuF a b w p v k := by kernel_rfl
theorem cu_w {a b w p o k v : V} : putF (cuF a b w p o k) "is_waiting" v = cuF a b v p o k := by kernel_rfl
theorem cu_k {a b w p o k v : V} : putF (cuF a b w p o k) "is_guarding" v = cuF a b w p o v := by kernel_rfl
theorem cu_p {a b w p o k v : V} : putF (cuF a b w p o k) "pen" v = cuF a b w v o k := by kernel_rfl
noncomputable abbrev limL (m : Lim) : List V := [.int m.t, .int m.l, .int m.b, .int m.r]
theorem limits_tail (X : Ctx W) {L nc nh n f : Nat} {cs : List Int} {rs : List Nat} {s : ScI} {i : Ids} {c : Cur} {m : Lim} {g g' : List (List Cell)} {v1 v2 : Option V} (Z : Lw σ L nc nh n cs rs s i c m g g') (hcu : s.cu < L) {l : List V} (hf : σ[f]? = some (.list l)) (el : l = limL m) (hfl : L ≤ f)
    (h : ∀ c' σ', PenOk c'.p → Lw σ' L nc nh n cs rs s i c' m g g' → σ.length ≤ σ'.length → Q (limOf c' m).v σ') : ∀ r_ : FrD, SeqQ W (d + 3) (F_law_limits r_) (D_law_limits.body.drop 5) (RetQ Q) .next
      [("cells", some (.ref nc)), ("hand", some (.ref nh)), ("screen", some (.ref s.sc)), ("found", some (.ref f)), ("low", v1), ("high", v2), ("row", none), ("column", none)] σ := by
  have hW := X.ok
  intro r_
  subst el
  have hS : σ.length ≤ σ.length := Nat.le_refl _
  refine (SsJ.cs (SJ.assignSwap (names := ["row", "column"]) (EJ.tuple (LJ.cons (EJ.ce (Ev.gl hW (.i 2)) X.k_law_draw (LEv.cs (Ev.nm .zx) (LEv.cs (Ev.nm (.i 1)) (LEv.cs (Ev.gl hW .zx) LEv.nl))) (CJ.up (d' := 1) (law_draw X Z.H (by decide) fun x σ' hx0 hx1 hs H => have Z := Z.hand hs H; have hS := Nat.le_trans hS hs.1; have hf := hs.get hf (by have := Z.hl; simp; lia); (LJ.cons (EJ.ce (Ev.gl hW (.i 2)) X.k_law_draw (LEv.cs (Ev.nm .zx) (LEv.cs (Ev.nm (.i 1)) (LEv.cs (Ev.gl hW (.i 1)) LEv.nl))) (CJ.up (d' := 1) (law_draw X Z.H (by decide) fun y σ' hx0 hx1 hs H => have Z := Z.hand hs H; have hS := Nat.le_trans hS hs.1; have hf := hs.get hf (by have := Z.hl; simp; lia); have h1 := Z.S.sc; have h2 := Z.S.cu; (LJ.of LEv.nl ⟨(lb rfl), ⟨_, _, rfl, rfl, (PutAll.cons (.i 7) (PutAll.cons (.i 6) PutAll.nil)), (SsJ.cs (SJ.expr (EJ.methE hW (Ev.ta hW X.o_Screen (Ev.nm (.i 2)) X.a_Screen_cursor.find (by nofun) (nd_Screen rfl) (.i 6) rfl) (by nofun) X.m_Cursor_go (na_Cursor_go rfl) (LEv.cs (Ev.nm (.i 6)) (LEv.cs (Ev.nm (.i 7)) LEv.nl)) (CJ.up (d' := 1) (Cursor_go X Z.S.cu fun σ' hs hc => have Z := Z.curs hcu hs hc; have hS := Nat.le_trans hS hs.1; have hf := hs.get hf (by simp; lia); ?_) dd))))⟩⟩)) dd)))) dd)))) rfl))
  refine (SsJ.cs (SJ.sn (EJ.cmp (EJ.ce (Ev.gl hW (.i 2)) X.k_law_draw (LEv.cs (Ev.nm .zx) (LEv.cs (Ev.nm (.i 1)) (LEv.cs Ev.ci LEv.nl))) (CJ.up (d' := 1) (law_draw X Z.H (by decide) fun x1 σ' hx0 hx1 hs H => have Z := Z.hand hs H; have hS := Nat.le_trans hS hs.1; have hf := hs.get hf (by have := Z.hl; simp; lia); have h1 := Z.S.sc; have h2 := Z.S.cu; (EJ.of Ev.ci (CmpJ.eq (AJ.ta hW (Ev.ta hW X.o_Screen (Ev.nm (.i 2)) X.a_Screen_cursor.find (by nofun) (nd_Screen rfl) (.i 6) rfl) (by nofun) X.o_Cursor X.a_Cursor_is_origin.take (lb rfl) ?_)))) dd)))))
  rw [cu_o]
  have hs : Same σ' (σ'.set s.cu (cursorO ⟨x, y, false, c.p, x1 == 1, c.k⟩)) [s.cu] := .set (by simp)
  have Z := Z.curs hcu hs (kS Z.S.cu)
  have hS := Nat.le_trans hS hs.1
  have hf := hs.get hf (by simp; lia)
  generalize σ'.set s.cu (cursorO ⟨x, y, false, c.p, x1 == 1, c.k⟩) = τ7 at *
  refine (SsJ.cs (SJ.sn (EJ.cmp (EJ.ce (Ev.gl hW (.i 2)) X.k_law_draw (LEv.cs (Ev.nm .zx) (LEv.cs (Ev.nm (.i 1)) (LEv.cs Ev.ci LEv.nl))) (CJ.up (d' := 1) (law_draw X Z.H (by decide) fun x2 σ' hx0 hx1 hs H => have Z := Z.hand hs H; have hS := Nat.le_trans hS hs.1; have hf := hs.get hf (by have := Z.hl; simp; lia); have h1 := Z.S.sc; have h2 := Z.S.cu; (EJ.of Ev.ci (CmpJ.eq (AJ.ta hW (Ev.ta hW X.o_Screen (Ev.nm (.i 2)) X.a_Screen_cursor.find (by nofun) (nd_Screen rfl) (.i 6) rfl) (by nofun) X.o_Cursor X.a_Cursor_is_waiting.take (lb rfl) ?_)))) dd)))))
  rw [cu_w]
  have hs : Same σ' (σ'.set s.cu (cursorO ⟨x, y, x2 == 1, c.p, x1 == 1, c.k⟩)) [s.cu] := .set (by simp)
  have Z := Z.curs hcu hs (kS Z.S.cu)
  have hS := Nat.le_trans hS hs.1
  have hf := hs.get hf (by simp; lia)
  generalize σ'.set s.cu (cursorO ⟨x, y, x2 == 1, c.p, x1 == 1, c.k⟩) = τ8 at *
  refine (SsJ.cs (SJ.sn (EJ.cmp (EJ.ce (Ev.gl hW (.i 2)) X.k_law_draw (LEv.cs (Ev.nm .zx) (LEv.cs (Ev.nm (.i 1)) (LEv.cs Ev.ci LEv.nl))) (CJ.up (d' := 1) (law_draw X Z.H (by decide) fun x3 σ' hx0 hx1 hs H => have Z := Z.hand hs H; have hS := Nat.le_trans hS hs.1; have hf := hs.get hf (by have := Z.hl; simp; lia); have h1 := Z.S.sc; have h2 := Z.S.cu; (EJ.of Ev.ci (CmpJ.eq (AJ.ta hW (Ev.ta hW X.o_Screen (Ev.nm (.i 2)) X.a_Screen_cursor.find (by nofun) (nd_Screen rfl) (.i 6) rfl) (by nofun) X.o_Cursor X.a_Cursor_is_guarding.take (lb rfl) ?_)))) dd)))))
  rw [cu_k]
  have hs : Same σ' (σ'.set s.cu (cursorO ⟨x, y, x2 == 1, c.p, x1 == 1, x3 == 1⟩)) [s.cu] := .set (by simp)
  have Z := Z.curs hcu hs (kS Z.S.cu)
  have hS := Nat.le_trans hS hs.1
  have hf := hs.get hf (by simp; lia)
  generalize σ'.set s.cu (cursorO ⟨x, y, x2 == 1, c.p, x1 == 1, x3 == 1⟩) = τ9 at *
  refine (SsJ.cs (SJ.sn (EJ.ce (Ev.gl hW (.i 3)) X.k_law_pen (LEv.cs (Ev.nm .zx) (LEv.cs (Ev.nm (.i 1)) LEv.nl)) (CJ.up (d' := 2) (law_pen X Z.H fun p σ' hp hs H => have Z := Z.hand hs H; have hS := Nat.le_trans hS hs.1; have hf := hs.get hf (by have := Z.hl; simp; lia); have h1 := Z.S.sc; have h2 := Z.S.cu; (AJ.ta hW (Ev.ta hW X.o_Screen (Ev.nm (.i 2)) X.a_Screen_cursor.find (by nofun) (nd_Screen rfl) (.i 6) rfl) (by nofun) X.o_Cursor X.a_Cursor_pen.take (lb rfl) ?_)) dd))))
  rw [cu_p]
  have hs : Same σ' (σ'.set s.cu (cursorO ⟨x, y, x2 == 1, p, x1 == 1, x3 == 1⟩)) [s.cu] := .set (by simp)
  have Z := Z.curs hcu hs (kS Z.S.cu)
  have hS := Nat.le_trans hS hs.1
  have hf := hs.get hf (by simp; lia)
  generalize σ'.set s.cu (cursorO ⟨x, y, x2 == 1, p, x1 == 1, x3 == 1⟩) = τ10 at *
  have h1 := Z.S.sc
  have h2 := Z.S.cu
  have h := h _ _ ‹_› Z hS
  unfold limOf at h
  refine (SsJ.cs (SJ.ret (EJ.ite (TJ.plain (EJ.of (Ev.ta hW X.o_Cursor (Ev.ta hW X.o_Screen (Ev.nm (.i 2)) X.a_Screen_cursor.find (by nofun) (nd_Screen rfl) (.i 6) rfl) X.a_Cursor_is_origin.find (by nofun) (nd_Cursor rfl) (.i 4) rfl) (TrJ.bl (iteB (fun hc1 => (EJ.of (Ev.call (Ev.gl hW (.i 4)) Keeps.type (LEv.cs (Ev.nm (.i 3)) LEv.nl) (CE.tupleList (by nofun) ?_)) ?_)) (fun hc1 => (EJ.of (Ev.tu (LEv.cs Ev.ci (LEv.cs Ev.ci (LEv.cs (Ev.sb (Ev.gl hW .zx) Ev.ci) (LEv.cs (Ev.sb (Ev.gl hW (.i 1)) Ev.ci) LEv.nl)))) (lb rfl)) ?_)))))))))
  · exact lb rfl
  · rw [if_pos ‹_›] at h; exact h
  · have q : (x1 == 1) = false := by assumption
    rw [if_neg (fun z => Bool.noConfusion (q.symm.trans z))] at h; exact h
theorem limits_cols (X : Ctx W) {L nc nh n f : Nat} {cs : List Int} {rs : List Nat} {s : ScI} {i : Ids} {c : Cur} {t b : Nat} {g g' : List (List Cell)} {v1 v2 : Option V} (Z : Lw σ L nc nh n cs rs s i c ⟨t, 0, b, 5⟩ g g') (hL : L ≤ f) (hfn : f ≠ n) (hfr : f ∉ rs) (hcu : s.cu < L) (hmg : s.mg < L) (ht : t ≤ b) (hb : b < 3) (hf : σ[f]? = some (.list (limL ⟨t, 0, b, 5⟩)))
    (h : ∀ c' m σ', m.Ok → PenOk c'.p → Lw σ' L nc nh n cs rs s i c' m g g' → σ.length ≤ σ'.length → Q (limOf c' m).v σ') : ∀ r_ : FrD, SeqQ W (d + 3) (F_law_limits r_) (D_law_limits.body.drop 3) (RetQ Q) .next
      [("cells", some (.ref nc)), ("hand", some (.ref nh)), ("screen", some (.ref s.sc)), ("found", some (.ref f)), ("low", v1), ("high", v2), ("row", none), ("column", none)] σ := by
  have hW := X.ok
  intro r_
  have hS : σ.length ≤ σ.length := Nat.le_refl _
  refine (SsJ.cs (SJ.assignSwap (names := ["low", "high"]) (EJ.tuple (LJ.cons (EJ.ce (Ev.gl hW (.i 2)) X.k_law_draw (LEv.cs (Ev.nm .zx) (LEv.cs (Ev.nm (.i 1)) (LEv.cs (Ev.gl hW (.i 1)) LEv.nl))) (CJ.up (d' := 1) (law_draw X Z.H (by decide) fun y σ' hx0 hx1 hs H => have Z := Z.hand hs H; have hS := Nat.le_trans hS hs.1; have hf := hs.get hf (by have := Z.hl; simp; lia); have h1 := Z.S.sc; have h3 := Z.S.mg; (LJ.cons (EJ.ce (Ev.gl hW (.i 2)) X.k_law_draw (LEv.cs (Ev.nm .zx) (LEv.cs (Ev.nm (.i 1)) (LEv.cs (Ev.gl hW (.i 1)) LEv.nl))) (CJ.up (d' := 1) (law_draw X Z.H (by decide) fun y σ' hx0 hx1 hs H => have Z := Z.hand hs H; have hS := Nat.le_trans hS hs.1; have hf := hs.get hf (by have := Z.hl; simp; lia); have h1 := Z.S.sc; have h3 := Z.S.mg; (LJ.of LEv.nl ⟨(lb rfl), ⟨_, _, rfl, rfl, (PutAll.cons (.i 5) (PutAll.cons (.i 4) PutAll.nil)), (SsJ.cs (SJ.iteB (TEv.cmp (Ev.nm (.i 4)) (Ev.nm (.i 5)) CmpE.lt) (fun hc1 => (SsJ.cs (SJ.expr (EJ.methE hW (Ev.ta hW X.o_Screen (Ev.nm (.i 2)) X.a_Screen_margins.find (by first | assumption | exact kS hf) (nd_Screen rfl) (.i 7) rfl) (by first | assumption | exact kS hf) X.m_Margins_set_columns (na_Margins_set_columns rfl) (LEv.cs (Ev.nm (.i 4)) (LEv.cs (Ev.nm (.i 5)) LEv.nl)) (CJ.up (d' := 1) (Margins_set_columns X ‹_› (of_decide_eq_true ‹_›) ‹_› Z.S.mg fun v σ' hs hc => have Z := Z.marg hmg hs hc; have hS := Nat.le_trans hS hs.1; have hf := hs.get hf (by simp; lia); (SsJ.cs (SJ.sn (EJ.of (Ev.tu (LEv.cs (Ev.nm (.i 4)) (LEv.cs (Ev.nm (.i 5)) LEv.nl)) (lb rfl)) (AJ.tuple (AsJ.cons (AJ.itemE (Ev.nm (.i 3)) Ev.ci (by first | assumption | exact kS hf) ?_ ?_ ?_ (AsJ.cons (AJ.itemE (Ev.nm (.i 3)) Ev.ci (by first | assumption | exact kS hf) ?_ ?_ ?_ (AsJ.nil (SsJ.nl ?_))))))))))) dd))))) (fun hc1 => (SsJ.nl ?_))))⟩⟩)) dd)))) dd)))) rfl))
  all_goals first
    | exact lb rfl
    | (simp; done)
    | (exact absurd ‹_› (by decide))
    | (refine limits_tail X (((Z.own hL hfn hfr hf)).own hL hfn hfr (kS hf)) hcu (kS (kS hf)) ?_ hL (fun c' σ' h1 h2 h3 => h c' _ σ' ⟨ht, hb, ?_, ?_⟩ h1 h2 ?_) _
       · show [_, _, _, _] = [_, _, _, _]
         rw [Int.toNat_of_nonneg ‹_›, Int.toNat_of_nonneg ‹_›]
       · have q := of_decide_eq_true hc1
         show Int.toNat _ ≤ Int.toNat _
         lia
       · show Int.toNat _ < 6
         lia
       · simp at h3; lia)
    | exact limits_tail X Z hcu hf rfl hL (fun c' σ' h1 h2 h3 => h c' _ σ' ⟨ht, hb, Nat.zero_le 5, (by decide : 5 < 6)⟩ h1 h2 (Nat.le_trans hS h3)) _
theorem law_limits (X : Ctx W) {L nc nh n : Nat} {cs : List Int} {rs : List Nat} {s : ScI} {i : Ids} {c : Cur} {g g' : List (List Cell)} (Z : Lw σ L nc nh n cs rs s i c whole g g') (hL : L ≤ σ.length) (hcu : s.cu < L) (hmg : s.mg < L)
    (h : ∀ c' m σ', m.Ok → PenOk c'.p → Lw σ' L nc nh n cs rs s i c' m g g' → σ.length ≤ σ'.length → Q (limOf c' m).v σ') : CJ W (d + 4) u_law_limits [.ref nc, .ref nh, .ref s.sc] σ Q := by
  have hW := X.ok
  refine call.law_limits X fun r_ => ?_
  have hn := (gq Z.Sh.out).1
  have hr : σ.length ∉ rs := fun q => by
    obtain ⟨j, hj, e⟩ := List.mem_iff_getElem.mp q
    have hj3 : j < 3 := by rw [← Z.Sh.len]; exact hj
    have z := (gq (Z.Sh.row hj3)).1
    rw [rowId, List.getD_eq_getElem?_getD, List.getElem?_eq_getElem hj, e] at z
    simp at z
  have Z := Z.move (σ' := σ ++ [CO.list (limL whole)]) .app
  have hf : (σ ++ [CO.list (limL whole)])[σ.length]? = some (.list (limL whole)) := kN
  have hS : σ.length ≤ (σ ++ [CO.list (limL whole)]).length := by simp
  refine (SsJ.cs (SJ.sn (EJ.list (LJ.of (LEv.cs Ev.ci (LEv.cs Ev.ci (LEv.cs (Ev.sb (Ev.gl hW .zx) Ev.ci) (LEv.cs (Ev.sb (Ev.gl hW (.sx .zx)) Ev.ci) LEv.nl)))) ⟨(lb rfl), (AJ.nm (.sx (.sx (.sx .zx))) rfl (SsJ.cs (SJ.assignSwap (names := ["low", "high"]) (EJ.tuple (LJ.cons (EJ.ce (Ev.gl hW (.sx (.sx .zx))) X.k_law_draw (LEv.cs (Ev.nm .zx) (LEv.cs (Ev.nm (.sx .zx)) (LEv.cs (Ev.gl hW .zx) LEv.nl))) (CJ.up (d' := 1) (law_draw X Z.H (by decide) fun x σ' hx0 hx1 hs H => have Z := Z.hand hs H; have hS := Nat.le_trans hS hs.1; have hf := hs.get hf (by have := Z.hl; simp; lia); have h1 := Z.S.sc; have h3 := Z.S.mg; (LJ.cons (EJ.ce (Ev.gl hW (.sx (.sx .zx))) X.k_law_draw (LEv.cs (Ev.nm .zx) (LEv.cs (Ev.nm (.sx .zx)) (LEv.cs (Ev.gl hW .zx) LEv.nl))) (CJ.up (d' := 1) (law_draw X Z.H (by decide) fun x σ' hx0 hx1 hs H => have Z := Z.hand hs H; have hS := Nat.le_trans hS hs.1; have hf := hs.get hf (by have := Z.hl; simp; lia); have h1 := Z.S.sc; have h3 := Z.S.mg; (LJ.of LEv.nl ⟨(lb rfl), ⟨_, _, rfl, rfl, (PutAll.cons (.sx (.sx (.sx (.sx (.sx .zx))))) (PutAll.cons (.sx (.sx (.sx (.sx .zx)))) PutAll.nil)), (SsJ.cs (SJ.iteB (TEv.cmp (Ev.nm (.sx (.sx (.sx (.sx .zx))))) (Ev.nm (.sx (.sx (.sx (.sx (.sx .zx)))))) CmpE.lt) (fun hc1 => (SsJ.cs (SJ.expr (EJ.methE hW (Ev.ta hW X.o_Screen (Ev.nm (.sx (.sx .zx))) X.a_Screen_margins.find (by first | assumption | exact kS hf) (nd_Screen rfl) (.sx (.sx (.sx (.sx (.sx (.sx (.sx .zx))))))) rfl) (by first | assumption | exact kS hf) X.m_Margins_set_rows (na_Margins_set_rows rfl) (LEv.cs (Ev.nm (.sx (.sx (.sx (.sx .zx))))) (LEv.cs (Ev.nm (.sx (.sx (.sx (.sx (.sx .zx)))))) LEv.nl)) (CJ.up (d' := 1) (Margins_set_rows X ‹_› (of_decide_eq_true ‹_›) ‹_› Z.S.mg fun v σ' hs hc => have Z := Z.marg hmg hs hc; have hS := Nat.le_trans hS hs.1; have hf := hs.get hf (by simp; lia); (SsJ.cs (SJ.sn (EJ.of (Ev.tu (LEv.cs (Ev.nm (.sx (.sx (.sx (.sx .zx))))) (LEv.cs (Ev.nm (.sx (.sx (.sx (.sx (.sx .zx)))))) LEv.nl)) (lb rfl)) (AJ.tuple (AsJ.cons (AJ.itemE (Ev.nm (.sx (.sx (.sx .zx)))) Ev.ci (by first | assumption | exact kS hf) ?_ ?_ ?_ (AsJ.cons (AJ.itemE (Ev.nm (.sx (.sx (.sx .zx)))) Ev.ci (by first | assumption | exact kS hf) ?_ ?_ ?_ (AsJ.nil (SsJ.nl ?_))))))))))) dd))))) (fun hc1 => (SsJ.nl ?_))))⟩⟩)) dd)))) dd)))) rfl)))⟩))))
  all_goals first
    | exact lb rfl
    | (simp; done)
    | (refine limits_cols X (((Z.own hL (Nat.ne_of_gt hn) hr hf)).own hL (Nat.ne_of_gt hn) hr (kS hf)) hL (Nat.ne_of_gt hn) hr hcu hmg ?_ ?_ ((kS (kS hf)).trans (congrArg (fun l => some (CO.list l)) ?_)) (fun c' m σ' h1 h2 h3 h4 => h c' m σ' h1 h2 h3 ?_) _
       · have q := of_decide_eq_true hc1
         show Int.toNat _ ≤ Int.toNat _
         lia
       · show Int.toNat _ < 3
         lia
       · show [_, _, _, _] = [_, _, _, _]
         rw [Int.toNat_of_nonneg ‹_›, Int.toNat_of_nonneg ‹_›]
       · try simp at h4
         try simp at hS
         lia)
    | exact limits_cols X Z hL (Nat.ne_of_gt hn) hr hcu hmg (Nat.zero_le 2) (by decide : 2 < 3) hf (fun c' m σ' h1 h2 h3 h4 => h c' m σ' h1 h2 h3 (Nat.le_trans hS h4)) _
end
noncomputable def someV : List (Option Int) := [none, some 0, some 1, some 4, some 5, some 7, some 8, some 22, some 24, some 25, some 27, some 28, some 3, some 9, some 2, some 23]
noncomputable def codesV : List (Option Int) := [none, some 31, some 32, some 65, some 126, some 127, some 159, some 160, some 255, some 256]
theorem list_item {vs : List (Option Int)} {x : Int} (h0 : 0 ≤ x) (h1 : x < vs.length) : ∃ o ∈ vs, item (vs.map ov) x = some (ov o) := by
  have hx : x.toNat < vs.length := by lia
  have := ov_item (List.getElem?_eq_getElem hx)
  rw [show ((x.toNat : Nat) : Int) = x by lia] at this
  exact ⟨_, List.getElem_mem hx, this⟩
inductive Deed (u : Lim) (c : Cur) (g : List (List Cell)) : List (List Cell) → List (List Cell) → Prop
  | same : Deed u c g g g
  | fill (vs : List (Option Int)) (A : Lim) (x : Int) : NonNeg vs → areaN u vs 0 = some A → Deed u c g (fillG g (some A) ⟨[x], 1, c.p, c.k⟩) (fillL g A ⟨[x], 1, c.p, c.k⟩)
  | erase (vs : List (Option Int)) (A : Lim) : NonNeg vs → areaN u vs 0 = some A → Deed u c g (eraseG g (some A) c.p false) (fillL g A c.p.blank)
  | spare (vs : List (Option Int)) (A : Lim) : NonNeg vs → areaN u vs 0 = some A → Deed u c g (eraseG g (some A) c.p true) (spareL g A c.p.blank)
  | copy (vs : List (Option Int)) (A : Lim) : NonNeg vs → vs.length = 7 → areaN u vs 0 = some A → Deed u c g (copyR g u (vs ++ [some 1])) (copyL g u A vs)
  | pens (vs : List (Option Int)) (A : Lim) (st rev : Bool) (os : List (Option Int)) : NonNeg vs → vs.length = 4 → areaN u vs 0 = some A → (∀ o ∈ os, o ∈ someV) → Deed u c g (pensG g u (some A) st (if rev then toggledP (numsOf (vs ++ os)) else turnedP (numsOf (vs ++ os)))) (repenL g u A st (lawP rev os))
theorem valO_cons (o : Option Int) (vs : List (Option Int)) (k : Nat) (dflt : Int) : valO (o :: vs) (k + 1) dflt = valO vs k dflt := rfl
theorem areaN_cons (u : Lim) (o : Option Int) (vs : List (Option Int)) : areaN u (o :: vs) 1 = areaN u vs 0 := rfl
theorem valO_app {vs ws : List (Option Int)} {k : Nat} {dflt : Int} (h : k < vs.length) : valO (vs ++ ws) k dflt = valO vs k dflt := by
  unfold valO plain; rw [List.getElem?_append_left h]
theorem areaN_app {u : Lim} {vs ws : List (Option Int)} (h : 4 ≤ vs.length) : areaN u (vs ++ ws) 0 = areaN u vs 0 := by
  unfold areaN; rw [valO_app (by lia), valO_app (by lia), valO_app (by lia), valO_app (by lia)]
section
variable {W : Wd} {d : Nat} {σ : List CO} {Q : V → List CO → Prop}
def PL (σ : List CO) (ms : List Nat) (vs : List (Option Int)) : Prop := ms.length = vs.length ∧ ∀ (i m : Nat) o, ms[i]? = some m → vs[i]? = some o → σ[m]? = some (.list [ov o])
theorem PL.move {σ' : List CO} {ms : List Nat} {vs : List (Option Int)} (h : PL σ ms vs) (s : Same σ σ' []) : PL σ' ms vs := ⟨h.1, fun i m o h1 h2 => s.get (h.2 i m o h1 h2) (by simp)⟩
theorem PL.app {ms ms' : List Nat} {vs vs' : List (Option Int)} (h : PL σ ms vs) (h' : PL σ ms' vs') : PL σ (ms ++ ms') (vs ++ vs') := by
  refine ⟨by simp [h.1, h'.1], fun i m o h1 h2 => ?_⟩
  by_cases hi : i < ms.length
  · rw [List.getElem?_append_left hi] at h1
    rw [List.getElem?_append_left (by rw [← h.1]; exact hi)] at h2
    exact h.2 i m o h1 h2
  · rw [List.getElem?_append_right (by lia)] at h1
    rw [List.getElem?_append_right (by rw [← h.1]; lia), ← h.1] at h2
    exact h'.2 _ m o h1 h2
theorem PL.one {m : Nat} {o : Option Int} (h : σ[m]? = some (.list [ov o])) : PL σ [m] [o] := by
  refine ⟨rfl, fun i k p h1 h2 => ?_⟩
  match i, h1, h2 with
  | 0, h1, h2 => simp at h1 h2; subst h1 h2; exact h
theorem wraps {F' : Fm} {elt : Xp} {x : Sr} {caps : List (Sr × V)} {m : Nat} {vs : List (Option Int)} {Qe : List CO → Prop} (hm : σ[m]? = some (.list (vs.map ov)))
    (he : ∀ (v : V) (τ : List CO) (R : V → List CO → Prop), R (.ref τ.length) (τ ++ [.list [v]]) → EJ W d F' elt ((x, some v) :: capR caps) τ R)
    (hq : ∀ σ' ms, Same σ σ' [] → σ'[σ.length]? = some (.list (ms.map V.ref)) → PL σ' ms vs → (∀ k ∈ ms, σ.length < k) → Qe σ') : CompL W d F' elt x caps (fun τ => τ[m]? = some (.list (vs.map ov))) σ.length Qe (vs.map ov) [] (σ ++ [.list []]) := by
  have hn := (gq hm).1
  refine CompL.idx (fun i acc τ => ∃ ms, acc = ms.map V.ref ∧ Same σ τ [] ∧ τ[σ.length]? = some (.list acc) ∧ PL τ ms (vs.take i) ∧ ∀ k ∈ ms, σ.length < k) ⟨[], rfl, .app, kN, ⟨rfl, by simp⟩, by simp⟩ ?_ ?_
  · rintro i c acc τ hc ⟨ms, rfl, hs, hτ, hP, hk⟩
    rw [List.getElem?_map] at hc
    obtain ⟨o, ho, rfl⟩ := Option.map_eq_some_iff.mp hc
    have hlt := (gq hτ).1
    refine he _ τ _ ?_
    have z : (τ ++ [CO.list [ov o]])[σ.length]? = some (.list (ms.map V.ref)) := kA hτ
    have s2 : Same (τ ++ [CO.list [ov o]]) ((τ ++ [CO.list [ov o]]).set σ.length (.list (ms.map V.ref ++ [.ref τ.length]))) [σ.length] := .set (by simp)
    refine ⟨z, get_ne (kA (hs.get hm (by simp))) (by lia), ms ++ [τ.length], by simp, (hs.trans .app).setNew (Nat.le_refl _), kS z, ?_, fun q hq => ?_⟩
    · rw [List.take_add_one, ho]
      have h2 := (hP.move (σ' := τ ++ [CO.list [ov o]]) .app).app (PL.one (m := τ.length) kN)
      refine ⟨h2.1, fun j k p h3 h4 => s2.get (h2.2 j k p h3 h4) fun q => ?_⟩
      have q := mq q
      have h5 := List.mem_of_getElem? h3
      rcases List.mem_append.mp h5 with h6 | h6
      · have := hk _ h6; lia
      · have := mq h6; lia
    · rcases List.mem_append.mp hq with hq | hq
      · exact hk q hq
      · have := mq hq; lia
  · rintro acc τ ⟨ms, rfl, hs, hτ, hP, hk⟩
    rw [List.length_map, List.take_length] at hP
    exact hq τ ms hs hτ hP hk
theorem deed1 (X : Ctx W) {L nc nh n nv np : Nat} {cs : List Int} {rs ms : List Nat} {s : ScI} {i : Ids} {c : Cur} {m : Lim} {g : List (List Cell)} {vs : List (Option Int)} {w : Int} (Z : Lw σ L nc nh n cs rs s i c m g g) (hL : L ≤ σ.length) (hu : (limOf c m).Ok) (hw2 : ∀ q, q < 3 → W2 (row g q)) (hw0 : ∀ q, q < 3 → W0 (row g q)) (hvn : NonNeg vs) (hvl : vs.length ≤ 7) (hnv : σ[nv]? = some (.list (vs.map ov))) (hnvL : L ≤ nv) (hnpL : L ≤ np) (hmsL : ∀ k ∈ ms, L ≤ k) (hnp : σ[np]? = some (.list (ms.map V.ref))) (hP : PL σ ms vs) (hw : w = 1)
    (h : ∀ σ' n' rs' gA gB, Deed (limOf c m) c g gA gB → Lw σ' L nc nh n' cs rs' s i c m gA gB → σ.length ≤ σ'.length → Q (.ref n') σ') : ∀ r_ : FrD, SeqQ W (d + 8) (F_law_deed r_) (D_law_deed.body.drop 5) (RetQ Q) .next
      [("cells", some (.ref nc)), ("hand", some (.ref nh)), ("screen", some (.ref s.sc)), ("shown", some (.ref n)), ("limits", some (limOf c m).v), ("way", some (.int w)), ("values", some (.ref nv)), ("area", some (Lim.ov (areaN (limOf c m) vs 0))), ("cursor", some (.ref s.cu)), ("params", some (.ref np)), ("code", none), ("some", none), ("numbers", none)] σ := by
  have hW := X.ok
  intro r_
  have hPar : Par σ np vs := ⟨ms, hnp, hP.1, hP.2⟩
  subst hw
  cases e : areaN (limOf c m) vs 0 with
  | none =>
    refine (SsJ.cs (SJ.iteF (TEv.cmp (Ev.nm (.i 5)) Ev.ci CmpE.eq) rfl (SsJ.nl (SsJ.cs (SJ.iteT (TEv.cmp (Ev.nm (.i 5)) Ev.ci CmpE.eq) rfl (SsJ.cs (SJ.expr (EJ.ce (Ev.gl hW (.i 5)) X.k_erase_rectangle (LEv.cs (Ev.nm (.i 2)) (LEv.cs (Ev.nm (.i 9)) LEv.nl)) (CJ.up (d' := 7) (erase_rectangle1 X Z.S hu hPar hvn (by lia) fun σ' hs hG => (SsJ.cs (SJ.ret (EJ.ite (TJ.cmp (EJ.of (Ev.nm (.i 7)) (EJ.of Ev.cnone (CmpJ.nn rfl (TrJ.bl (iteN rfl (EJ.of (Ev.nm (.i 3)) ?_))))))))))) dd)))))))))
    rw [e] at hG
    exact h _ _ _ _ _ .same (Z.cells hs hG) hs.1
  | some A =>
    obtain ⟨hA, -⟩ := areaN_ok hu hvn e
    refine (SsJ.cs (SJ.iteF (TEv.cmp (Ev.nm (.i 5)) Ev.ci CmpE.eq) rfl (SsJ.nl (SsJ.cs (SJ.iteT (TEv.cmp (Ev.nm (.i 5)) Ev.ci CmpE.eq) rfl (SsJ.cs (SJ.expr (EJ.ce (Ev.gl hW (.i 5)) X.k_erase_rectangle (LEv.cs (Ev.nm (.i 2)) (LEv.cs (Ev.nm (.i 9)) LEv.nl)) (CJ.up (d' := 7) (erase_rectangle1 X Z.S hu hPar hvn (by lia) fun σ' hs hG => have Z1 := Z.cells hs hG; have hcu := Z1.S.cu; (SsJ.cs (SJ.ret (EJ.ite (TJ.cmp (EJ.of (Ev.nm (.i 7)) (EJ.of Ev.cnone (CmpJ.nn rfl (TrJ.bl (iteY rfl (EJ.call (EJ.glob hW (.i 4) ⟨_, rfl, X.k_law_filled, (LJ.cons (EJ.of (Ev.nm (.i 3)) (LJ.cons (EJ.of (Ev.nm (.i 7)) (LJ.cons (EJ.ce (Ev.gl hW (.i 6)) X.k_law_empty (LEv.cs (Ev.ta hW X.o_Cursor (Ev.nm (.i 8)) X.a_Cursor_pen.find (by nofun) (nd_Cursor rfl) (.i 3) rfl) LEv.nl) (CJ.up (d' := 1) (law_empty X (LJ.of LEv.nl (CJ.up (d' := 4) (law_filled X (x := c.p.blank) Z1.Sh hA fun σ2 m2 rs2 hs2 hm2 hk2 S2 => ?_) dd))) dd)))))))⟩)))))))))))) dd)))))))))
    rw [e] at hG
    have q := hs.1
    have q2 := hs2.1
    exact h _ _ _ _ _ (.erase vs A hvn e) (((Z.cells hs hG).move hs2).shown S2 (by lia) fun x hx => by have := hk2 x hx; lia) (by lia)
theorem deed2 (X : Ctx W) {L nc nh n nv np : Nat} {cs : List Int} {rs ms : List Nat} {s : ScI} {i : Ids} {c : Cur} {m : Lim} {g : List (List Cell)} {vs : List (Option Int)} {w : Int} (Z : Lw σ L nc nh n cs rs s i c m g g) (hL : L ≤ σ.length) (hu : (limOf c m).Ok) (hw2 : ∀ q, q < 3 → W2 (row g q)) (hw0 : ∀ q, q < 3 → W0 (row g q)) (hvn : NonNeg vs) (hvl : vs.length ≤ 7) (hnv : σ[nv]? = some (.list (vs.map ov))) (hnvL : L ≤ nv) (hnpL : L ≤ np) (hmsL : ∀ k ∈ ms, L ≤ k) (hnp : σ[np]? = some (.list (ms.map V.ref))) (hP : PL σ ms vs) (hw : w = 2)
    (h : ∀ σ' n' rs' gA gB, Deed (limOf c m) c g gA gB → Lw σ' L nc nh n' cs rs' s i c m gA gB → σ.length ≤ σ'.length → Q (.ref n') σ') : ∀ r_ : FrD, SeqQ W (d + 8) (F_law_deed r_) (D_law_deed.body.drop 5) (RetQ Q) .next
      [("cells", some (.ref nc)), ("hand", some (.ref nh)), ("screen", some (.ref s.sc)), ("shown", some (.ref n)), ("limits", some (limOf c m).v), ("way", some (.int w)), ("values", some (.ref nv)), ("area", some (Lim.ov (areaN (limOf c m) vs 0))), ("cursor", some (.ref s.cu)), ("params", some (.ref np)), ("code", none), ("some", none), ("numbers", none)] σ := by
  have hW := X.ok
  intro r_
  have hPar : Par σ np vs := ⟨ms, hnp, hP.1, hP.2⟩
  subst hw
  cases e : areaN (limOf c m) vs 0 with
  | none =>
    refine (SsJ.cs (SJ.iteF (TEv.cmp (Ev.nm (.i 5)) Ev.ci CmpE.eq) rfl (SsJ.nl (SsJ.cs (SJ.iteF (TEv.cmp (Ev.nm (.i 5)) Ev.ci CmpE.eq) rfl (SsJ.nl (SsJ.cs (SJ.iteT (TEv.cmp (Ev.nm (.i 5)) Ev.ci CmpE.eq) rfl (SsJ.cs (SJ.expr (EJ.ce (Ev.gl hW (.i 5)) X.k_erase_rectangle (LEv.cs (Ev.nm (.i 2)) (LEv.cs (Ev.nm (.i 9)) (LEv.cs Ev.cbool LEv.nl))) (CJ.up (d' := 7) (erase_rectangle X Z.S hu hPar hvn (by lia) fun σ' hs hG => (SsJ.cs (SJ.ret (EJ.ite (TJ.cmp (EJ.of (Ev.nm (.i 7)) (EJ.of Ev.cnone (CmpJ.nn rfl (TrJ.bl (iteN rfl (EJ.of (Ev.nm (.i 3)) ?_))))))))))) dd))))))))))))
    rw [e] at hG
    exact h _ _ _ _ _ .same (Z.cells hs hG) hs.1
  | some A =>
    obtain ⟨hA, -⟩ := areaN_ok hu hvn e
    refine (SsJ.cs (SJ.iteF (TEv.cmp (Ev.nm (.i 5)) Ev.ci CmpE.eq) rfl (SsJ.nl (SsJ.cs (SJ.iteF (TEv.cmp (Ev.nm (.i 5)) Ev.ci CmpE.eq) rfl (SsJ.nl (SsJ.cs (SJ.iteT (TEv.cmp (Ev.nm (.i 5)) Ev.ci CmpE.eq) rfl (SsJ.cs (SJ.expr (EJ.ce (Ev.gl hW (.i 5)) X.k_erase_rectangle (LEv.cs (Ev.nm (.i 2)) (LEv.cs (Ev.nm (.i 9)) (LEv.cs Ev.cbool LEv.nl))) (CJ.up (d' := 7) (erase_rectangle X Z.S hu hPar hvn (by lia) fun σ' hs hG => have Z1 := Z.cells hs hG; have hcu := Z1.S.cu; (SsJ.cs (SJ.ret (EJ.ite (TJ.cmp (EJ.of (Ev.nm (.i 7)) (EJ.of Ev.cnone (CmpJ.nn rfl (TrJ.bl (iteY rfl (EJ.call (EJ.glob hW (.i 7) ⟨_, rfl, X.k_law_spared, (LJ.cons (EJ.of (Ev.nm (.i 3)) (LJ.cons (EJ.of (Ev.nm (.i 7)) (LJ.cons (EJ.ce (Ev.gl hW (.i 6)) X.k_law_empty (LEv.cs (Ev.ta hW X.o_Cursor (Ev.nm (.i 8)) X.a_Cursor_pen.find (by nofun) (nd_Cursor rfl) (.i 3) rfl) LEv.nl) (CJ.up (d' := 1) (law_empty X (LJ.of LEv.nl (CJ.up (d' := 4) (law_spared X (x := c.p.blank) Z1.Sh hA hw2 hw0 fun σ2 m2 rs2 hs2 hm2 hk2 S2 => ?_) dd))) dd)))))))⟩)))))))))))) dd))))))))))))
    rw [e] at hG
    have q := hs.1
    have q2 := hs2.1
    exact h _ _ _ _ _ (.spare vs A hvn e) (((Z.cells hs hG).move hs2).shown S2 (by lia) fun x hx => by have := hk2 x hx; lia) (by lia)
theorem deed3 (X : Ctx W) {L nc nh n nv np : Nat} {cs : List Int} {rs ms : List Nat} {s : ScI} {i : Ids} {c : Cur} {m : Lim} {g : List (List Cell)} {vs : List (Option Int)} {w : Int} (Z : Lw σ L nc nh n cs rs s i c m g g) (hL : L ≤ σ.length) (hu : (limOf c m).Ok) (hw2 : ∀ q, q < 3 → W2 (row g q)) (hw0 : ∀ q, q < 3 → W0 (row g q)) (hvn : NonNeg vs) (hvl : vs.length ≤ 7) (hnv : σ[nv]? = some (.list (vs.map ov))) (hnvL : L ≤ nv) (hnpL : L ≤ np) (hmsL : ∀ k ∈ ms, L ≤ k) (hnp : σ[np]? = some (.list (ms.map V.ref))) (hP : PL σ ms vs) (hw : w = 3) (hv7 : vs.length = 7)
    (h : ∀ σ' n' rs' gA gB, Deed (limOf c m) c g gA gB → Lw σ' L nc nh n' cs rs' s i c m gA gB → σ.length ≤ σ'.length → Q (.ref n') σ') : ∀ r_ : FrD, SeqQ W (d + 8) (F_law_deed r_) (D_law_deed.body.drop 5) (RetQ Q) .next
      [("cells", some (.ref nc)), ("hand", some (.ref nh)), ("screen", some (.ref s.sc)), ("shown", some (.ref n)), ("limits", some (limOf c m).v), ("way", some (.int w)), ("values", some (.ref nv)), ("area", some (Lim.ov (areaN (limOf c m) vs 0))), ("cursor", some (.ref s.cu)), ("params", some (.ref np)), ("code", none), ("some", none), ("numbers", none)] σ := by
  have hW := X.ok
  intro r_
  have hPar : Par σ np vs := ⟨ms, hnp, hP.1, hP.2⟩
  subst hw
  have hnn : NonNeg (vs ++ [some 1]) := fun o ho j hj => by
    rcases List.mem_append.mp ho with q | q
    · exact hvn o q j hj
    · rw [mq q] at hj; cases hj; decide
  have hPar1 : Par (σ ++ [CO.list [.int 1]] ++ [CO.list [.ref σ.length]] ++ [CO.list (ms.map V.ref ++ [.ref σ.length])]) (σ ++ [CO.list [.int 1]] ++ [CO.list [.ref σ.length]]).length (vs ++ [some 1]) :=
    let p := (hP.move (σ' := σ ++ [CO.list [.int 1]]) .app).app (PL.one (o := some 1) kN)
    let p := (p.move (σ' := σ ++ [CO.list [.int 1]] ++ [CO.list [.ref σ.length]]) .app).move (σ' := σ ++ [CO.list [.int 1]] ++ [CO.list [.ref σ.length]] ++ [CO.list (ms.map V.ref ++ [.ref σ.length])]) .app
    ⟨ms ++ [σ.length], by rw [List.map_append]; exact kN, p.1, p.2⟩
  have hms : ms.length ≤ 7 := by rw [hP.1]; exact hvl
  have ea := areaN_app (u := limOf c m) (vs := vs) (ws := [some 1]) (by lia)
  have h3 : Same σ (σ ++ [CO.list [.int 1]] ++ [CO.list [.ref σ.length]] ++ [CO.list (ms.map V.ref ++ [.ref σ.length])]) [] := .trans .app (.trans .app .app)
  have Z0 := Z.move h3
  have hnv0 := h3.get hnv (by simp)
  cases e : areaN (limOf c m) vs 0 with
  | none =>
    refine (SsJ.cs (SJ.iteF (TEv.cmp (Ev.nm (.i 5)) Ev.ci CmpE.eq) rfl (SsJ.nl (SsJ.cs (SJ.iteF (TEv.cmp (Ev.nm (.i 5)) Ev.ci CmpE.eq) rfl (SsJ.nl (SsJ.cs (SJ.iteF (TEv.cmp (Ev.nm (.i 5)) Ev.ci CmpE.eq) rfl (SsJ.nl (SsJ.cs (SJ.iteT (TEv.cmp (Ev.nm (.i 5)) Ev.ci CmpE.eq) rfl (SsJ.cs (SJ.expr (EJ.call (EJ.glob hW (.i 8) ⟨_, rfl, X.k_copy_rectangle, (LJ.cons (EJ.of (Ev.nm (.i 2)) (LJ.cons (EJ.binop (EJ.of (Ev.nm (.i 9)) (EJ.list (LJ.cons (EJ.list (LJ.of (LEv.cs Ev.ci LEv.nl) ⟨(lb rfl), (LJ.of LEv.nl ⟨(lb rfl), (OpJ.addList (by first | exact kA (kA hnp) | exact kN) (by first | exact kA (kA hnp) | exact kN) ?_ (LJ.of LEv.nl (CJ.up (d' := 7) (copy_rectangle X Z0.S hu hPar1 hnn (by simp; lia) hw0 fun σ' hs hG => (SsJ.cs (SJ.ret (EJ.ite (TJ.cmp (EJ.of (Ev.nm (.i 7)) (EJ.of Ev.cnone (CmpJ.nn rfl (TrJ.bl (iteN rfl (EJ.of (Ev.nm (.i 3)) ?_))))))))))) dd)))⟩)⟩)))))))))⟩)))))))))))))))
    · simp; lia
    rw [copyR, ea, e] at hG
    exact h _ _ _ _ _ .same (Z0.cells hs hG) (Nat.le_trans h3.1 hs.1)
  | some A =>
    obtain ⟨hA, -⟩ := areaN_ok hu hvn e
    refine (SsJ.cs (SJ.iteF (TEv.cmp (Ev.nm (.i 5)) Ev.ci CmpE.eq) rfl (SsJ.nl (SsJ.cs (SJ.iteF (TEv.cmp (Ev.nm (.i 5)) Ev.ci CmpE.eq) rfl (SsJ.nl (SsJ.cs (SJ.iteF (TEv.cmp (Ev.nm (.i 5)) Ev.ci CmpE.eq) rfl (SsJ.nl (SsJ.cs (SJ.iteT (TEv.cmp (Ev.nm (.i 5)) Ev.ci CmpE.eq) rfl (SsJ.cs (SJ.expr (EJ.call (EJ.glob hW (.i 8) ⟨_, rfl, X.k_copy_rectangle, (LJ.cons (EJ.of (Ev.nm (.i 2)) (LJ.cons (EJ.binop (EJ.of (Ev.nm (.i 9)) (EJ.list (LJ.cons (EJ.list (LJ.of (LEv.cs Ev.ci LEv.nl) ⟨(lb rfl), (LJ.of LEv.nl ⟨(lb rfl), (OpJ.addList (by first | exact kA (kA hnp) | exact kN) (by first | exact kA (kA hnp) | exact kN) ?_ (LJ.of LEv.nl (CJ.up (d' := 7) (copy_rectangle X Z0.S hu hPar1 hnn (by simp; lia) hw0 fun σ' hs hG => have Z1 := Z0.cells hs hG; (SsJ.cs (SJ.ret (EJ.ite (TJ.cmp (EJ.of (Ev.nm (.i 7)) (EJ.of Ev.cnone (CmpJ.nn rfl (TrJ.bl (iteY rfl (EJ.ce (Ev.gl hW (.i 9)) X.k_law_copied (LEv.cs (Ev.nm (.i 3)) (LEv.cs (Ev.nm (.i 7)) (LEv.cs (Ev.nm (.i 6)) (LEv.cs (Ev.nm (.i 4)) LEv.nl)))) (CJ.up (d' := 4) (law_copied X Z1.Sh hA hu (hs.get hnv0 fun q => by have := Z.lo _ q; lia) hvn (by lia) fun σ2 m2 rs2 hs2 hm2 hk2 S2 => ?_) dd)))))))))))) dd)))⟩)⟩)))))))))⟩)))))))))))))))
    · simp; lia
    have q0 := h3.1
    have q := hs.1
    have q2 := hs2.1
    exact h _ _ _ _ _ (.copy vs A hvn hv7 e) (((Z0.cells hs hG).move hs2).shown S2 (by lia) fun x hx => by have := hk2 x hx; lia) (by lia)
theorem rangeV_len3 {b : Int} (h : b < 4) (h0 : 0 ≤ b) : (rangeV 0 b 1).length ≤ 3 := by
  obtain ⟨k, rfl⟩ := Int.eq_ofNat_of_zero_le h0
  rw [show (0 : Int) = ((0 : Nat) : Int) from rfl, rangeV_len]; lia
theorem gd_item {vs : List (Option Int)} {x : Int} (h0 : 0 ≤ x) (h1 : x < vs.length) : item (vs.map ov) x = some (ov (vs.getD x.toNat none)) := by
  have hx : x.toNat < vs.length := by lia
  have := ov_item (vs := vs) (k := x.toNat) (o := vs.getD x.toNat none) (by rw [List.getD_eq_getElem?_getD, List.getElem?_eq_getElem hx]; rfl)
  rwa [show ((x.toNat : Nat) : Int) = x by lia] at this
theorem gd_mem {vs : List (Option Int)} {x : Int} (h0 : 0 ≤ x) (h1 : x < vs.length) : vs.getD x.toNat none ∈ vs := by
  have hx : x.toNat < vs.length := by lia
  rw [List.getD_eq_getElem?_getD, List.getElem?_eq_getElem hx]
  exact List.getElem_mem hx
theorem codes_nn : ∀ o ∈ codesV, ∀ j, o = some j → 0 ≤ j := by
  have : codesV.all (fun o => match o with | none => true | some j => decide (0 ≤ j)) = true := by decide
  intro o ho j e
  have z := List.all_eq_true.mp this o ho
  subst e
  simpa using z
theorem some_nn : ∀ o ∈ someV, ∀ j, o = some j → 0 ≤ j := by
  have : someV.all (fun o => match o with | none => true | some j => decide (0 ≤ j)) = true := by decide
  intro o ho j e
  have z := List.all_eq_true.mp this o ho
  subst e
  simpa using z
theorem PL.hand {σ σ' : List CO} {ms : List Nat} {vs : List (Option Int)} {L nh : Nat} (h : PL σ ms vs) (hk : ∀ k ∈ ms, L ≤ k) (hl : nh < L) (s : Same σ σ' [nh]) : PL σ' ms vs :=
  ⟨h.1, fun i m o h1 h2 => s.get (h.2 i m o h1 h2) fun q => by have := hk m (List.mem_of_getElem? h1); have := mq q; lia⟩
theorem deed0 (X : Ctx W) {L nc nh n nv np : Nat} {cs : List Int} {rs ms : List Nat} {s : ScI} {i : Ids} {c : Cur} {m : Lim} {g : List (List Cell)} {vs : List (Option Int)} {w : Int} (Z : Lw σ L nc nh n cs rs s i c m g g) (hL : L ≤ σ.length) (hu : (limOf c m).Ok) (hw2 : ∀ q, q < 3 → W2 (row g q)) (hw0 : ∀ q, q < 3 → W0 (row g q)) (hvn : NonNeg vs) (hvl : vs.length ≤ 7) (hnv : σ[nv]? = some (.list (vs.map ov))) (hnvL : L ≤ nv) (hnpL : L ≤ np) (hmsL : ∀ k ∈ ms, L ≤ k) (hnp : σ[np]? = some (.list (ms.map V.ref))) (hP : PL σ ms vs) (hw : w = 0)
    (h : ∀ σ' n' rs' gA gB, Deed (limOf c m) c g gA gB → Lw σ' L nc nh n' cs rs' s i c m gA gB → σ.length ≤ σ'.length → Q (.ref n') σ') : ∀ r_ : FrD, SeqQ W (d + 8) (F_law_deed r_) (D_law_deed.body.drop 5) (RetQ Q) .next
      [("cells", some (.ref nc)), ("hand", some (.ref nh)), ("screen", some (.ref s.sc)), ("shown", some (.ref n)), ("limits", some (limOf c m).v), ("way", some (.int w)), ("values", some (.ref nv)), ("area", some (Lim.ov (areaN (limOf c m) vs 0))), ("cursor", some (.ref s.cu)), ("params", some (.ref np)), ("code", none), ("some", none), ("numbers", none)] σ := by
  have hW := X.ok
  intro r_
  have hPar : Par σ np vs := ⟨ms, hnp, hP.1, hP.2⟩
  subst hw
  refine (SsJ.cs (SJ.iteT (TEv.cmp (Ev.nm (.i 5)) Ev.ci CmpE.eq) rfl ?_))
  refine (SsJ.cs (SJ.sn (EJ.sub (EJ.list (LJ.of (LEv.cs Ev.cnone (LEv.cs Ev.ci (LEv.cs Ev.ci (LEv.cs Ev.ci (LEv.cs Ev.ci (LEv.cs Ev.ci (LEv.cs Ev.ci (LEv.cs Ev.ci (LEv.cs Ev.ci (LEv.cs Ev.ci LEv.nl)))))))))) ⟨(lb rfl), (EJ.ce (Ev.gl hW .zx) X.k_law_draw (LEv.cs (Ev.nm .zx) (LEv.cs (Ev.nm (.i 1)) (LEv.cs Ev.ci LEv.nl))) (CJ.up (d' := 1) (law_draw X (Z.move (σ' := σ ++ [.list (codesV.map ov)]) .app).H (by decide) fun x σ' hx0 hx1 hs H => have hL3 := hs.get kN (by have := Z.hl; simp; lia); (GiJ.list (by exact hL3) (gd_item (vs := codesV) hx0 hx1) ?_ (AJ.nm (.i 10) rfl ?_))) dd))⟩)))))
  · exact lb rfl
  have hS := hs.1
  have Z := (Z.move (σ' := σ ++ [.list (codesV.map ov)]) .app).hand hs H
  have hP := (hP.move (σ' := σ ++ [.list (codesV.map ov)]) .app).hand hmsL Z.hl hs
  have hnp := hs.get (kA (l := [.list (codesV.map ov)]) hnp) (by have := Z.hl; simp; lia)
  have ho := gd_mem (vs := codesV) hx0 hx1
  generalize codesV.getD x.toNat none = o at *
  clear hs H hL3 hPar hnv
  have hLs : L ≤ σ'.length := by simp at hS; lia
  have hle : σ.length ≤ σ'.length := by simp at hS; lia
  clear hS
  have hnn : NonNeg (o :: vs) := fun p hp j hj => by
    rcases List.mem_cons.mp hp with q | q
    · exact codes_nn o ho j (q ▸ hj)
    · exact hvn p q j hj
  have hPar1 : Par (σ' ++ [CO.list [ov o]] ++ [CO.list [.ref σ'.length]] ++ [CO.list ([V.ref σ'.length] ++ ms.map V.ref)]) (σ' ++ [CO.list [ov o]] ++ [CO.list [.ref σ'.length]]).length (o :: vs) :=
    let p := (PL.one (σ := σ' ++ [CO.list [ov o]]) (o := o) kN).app (hP.move (σ' := σ' ++ [CO.list [ov o]]) .app)
    let p := (p.move (σ' := σ' ++ [CO.list [ov o]] ++ [CO.list [.ref σ'.length]]) .app).move (σ' := σ' ++ [CO.list [ov o]] ++ [CO.list [.ref σ'.length]] ++ [CO.list ([V.ref σ'.length] ++ ms.map V.ref)]) .app
    ⟨σ'.length :: ms, kN, p.1, p.2⟩
  have hms : ms.length ≤ 7 := by rw [hP.1]; exact hvl
  have ea := areaN_cons (limOf c m) o vs
  have h3 : Same σ' (σ' ++ [CO.list [ov o]] ++ [CO.list [.ref σ'.length]] ++ [CO.list ([V.ref σ'.length] ++ ms.map V.ref)]) [] := .trans .app (.trans .app .app)
  have Z0 := Z.move h3
  have hl2 := h3.1
  cases o with
  | none =>
    refine (SsJ.cs (SJ.expr (EJ.call (EJ.glob hW (.i 3) ⟨_, rfl, X.k_fill_rectangle, (LJ.cons (EJ.of (Ev.nm (.i 2)) (LJ.cons (EJ.binop (EJ.list (LJ.cons (EJ.list (LJ.of (LEv.cs (Ev.nm (.i 10)) LEv.nl) ⟨(lb rfl), (LJ.of LEv.nl ⟨(lb rfl), (EJ.of (Ev.nm (.i 9)) (OpJ.addList (by first | exact kA (kA hnp) | exact kN) (by first | exact kA (kA hnp) | exact kN) ?_ (LJ.of LEv.nl (CJ.up (d' := 7) (fill_rectangle X Z0.S hu hPar1 hnn (by simp; lia) hw0 fun σ2 hs2 hG => (SsJ.cs (SJ.ite (TJ.or (TJ.cmp (EJ.of (Ev.nm (.i 10)) (EJ.of Ev.cnone (CmpJ.isNone rfl (TrJ.bl (iteY rfl (iteT (SsJ.cs (SJ.retE (Ev.nm (.i 3)) ?_))))))))))))) dd))))⟩)⟩))))))))⟩))))
    · simp; lia
    rw [ea, show fillOk (valO (none :: vs) 0 0) = false from rfl, if_neg (by decide)] at hG
    exact h _ _ _ _ _ .same (Z0.cells hs2 hG) (Nat.le_trans hle (Nat.le_trans hl2 hs2.1))
  | some j =>
    have ej : valO (some j :: vs) 0 0 = j := by
      show (if j = 0 then 0 else j) = j
      split
      · rename_i q; exact q.symm
      · rfl
    cases e : areaN (limOf c m) vs 0 with
    | none =>
      refine (SsJ.cs (SJ.expr (EJ.call (EJ.glob hW (.i 3) ⟨_, rfl, X.k_fill_rectangle, (LJ.cons (EJ.of (Ev.nm (.i 2)) (LJ.cons (EJ.binop (EJ.list (LJ.cons (EJ.list (LJ.of (LEv.cs (Ev.nm (.i 10)) LEv.nl) ⟨(lb rfl), (LJ.of LEv.nl ⟨(lb rfl), (EJ.of (Ev.nm (.i 9)) (OpJ.addList (by first | exact kA (kA hnp) | exact kN) (by first | exact kA (kA hnp) | exact kN) ?_ (LJ.of LEv.nl (CJ.up (d' := 7) (fill_rectangle X Z0.S hu hPar1 hnn (by simp; lia) hw0 fun σ2 hs2 hG => (SsJ.cs (SJ.ite (TJ.or (TJ.cmp (EJ.of (Ev.nm (.i 10)) (EJ.of Ev.cnone (CmpJ.isNone rfl (TrJ.bl (iteN rfl (TJ.or (TJ.not (TJ.or (TJ.chain (EJ.of Ev.ci (ChJ.link (EJ.of (Ev.nm (.i 10)) (CmpJ.le (TrJ.bl (iteB (fun hc1 => (ChJ.last (EJ.of Ev.ci (CmpJ.le (TrJ.bl (iteB (fun hc2 => (iteF (TJ.or (TJ.cmp (EJ.of (Ev.nm (.i 7)) (EJ.of Ev.cnone (CmpJ.isNone rfl (TrJ.bl (iteY rfl (iteT (SsJ.cs (SJ.retE (Ev.nm (.i 3)) ?_)))))))))))) (fun hc2 => (TJ.or (TJ.chain (EJ.of Ev.ci (ChJ.link (EJ.of (Ev.nm (.i 10)) (CmpJ.le (TrJ.bl (iteB (fun hc3 => (ChJ.last (EJ.of Ev.ci (CmpJ.le (TrJ.bl (iteB (fun hc4 => (iteF (TJ.or (TJ.cmp (EJ.of (Ev.nm (.i 7)) (EJ.of Ev.cnone (CmpJ.isNone rfl (TrJ.bl (iteY rfl (iteT (SsJ.cs (SJ.retE (Ev.nm (.i 3)) ?_)))))))))))) (fun hc4 => (TJ.or_nil (iteT (iteT (SsJ.cs (SJ.retE (Ev.nm (.i 3)) ?_)))))))))))) (fun hc3 => (iteF (TJ.or_nil (iteT (iteT (SsJ.cs (SJ.retE (Ev.nm (.i 3)) ?_)))))))))))))))))))))) (fun hc1 => (iteF (TJ.or (TJ.chain (EJ.of Ev.ci (ChJ.link (EJ.of (Ev.nm (.i 10)) (CmpJ.le (TrJ.bl (iteB (fun hc5 => (ChJ.last (EJ.of Ev.ci (CmpJ.le (TrJ.bl (iteB (fun hc6 => (iteF (TJ.or (TJ.cmp (EJ.of (Ev.nm (.i 7)) (EJ.of Ev.cnone (CmpJ.isNone rfl (TrJ.bl (iteY rfl (iteT (SsJ.cs (SJ.retE (Ev.nm (.i 3)) ?_)))))))))))) (fun hc6 => (TJ.or_nil (iteT (iteT (SsJ.cs (SJ.retE (Ev.nm (.i 3)) ?_)))))))))))) (fun hc5 => (iteF (TJ.or_nil (iteT (iteT (SsJ.cs (SJ.retE (Ev.nm (.i 3)) ?_))))))))))))))))))))))))))))))))))))) dd))))⟩)⟩))))))))⟩))))
      all_goals first | (exfalso; lia) | (simp; lia) | skip
      all_goals
        rw [ea, e, ej] at hG
        have hG : Grd σ2 i g := by
          revert hG
          split <;> exact id
        exact h _ _ _ _ _ .same (Z0.cells hs2 hG) (Nat.le_trans hle (Nat.le_trans hl2 hs2.1))
    | some A =>
      obtain ⟨hA, -⟩ := areaN_ok hu hvn e
      refine (SsJ.cs (SJ.expr (EJ.call (EJ.glob hW (.i 3) ⟨_, rfl, X.k_fill_rectangle, (LJ.cons (EJ.of (Ev.nm (.i 2)) (LJ.cons (EJ.binop (EJ.list (LJ.cons (EJ.list (LJ.of (LEv.cs (Ev.nm (.i 10)) LEv.nl) ⟨(lb rfl), (LJ.of LEv.nl ⟨(lb rfl), (EJ.of (Ev.nm (.i 9)) (OpJ.addList (by first | assumption | exact kA (kA hnp) | exact kN) (by first | assumption | exact kA (kA hnp) | exact kN) ?_ (LJ.of LEv.nl (CJ.up (d' := 7) (fill_rectangle X Z0.S hu hPar1 hnn (by simp; lia) hw0 fun σ2 hs2 hG => have Z1 := Z0.cells hs2 hG; have hcu := Z1.S.cu; (SsJ.cs (SJ.ite (TJ.or (TJ.cmp (EJ.of (Ev.nm (.i 10)) (EJ.of Ev.cnone (CmpJ.isNone rfl (TrJ.bl (iteN rfl (TJ.or (TJ.not (TJ.or (TJ.chain (EJ.of Ev.ci (ChJ.link (EJ.of (Ev.nm (.i 10)) (CmpJ.le (TrJ.bl (iteB (fun hc1 => (ChJ.last (EJ.of Ev.ci (CmpJ.le (TrJ.bl (iteB (fun hc2 => (iteF (TJ.or (TJ.cmp (EJ.of (Ev.nm (.i 7)) (EJ.of Ev.cnone (CmpJ.isNone rfl (TrJ.bl (iteN rfl (TJ.or_nil (iteF (SsJ.nl (SsJ.cs (SJ.ret (EJ.ce (Ev.gl hW (.i 4)) X.k_law_filled (LEv.cs (Ev.nm (.i 3)) (LEv.cs (Ev.nm (.i 7)) (LEv.cs (Ev.tu (LEv.cs (Ev.tu (LEv.cs (Ev.nm (.i 10)) LEv.nl) (lb rfl)) (LEv.cs Ev.ci (LEv.cs (Ev.ta hW X.o_Cursor (Ev.nm (.i 8)) X.a_Cursor_pen.find (by first | assumption | exact kA (kA hnp) | exact kN) (nd_Cursor rfl) (.i 3) rfl) (LEv.cs (Ev.ta hW X.o_Cursor (Ev.nm (.i 8)) X.a_Cursor_is_guarding.find (by first | assumption | exact kA (kA hnp) | exact kN) (nd_Cursor rfl) (.i 5) rfl) LEv.nl)))) (lb rfl)) LEv.nl))) (CJ.up (d' := 4) (law_filled X (x := ⟨[j], 1, c.p, c.k⟩) Z1.Sh hA fun σ3 m3 rs3 hs3 hm3 hk3 S3 => ?_) dd)))))))))))))))) (fun hc2 => (TJ.or (TJ.chain (EJ.of Ev.ci (ChJ.link (EJ.of (Ev.nm (.i 10)) (CmpJ.le (TrJ.bl (iteB (fun hc3 => (ChJ.last (EJ.of Ev.ci (CmpJ.le (TrJ.bl (iteB (fun hc4 => (iteF (TJ.or (TJ.cmp (EJ.of (Ev.nm (.i 7)) (EJ.of Ev.cnone (CmpJ.isNone rfl (TrJ.bl (iteN rfl (TJ.or_nil (iteF (SsJ.nl (SsJ.cs (SJ.ret (EJ.ce (Ev.gl hW (.i 4)) X.k_law_filled (LEv.cs (Ev.nm (.i 3)) (LEv.cs (Ev.nm (.i 7)) (LEv.cs (Ev.tu (LEv.cs (Ev.tu (LEv.cs (Ev.nm (.i 10)) LEv.nl) (lb rfl)) (LEv.cs Ev.ci (LEv.cs (Ev.ta hW X.o_Cursor (Ev.nm (.i 8)) X.a_Cursor_pen.find (by first | assumption | exact kA (kA hnp) | exact kN) (nd_Cursor rfl) (.i 3) rfl) (LEv.cs (Ev.ta hW X.o_Cursor (Ev.nm (.i 8)) X.a_Cursor_is_guarding.find (by first | assumption | exact kA (kA hnp) | exact kN) (nd_Cursor rfl) (.i 5) rfl) LEv.nl)))) (lb rfl)) LEv.nl))) (CJ.up (d' := 4) (law_filled X (x := ⟨[j], 1, c.p, c.k⟩) Z1.Sh hA fun σ3 m3 rs3 hs3 hm3 hk3 S3 => ?_) dd)))))))))))))))) (fun hc4 => (TJ.or_nil (iteT (iteT (SsJ.cs (SJ.retE (Ev.nm (.i 3)) ?_)))))))))))) (fun hc3 => (iteF (TJ.or_nil (iteT (iteT (SsJ.cs (SJ.retE (Ev.nm (.i 3)) ?_)))))))))))))))))))))) (fun hc1 => (iteF (TJ.or (TJ.chain (EJ.of Ev.ci (ChJ.link (EJ.of (Ev.nm (.i 10)) (CmpJ.le (TrJ.bl (iteB (fun hc5 => (ChJ.last (EJ.of Ev.ci (CmpJ.le (TrJ.bl (iteB (fun hc6 => (iteF (TJ.or (TJ.cmp (EJ.of (Ev.nm (.i 7)) (EJ.of Ev.cnone (CmpJ.isNone rfl (TrJ.bl (iteN rfl (TJ.or_nil (iteF (SsJ.nl (SsJ.cs (SJ.ret (EJ.ce (Ev.gl hW (.i 4)) X.k_law_filled (LEv.cs (Ev.nm (.i 3)) (LEv.cs (Ev.nm (.i 7)) (LEv.cs (Ev.tu (LEv.cs (Ev.tu (LEv.cs (Ev.nm (.i 10)) LEv.nl) (lb rfl)) (LEv.cs Ev.ci (LEv.cs (Ev.ta hW X.o_Cursor (Ev.nm (.i 8)) X.a_Cursor_pen.find (by first | assumption | exact kA (kA hnp) | exact kN) (nd_Cursor rfl) (.i 3) rfl) (LEv.cs (Ev.ta hW X.o_Cursor (Ev.nm (.i 8)) X.a_Cursor_is_guarding.find (by first | assumption | exact kA (kA hnp) | exact kN) (nd_Cursor rfl) (.i 5) rfl) LEv.nl)))) (lb rfl)) LEv.nl))) (CJ.up (d' := 4) (law_filled X (x := ⟨[j], 1, c.p, c.k⟩) Z1.Sh hA fun σ3 m3 rs3 hs3 hm3 hk3 S3 => ?_) dd)))))))))))))))) (fun hc6 => (TJ.or_nil (iteT (iteT (SsJ.cs (SJ.retE (Ev.nm (.i 3)) ?_)))))))))))) (fun hc5 => (iteF (TJ.or_nil (iteT (iteT (SsJ.cs (SJ.retE (Ev.nm (.i 3)) ?_))))))))))))))))))))))))))))))))))))) dd))))⟩)⟩))))))))⟩))))
      all_goals first | (exfalso; lia) | (simp; lia) | skip
      all_goals
        rw [ea, e, ej] at hG
        have q1 := hs2.1
        simp only [decide_eq_true_eq, decide_eq_false_iff_not] at *
        first
          | (have hf : fillOk j = true := by simp [fillOk]; lia
             rw [hf, if_pos rfl] at hG
             have q2 := hs3.1
             exact h _ _ _ _ _ (.fill vs A j hvn e) (((Z0.cells hs2 hG).move hs3).shown S3 (by lia) fun x hx => by have := hk3 x hx; lia) (by lia))
          | (have hf : fillOk j = false := by simp [fillOk]; lia
             rw [hf, if_neg (by decide)] at hG
             exact h _ _ _ _ _ .same (Z0.cells hs2 hG) (by lia))
theorem Shw.lt {σ : List CO} {n : Nat} {rs : List Nat} {g : List (List Cell)} (S : Shw σ n rs g) {x : Nat} (h : x ∈ rs) : x < σ.length := by
  obtain ⟨j, hj, e⟩ := List.mem_iff_getElem.mp h
  have z := (gq (S.row (r := j) (by rw [← S.len]; exact hj))).1
  rwa [rowId_eq hj, e] at z
theorem deed4b (X : Ctx W) {L nc nh n nv np : Nat} {cs : List Int} {rs ms : List Nat} {s : ScI} {i : Ids} {c : Cur} {m : Lim} {g : List (List Cell)} {vs : List (Option Int)} {w : Int} (Z : Lw σ L nc nh n cs rs s i c m g g) (hL : L ≤ σ.length) (hu : (limOf c m).Ok) (hw2 : ∀ q, q < 3 → W2 (row g q)) (hw0 : ∀ q, q < 3 → W0 (row g q)) (hvn : NonNeg vs) (hvl : vs.length ≤ 7) (hnv : σ[nv]? = some (.list (vs.map ov))) (hnvL : L ≤ nv) (hnpL : L ≤ np) (hmsL : ∀ k ∈ ms, L ≤ k) (hnp : σ[np]? = some (.list (ms.map V.ref))) (hP : PL σ ms vs) {so : Option V} {no : Nat} {os : List (Option Int)} (hno : σ[no]? = some (.list (os.map ov))) (hnoI : no ∉ i.c) (hol : os.length ≤ 3) (hos : ∀ o ∈ os, o ∈ someV) (hw : 3 < w) (hw8 : w < 8) (hv4 : vs.length = 4)
    (h : ∀ σ' n' rs' gA gB, Deed (limOf c m) c g gA gB → Lw σ' L nc nh n' cs rs' s i c m gA gB → σ.length ≤ σ'.length → Q (.ref n') σ') : ∀ r_ : FrD, SeqQ W (d + 8) (F_law_deed r_) (D_law_deed.body.drop 11) (RetQ Q) .next
      [("cells", some (.ref nc)), ("hand", some (.ref nh)), ("screen", some (.ref s.sc)), ("shown", some (.ref n)), ("limits", some (limOf c m).v), ("way", some (.int w)), ("values", some (.ref nv)), ("area", some (Lim.ov (areaN (limOf c m) vs 0))), ("cursor", some (.ref s.cu)), ("params", some (.ref np)), ("code", none), ("some", so), ("numbers", some (.ref no))] σ := by
  have hW := X.ok
  intro r_
  have hPar : Par σ np vs := ⟨ms, hnp, hP.1, hP.2⟩
  have hnn : NonNeg (vs ++ os) := fun o ho j hj => by
    rcases List.mem_append.mp ho with q | q
    · exact hvn o q j hj
    · exact some_nn o (hos o q) j hj
  by_cases h6 : w < 6
  · refine (SsJ.cs (SJ.iteT (TEv.cmp (Ev.nm (.i 5)) Ev.ci CmpE.lt) (by simpa using h6) (SsJ.cs (SJ.expr (EJ.call (EJ.glob hW (.i 11) ⟨_, rfl, X.k_change_rectangle, (LJ.cons (EJ.of (Ev.nm (.i 2)) (LJ.cons (EJ.binop (EJ.of (Ev.nm (.i 9)) (EJ.comp _ [] [] (CmpOk.fm [] [] rfl (by decide +kernel) rfl rfl trivial trivial) (ItE.ofE (Ev.nm (.i 12)) (ItV.list (by nofun) ⟨?_, kA hno, fun C => wraps hno ?_ ?_⟩))))))))⟩))))))
    · simp [sizeLine_eq]; lia
    · intro v τ R hR
      refine (EJ.list (LJ.of (LEv.cs (Ev.nm .zx) LEv.nl) ⟨(lb rfl), ?_⟩))
      exact hR
    intro σA msA hsA hmA hPA hkA
    have h3 : Same σA (σA ++ [CO.list (ms.map V.ref ++ msA.map V.ref)]) [] := .app
    have hPar1 : Par (σA ++ [CO.list (ms.map V.ref ++ msA.map V.ref)]) σA.length (vs ++ os) :=
      let p := ((hP.move hsA).app hPA).move h3
      ⟨ms ++ msA, by rw [List.map_append]; exact kN, p.1, p.2⟩
    have hm4 : ms.length = 4 := by rw [hP.1]; exact hv4
    have hm3 : msA.length ≤ 3 := by rw [hPA.1]; exact hol
    have Z1 := (Z.move hsA).move h3
    refine OpJ.addList (hsA.get hnp (by simp)) hmA (by simp; lia) (LJ.of (LEv.cs (Ev.cmp (Ev.nm (.i 5)) Ev.ci CmpE.eq) LEv.nl) (CJ.up (d' := 5) (change_rectangle X Z1.S hu hPar1 hnn (by simp; lia) hw2 fun σB hsB hG => ?_) dd))
    rw [areaN_app (by lia)] at hG
    have Z2 := Z1.cells hsB hG
    have q0 := hsA.1
    have q1 := h3.1
    have q2 := hsB.1
    refine SsJ.nl ?_
    cases e : areaN (limOf c m) vs 0 with
    | none =>
      refine (SsJ.cs (SJ.ret (EJ.ite (TJ.cmp (EJ.of (Ev.nm (.i 7)) (EJ.of Ev.cnone (CmpJ.nn rfl (TrJ.bl (iteN rfl (EJ.of (Ev.nm (.i 3)) ?_))))))))))
      rw [e] at hG
      exact h _ _ _ _ _ .same (Z1.cells hsB hG) (by lia)
    | some A =>
      obtain ⟨hA, -⟩ := areaN_ok hu hvn e
      rw [e] at hG Z2
      have ea : [V.ref n, Lim.ov (some A), (limOf c m).v, V.bool (w.fmod 2 == 1), V.ref no, V.bool (decide (5 < w))] = [V.ref n, A.v, (limOf c m).v, V.bool (w == 5), V.ref no, V.bool false] := by
        have : w = 4 ∨ w = 5 := by lia
        rcases this with rfl | rfl <;> rfl
      have hno2 := hsB.get (h3.get (hsA.get hno (by simp)) (by simp)) hnoI
      refine (SsJ.cs (SJ.ret (EJ.ite (TJ.cmp (EJ.of (Ev.nm (.i 7)) (EJ.of Ev.cnone (CmpJ.nn rfl (TrJ.bl (iteY rfl (EJ.ce (Ev.gl hW (.i 13)) X.k_law_repenned (LEv.cs (Ev.nm (.i 3)) (LEv.cs (Ev.nm (.i 7)) (LEv.cs (Ev.nm (.i 4)) (LEv.cs (Ev.cmp (Ev.fmod (Ev.nm (.i 5)) Ev.ci ?_) Ev.ci CmpE.eq) (LEv.cs (Ev.nm (.i 12)) (LEv.cs (Ev.cmp (Ev.nm (.i 5)) Ev.ci CmpE.gt) LEv.nl)))))) (CJ.args ea (CJ.up (d' := 4) (law_repenned X (os := os) Z2.Sh hA hu hno2 (by lia) hw2 fun σ3 m3 rs3 hs3 hm3 hk3 S3 => ?_) dd))))))))))))
      · decide
      have q3 := hs3.1
      exact h _ _ _ _ _ (.pens vs A (w == 5) false os hvn hv4 e hos) ((Z2.move hs3).shown S3 (by lia) fun x hx => by have := hk3 x hx; lia) (by lia)
  · refine (SsJ.cs (SJ.iteF (TEv.cmp (Ev.nm (.i 5)) Ev.ci CmpE.lt) (by simpa using h6) (SsJ.cs (SJ.expr (EJ.call (EJ.glob hW (.i 12) ⟨_, rfl, X.k_reverse_rectangle, (LJ.cons (EJ.of (Ev.nm (.i 2)) (LJ.cons (EJ.binop (EJ.of (Ev.nm (.i 9)) (EJ.comp _ [] [] (CmpOk.fm [] [] rfl (by decide +kernel) rfl rfl trivial trivial) (ItE.ofE (Ev.nm (.i 12)) (ItV.list (by nofun) ⟨?_, kA hno, fun C => wraps hno ?_ ?_⟩))))))))⟩))))))
    · simp [sizeLine_eq]; lia
    · intro v τ R hR
      refine (EJ.list (LJ.of (LEv.cs (Ev.nm .zx) LEv.nl) ⟨(lb rfl), ?_⟩))
      exact hR
    intro σA msA hsA hmA hPA hkA
    have h3 : Same σA (σA ++ [CO.list (ms.map V.ref ++ msA.map V.ref)]) [] := .app
    have hPar1 : Par (σA ++ [CO.list (ms.map V.ref ++ msA.map V.ref)]) σA.length (vs ++ os) :=
      let p := ((hP.move hsA).app hPA).move h3
      ⟨ms ++ msA, by rw [List.map_append]; exact kN, p.1, p.2⟩
    have hm4 : ms.length = 4 := by rw [hP.1]; exact hv4
    have hm3 : msA.length ≤ 3 := by rw [hPA.1]; exact hol
    have Z1 := (Z.move hsA).move h3
    refine OpJ.addList (hsA.get hnp (by simp)) hmA (by simp; lia) (LJ.of (LEv.cs (Ev.cmp (Ev.nm (.i 5)) Ev.ci CmpE.eq) LEv.nl) (CJ.up (d' := 5) (reverse_rectangle X Z1.S hu hPar1 hnn (by simp; lia) hw2 fun σB hsB hG => ?_) dd))
    rw [areaN_app (by lia)] at hG
    have Z2 := Z1.cells hsB hG
    have q0 := hsA.1
    have q1 := h3.1
    have q2 := hsB.1
    refine SsJ.nl ?_
    cases e : areaN (limOf c m) vs 0 with
    | none =>
      refine (SsJ.cs (SJ.ret (EJ.ite (TJ.cmp (EJ.of (Ev.nm (.i 7)) (EJ.of Ev.cnone (CmpJ.nn rfl (TrJ.bl (iteN rfl (EJ.of (Ev.nm (.i 3)) ?_))))))))))
      rw [e] at hG
      exact h _ _ _ _ _ .same (Z1.cells hsB hG) (by lia)
    | some A =>
      obtain ⟨hA, -⟩ := areaN_ok hu hvn e
      rw [e] at hG Z2
      have ea : [V.ref n, Lim.ov (some A), (limOf c m).v, V.bool (w.fmod 2 == 1), V.ref no, V.bool (decide (5 < w))] = [V.ref n, A.v, (limOf c m).v, V.bool (w == 7), V.ref no, V.bool true] := by
        have : w = 6 ∨ w = 7 := by lia
        rcases this with rfl | rfl <;> rfl
      have hno2 := hsB.get (h3.get (hsA.get hno (by simp)) (by simp)) hnoI
      refine (SsJ.cs (SJ.ret (EJ.ite (TJ.cmp (EJ.of (Ev.nm (.i 7)) (EJ.of Ev.cnone (CmpJ.nn rfl (TrJ.bl (iteY rfl (EJ.ce (Ev.gl hW (.i 13)) X.k_law_repenned (LEv.cs (Ev.nm (.i 3)) (LEv.cs (Ev.nm (.i 7)) (LEv.cs (Ev.nm (.i 4)) (LEv.cs (Ev.cmp (Ev.fmod (Ev.nm (.i 5)) Ev.ci ?_) Ev.ci CmpE.eq) (LEv.cs (Ev.nm (.i 12)) (LEv.cs (Ev.cmp (Ev.nm (.i 5)) Ev.ci CmpE.gt) LEv.nl)))))) (CJ.args ea (CJ.up (d' := 4) (law_repenned X (os := os) Z2.Sh hA hu hno2 (by lia) hw2 fun σ3 m3 rs3 hs3 hm3 hk3 S3 => ?_) dd))))))))))))
      · decide
      have q3 := hs3.1
      exact h _ _ _ _ _ (.pens vs A (w == 7) true os hvn hv4 e hos) ((Z2.move hs3).shown S3 (by lia) fun x hx => by have := hk3 x hx; lia) (by lia)
theorem deed4 (X : Ctx W) {L nc nh n nv np : Nat} {cs : List Int} {rs ms : List Nat} {s : ScI} {i : Ids} {c : Cur} {m : Lim} {g : List (List Cell)} {vs : List (Option Int)} {w : Int} (Z : Lw σ L nc nh n cs rs s i c m g g) (hL : L ≤ σ.length) (hu : (limOf c m).Ok) (hw2 : ∀ q, q < 3 → W2 (row g q)) (hw0 : ∀ q, q < 3 → W0 (row g q)) (hvn : NonNeg vs) (hvl : vs.length ≤ 7) (hnv : σ[nv]? = some (.list (vs.map ov))) (hnvL : L ≤ nv) (hnpL : L ≤ np) (hmsL : ∀ k ∈ ms, L ≤ k) (hnp : σ[np]? = some (.list (ms.map V.ref))) (hP : PL σ ms vs) (hw : 3 < w) (hw8 : w < 8) (hv4 : vs.length = 4)
    (h : ∀ σ' n' rs' gA gB, Deed (limOf c m) c g gA gB → Lw σ' L nc nh n' cs rs' s i c m gA gB → σ.length ≤ σ'.length → Q (.ref n') σ') : ∀ r_ : FrD, SeqQ W (d + 8) (F_law_deed r_) (D_law_deed.body.drop 5) (RetQ Q) .next
      [("cells", some (.ref nc)), ("hand", some (.ref nh)), ("screen", some (.ref s.sc)), ("shown", some (.ref n)), ("limits", some (limOf c m).v), ("way", some (.int w)), ("values", some (.ref nv)), ("area", some (Lim.ov (areaN (limOf c m) vs 0))), ("cursor", some (.ref s.cu)), ("params", some (.ref np)), ("code", none), ("some", none), ("numbers", none)] σ := by
  have hW := X.ok
  intro r_
  have hPar : Par σ np vs := ⟨ms, hnp, hP.1, hP.2⟩
  refine (SsJ.cs (SJ.iteF (TEv.cmp (Ev.nm (.i 5)) Ev.ci CmpE.eq) (by simp; lia) (SsJ.nl (SsJ.cs (SJ.iteF (TEv.cmp (Ev.nm (.i 5)) Ev.ci CmpE.eq) (by simp; lia) (SsJ.nl (SsJ.cs (SJ.iteF (TEv.cmp (Ev.nm (.i 5)) Ev.ci CmpE.eq) (by simp; lia) (SsJ.nl (SsJ.cs (SJ.iteF (TEv.cmp (Ev.nm (.i 5)) Ev.ci CmpE.eq) (by simp; lia) (SsJ.nl (SsJ.cs (SJ.sn (EJ.list (LJ.of (LEv.cs Ev.cnone (LEv.cs Ev.ci (LEv.cs Ev.ci (LEv.cs Ev.ci (LEv.cs Ev.ci (LEv.cs Ev.ci (LEv.cs Ev.ci (LEv.cs Ev.ci (LEv.cs Ev.ci (LEv.cs Ev.ci (LEv.cs Ev.ci (LEv.cs Ev.ci (LEv.cs Ev.ci (LEv.cs Ev.ci (LEv.cs Ev.ci (LEv.cs Ev.ci LEv.nl)))))))))))))))) ⟨(lb rfl), (AJ.nm (.i 11) rfl ?_)⟩))))))))))))))))
  have hso : (σ ++ [CO.list (someV.map ov)])[σ.length]? = some (.list (someV.map ov)) := kN
  have Z := Z.move (σ' := σ ++ [CO.list (someV.map ov)]) .app
  have hP := hP.move (σ' := σ ++ [CO.list (someV.map ov)]) .app
  have hnp : (σ ++ [CO.list (someV.map ov)])[np]? = _ := kA hnp
  have hnv : (σ ++ [CO.list (someV.map ov)])[nv]? = _ := kA hnv
  have hS : σ.length ≤ (σ ++ [CO.list (someV.map ov)]).length := by simp
  have hsL : L ≤ σ.length := hL
  have hnh := Z.hl
  refine (SsJ.cs (SJ.assignComp _ [("some", _), ("cells", _), ("hand", _)] [("_law_draw", .raw u_law_draw)] (CmpOk.fm ["some", "cells", "hand"] ["_law_draw"] rfl (by decide +kernel) rfl rfl ⟨(.i 11), rfl, ⟨.zx, rfl, ⟨(.i 1), rfl, trivial⟩⟩⟩ ⟨X.g_law_draw, trivial⟩) rfl rfl (ItE.call (EJ.glob hW (.i 10) ⟨_, rfl, Keeps.type, (LJ.cons (EJ.ce (Ev.gl hW .zx) X.k_law_draw (LEv.cs (Ev.nm .zx) (LEv.cs (Ev.nm (.i 1)) (LEv.cs Ev.ci LEv.nl))) (CJ.up (d' := 1) (law_draw X Z.H (by decide) fun x σ' hx0 hx1 hs H => have Z := Z.hand hs H; have hS := Nat.le_trans hS hs.1; have hso := hs.get hso (by simp; lia); have hP := hP.hand hmsL hnh hs; have hnp := hs.get hnp (by simp; lia); have hnv := hs.get hnv (by simp; lia); (LJ.of LEv.nl (ItC.range1 ?_ ⟨?_, trivial, _, (.i 12), fun C => ?_⟩))) dd)))⟩))))
  · exact small_one (by lia) (by lia) (by lia) (by lia)
  · have := rangeV_len3 (b := x) hx1 hx0
    rw [sizeLine_eq]; lia
  have hsL' : L ≤ σ'.length := by lia
  refine CompL.idx (fun k acc τ => ∃ os, acc = os.map ov ∧ os.length = k ∧ (∀ o ∈ os, o ∈ someV) ∧ Same σ' τ [nh] ∧ Lw τ L nc nh n cs rs s i c m g g ∧ τ[σ.length]? = some (.list (someV.map ov)) ∧ τ[σ'.length]? = some (.list acc)) ⟨[], rfl, rfl, by simp, .app, Z.move .app, kA hso, kN⟩ ?_ ?_
  · rintro k e acc τ hc ⟨os, rfl, hol, hos, hs', Z', hso', ha⟩
    have hn1 : σ'.length ∉ [nh] := by simp; lia
    have hlt := (gq ha).1
    refine (EJ.sub (EJ.of (Ev.nm (.i 1)) (EJ.ce (Ev.gl hW .zx) X.k_law_draw (LEv.cs (Ev.nm (.i 2)) (LEv.cs (Ev.nm (.i 3)) (LEv.cs Ev.ci LEv.nl))) (CJ.up (d' := 1) (law_draw X Z'.H (by decide) fun y τ' hy0 hy1 ht H' => have hso3 := ht.get hso' (by simp; lia); (GiJ.list (by exact hso3) (gd_item (vs := someV) hy0 hy1) ?_ ?_)) dd))))
    · exact lb rfl
    have Z3 := Z'.hand ht H'
    have hlt0 := (gq hso).1
    have hlt1 := (gq Z.Sh.out).1
    have z := ht.get ha hn1
    refine ⟨z, trivial, os ++ [someV.getD y.toNat none], by simp, by simp [hol], fun o ho => ?_, (hs'.trans ht).setNew (Nat.le_refl _), Z3.own hsL' (by lia) (fun q => Nat.lt_irrefl _ (Z.Sh.lt q)) z, get_ne hso3 (by lia), kS z⟩
    rcases List.mem_append.mp ho with q | q
    · exact hos o q
    · rw [mq q]; exact gd_mem hy0 hy1
  · rintro acc τ ⟨os, rfl, hol, hos, hs', Z', hso', ha⟩
    have hl3 := rangeV_len3 (b := x) hx1 hx0
    rw [← hol] at hl3
    have q := hs'.1
    exact deed4b X Z' (by lia) hu hw2 hw0 hvn hvl (hs'.get hnv (by simp; lia)) hnvL hnpL hmsL (hs'.get hnp (by simp; lia)) (hP.hand hmsL hnh hs') ha (fun q => by have := Z.lo _ q; lia) hl3 hos hw hw8 hv4 (fun σ' n' rs' gA gB h1 h2 h3 => h σ' n' rs' gA gB h1 h2 (by lia)) _
theorem deed_tail (X : Ctx W) {L nc nh n nv : Nat} {cs : List Int} {rs : List Nat} {s : ScI} {i : Ids} {c : Cur} {m : Lim} {g : List (List Cell)} {vs : List (Option Int)} {w : Int} (Z : Lw σ L nc nh n cs rs s i c m g g) (hL : L ≤ σ.length) (hu : (limOf c m).Ok) (hw2 : ∀ q, q < 3 → W2 (row g q)) (hw0 : ∀ q, q < 3 → W0 (row g q)) (hvn : NonNeg vs) (hvl : vs.length ≤ 7) (hnv : σ[nv]? = some (.list (vs.map ov))) (hnvL : L ≤ nv) (hw0' : 0 ≤ w) (hw8 : w < 8) (h37 : w = 3 → vs.length = 7) (h4 : 3 < w → vs.length = 4)
    (h : ∀ σ' n' rs' gA gB, Deed (limOf c m) c g gA gB → Lw σ' L nc nh n' cs rs' s i c m gA gB → σ.length ≤ σ'.length → Q (.ref n') σ') : ∀ r_ : FrD, SeqQ W (d + 8) (F_law_deed r_) (D_law_deed.body.drop 3) (RetQ Q) .next
      [("cells", some (.ref nc)), ("hand", some (.ref nh)), ("screen", some (.ref s.sc)), ("shown", some (.ref n)), ("limits", some (limOf c m).v), ("way", some (.int w)), ("values", some (.ref nv)), ("area", none), ("cursor", none), ("params", none), ("code", none), ("some", none), ("numbers", none)] σ := by
  have hW := X.ok
  intro r_
  have hsc := Z.S.sc
  refine (SsJ.cs (SJ.assignSwap (names := ["area", "cursor"]) (EJ.tuple (LJ.cons (EJ.ce (Ev.gl hW (.i 2)) X.k_law_area (LEv.cs (Ev.nm (.i 6)) (LEv.cs (Ev.nm (.i 4)) LEv.nl)) (CJ.up (d' := 2) (law_area X hu hnv (by lia) hvn fun σ' hs => have hsc := hs.get hsc (by simp); have hnv := hs.get hnv (by simp); (LJ.of (LEv.cs (Ev.ta hW X.o_Screen (Ev.nm (.i 2)) X.a_Screen_cursor.find (by nofun) (nd_Screen rfl) (.i 6) rfl) LEv.nl) ⟨(lb rfl), ⟨_, _, rfl, rfl, (PutAll.cons (.i 8) (PutAll.cons (.i 7) PutAll.nil)), (SsJ.cs (SJ.assignComp _ [] [] (CmpOk.fm [] [] rfl (by decide +kernel) rfl rfl trivial trivial) rfl rfl (ItE.ofE (Ev.nm (.i 6)) (ItV.list (by nofun) ⟨?_, kA hnv, _, (.i 9), fun C => wraps hnv ?_ ?_⟩))))⟩⟩)) dd)))) rfl))
  · simp [sizeLine_eq]; lia
  · intro v τ R hR
    refine (EJ.list (LJ.of (LEv.cs (Ev.nm .zx) LEv.nl) ⟨(lb rfl), ?_⟩))
    exact hR
  intro σA ms hsA hmA hP hk
  have q1 := hs.1
  have q2 := hsA.1
  have Z := (Z.move hs).move hsA
  have hnv := hsA.get hnv (by simp)
  have hkL : ∀ k ∈ ms, L ≤ k := fun k q => by have := hk k q; lia
  have H : ∀ σ' n' rs' gA gB, Deed (limOf c m) c g gA gB → Lw σ' L nc nh n' cs rs' s i c m gA gB → σA.length ≤ σ'.length → Q (.ref n') σ' := fun σ' n' rs' gA gB a b q => h σ' n' rs' gA gB a b (by lia)
  have : w = 0 ∨ w = 1 ∨ w = 2 ∨ w = 3 ∨ 3 < w := by lia
  rcases this with e | e | e | e | e
  · exact deed0 X Z (by lia) hu hw2 hw0 hvn hvl hnv hnvL (by lia) hkL hmA hP e H _
  · exact deed1 X Z (by lia) hu hw2 hw0 hvn hvl hnv hnvL (by lia) hkL hmA hP e H _
  · exact deed2 X Z (by lia) hu hw2 hw0 hvn hvl hnv hnvL (by lia) hkL hmA hP e H _
  · exact deed3 X Z (by lia) hu hw2 hw0 hvn hvl hnv hnvL (by lia) hkL hmA hP e (h37 e) H _
  · exact deed4 X Z (by lia) hu hw2 hw0 hvn hvl hnv hnvL (by lia) hkL hmA hP e hw8 (h4 e) H _
end
section
variable {W : Wd} {d : Nat} {σ : List CO} {Q : V → List CO → Prop}
theorem law_valuesI (X : Ctx W) {nc nh : Nat} {cs : List Int} {i : Int} (H : Hnd σ nc nh cs) (h0 : 0 ≤ i) (h1 : i < 8) (h : ∀ σ' m vs, Same σ σ' [nh] → Hnd σ' nc nh cs → σ.length ≤ m → σ'[m]? = some (.list (vs.map ov)) → (vs.length : Int) = i → NonNeg vs → Q (.ref m) σ') :
    CJ W (d + 2) u_law_values [.ref nc, .ref nh, .int i] σ Q := by
  obtain ⟨n, rfl⟩ := Int.eq_ofNat_of_zero_le h0
  exact law_values X H (by lia) fun σ' m vs a b e f g k => h σ' m vs a b e f (by lia) k
theorem law_deed (X : Ctx W) {L nc nh n : Nat} {cs : List Int} {rs : List Nat} {s : ScI} {i : Ids} {c : Cur} {m : Lim} {g : List (List Cell)} (Z : Lw σ L nc nh n cs rs s i c m g g) (hL : L ≤ σ.length) (hu : (limOf c m).Ok) (hw2 : ∀ q, q < 3 → W2 (row g q)) (hw0 : ∀ q, q < 3 → W0 (row g q))
    (h : ∀ σ' n' rs' gA gB, Deed (limOf c m) c g gA gB → Lw σ' L nc nh n' cs rs' s i c m gA gB → σ.length ≤ σ'.length → Q (.ref n') σ') :
    CJ W (d + 9) u_law_deed [.ref nc, .ref nh, .ref s.sc, .ref n, (limOf c m).v] σ Q := by
  have hW := X.ok
  refine call.law_deed X fun r_ => ?_
  refine (SsJ.cs (SJ.sn (EJ.ce (Ev.gl hW .zx) X.k_law_draw (LEv.cs (Ev.nm .zx) (LEv.cs (Ev.nm (.i 1)) (LEv.cs Ev.ci LEv.nl))) (CJ.up (d' := 1) (law_draw X Z.H (by decide) fun w σ' hx0 hx1 hs H => have Z := Z.hand hs H; have hS := hs.1; (AJ.nm (.i 5) rfl (SsJ.cs (SJ.sn (EJ.call (EJ.glob hW (.i 1) ⟨_, rfl, X.k_law_values, (LJ.cons (EJ.of (Ev.nm .zx) (LJ.cons (EJ.of (Ev.nm (.i 1)) (LJ.cons (EJ.ite (TJ.cmp (EJ.of (Ev.nm (.i 5)) (EJ.of Ev.ci (CmpJ.eq (TrJ.bl (iteB (fun hc2 => (EJ.of Ev.ci (LJ.of LEv.nl (CJ.up (d' := 2) (law_valuesI X Z.H (by decide) (by decide) fun σ' nv vs hs H hm hnv hvl hvn => have Z := Z.hand hs H; have hS := Nat.le_trans hS hs.1; (AJ.nm (.i 6) rfl (SsJ.cs (SJ.iteB (TEv.cmp (Ev.nm (.i 5)) Ev.ci CmpE.lt) (fun hc1 => (SsJ.cs (SJ.sn (EJ.slice (EJ.of (Ev.nm (.i 6)) (EPJ.none (EPJ.some (EJ.binop (EJ.of Ev.ci (EJ.ce (Ev.gl hW .zx) X.k_law_draw (LEv.cs (Ev.nm .zx) (LEv.cs (Ev.nm (.i 1)) (LEv.cs Ev.ci LEv.nl))) (CJ.up (d' := 1) (law_draw X Z.H (by decide) fun y σ' hy0 hy1 hs H => have Z := Z.hand hs H; have hS := Nat.le_trans hS hs.1; have hnv := hs.get hnv (by have := Z.hl; simp; lia); (OpJ.add (SlJ.list (by nofun) rfl rfl ?_ (AJ.nm (.i 6) rfl (SsJ.nl ?_))))) dd))))))))))) (fun hc1 => (SsJ.nl ?_)))))) dd)))) (fun hc2 => (EJ.of Ev.ci (LJ.of LEv.nl (CJ.up (d' := 2) (law_valuesI X Z.H (by decide) (by decide) fun σ' nv vs hs H hm hnv hvl hvn => have Z := Z.hand hs H; have hS := Nat.le_trans hS hs.1; (AJ.nm (.i 6) rfl (SsJ.cs (SJ.iteB (TEv.cmp (Ev.nm (.i 5)) Ev.ci CmpE.lt) (fun hc1 => (SsJ.cs (SJ.sn (EJ.slice (EJ.of (Ev.nm (.i 6)) (EPJ.none (EPJ.some (EJ.binop (EJ.of Ev.ci (EJ.ce (Ev.gl hW .zx) X.k_law_draw (LEv.cs (Ev.nm .zx) (LEv.cs (Ev.nm (.i 1)) (LEv.cs Ev.ci LEv.nl))) (CJ.up (d' := 1) (law_draw X Z.H (by decide) fun y σ' hy0 hy1 hs H => have Z := Z.hand hs H; have hS := Nat.le_trans hS hs.1; have hnv := hs.get hnv (by have := Z.hl; simp; lia); (OpJ.add (SlJ.list (by nofun) rfl rfl ?_ (AJ.nm (.i 6) rfl (SsJ.nl ?_))))) dd))))))))))) (fun hc1 => (SsJ.nl ?_)))))) dd))))))))))))))))⟩)))))) dd))))
  all_goals try simp only [decide_eq_true_eq, beq_iff_eq, decide_eq_false_iff_not, beq_eq_false_iff_ne, ne_eq] at *
  all_goals have hm := hm
  all_goals first
    | (simp; lia)
    | (have es : slc (vs.map ov) none (some (1 + y)) = ((vs.take (1 + y.toNat)).map ov) := by rw [show (1 : Int) + y = ((1 + y.toNat : Nat) : Int) by lia, slc_b, List.map_take]
       refine deed_tail X (vs := vs.take (1 + y.toNat)) (Z.move .app) (by simp; lia) hu hw2 hw0 (fun o ho => hvn o (List.mem_of_mem_take ho)) (by simp; lia) (by rw [← es]; exact kN) (by lia) hx0 hx1 (fun q => by lia) (fun q => by lia) (fun σ' n' rs' gA gB a b q => h σ' n' rs' gA gB a b (by simp at q; lia)) _)
    | (refine deed_tail X Z (by lia) hu hw2 hw0 hvn (by lia) hnv (by lia) hx0 hx1 (fun q => by lia) (fun q => by lia) (fun σ' n' rs' gA gB a b q => h σ' n' rs' gA gB a b (by lia)) _)
end
theorem ext_at {l m : List Cell} (h : l.length = m.length) (q : ∀ j, j < l.length → at_ l j = at_ m j) : l = m := by
  apply List.ext_getElem h
  intro j h1 h2
  have := q j h1
  simpa [at_, List.getD_eq_getElem?_getD, h1, h2] using this
theorem at_app {l m : List Cell} {j : Nat} : at_ (l ++ m) j = if j < l.length then at_ l j else at_ m (j - l.length) := by
  unfold at_
  simp only [List.getD_eq_getElem?_getD]
  split
  · rename_i h; rw [List.getElem?_append_left h]
  · rename_i h; rw [List.getElem?_append_right (by lia)]
theorem at_take {l : List Cell} {k j : Nat} (h : j < k) : at_ (l.take k) j = at_ l j := by
  simp [at_, List.getD_eq_getElem?_getD, List.getElem?_take, h]
theorem at_drop {l : List Cell} {k j : Nat} : at_ (l.drop k) j = at_ l (k + j) := by
  simp [at_, List.getD_eq_getElem?_getD]
theorem at_rep {n j : Nat} {x : Cell} (h : j < n) : at_ (List.replicate n x) j = x := by
  simp [at_, List.getD_eq_getElem?_getD, h]
structure WF (l : List Cell) : Prop where
  w : ∀ j, j < l.length → (at_ l j).w = 0 ∨ (at_ l j).w = 1 ∨ (at_ l j).w = 2
  p : ∀ j, j < l.length → PenOk (at_ l j).p
  two : ∀ j, j < l.length → (at_ l j).w = 2 → j + 1 < l.length ∧ at_ l (j + 1) = half (at_ l j)
  zero : ∀ j, j < l.length → (at_ l j).w = 0 → 0 < j ∧ (at_ l (j - 1)).w = 2
theorem WF.zero' {l : List Cell} (h : WF l) {j : Nat} (hj : j < l.length) (hw : (at_ l j).w = 0) : 0 < j ∧ (at_ l (j - 1)).w = 2 ∧ at_ l j = half (at_ l (j - 1)) := by
  obtain ⟨h1, h2⟩ := h.zero j hj hw
  have h3 := h.two (j - 1) (by lia) h2
  rw [show j - 1 + 1 = j by lia] at h3
  exact ⟨h1, h2, h3.2⟩
theorem WF.next {l : List Cell} (h : WF l) {j : Nat} (hj : j < l.length) (hw : (at_ l j).w = 2) : j + 1 < l.length ∧ (at_ l (j + 1)).w = 0 := by
  have h3 := h.two j hj hw
  exact ⟨h3.1, by rw [h3.2]; rfl⟩
theorem WF.W2 {l : List Cell} (h : WF l) : W2 l := fun k hk hw => (h.two k hk hw).1
theorem WF.W0 {l : List Cell} (h : WF l) (hl : 0 < l.length) : W0 l := fun q => absurd (h.zero 0 hl q).1 (Nat.lt_irrefl _)
theorem blank_ok (p : Pen) : PenOk p.blank.p := ⟨Int.le_refl 0, (by decide : (0 : Int) < 4096)⟩
theorem at_part {l : List Cell} {k j : Nat} : at_ (part l k) j = if (0 < k ∧ k < l.length ∧ (at_ l k).w = 0) ∧ (j + 1 = k ∨ j = k) then (at_ l j).p.blank else at_ l j := by
  unfold part
  by_cases h : 0 < k ∧ k < l.length ∧ (at_ l k).w = 0
  · rw [if_pos h, at_set (by simp; lia), at_set (by lia)]
    by_cases h1 : j = k
    · subst h1; rw [if_pos rfl, if_pos ⟨h, .inr rfl⟩]
    · rw [if_neg h1]
      by_cases h2 : j + 1 = k
      · rw [if_pos (by lia), if_pos ⟨h, .inl h2⟩, show k - 1 = j by lia]
      · rw [if_neg (by lia), if_neg (fun q => by lia)]
  · rw [if_neg h, if_neg (fun q => h q.1)]
theorem at_cut {l : List Cell} (h : WF l) {k j : Nat} : at_ (lawCut l k) j = at_ (part l k) j := by
  rw [at_part]
  unfold lawCut
  by_cases q : 0 < k ∧ k < l.length ∧ (at_ l k).w = 0
  · obtain ⟨h1, h2, h3⟩ := h.zero' q.2.1 q.2.2
    obtain ⟨p, rfl⟩ : ∃ p, k = p + 1 := ⟨k - 1, (Nat.sub_add_cancel q.1).symm⟩
    have hp : p ≤ l.length := Nat.le_of_lt (Nat.lt_of_succ_lt q.2.1)
    rw [if_pos q, at_app, at_app]
    simp only [List.length_append, List.length_take, List.length_replicate, Nat.add_sub_cancel, Nat.min_eq_left hp]
    by_cases a : j < p
    · rw [if_pos (Nat.lt_add_right 2 a), if_pos a, at_take a, if_neg fun z => z.2.elim (fun e => Nat.ne_of_lt a (Nat.succ.inj e)) (Nat.ne_of_lt (Nat.lt_succ_of_lt a))]
    · have c := Nat.le_of_not_lt a
      by_cases b : j < p + 2
      · have r : j = p ∨ j = p + 1 := (Nat.eq_or_lt_of_le c).imp Eq.symm fun z => Nat.le_antisymm (Nat.le_of_lt_succ b) z
        rw [if_pos b, if_neg a, at_rep (Nat.sub_lt_left_of_lt_add c b), if_pos ⟨q, r.imp (congrArg (· + 1)) id⟩]
        rcases r with e | e
        · rw [e, h3]; rfl
        · rw [e]
      · have b' := Nat.le_of_not_lt b
        rw [if_neg b, at_drop, if_neg fun z => z.2.elim (Nat.ne_of_gt (Nat.succ_lt_succ (Nat.lt_of_succ_lt b'))) (Nat.ne_of_gt b')]
        exact congrArg (at_ l) (Nat.add_sub_of_le b')
  · rw [if_neg q, if_neg (fun z => q z.1)]
theorem cut_part {l : List Cell} (h : WF l) (k : Nat) : lawCut l k = part l k := ext_at (by rw [lawCut_len, part_len]) fun j _ => at_cut h
theorem WF.part {l : List Cell} (h : WF l) (k : Nat) : WF (part l k) := by
  by_cases q : 0 < k ∧ k < l.length ∧ (at_ l k).w = 0
  · obtain ⟨h1, h2, h3⟩ := h.zero' q.2.1 q.2.2
    have e : ∀ j, at_ (Mine.part l k) j = if j + 1 = k ∨ j = k then (at_ l j).p.blank else at_ l j := fun j => by
      rw [at_part]
      by_cases a : j + 1 = k ∨ j = k
      · rw [if_pos ⟨q, a⟩, if_pos a]
      · rw [if_neg (fun z => a z.2), if_neg a]
    refine ⟨fun j hj => ?_, fun j hj => ?_, fun j hj hw => ?_, fun j hj hw => ?_⟩ <;> rw [part_len] at hj
    · rw [e]; split
      · exact .inr (.inl rfl)
      · exact h.w j hj
    · rw [e]; split
      · exact blank_ok _
      · exact h.p j hj
    · rw [e] at hw
      split at hw
      · cases hw
      · rename_i a
        have := h.two j hj hw
        have := h.next hj hw
        rw [part_len, e, e, if_neg a]
        have : ¬ (j + 1 + 1 = k ∨ j + 1 = k) := fun z => by
          rcases z with z | z
          · rw [show k - 1 = j + 1 by lia] at h2; lia
          · lia
        rw [if_neg this]
        exact h.two j hj hw
    · rw [e] at hw
      split at hw
      · cases hw
      · rename_i a
        have b := h.zero j hj hw
        refine ⟨b.1, ?_⟩
        rw [e, if_neg]
        · exact b.2
        · intro z
          rcases z with z | z
          · exact a (.inr (by lia))
          · have := q.2.2; rw [← z] at this; lia
  · have e : Mine.part l k = l := by unfold Mine.part; rw [if_neg q]
    rw [e]; exact h
theorem part_clean {l : List Cell} (h : WF l) {k : Nat} (hk : k < l.length) : (at_ (part l k) k).w ≠ 0 := by
  intro q
  rw [at_part] at q
  split at q
  · cases q
  · rename_i a
    have := h.zero k hk q
    exact a ⟨⟨this.1, hk, q⟩, .inr rfl⟩
theorem part2_clean {l : List Cell} (h : WF l) {k e : Nat} (hke : k < e) (hk : k < l.length) : (at_ (part (part l k) e) k).w ≠ 0 := by
  rw [at_part]
  split
  · exact fun q => by cases q
  · exact part_clean h hk
theorem at_over {l xs : List Cell} (h : WF l) {k j : Nat} (hk : k + xs.length ≤ l.length) : at_ (lawOver l k xs) j = if k ≤ j ∧ j < k + xs.length then at_ xs (j - k) else at_ (part (part l k) (k + xs.length)) j := by
  rw [lawOver, cut_part h, cut_part (h.part k), at_app, at_app]
  simp only [List.length_append, List.length_take, part_len]
  rw [Nat.min_eq_left (by lia)]
  by_cases a : j < k
  · rw [if_pos (by lia), if_pos a, at_take a, if_neg (by lia)]
  · by_cases b : j < k + xs.length
    · rw [if_pos b, if_neg a, if_pos ⟨by lia, b⟩]
    · rw [if_neg b, at_drop, if_neg (fun q => b q.2)]
      congr 1; lia
theorem WF.over {l xs : List Cell} (h : WF l) (hx : WF xs) (h0 : 0 < xs.length) {k : Nat} (hk : k + xs.length ≤ l.length) : WF (lawOver l k xs) := by
  have hm := (h.part k).part (k + xs.length)
  have ce := part_clean (h.part k) (k := k + xs.length)
  have ck := part2_clean h (k := k) (e := k + xs.length) (by lia) (by lia)
  have e := fun j => at_over h hk (j := j)
  have lm : (Mine.part (Mine.part l k) (k + xs.length)).length = l.length := by rw [part_len, part_len]
  rw [part_len] at ce
  generalize Mine.part (Mine.part l k) (k + xs.length) = m at *
  have ll := lawOver_len (l := l) (k := k) (xs := xs) hk
  refine ⟨fun j hj => ?_, fun j hj => ?_, fun j hj hw => ?_, fun j hj hw => ?_⟩ <;> rw [ll] at hj
  · rw [e]; split
    · exact hx.w _ (by lia)
    · exact hm.w j (by lia)
  · rw [e]; split
    · exact hx.p _ (by lia)
    · exact hm.p j (by lia)
  · rw [e] at hw
    rw [ll, e, e]
    split at hw
    · rename_i a
      have b := hx.two _ (by lia) hw
      rw [if_pos a, if_pos (by lia), show j + 1 - k = j - k + 1 by lia]
      exact ⟨by lia, b.2⟩
    · rename_i a
      have b := hm.two _ (by lia) hw
      have c := hm.next (by lia) hw
      have d : j + 1 ≠ k := fun q => ck (q ▸ c.2)
      rw [if_neg a, if_neg (by lia)]
      exact ⟨by lia, b.2⟩
  · rw [e] at hw
    rw [e]
    split at hw
    · rename_i a
      have b := hx.zero _ (by lia) hw
      rw [if_pos (by lia), show j - 1 - k = j - k - 1 by lia]
      exact ⟨by lia, b.2⟩
    · rename_i a
      have b := hm.zero _ (by lia) hw
      have d : j ≠ k + xs.length := fun q => ce (by lia) (q ▸ hw)
      rw [if_neg (by lia)]
      exact b
theorem WF.tail {x : Cell} (hw : x.w = 1 ∨ x.w = 2) (hp : PenOk x.p) : WF (wideTail x) := by
  unfold wideTail
  rcases hw with hw | hw
  · rw [if_neg (by lia)]
    refine ⟨fun j hj => ?_, fun j hj => ?_, fun j hj h => ?_, fun j hj h => ?_⟩ <;> (have : j = 0 := by simpa using hj) <;> subst this
    · exact .inr (.inl hw)
    · exact hp
    · change x.w = 2 at h; lia
    · change x.w = 0 at h; lia
  · rw [if_pos hw]
    refine ⟨fun j hj => ?_, fun j hj => ?_, fun j hj h => ?_, fun j hj h => ?_⟩ <;> (have : j = 0 ∨ j = 1 := by simp at hj; lia) <;> rcases this with rfl | rfl
    · exact .inr (.inr hw)
    · exact .inl rfl
    · exact hp
    · exact hp
    · exact ⟨(by decide : 1 < 2), rfl⟩
    · cases h
    · change x.w = 0 at h; lia
    · exact ⟨Nat.one_pos, hw⟩
theorem put_over {l : List Cell} (h : WF l) {k : Nat} {x : Cell} (hw : x.w = 1 ∨ (x.w = 2 ∧ k + 1 < l.length)) (hk : k < l.length) : put l k x = lawOver l k (wideTail x) := by
  unfold wideTail
  rcases hw with hw | ⟨hw, hk2⟩
  · rw [if_neg (by lia)]
    refine ext_at (by rw [put_len, lawOver_len (by simp; lia)]) fun j hj => ?_
    rw [at_over h (by simp; lia), put, if_neg (by lia), at_set (by rw [part_len, part_len]; exact hk)]
    simp only [List.length_singleton]
    by_cases a : j = k
    · subst a; rw [if_pos rfl, if_pos (by lia), Nat.sub_self]; rfl
    · rw [if_neg a, if_neg (by lia)]
  · rw [if_pos hw]
    refine ext_at (by rw [put_len, lawOver_len (by simp; lia)]) fun j hj => ?_
    rw [at_over h (by simp; lia), put, if_pos hw, at_set (by simp [part_len]; exact hk2), at_set (by rw [part_len, part_len]; exact hk)]
    simp only [List.length_cons, List.length_nil, Nat.zero_add, Nat.reduceAdd]
    by_cases a : j = k + 1
    · subst a; rw [if_pos rfl, if_pos (by lia), show k + 1 - k = 1 by lia]; rfl
    · rw [if_neg a]
      by_cases b : j = k
      · subst b; rw [if_pos rfl, if_pos (by lia), Nat.sub_self]; rfl
      · rw [if_neg b, if_neg (by lia)]
theorem WF.rep {n : Nat} {x : Cell} (hw : x.w = 1) (hp : PenOk x.p) : WF (List.replicate n x) := by
  refine ⟨fun j hj => ?_, fun j hj => ?_, fun j hj h => ?_, fun j hj h => ?_⟩ <;> rw [List.length_replicate] at hj
  · rw [at_rep hj]; exact .inr (.inl hw)
  · rw [at_rep hj]; exact hp
  · rw [at_rep hj] at h; lia
  · rw [at_rep hj] at h; lia
theorem erase_over {l : List Cell} (h : WF l) {a b : Nat} (hab : a ≤ b) (hb : b < l.length) (p : Pen) : eraseL l a b p false = lawOver l a (List.replicate (b + 1 - a) p.blank) := by
  have e : a + (b + 1 - a) = b + 1 := by lia
  refine ext_at (by rw [eraseL_len, lawOver_len (by simp; lia)]) fun j hj => ?_
  rw [at_over h (by simp; lia), List.length_replicate, e, eraseL]
  have eb : ∀ m k, border m false k = part m k := fun m k => by
    unfold border
    by_cases q : k < m.length
    · rw [if_pos ⟨q, rfl⟩]
    · rw [if_neg (fun z => q z.1)]; unfold part; rw [if_neg (fun z => q z.2.1)]
  rw [eb, eb, fillTo_at (by rw [part_len, part_len]; rw [eraseL_len] at hj; exact hj)]
  by_cases q : a ≤ j ∧ j < b + 1
  · rw [if_pos ⟨q.1, q.2, rfl⟩, if_pos q, at_rep (by lia)]
  · rw [if_neg (fun z => q ⟨z.1, z.2.1⟩), if_neg q]
theorem putC_over {l xs : List Cell} (h : WF l) (hl : l.length = 6) {k : Nat} (h0 : 0 < xs.length) (hk : k + xs.length ≤ 6) : putC l k xs = lawOver l k xs := by
  have hk' : k + xs.length ≤ l.length := hl.symm ▸ hk
  have kp : k < k + xs.length := Nat.lt_add_of_pos_right h0
  have kl : k < l.length := Nat.lt_of_lt_of_le kp hk'
  refine ext_at (by rw [putC_len, lawOver_len hk']) fun j hj => ?_
  rw [putC_len] at hj
  rw [at_over h hk']
  unfold putC
  rw [if_neg (fun q => by rw [q] at h0; cases h0)]
  have eo : ∀ m : List Cell, m.length = 6 → at_ (overl m k xs) j = if k ≤ j ∧ j < k + xs.length then at_ xs (j - k) else at_ m j := fun m hm => by
    simp [at_, overl, List.getD_eq_getElem?_getD, show j < m.length from hm.symm ▸ hl ▸ hj]
  rw [eo _ (by rw [cutEnd_len, cutAt_len]; exact hl)]
  by_cases a : k ≤ j ∧ j < k + xs.length
  · rw [if_pos a, if_pos a]
  rw [if_neg a, if_neg a]
  have c1 : ∀ i, at_ (cutAt l k) i = if (at_ l k).w = 0 ∧ i + 1 = k then (at_ l i).p.blank else at_ l i := fun i => by
    unfold cutAt
    by_cases q : (at_ l k).w = 0
    · have := h.zero k kl q
      rw [if_pos q, at_set (Nat.lt_of_le_of_lt (Nat.sub_le _ _) kl)]
      by_cases b : i = k - 1
      · rw [if_pos b, if_pos ⟨q, b ▸ Nat.sub_add_cancel this.1⟩, b]
      · rw [if_neg b, if_neg fun z => b (Nat.eq_sub_of_add_eq z.2)]
    · rw [if_neg q, if_neg (fun z => q z.1)]
  have c2 : at_ (cutEnd (cutAt l k) (k + xs.length)) j = if (k + xs.length < 6 ∧ (at_ l (k + xs.length)).w = 0) ∧ j = k + xs.length then (at_ l j).p.blank else at_ (cutAt l k) j := by
    unfold cutEnd
    have e : at_ (cutAt l k) (k + xs.length) = at_ l (k + xs.length) := by rw [c1, if_neg fun z => Nat.ne_of_gt (Nat.lt_succ_of_lt kp) z.2]
    rw [e]
    by_cases q : k + xs.length < 6 ∧ (at_ l (k + xs.length)).w = 0
    · rw [if_pos q, at_set (by rw [cutAt_len, hl]; exact q.1)]
      by_cases b : j = k + xs.length
      · rw [if_pos b, if_pos ⟨q, b⟩, b]
      · rw [if_neg b, if_neg (fun z => b z.2)]
    · rw [if_neg q, if_neg (fun z => q z.1)]
  have e : at_ (part l k) (k + xs.length) = at_ l (k + xs.length) := by rw [at_part, if_neg fun z => z.2.elim (Nat.ne_of_gt (Nat.lt_succ_of_lt kp)) (Nat.ne_of_gt kp)]
  rw [c2, c1, at_part, e, part_len, at_part]
  by_cases b : j < k
  · have bk := Nat.lt_trans b kp
    have r1 : ¬ ((k + xs.length < 6 ∧ (at_ l (k + xs.length)).w = 0) ∧ j = k + xs.length) := fun z => Nat.ne_of_lt bk z.2
    have r2 : ¬ ((0 < k + xs.length ∧ k + xs.length < l.length ∧ (at_ l (k + xs.length)).w = 0) ∧ (j + 1 = k + xs.length ∨ j = k + xs.length)) := fun z => z.2.elim (Nat.ne_of_lt (Nat.lt_of_le_of_lt b kp)) (Nat.ne_of_lt bk)
    rw [if_neg r1, if_neg r2]
    by_cases q : (at_ l k).w = 0 ∧ j + 1 = k
    · rw [if_pos q, if_pos ⟨⟨q.2 ▸ Nat.succ_pos j, kl, q.1⟩, .inl q.2⟩]
    · rw [if_neg q, if_neg fun z => q ⟨z.1.2.2, z.2.resolve_right (Nat.ne_of_lt b)⟩]
  · have c : k + xs.length ≤ j := Nat.le_of_not_lt fun z => a ⟨Nat.le_of_not_lt b, z⟩
    have kj := Nat.lt_of_lt_of_le kp c
    have d : ¬ ((at_ l k).w = 0 ∧ j + 1 = k) := fun z => Nat.ne_of_gt (Nat.lt_succ_of_lt kj) z.2
    have d' : ¬ ((0 < k ∧ k < l.length ∧ (at_ l k).w = 0) ∧ (j + 1 = k ∨ j = k)) := fun z => z.2.elim (Nat.ne_of_gt (Nat.lt_succ_of_lt kj)) (Nat.ne_of_gt kj)
    rw [if_neg d, if_neg d']
    by_cases q : (k + xs.length < 6 ∧ (at_ l (k + xs.length)).w = 0) ∧ j = k + xs.length
    · rw [if_pos q, if_pos ⟨⟨Nat.lt_of_le_of_lt (Nat.zero_le _) kp, hl.symm ▸ q.1.1, q.1.2⟩, .inr q.2⟩]
    · rw [if_neg q, if_neg fun z => q ⟨⟨hl ▸ z.1.2.1, z.1.2.2⟩, z.2.resolve_left (Nat.ne_of_gt (Nat.lt_succ_of_le c))⟩]
theorem at_mended {l : List Cell} {j : Nat} (hj : j < l.length) : at_ (mended l) j = if (j = 0 ∧ (at_ l j).w = 0) ∨ (j + 1 = l.length ∧ (at_ l j).w = 2) then (at_ l j).p.blank else at_ l j := by
  have hn : l ≠ [] := fun q => by rw [q] at hj; cases hj
  have e0 : ∀ i, at_ (mend0 l) i = if i = 0 ∧ (at_ l i).w = 0 then (at_ l i).p.blank else at_ l i := fun i => by
    unfold mend0
    by_cases q : (at_ l 0).w = 0
    · rw [if_pos ⟨hn, q⟩, at_set (by lia)]
      by_cases b : i = 0
      · subst b; rw [if_pos rfl, if_pos ⟨rfl, q⟩]
      · rw [if_neg b, if_neg (fun z => b z.1)]
    · rw [if_neg (fun z => q z.2), if_neg (fun z => by rw [z.1] at z; exact q z.2)]
  have hn0 : mend0 l ≠ [] := fun q => by have := mend0_len l; rw [q] at this; simp at this; lia
  unfold mended mend1
  rw [mend0_len]
  by_cases q : (at_ (mend0 l) (l.length - 1)).w = 2
  · rw [if_pos ⟨hn0, q⟩, at_set (by rw [mend0_len]; lia)]
    rw [e0] at q
    by_cases b : j = l.length - 1
    · rw [← b] at q ⊢
      rw [if_pos rfl, e0]
      split at q
      · cases q
      · rename_i c
        rw [if_neg c, if_pos (.inr ⟨by lia, q⟩)]
    · rw [if_neg b, e0]
      by_cases c : j = 0 ∧ (at_ l j).w = 0
      · rw [if_pos c, if_pos (.inl c)]
      · rw [if_neg c, if_neg (fun z => z.elim c fun y => b (by lia))]
  · rw [if_neg (fun z => q z.2), e0]
    by_cases c : j = 0 ∧ (at_ l j).w = 0
    · rw [if_pos c, if_pos (.inl c)]
    · rw [if_neg c, if_neg]
      intro z
      rcases z with z | z
      · exact c z
      · rw [e0, show l.length - 1 = j by lia, if_neg c] at q; exact q z.2
theorem at_slice {l : List Cell} {a m j : Nat} (h : j < m) : at_ ((l.take (a + m)).drop a) j = at_ l (a + j) := by
  rw [at_drop, at_take (by lia)]
theorem take_mended {l : List Cell} (h : WF l) {a m : Nat} (h0 : 0 < m) (hm : a + m ≤ l.length) : takeL l a m = mended ((l.take (a + m)).drop a) := by
  have ls : ((l.take (a + m)).drop a).length = m := by simp; lia
  refine ext_at (by rw [takeL_len hm, mended_len, ls]) fun j hj => ?_
  rw [takeL_len hm] at hj
  rw [at_mended (by rw [ls]; exact hj), ls, at_slice hj, takeL, cut_part h, cut_part (h.part a), at_slice hj]
  have e : at_ (part l a) (a + m) = at_ l (a + m) := by rw [at_part, if_neg (by lia)]
  rw [at_part (l := part l a), e, at_part (l := l) (j := a + j), part_len]
  have w1 : (a + m < l.length ∧ (at_ l (a + m)).w = 0) ↔ (at_ l (a + m - 1)).w = 2 := by
    constructor
    · intro ⟨z1, z2⟩; exact (h.zero _ z1 z2).2
    · intro z
      have := h.next (j := a + m - 1) (by lia) z
      rw [show a + m - 1 + 1 = a + m by lia] at this
      exact this
  by_cases c : j = 0 ∧ (at_ l (a + j)).w = 0
  · have c2 : (0 < a ∧ a < l.length ∧ (at_ l a).w = 0) ∧ (a + j + 1 = a ∨ a + j = a) := by
      have c3 := c.2
      rw [c.1, Nat.add_zero] at c3
      have := h.zero a (by lia) c3
      exact ⟨⟨this.1, by lia, c3⟩, by lia⟩
    have r : (if (j = 0 ∧ (at_ l (a + j)).w = 0) ∨ (j + 1 = m ∧ (at_ l (a + j)).w = 2) then (at_ l (a + j)).p.blank else at_ l (a + j)) = (at_ l (a + j)).p.blank := if_pos (.inl c)
    rw [r, if_pos c2]
    split <;> rfl
  · have c2 : ¬ ((0 < a ∧ a < l.length ∧ (at_ l a).w = 0) ∧ (a + j + 1 = a ∨ a + j = a)) := fun z => c ⟨by lia, by rw [show a + j = a by lia]; exact z.1.2.2⟩
    rw [if_neg c2]
    by_cases b : j + 1 = m ∧ (at_ l (a + j)).w = 2
    · have := w1.mpr (by rw [show a + m - 1 = a + j by lia]; exact b.2)
      rw [if_pos ⟨⟨by lia, this⟩, by lia⟩, if_pos (.inr b)]
    · rw [if_neg, if_neg (fun z => z.elim c b)]
      intro z
      refine b ⟨by lia, ?_⟩
      have := w1.mp z.1.2
      rwa [show a + m - 1 = a + j by lia] at this
theorem WF.take {l : List Cell} (h : WF l) {a m : Nat} (h0 : 0 < m) (hm : a + m ≤ l.length) : WF (takeL l a m) := by
  have hM := (h.part a).part (a + m)
  have ce := part_clean (h.part a) (k := a + m)
  have ck := part2_clean h (k := a) (e := a + m) (by lia) (by lia)
  have lm : (Mine.part (Mine.part l a) (a + m)).length = l.length := by rw [part_len, part_len]
  have e : ∀ j, j < m → at_ (takeL l a m) j = at_ (Mine.part (Mine.part l a) (a + m)) (a + j) := fun j hj => by
    rw [takeL, cut_part h, cut_part (h.part a), at_slice hj]
  rw [part_len] at ce
  generalize Mine.part (Mine.part l a) (a + m) = M at *
  have ll := takeL_len (l := l) hm
  refine ⟨fun j hj => ?_, fun j hj => ?_, fun j hj hw => ?_, fun j hj hw => ?_⟩ <;> rw [ll] at hj
  · rw [e j hj]; exact hM.w _ (by lia)
  · rw [e j hj]; exact hM.p _ (by lia)
  · rw [e j hj] at hw
    have b := hM.two _ (by lia) hw
    have c := hM.next (by lia) hw
    have d : j + 1 < m := by
      refine Decidable.byContradiction fun q => ?_
      have f : a + j + 1 = a + m := by lia
      rw [f] at c
      exact ce (by lia) c.2
    rw [ll, e j hj, e _ d]
    exact ⟨d, b.2⟩
  · rw [e j hj] at hw
    have b := hM.zero _ (by lia) hw
    have d : 0 < j := by
      refine Decidable.byContradiction fun q => ?_
      have f : a + j = a := by lia
      rw [f] at hw
      exact ck hw
    rw [e _ (by lia), show a + (j - 1) = a + j - 1 by lia]
    exact ⟨d, b.2⟩
noncomputable def selAt (l : List Cell) (a b : Nat) (x : Cell) (j : Nat) : Cell :=
  if a ≤ j ∧ j ≤ b then (if (at_ l j).k = true then at_ l j else x)
  else if j + 1 = a ∧ (at_ l a).w = 0 ∧ (at_ l a).k = false then (at_ l a).p.blank
  else if j = b + 1 ∧ (at_ l b).w = 2 ∧ (at_ l b).k = false then (at_ l b).p.blank
  else at_ l j
theorem at_border {l : List Cell} {k j : Nat} : at_ (border l true k) j = if (k < l.length ∧ (at_ l k).k = false) ∧ (0 < k ∧ (at_ l k).w = 0) ∧ (j + 1 = k ∨ j = k) then (at_ l j).p.blank else at_ l j := by
  unfold border
  by_cases q : k < l.length ∧ (at_ l k).k = false
  · rw [if_pos (by simpa using q), at_part]
    by_cases r : (0 < k ∧ k < l.length ∧ (at_ l k).w = 0) ∧ (j + 1 = k ∨ j = k)
    · rw [if_pos r, if_pos ⟨q, ⟨r.1.1, r.1.2.2⟩, r.2⟩]
    · rw [if_neg r, if_neg (fun z => r ⟨⟨z.2.1.1, q.1, z.2.1.2⟩, z.2.2⟩)]
  · rw [if_neg (by simpa using q), if_neg (fun z => q z.1)]
theorem erase_sel {l : List Cell} (h : WF l) {a b j : Nat} (hab : a ≤ b) (hb : b < l.length) (p : Pen) (hj : j < l.length) : at_ (eraseL l a b p true) j = selAt l a b p.blank j := by
  rw [eraseL, fillTo_at (by rw [border_len, border_len]; exact hj)]
  have e : at_ (border l true a) (b + 1) = at_ l (b + 1) := by rw [at_border, if_neg (fun z => by lia)]
  have e2 : ∀ i, at_ (border (border l true a) true (b + 1)) i = if (b + 1 < l.length ∧ (at_ l (b + 1)).k = false) ∧ (at_ l (b + 1)).w = 0 ∧ (i = b ∨ i = b + 1) then (at_ (border l true a) i).p.blank else at_ (border l true a) i := fun i => by
    rw [at_border (l := border l true a), e, border_len]
    by_cases q : (b + 1 < l.length ∧ (at_ l (b + 1)).k = false) ∧ (at_ l (b + 1)).w = 0 ∧ (i = b ∨ i = b + 1)
    · rw [if_pos q, if_pos ⟨q.1, ⟨by lia, q.2.1⟩, by lia⟩]
    · rw [if_neg q, if_neg (fun z => q ⟨z.1, z.2.1.2, by lia⟩)]
  have w1 : b + 1 < l.length → (at_ l (b + 1)).w = 0 → (at_ l b).w = 2 ∧ (at_ l (b + 1)).k = (at_ l b).k ∧ (at_ l (b + 1)).p = (at_ l b).p := fun z1 z2 => by
    have := h.zero' z1 z2
    rw [show b + 1 - 1 = b by lia] at this
    exact ⟨this.2.1, by rw [this.2.2]; rfl, by rw [this.2.2]; rfl⟩
  have w2 : (at_ l b).w = 2 → b + 1 < l.length ∧ (at_ l (b + 1)).w = 0 ∧ (at_ l (b + 1)).k = (at_ l b).k ∧ (at_ l (b + 1)).p = (at_ l b).p := fun z => by
    have := h.two b hb z
    exact ⟨this.1, by rw [this.2]; rfl, by rw [this.2]; rfl, by rw [this.2]; rfl⟩
  unfold selAt
  by_cases q : a ≤ j ∧ j ≤ b
  · rw [if_pos q]
    cases hk : (at_ l j).k with
    | true =>
      have e1 : at_ (border l true a) j = at_ l j := by
        rw [at_border, if_neg]
        intro z
        have : j = a := by lia
        rw [this, z.1.2] at hk; cases hk
      have e3 : at_ (border (border l true a) true (b + 1)) j = at_ l j := by
        rw [e2, if_neg, e1]
        intro z
        have c : j = b := by lia
        have := w1 z.1.1 z.2.1
        rw [c, ← this.2.1, z.1.2] at hk; cases hk
      rw [e3, hk, if_neg (fun z => by cases z.2.2), if_pos rfl]
    | false =>
      have e1 : (at_ (border l true a) j).k = false := by
        rw [at_border]; split
        · rfl
        · exact hk
      have e3 : (at_ (border (border l true a) true (b + 1)) j).k = false := by
        rw [e2]; split
        · rfl
        · exact e1
      rw [if_pos ⟨q.1, by lia, by rw [e3]; rfl⟩, if_neg (by decide)]
  · rw [if_neg q, if_neg (fun z => q ⟨z.1, by lia⟩), e2, at_border]
    by_cases c : j + 1 = a ∧ (at_ l a).w = 0 ∧ (at_ l a).k = false
    · have z := h.zero' (j := a) (by lia) c.2.1
      have zp : (at_ l a).p = (at_ l j).p := by rw [z.2.2, show a - 1 = j by lia]; rfl
      rw [if_pos c, if_neg (fun y => by lia), if_pos ⟨⟨by lia, c.2.2⟩, ⟨by lia, c.2.1⟩, .inl c.1⟩, zp]
    · rw [if_neg c]
      have c' : ¬ ((a < l.length ∧ (at_ l a).k = false) ∧ (0 < a ∧ (at_ l a).w = 0) ∧ (j + 1 = a ∨ j = a)) := fun z => c ⟨by lia, z.2.1.2, z.1.2⟩
      rw [if_neg c']
      by_cases d : j = b + 1 ∧ (at_ l b).w = 2 ∧ (at_ l b).k = false
      · have z := w2 d.2.1
        rw [if_pos d, if_pos ⟨⟨z.1, by rw [z.2.2.1]; exact d.2.2⟩, z.2.1, .inr d.1⟩, d.1, z.2.2.2]
      · rw [if_neg d, if_neg]
        intro z
        have y := w1 z.1.1 z.2.1
        exact d ⟨by lia, y.1, by rw [← y.2.1]; exact z.1.2⟩
theorem at_spare {l : List Cell} (h : WF l) {a b : Nat} (hb : b < l.length) (x : Cell) : ∀ n, a + n ≤ b + 1 → ∀ j, j < l.length → at_ (spareRow a b x l n) j =
    if a ≤ j ∧ j < a + n then (if (at_ l j).k = true then at_ l j else x)
    else if j + 1 = a ∧ 0 < n ∧ (at_ l a).w = 0 ∧ (at_ l a).k = false then (at_ l a).p.blank
    else if j = b + 1 ∧ a + n = b + 1 ∧ 0 < n ∧ (at_ l b).w = 2 ∧ (at_ l b).k = false then (at_ l b).p.blank
    else at_ l j := by
  intro n
  induction n with
  | zero =>
    intro _ j _
    rw [if_neg (fun z => by lia), if_neg (fun z => by lia), if_neg (fun z => by lia)]
    rfl
  | succ n ih =>
    intro hn j hj
    have ih := ih (by lia)
    rw [spareRow_succ]
    have ln := spareRow_len a b x l n
    unfold spareStep
    cases hk : (at_ l (a + n)).k with
    | true =>
      rw [if_pos rfl, ih j hj]
      by_cases c1 : a ≤ j ∧ j < a + n
      · have d3 : a ≤ j ∧ j < a + (n + 1) := ⟨c1.1, by lia⟩
        rw [if_pos c1, if_pos d3]
      · rw [if_neg c1]
        by_cases c2 : j = a + n
        · have d1 : ¬ (j + 1 = a ∧ 0 < n ∧ (at_ l a).w = 0 ∧ (at_ l a).k = false) := fun z => by lia
          have d2 : ¬ (j = b + 1 ∧ a + n = b + 1 ∧ 0 < n ∧ (at_ l b).w = 2 ∧ (at_ l b).k = false) := fun z => by lia
          have d3 : a ≤ j ∧ j < a + (n + 1) := ⟨by lia, by lia⟩
          rw [if_neg d1, if_neg d2, if_pos d3, c2, if_pos hk]
        · have d1 : ¬ (a ≤ j ∧ j < a + (n + 1)) := fun z => by lia
          rw [if_neg d1]
          have hk' : 0 < n ∨ (at_ l a).k = true := by
            rcases Nat.eq_zero_or_pos n with e | e
            · subst e; exact .inr hk
            · exact .inl e
          have d2 : (j + 1 = a ∧ 0 < n ∧ (at_ l a).w = 0 ∧ (at_ l a).k = false) ↔ (j + 1 = a ∧ 0 < n + 1 ∧ (at_ l a).w = 0 ∧ (at_ l a).k = false) :=
            ⟨fun z => ⟨z.1, by lia, z.2.2⟩, fun z => ⟨z.1, hk'.resolve_right (fun y => by rw [z.2.2.2] at y; cases y), z.2.2⟩⟩
          have d3 : (j = b + 1 ∧ a + n = b + 1 ∧ 0 < n ∧ (at_ l b).w = 2 ∧ (at_ l b).k = false) ↔ (j = b + 1 ∧ a + (n + 1) = b + 1 ∧ 0 < n + 1 ∧ (at_ l b).w = 2 ∧ (at_ l b).k = false) :=
            ⟨fun z => by lia, fun z => by
              have : a + n = b := by lia
              rw [this, z.2.2.2.2] at hk; cases hk⟩
          simp only [d2, d3]
    | false =>
      rw [if_neg (by decide)]
      unfold spare2 spare1
      have lm : ((spareRow a b x l n).set (a + n) x).length = l.length := by rw [List.length_set, ln]
      have e1 : ∀ i, i < l.length → at_ (if a + n = a ∧ (at_ l (a + n)).w = 0 then ((spareRow a b x l n).set (a + n) x).set (a + n - 1) (at_ l (a + n)).p.blank else (spareRow a b x l n).set (a + n) x) i =
          if i = a + n then x else if i + 1 = a ∧ n = 0 ∧ (at_ l a).w = 0 then (at_ l a).p.blank else at_ (spareRow a b x l n) i := fun i hi => by
        by_cases q : a + n = a ∧ (at_ l (a + n)).w = 0
        · have qn : n = 0 := by lia
          have q2 := q.2
          rw [qn, Nat.add_zero] at q2
          have := h.zero a (by lia) q2
          rw [if_pos q, at_set (by rw [lm]; lia), at_set (by rw [ln]; lia), qn, Nat.add_zero]
          by_cases r : i = a
          · rw [if_neg (by lia), if_pos r, if_pos r]
          · rw [if_neg r]
            by_cases s : i = a - 1
            · rw [if_pos s, if_neg r, if_pos ⟨by lia, rfl, q2⟩]
            · rw [if_neg s, if_neg r, if_neg (fun z => s (by lia))]
        · rw [if_neg q, at_set (by rw [ln]; lia)]
          by_cases r : i = a + n
          · rw [if_pos r, if_pos r]
          · rw [if_neg r, if_neg r, if_neg]
            intro z
            refine q ⟨by lia, ?_⟩
            rw [z.2.1]; exact z.2.2
      have l1 : (if a + n = a ∧ (at_ l (a + n)).w = 0 then ((spareRow a b x l n).set (a + n) x).set (a + n - 1) (at_ l (a + n)).p.blank else (spareRow a b x l n).set (a + n) x).length = l.length := by
        split
        · rw [List.length_set, lm]
        · exact lm
      generalize (if a + n = a ∧ (at_ l (a + n)).w = 0 then ((spareRow a b x l n).set (a + n) x).set (a + n - 1) (at_ l (a + n)).p.blank else (spareRow a b x l n).set (a + n) x) = m1 at *
      have e2 : at_ (if a + n = b ∧ (at_ l (a + n)).w = 2 then m1.set (a + n + 1) (at_ l (a + n)).p.blank else m1) j = if j = b + 1 ∧ a + n = b ∧ (at_ l b).w = 2 then (at_ l b).p.blank else at_ m1 j := by
        by_cases q : a + n = b ∧ (at_ l (a + n)).w = 2
        · have q2 := q.2
          rw [q.1] at q2
          have := h.two b hb q2
          rw [if_pos q, at_set (by rw [l1]; lia), q.1]
          by_cases r : j = b + 1
          · rw [if_pos r, if_pos ⟨r, rfl, q2⟩]
          · rw [if_neg r, if_neg (fun z => r z.1)]
        · rw [if_neg q, if_neg]
          intro z
          refine q ⟨z.2.1, ?_⟩
          rw [z.2.1]; exact z.2.2
      rw [e2, e1 j hj, ih j hj]
      by_cases c1 : a ≤ j ∧ j < a + (n + 1)
      · rw [if_pos c1, if_neg (fun z => by lia)]
        by_cases c2 : j = a + n
        · rw [if_pos c2, c2, hk, if_neg (by decide)]
        · rw [if_neg c2, if_neg (fun z => by lia), if_pos ⟨c1.1, by lia⟩]
      · rw [if_neg c1]
        have c2 : ¬ j = a + n := fun z => by lia
        have c3 : ¬ (a ≤ j ∧ j < a + n) := fun z => by lia
        have c5 : ¬ (j = b + 1 ∧ a + n = b + 1 ∧ 0 < n ∧ (at_ l b).w = 2 ∧ (at_ l b).k = false) := fun z => by lia
        rw [if_neg c2, if_neg c3, if_neg c5]
        by_cases c4 : j + 1 = a ∧ 0 < n + 1 ∧ (at_ l a).w = 0 ∧ (at_ l a).k = false
        · rw [if_pos c4, if_neg (fun z => by lia)]
          by_cases n0 : n = 0
          · rw [if_pos ⟨c4.1, n0, c4.2.2.1⟩]
          · rw [if_neg (fun z => n0 z.2.1), if_pos ⟨c4.1, by lia, c4.2.2⟩]
        · rw [if_neg c4]
          have c6 : ¬ (j + 1 = a ∧ n = 0 ∧ (at_ l a).w = 0) := fun z => c4 ⟨z.1, by lia, z.2.2, by have := hk; rwa [z.2.1, Nat.add_zero] at this⟩
          have c7 : ¬ (j + 1 = a ∧ 0 < n ∧ (at_ l a).w = 0 ∧ (at_ l a).k = false) := fun z => c4 ⟨z.1, by lia, z.2.2⟩
          rw [if_neg c6, if_neg c7]
          by_cases c8 : j = b + 1 ∧ a + n = b ∧ (at_ l b).w = 2
          · rw [if_pos c8, if_pos ⟨c8.1, by lia, by lia, c8.2.2, by rw [← c8.2.1]; exact hk⟩]
          · rw [if_neg c8, if_neg (fun z => c8 ⟨z.1, by lia, z.2.2.2.1⟩)]
theorem spare_eq {l : List Cell} (h : WF l) {a b : Nat} (hab : a ≤ b) (hb : b < l.length) (p : Pen) : eraseL l a b p true = spareRow a b p.blank l (b + 1 - a) := by
  refine ext_at (by rw [eraseL_len, spareRow_len]) fun j hj => ?_
  rw [eraseL_len] at hj
  rw [erase_sel h hab hb p hj, at_spare h hb p.blank _ (by lia) j hj]
  unfold selAt
  have d1 : (a ≤ j ∧ j ≤ b) ↔ (a ≤ j ∧ j < a + (b + 1 - a)) := by lia
  have d2 : 0 < b + 1 - a := by lia
  have d3 : a + (b + 1 - a) = b + 1 := by lia
  simp only [d1, d2, d3, true_and]
theorem WF.sel {l : List Cell} (h : WF l) {a b : Nat} (hab : a ≤ b) (hb : b < l.length) (p : Pen) : WF (eraseL l a b p true) := by
  have e := fun j (hj : j < l.length) => erase_sel h hab hb p hj
  have ln : (eraseL l a b p true).length = l.length := eraseL_len _ _ _ _ _
  generalize eraseL l a b p true = R at *
  have st : ∀ j, j < l.length → (at_ R j).w ≠ 1 → at_ R j = at_ l j ∧ (a ≤ j → j ≤ b → (at_ l j).k = true) ∧ (j + 1 = a → (at_ l a).w = 0 → (at_ l a).k = true) ∧ (j = b + 1 → (at_ l b).w = 2 → (at_ l b).k = true) := fun j hj hw => by
    rw [e j hj] at hw ⊢
    unfold selAt at hw ⊢
    split at hw
    · rename_i c
      rw [if_pos c]
      split at hw
      · rename_i d
        rw [if_pos d]
        exact ⟨rfl, fun _ _ => d, fun z => by lia, fun z => by lia⟩
      · exact absurd rfl hw
    · rename_i c
      rw [if_neg c]
      split at hw
      · exact absurd rfl hw
      · rename_i d
        rw [if_neg d]
        split at hw
        · exact absurd rfl hw
        · rename_i f
          rw [if_neg f]
          refine ⟨rfl, fun z1 z2 => absurd ⟨z1, z2⟩ c, fun z1 z2 => ?_, fun z1 z2 => ?_⟩
          · cases g : (at_ l a).k with
            | true => rfl
            | false => exact absurd ⟨z1, z2, g⟩ d
          · cases g : (at_ l b).k with
            | true => rfl
            | false => exact absurd ⟨z1, z2, g⟩ f
  have ok : ∀ j, j < l.length → (a ≤ j → j ≤ b → (at_ l j).k = true) → (j + 1 = a → (at_ l a).w = 0 → (at_ l a).k = true) → (j = b + 1 → (at_ l b).w = 2 → (at_ l b).k = true) → at_ R j = at_ l j := fun j hj h1 h2 h3 => by
    rw [e j hj]
    unfold selAt
    by_cases c : a ≤ j ∧ j ≤ b
    · rw [if_pos c, if_pos (h1 c.1 c.2)]
    · rw [if_neg c, if_neg (fun z => by have := h2 z.1 z.2.1; rw [z.2.2] at this; cases this), if_neg (fun z => by have := h3 z.1 z.2.1; rw [z.2.2] at this; cases this)]
  refine ⟨fun j hj => ?_, fun j hj => ?_, fun j hj hw => ?_, fun j hj hw => ?_⟩ <;> rw [ln] at hj
  · by_cases q : (at_ R j).w = 1
    · exact .inr (.inl q)
    · rw [(st j hj q).1]; exact h.w j hj
  · rw [e j hj]
    unfold selAt
    split
    · split
      · exact h.p j hj
      · exact blank_ok _
    · split
      · exact blank_ok _
      · split
        · exact blank_ok _
        · exact h.p j hj
  · obtain ⟨s1, s2, s3, s4⟩ := st j hj (by lia)
    rw [s1] at hw ⊢
    have t := h.two j hj hw
    have tk : (at_ l (j + 1)).k = (at_ l j).k := by rw [t.2]; rfl
    have tw := (h.next hj hw).2
    rw [ln]
    refine ⟨t.1, (ok (j + 1) t.1 (fun z1 z2 => ?_) (fun z1 z2 => ?_) (fun z1 z2 => ?_)).trans t.2⟩
    · by_cases c : a ≤ j
      · rw [tk]; exact s2 c (by lia)
      · have c : j + 1 = a := by lia
        rw [c] at tw ⊢
        exact s3 c tw
    · have y := h.zero a (by lia) z2
      rw [show a - 1 = j + 1 by lia] at y; lia
    · by_cases c : a ≤ j
      · have : j = b := by lia
        rw [← this]; exact s2 c (by lia)
      · lia
  · obtain ⟨s1, s2, s3, s4⟩ := st j hj (by lia)
    rw [s1] at hw
    have t := h.zero' hj hw
    have tk : (at_ l j).k = (at_ l (j - 1)).k := by rw [t.2.2]; rfl
    refine ⟨t.1, ?_⟩
    rw [ok (j - 1) (by lia) (fun z1 z2 => ?_) (fun z1 z2 => ?_) (fun z1 z2 => ?_)]
    · exact t.2.1
    · rw [← tk]
      by_cases c : j ≤ b
      · exact s2 (by lia) c
      · have c : j = b + 1 := by lia
        have y := t.2.1
        rw [show j - 1 = b by lia] at y
        rw [tk, show j - 1 = b by lia]
        exact s4 c y
    · have : j = a := by lia
      rw [← this]; exact s2 (by lia) (by lia)
    · have y := h.next hb z2
      rw [← z1] at y
      have := t.2.1; lia
def Fl12 (f : Int) : Prop := 0 ≤ f ∧ f < 4096
noncomputable def under (f k : Int) : Int := f - 512 * kindOf f + k
noncomputable def cN (F b : Nat) : Nat := F - F / b % 2 * b
noncomputable def fN (F b : Nat) : Nat := bif Nat.beq (F / b % 2) 0 then F + b else F - b
noncomputable def uN (F k : Nat) : Nat := F % 512 + k
noncomputable def tN (F : Nat) : Nat := F % 512 + bif Nat.blt 0 (F / 512) then 0 else 512
theorem nat_bits : (List.range 4096).all (fun F => [1, 8, 32, 64].all (fun b => Nat.beq (F &&& b) (F / b % 2 * b) && (Nat.beq (F ||| b) (cN F b + b) && (Nat.blt (cN F b + b) 4096 && (Nat.blt (fN F b) 4096 && (Nat.beq (uN (cN F b) 0) (cN (uN F 0) b) && Nat.beq (tN (fN F b)) (fN (tN F) b))))))) = true := by decide +kernel
theorem nat_under : (List.range 4096).all (fun F => Nat.beq (F &&& 3584) (F / 512 % 8 * 512) && Nat.beq ((F - F / 512 % 8 * 512) ||| 512) (F - F / 512 % 8 * 512 + 512)) = true := by decide +kernel
theorem an {a b : Bool} (h : (a && b) = true) : a = true ∧ b = true := Bool.and_eq_true_iff.mp h
theorem bits_of {F : Nat} (h : F < 4096) {b : Nat} (hb : b ∈ [1, 8, 32, 64]) : F &&& b = F / b % 2 * b ∧ F ||| b = cN F b + b ∧ cN F b + b < 4096 ∧ fN F b < 4096 ∧ uN (cN F b) 0 = cN (uN F 0) b ∧ tN (fN F b) = fN (tN F) b := by
  have h := an (List.all_eq_true.mp (List.all_eq_true.mp nat_bits F (List.mem_range.mpr h)) b hb)
  have h2 := an h.2
  have h3 := an h2.2
  have h4 := an h3.2
  have h5 := an h4.2
  exact ⟨Nat.eq_of_beq_eq_true h.1, Nat.eq_of_beq_eq_true h2.1, Nat.le_of_ble_eq_true h3.1, Nat.le_of_ble_eq_true h4.1, Nat.eq_of_beq_eq_true h5.1, Nat.eq_of_beq_eq_true h5.2⟩
theorem under_bits {F : Nat} (h : F < 4096) : F &&& 3584 = F / 512 % 8 * 512 ∧ (F - F / 512 % 8 * 512) ||| 512 = F - F / 512 % 8 * 512 + 512 := by
  have h := an (List.all_eq_true.mp nat_under F (List.mem_range.mpr h))
  exact ⟨Nat.eq_of_beq_eq_true h.1, Nat.eq_of_beq_eq_true h.2⟩
theorem and_nat (x y : Nat) : Builtin.bitAnd (x : Int) (y : Int) = ((x &&& y : Nat) : Int) := by
  unfold Builtin.bitAnd
  rw [decide_eq_true (Int.natCast_nonneg x), decide_eq_true (Int.natCast_nonneg y)]; rfl
theorem not_not (x : Int) : Builtin.bitNot (Builtin.bitNot x) = x := by unfold Builtin.bitNot; lia
theorem not_neg (y : Nat) : decide (0 ≤ Builtin.bitNot (y : Int)) = false := decide_eq_false (by unfold Builtin.bitNot; lia)
theorem andn_nat (x y : Nat) : Builtin.bitAnd (x : Int) (Builtin.bitNot (y : Int)) = (x : Int) - ((x &&& y : Nat) : Int) := by
  unfold Builtin.bitAnd
  rw [decide_eq_true (Int.natCast_nonneg x), not_neg]
  dsimp only
  rw [not_not]; rfl
theorem or_nat (x y : Nat) : Builtin.bitOr (x : Int) (y : Int) = ((x ||| y : Nat) : Int) := by
  unfold Builtin.bitOr Builtin.bitAnd
  rw [not_neg, not_neg]
  dsimp only
  rw [not_not, not_not, not_not]; rfl
theorem fdm {F b : Nat} {m : Nat} (hb : 0 < b) : ((F : Int).fdiv (b : Int)).fmod (m : Int) = ((F / b % m : Nat) : Int) := by
  rw [Int.fdiv_eq_ediv_of_nonneg _ (by lia), Int.fmod_eq_emod_of_nonneg _ (by lia)]
  simp
theorem bit_le (F b : Nat) : F / b % 2 * b ≤ F := Nat.le_trans (Nat.mul_le_mul_right b (Nat.mod_le _ _)) (Nat.div_mul_le_self F b)
theorem clN {F b : Nat} (hb : 0 < b) : clearI (F : Int) (b : Int) = cN F b := by
  unfold clearI cN
  rw [show (2 : Int) = ((2 : Nat) : Int) from rfl, fdm hb, Int.ofNat_sub (bit_le F b)]; rfl
theorem flN {F b : Nat} (hb : 0 < b) : flipI (F : Int) (b : Int) = fN F b := by
  have h := bit_le F b
  unfold flipI fN
  rw [show (2 : Int) = ((2 : Nat) : Int) from rfl, fdm hb]
  rcases Nat.mod_two_eq_zero_or_one (F / b) with e | e <;> rw [e]
  · rfl
  · rw [e, Nat.one_mul] at h
    rw [if_neg (by decide)]; exact (Int.ofNat_sub h).symm
theorem kind_nat (F : Nat) : kindOf (F : Int) = ((F / 512 % 8 : Nat) : Int) := by
  unfold kindOf
  rw [show (512 : Int) = ((512 : Nat) : Int) from rfl, show (8 : Int) = ((8 : Nat) : Int) from rfl, fdm (by decide)]
theorem kind_le {F : Nat} (h : F < 4096) : kindOf (F : Int) = ((F / 512 : Nat) : Int) := by
  rw [kind_nat, Nat.mod_eq_of_lt (Nat.div_lt_of_lt_mul h)]
theorem unN {F k : Nat} (h : F < 4096) : under (F : Int) (k : Int) = uN F k := by
  unfold under uN
  rw [kind_le h, show (512 : Int) = ((512 : Nat) : Int) from rfl, ← Int.natCast_mul, ← Int.ofNat_sub (Nat.mul_div_le F 512), ← Nat.mod_eq_sub_mul_div]; rfl
noncomputable def toggle (f : Int) : Int := under f (if 0 < kindOf f then 0 else 512)
theorem toN {F : Nat} (h : F < 4096) : toggle (F : Int) = tN F := by
  have e : (if 0 < kindOf (F : Int) then 0 else 512 : Int) = ((bif Nat.blt 0 (F / 512) then 0 else 512 : Nat) : Int) := by
    rw [kind_le h]
    cases F / 512 with
    | zero => rfl
    | succ n => rw [if_pos (show (0 : Int) < ((n + 1 : Nat) : Int) from Int.ofNat_lt.mpr (Nat.succ_pos n))]; rfl
  unfold toggle
  rw [e, unN h]; rfl
theorem fb {f b : Int} (h : Fl12 f) (hb : b ∈ ([1, 8, 32, 64] : List Int)) : ∃ F B : Nat, f = F ∧ b = B ∧ F < 4096 ∧ B ∈ [1, 8, 32, 64] ∧ 0 < B := by
  obtain ⟨F, rfl⟩ := Int.eq_ofNat_of_zero_le h.1
  have hF : F < 4096 := Int.ofNat_lt.mp h.2
  simp only [List.mem_cons, List.not_mem_nil, or_false] at hb
  rcases hb with rfl | rfl | rfl | rfl <;> exact ⟨F, _, rfl, rfl, hF, by decide, by decide⟩
theorem op_or {f b : Int} (h : Fl12 f) (hb : b ∈ ([1, 8, 32, 64] : List Int)) : Builtin.bitOr f b = clearI f b + b := by
  obtain ⟨F, B, rfl, rfl, hF, hB, h0⟩ := fb h hb
  rw [or_nat, clN h0, (bits_of hF hB).2.1]; rfl
theorem op_and {f b : Int} (h : Fl12 f) (hb : b ∈ ([1, 8, 32, 64] : List Int)) : Builtin.bitAnd f (Builtin.bitNot b) = clearI f b := by
  obtain ⟨F, B, rfl, rfl, hF, hB, h0⟩ := fb h hb
  rw [andn_nat, clN h0, (bits_of hF hB).1, ← Int.ofNat_sub (bit_le F B)]; rfl
theorem op_xor {f b : Int} (h : Fl12 f) (hb : b ∈ ([1, 8, 32, 64] : List Int)) : Builtin.bitXor f b = flipI f b := by
  obtain ⟨F, B, rfl, rfl, hF, hB, h0⟩ := fb h hb
  have g := bit_le F B
  unfold Builtin.bitXor
  rw [or_nat, and_nat, flN h0, (bits_of hF hB).1, (bits_of hF hB).2.1]
  unfold fN cN
  rcases Nat.mod_two_eq_zero_or_one (F / B) with e | e <;> rw [e]
  · rw [Nat.zero_mul]; exact Int.sub_zero _
  · rw [e, Nat.one_mul] at g
    rw [Nat.one_mul, Nat.sub_add_cancel g]; exact (Int.ofNat_sub g).symm
theorem op_under0 {f : Int} (h : Fl12 f) : withU f 0 = under f 0 := by
  obtain ⟨F, rfl⟩ := Int.eq_ofNat_of_zero_le h.1
  have hF : F < 4096 := Int.ofNat_lt.mp h.2
  have z : F / 512 % 8 = F / 512 := Nat.mod_eq_of_lt (Nat.div_lt_of_lt_mul hF)
  unfold withU
  rw [show (3584 : Int) = ((3584 : Nat) : Int) from rfl, andn_nat, (under_bits hF).1, z, Nat.mul_comm, ← Int.ofNat_sub (Nat.mul_div_le F 512), show (0 : Int) * 2 ^ (9 : Int).toNat = ((0 : Nat) : Int) from rfl, or_nat, Nat.or_zero, show (0 : Int) = ((0 : Nat) : Int) from rfl, unN hF, uN, Nat.mod_eq_sub_mul_div]; rfl
theorem op_under1 {f : Int} (h : Fl12 f) : withU f 1 = under f 512 := by
  obtain ⟨F, rfl⟩ := Int.eq_ofNat_of_zero_le h.1
  have hF : F < 4096 := Int.ofNat_lt.mp h.2
  have z : F / 512 % 8 = F / 512 := Nat.mod_eq_of_lt (Nat.div_lt_of_lt_mul hF)
  have e := under_bits hF
  rw [z, Nat.mul_comm] at e
  unfold withU
  rw [show (3584 : Int) = ((3584 : Nat) : Int) from rfl, andn_nat, e.1, ← Int.ofNat_sub (Nat.mul_div_le F 512), show (1 : Int) * 2 ^ (9 : Int).toNat = ((512 : Nat) : Int) from rfl, or_nat, e.2, show (512 : Int) = ((512 : Nat) : Int) from rfl, unN hF, uN, Nat.mod_eq_sub_mul_div]
theorem op_kind {f : Int} (h : Fl12 f) : underI f = kindOf f := by
  obtain ⟨F, rfl⟩ := Int.eq_ofNat_of_zero_le h.1
  have hF : F < 4096 := Int.ofNat_lt.mp h.2
  unfold underI
  rw [show (3584 : Int) = ((3584 : Nat) : Int) from rfl, and_nat, (under_bits hF).1, kind_nat, show (2 : Int) ^ (9 : Int).toNat = ((512 : Nat) : Int) from rfl, Int.fdiv_eq_ediv_of_nonneg _ (by decide), ← Int.natCast_ediv, Nat.mul_div_cancel _ (by decide)]
theorem clear_ok {f b : Int} (h : Fl12 f) (hb : b ∈ ([1, 8, 32, 64] : List Int)) : Fl12 (clearI f b) ∧ Fl12 (clearI f b + b) := by
  obtain ⟨F, B, rfl, rfl, hF, hB, h0⟩ := fb h hb
  have e := (bits_of hF hB).2.2.1
  rw [clN h0]
  exact ⟨⟨Int.natCast_nonneg _, Int.ofNat_lt.mpr (Nat.lt_of_le_of_lt (Nat.le_add_right _ _) e)⟩, Int.natCast_nonneg (cN F B + B), Int.ofNat_lt.mpr e⟩
theorem flip_ok {f b : Int} (h : Fl12 f) (hb : b ∈ ([1, 8, 32, 64] : List Int)) : Fl12 (flipI f b) := by
  obtain ⟨F, B, rfl, rfl, hF, hB, h0⟩ := fb h hb
  rw [flN h0]
  exact ⟨Int.natCast_nonneg _, Int.ofNat_lt.mpr (bits_of hF hB).2.2.2.1⟩
theorem uN_lt (F : Nat) {k : Nat} (hk : k ≤ 512) : uN F k < 4096 := Nat.lt_of_lt_of_le (Nat.add_lt_add_of_lt_of_le (Nat.mod_lt F (by decide)) hk) (by decide)
theorem tN_lt (F : Nat) : tN F < 4096 := by
  unfold tN
  cases Nat.blt 0 (F / 512)
  · exact uN_lt F (k := 512) (Nat.le_refl _)
  · exact uN_lt F (k := 0) (by decide)
theorem under_ok {f k : Int} (h : Fl12 f) (hk : k = 0 ∨ k = 512) : Fl12 (under f k) := by
  obtain ⟨F, rfl⟩ := Int.eq_ofNat_of_zero_le h.1
  have hF : F < 4096 := Int.ofNat_lt.mp h.2
  rcases hk with rfl | rfl
  · exact (unN (k := 0) hF).symm ▸ ⟨Int.natCast_nonneg _, Int.ofNat_lt.mpr (uN_lt F (by decide))⟩
  · exact (unN (k := 512) hF).symm ▸ ⟨Int.natCast_nonneg _, Int.ofNat_lt.mpr (uN_lt F (by decide))⟩
theorem under_clear {f b : Int} (h : Fl12 f) (hb : b ∈ ([1, 8, 32, 64] : List Int)) : under (clearI f b) 0 = clearI (under f 0) b := by
  obtain ⟨F, B, rfl, rfl, hF, hB, h0⟩ := fb h hb
  have e := (bits_of hF hB).2.2
  rw [clN h0, show (0 : Int) = ((0 : Nat) : Int) from rfl, unN hF, unN (Nat.lt_of_le_of_lt (Nat.le_add_right _ _) e.1), clN h0, e.2.2.1]
theorem toggle_ok {f : Int} (h : Fl12 f) : Fl12 (toggle f) := by
  obtain ⟨F, rfl⟩ := Int.eq_ofNat_of_zero_le h.1
  rw [toN (Int.ofNat_lt.mp h.2)]; exact ⟨Int.natCast_nonneg _, Int.ofNat_lt.mpr (tN_lt F)⟩
theorem toggle_flip {f b : Int} (h : Fl12 f) (hb : b ∈ ([1, 8, 32, 64] : List Int)) : toggle (flipI f b) = flipI (toggle f) b := by
  obtain ⟨F, B, rfl, rfl, hF, hB, h0⟩ := fb h hb
  have e := (bits_of hF hB).2.2.2
  rw [flN h0, toN hF, toN e.1, flN h0, e.2.2]
theorem m1 : (1 : Int) ∈ ([1, 8, 32, 64] : List Int) := by decide
theorem m8 : (8 : Int) ∈ ([1, 8, 32, 64] : List Int) := by decide
theorem m32 : (32 : Int) ∈ ([1, 8, 32, 64] : List Int) := by decide
theorem m64 : (64 : Int) ∈ ([1, 8, 32, 64] : List Int) := by decide
noncomputable def numV : List Int := [0, 1, 4, 5, 7, 8, 22, 24, 25, 27, 28, 3, 9, 2, 23]
theorem stepT_eq {f n : Int} (h : Fl12 f) (hn : n ∈ numV) : stepT f n = lawNum false f n ∧ Fl12 (stepT f n) := by
  simp only [numV, List.mem_cons, List.not_mem_nil, or_false] at hn
  by_cases n0 : n = 0
  · subst n0
    have a1 := (clear_ok h m1).1
    have a8 := (clear_ok a1 m8).1
    have a32 := (clear_ok a8 m32).1
    have a64 := (clear_ok a32 m64).1
    have e : stepT f 0 = withU (Builtin.bitAnd (Builtin.bitAnd (Builtin.bitAnd (Builtin.bitAnd f (Builtin.bitNot 1)) (Builtin.bitNot 8)) (Builtin.bitNot 32)) (Builtin.bitNot 64)) 0 := rfl
    have e2 : lawNum false f 0 = clearI (clearI (clearI (under (clearI f 1 + 0) 0) 8 + 0) 32 + 0) 64 + 0 := rfl
    rw [e, e2, op_and h m1, op_and a1 m8, op_and a8 m32, op_and a32 m64, op_under0 a64]
    simp only [Int.add_zero]
    rw [under_clear a32 m64, under_clear a8 m32, under_clear a1 m8]
    refine ⟨rfl, ?_⟩
    have u := under_ok a1 (k := 0) (.inl rfl)
    exact (clear_ok (clear_ok (clear_ok u m8).1 m32).1 m64).1
  · rcases hn with rfl | rfl | rfl | rfl | rfl | rfl | rfl | rfl | rfl | rfl | rfl | rfl | rfl | rfl | rfl
    · exact absurd rfl n0
    · exact ⟨op_or h m1, by rw [show stepT f 1 = Builtin.bitOr f 1 from rfl, op_or h m1]; exact (clear_ok h m1).2⟩
    · have e : stepT f 4 = withU f 1 := rfl
      rw [e, op_under1 h]; exact ⟨rfl, under_ok h (.inr rfl)⟩
    · exact ⟨op_or h m8, by rw [show stepT f 5 = Builtin.bitOr f 8 from rfl, op_or h m8]; exact (clear_ok h m8).2⟩
    · exact ⟨op_or h m32, by rw [show stepT f 7 = Builtin.bitOr f 32 from rfl, op_or h m32]; exact (clear_ok h m32).2⟩
    · exact ⟨op_or h m64, by rw [show stepT f 8 = Builtin.bitOr f 64 from rfl, op_or h m64]; exact (clear_ok h m64).2⟩
    · have e : stepT f 22 = Builtin.bitAnd f (Builtin.bitNot 1) := rfl
      have e2 : lawNum false f 22 = clearI f 1 + 0 := rfl
      rw [e, e2, op_and h m1, Int.add_zero]; exact ⟨rfl, (clear_ok h m1).1⟩
    · have e : stepT f 24 = withU f 0 := rfl
      rw [e, op_under0 h]; exact ⟨rfl, under_ok h (.inl rfl)⟩
    · have e : stepT f 25 = Builtin.bitAnd f (Builtin.bitNot 8) := rfl
      have e2 : lawNum false f 25 = clearI f 8 + 0 := rfl
      rw [e, e2, op_and h m8, Int.add_zero]; exact ⟨rfl, (clear_ok h m8).1⟩
    · have e : stepT f 27 = Builtin.bitAnd f (Builtin.bitNot 32) := rfl
      have e2 : lawNum false f 27 = clearI f 32 + 0 := rfl
      rw [e, e2, op_and h m32, Int.add_zero]; exact ⟨rfl, (clear_ok h m32).1⟩
    · have e : stepT f 28 = Builtin.bitAnd f (Builtin.bitNot 64) := rfl
      have e2 : lawNum false f 28 = clearI f 64 + 0 := rfl
      rw [e, e2, op_and h m64, Int.add_zero]; exact ⟨rfl, (clear_ok h m64).1⟩
    · exact ⟨rfl, h⟩
    · exact ⟨rfl, h⟩
    · exact ⟨rfl, h⟩
    · exact ⟨rfl, h⟩
theorem toggle_op {f : Int} (h : Fl12 f) : withU f (if underI f = 0 then 1 else 0) = toggle f := by
  unfold toggle
  rw [op_kind h]
  obtain ⟨F, rfl⟩ := Int.eq_ofNat_of_zero_le h.1
  rw [kind_nat]
  cases F / 512 % 8 with
  | zero => exact op_under1 h
  | succ n => rw [if_neg fun q => Nat.succ_ne_zero n (Int.natCast_eq_zero.mp q), if_pos (show (0 : Int) < ((n + 1 : Nat) : Int) from Int.ofNat_lt.mpr (Nat.succ_pos n))]; exact op_under0 h
theorem stepG_eq {f n : Int} (h : Fl12 f) (hn : n ∈ numV) : stepG f n = lawNum true f n ∧ Fl12 (stepG f n) := by
  simp only [numV, List.mem_cons, List.not_mem_nil, or_false] at hn
  by_cases n0 : n = 0
  · subst n0
    have a1 := flip_ok h m1
    have a8 := flip_ok a1 m8
    have a32 := flip_ok a8 m32
    have e : stepG f 0 = (let g := Builtin.bitXor (Builtin.bitXor (Builtin.bitXor f 1) 8) 32; withU g (if underI g = 0 then 1 else 0)) := rfl
    have e2 : lawNum true f 0 = flipI (flipI (toggle (flipI f 1)) 8) 32 := rfl
    rw [e, e2]
    dsimp only
    rw [op_xor h m1, op_xor a1 m8, op_xor a8 m32, toggle_op a32, toggle_flip a8 m32, toggle_flip a1 m8]
    exact ⟨rfl, flip_ok (flip_ok (toggle_ok a1) m8) m32⟩
  · rcases hn with rfl | rfl | rfl | rfl | rfl | rfl | rfl | rfl | rfl | rfl | rfl | rfl | rfl | rfl | rfl
    · exact absurd rfl n0
    · exact ⟨op_xor h m1, by rw [show stepG f 1 = Builtin.bitXor f 1 from rfl, op_xor h m1]; exact flip_ok h m1⟩
    · have e : stepG f 4 = withU f (if underI f = 0 then 1 else 0) := rfl
      rw [e, toggle_op h]; exact ⟨rfl, toggle_ok h⟩
    · exact ⟨op_xor h m8, by rw [show stepG f 5 = Builtin.bitXor f 8 from rfl, op_xor h m8]; exact flip_ok h m8⟩
    · exact ⟨op_xor h m32, by rw [show stepG f 7 = Builtin.bitXor f 32 from rfl, op_xor h m32]; exact flip_ok h m32⟩
    · exact ⟨op_xor h m64, by rw [show stepG f 8 = Builtin.bitXor f 64 from rfl, op_xor h m64]; exact flip_ok h m64⟩
    all_goals exact ⟨rfl, h⟩
theorem someV_num : ∀ o ∈ someV, o.getD 0 ∈ numV := by decide
theorem fold_eq {st : Int → Int → Int} {rev : Bool} (hs : ∀ f n, Fl12 f → n ∈ numV → st f n = lawNum rev f n ∧ Fl12 (st f n)) : ∀ (os : List (Option Int)) (f : Int), (∀ o ∈ os, o ∈ someV) → Fl12 f → (os.map fun o => o.getD 0).foldl st f = os.foldl (fun f o => lawNum rev f (o.getD 0)) f ∧ Fl12 ((os.map fun o => o.getD 0).foldl st f)
  | [], f, _, h => ⟨rfl, h⟩
  | o :: os, f, ho, h => by
    have a := hs f (o.getD 0) h (someV_num o (ho o (by simp)))
    have b := fold_eq hs os (st f (o.getD 0)) (fun x hx => ho x (by simp [hx])) a.2
    simp only [List.map_cons, List.foldl_cons]
    rw [← a.1]
    exact b
theorem nums_eq {vs os : List (Option Int)} (hv : vs.length = 4) : numsOf (vs ++ os) = (numsL os).map fun o => o.getD 0 := by
  unfold numsOf numsL
  rw [← hv, List.drop_left]
  split
  · rfl
  · rfl
theorem numsL_some {os : List (Option Int)} (h : ∀ o ∈ os, o ∈ someV) : ∀ o ∈ numsL os, o ∈ someV := by
  unfold numsL
  split
  · decide
  · exact h
noncomputable def tfOf (rev : Bool) (ns : List Int) : Pen → Pen := if rev then toggledP ns else turnedP ns
theorem tf_eq {vs os : List (Option Int)} (rev : Bool) (hv : vs.length = 4) (ho : ∀ o ∈ os, o ∈ someV) (p : Pen) (hp : PenOk p) : (if rev then toggledP (numsOf (vs ++ os)) else turnedP (numsOf (vs ++ os))) p = lawP rev os p ∧ PenOk (lawP rev os p) := by
  rw [nums_eq hv]
  unfold lawP lawT
  cases rev with
  | false =>
    have a := fold_eq (st := stepT) (rev := false) (fun f n h1 h2 => stepT_eq h1 h2) (numsL os) p.f (numsL_some ho) hp
    rw [← a.1]
    exact ⟨rfl, a.2⟩
  | true =>
    have a := fold_eq (st := stepG) (rev := true) (fun f n h1 h2 => stepG_eq h1 h2) (numsL os) p.f (numsL_some ho) hp
    rw [← a.1]
    exact ⟨rfl, a.2⟩
theorem WF.pen {l : List Cell} (h : WF l) {tf : Pen → Pen} (ht : ∀ p, PenOk p → PenOk (tf p)) {k : Nat} (hk : k < l.length) : WF (penStep tf l k) := by
  have ln := penStep_len tf l k
  rcases h.w k hk with w | w | w
  · have e : penStep tf l k = l := by
      unfold penStep; dsimp only
      rw [if_neg (by lia), if_neg (by lia)]
    rw [e]; exact h
  · have e : ∀ j, at_ (penStep tf l k) j = if j = k then ⟨(at_ l k).c, (at_ l k).w, tf (at_ l k).p, (at_ l k).k⟩ else at_ l j := fun j => by
      unfold penStep; dsimp only
      rw [if_neg (by lia), if_pos (by lia), at_set hk]
    refine ⟨fun j hj => ?_, fun j hj => ?_, fun j hj hw => ?_, fun j hj hw => ?_⟩ <;> rw [ln] at hj
    · rw [e]; split
      · exact h.w k hk
      · exact h.w j hj
    · rw [e]; split
      · exact ht _ (h.p k hk)
      · exact h.p j hj
    · rw [e] at hw
      rw [ln, e, e]
      split at hw
      · change (at_ l k).w = 2 at hw; lia
      · rename_i q
        have y := h.next hj hw
        rw [if_neg q, if_neg (fun z => by rw [z] at y; lia)]
        exact h.two j hj hw
    · rw [e] at hw
      rw [e]
      split at hw
      · change (at_ l k).w = 0 at hw; lia
      · have y := h.zero j hj hw
        rw [if_neg (fun z => by rw [z] at y; lia)]
        exact y
  · have hk1 := h.next hk w
    have e : ∀ j, at_ (penStep tf l k) j = if j = k + 1 then ⟨[], 0, tf (at_ l k).p, (at_ l k).k⟩ else if j = k then ⟨(at_ l k).c, (at_ l k).w, tf (at_ l k).p, (at_ l k).k⟩ else at_ l j := fun j => by
      unfold penStep; dsimp only
      rw [if_pos w, if_pos (by lia), at_set (by rw [List.length_set]; exact hk1.1), at_set hk]
    refine ⟨fun j hj => ?_, fun j hj => ?_, fun j hj hw => ?_, fun j hj hw => ?_⟩ <;> rw [ln] at hj
    · rw [e]; split
      · exact .inl rfl
      · split
        · exact h.w k hk
        · exact h.w j hj
    · rw [e]; split
      · exact ht _ (h.p k hk)
      · split
        · exact ht _ (h.p k hk)
        · exact h.p j hj
    · rw [e] at hw
      rw [ln, e, e]
      split at hw
      · cases hw
      · rename_i q
        split at hw
        · rename_i r
          rw [if_neg q, if_pos r, if_pos (by lia)]
          exact ⟨by lia, rfl⟩
        · rename_i r
          have y := h.next hj hw
          rw [if_neg q, if_neg r, if_neg (by lia), if_neg (fun z => by rw [z] at y; lia)]
          exact h.two j hj hw
    · rw [e] at hw
      rw [e]
      split at hw
      · rename_i q
        rw [if_neg (by lia), if_pos (by lia)]
        exact ⟨by lia, w⟩
      · rename_i q
        split at hw
        · change (at_ l k).w = 0 at hw; lia
        · rename_i r
          have y := h.zero j hj hw
          rw [if_neg (fun z => by rw [z] at y; lia), if_neg (fun z => r (by
            have : j = k + 1 := by lia
            exact absurd this q))]
          exact y
theorem WF.pens {l : List Cell} (h : WF l) {tf : Pen → Pen} (ht : ∀ p, PenOk p → PenOk (tf p)) {f : Nat} : ∀ n, f + n ≤ l.length → WF (penRow tf f n l)
  | 0, _ => h
  | n + 1, hn => by
    rw [penRow_succ]
    exact (WF.pens h ht n (by lia)).pen ht (by rw [penRow_len]; lia)
theorem rep_inv {l : List Cell} (h : WF l) {tf : Pen → Pen} {f : Nat} : ∀ n, f + n ≤ l.length → ∀ j, f + n ≤ j → j < l.length → ((at_ l j).w ≠ 0 → at_ (repRow tf f l n) j = at_ l j) ∧ ((at_ l j).w = 0 → (at_ (repRow tf f l n) j).w = 0)
  | 0, _, j, _, _ => ⟨fun _ => rfl, fun e => e⟩
  | n + 1, hn, j, h1, h2 => by
    have ih := rep_inv h (tf := tf) (f := f) n (by lia) j (by lia) h2
    have ln := repRow_len tf f n l
    rw [repRow_succ]
    unfold repStep
    dsimp only
    have e1 : at_ (if 0 < (at_ l (f + n)).w then (repRow tf f l n).set (f + n) ⟨(at_ l (f + n)).c, (at_ l (f + n)).w, tf (at_ l (f + n)).p, (at_ l (f + n)).k⟩ else repRow tf f l n) j = at_ (repRow tf f l n) j := by
      split
      · have e : ∀ x, at_ ((repRow tf f l n).set (f + n) x) j = if j = f + n then x else at_ (repRow tf f l n) j := fun x => at_set (by rw [ln]; lia)
        rw [e, if_neg (by lia)]
      · rfl
    by_cases w : (at_ l (f + n)).w = 2
    · have hk := h.next (j := f + n) (by lia) w
      have e2 : ∀ m : List Cell, m.length = l.length → ∀ x, at_ (m.set (f + n + 1) x) j = if j = f + n + 1 then x else at_ m j := fun m hm x => at_set (by rw [hm]; exact hk.1)
      rw [if_pos w, e2 _ (by split <;> simp [ln]), e1]
      by_cases q : j = f + n + 1
      · rw [if_pos q]
        exact ⟨fun z => absurd (q ▸ hk.2) z, fun _ => rfl⟩
      · rw [if_neg q]; exact ih
    · rw [if_neg w, e1]; exact ih
theorem pen_rep {l : List Cell} (h : WF l) {tf tf' : Pen → Pen} (ht : ∀ p, PenOk p → tf p = tf' p) {f : Nat} : ∀ n, f + n ≤ l.length → penRow tf f n l = repRow tf' f l n
  | 0, _ => rfl
  | n + 1, hn => by
    rw [penRow_succ, repRow_succ, pen_rep h ht (f := f) n (by lia)]
    have i := rep_inv h (tf := tf') (f := f) n (by lia) (f + n) (Nat.le_refl _) (by lia)
    unfold penStep repStep
    dsimp only
    by_cases w : (at_ l (f + n)).w = 0
    · have := i.2 w
      rw [if_neg (by lia), if_neg (by lia), if_neg (by lia), if_neg (by lia)]
    · have e := i.1 w
      rw [e, ht _ (h.p (f + n) (by lia))]
structure WFg (g : List (List Cell)) : Prop where
  len : g.length = 3
  r : ∀ q, q < 3 → (row g q).length = 6 ∧ WF (row g q)
theorem row_el {g : List (List Cell)} {j : Nat} (h : j < g.length) : g[j] = row g j := by simp [row, List.getD_eq_getElem?_getD, h]
theorem rowsMap_congr {g : List (List Cell)} {t m : Nat} {f f' : Nat → List Cell → List Cell} (hg : g.length = 3) (h : ∀ j, t ≤ j → j < m → j < 3 → f j (row g j) = f' j (row g j)) : rowsMap g t m f = rowsMap g t m f' := by
  unfold rowsMap
  apply List.ext_getElem (by simp)
  intro j h1 h2
  have hj : j < g.length := by simpa using h1
  simp only [List.getElem_mapIdx]
  split
  · rename_i q
    rw [row_el hj]; exact h j q.1 q.2 (by lia)
  · rfl
theorem WFg.map {g : List (List Cell)} (hg : WFg g) {t m : Nat} {f : Nat → List Cell → List Cell} (h : ∀ j, t ≤ j → j < m → j < 3 → (f j (row g j)).length = 6 ∧ WF (f j (row g j))) : WFg (rowsMap g t m f) := by
  refine ⟨by rw [rowsMap_len]; exact hg.len, fun q hq => ?_⟩
  rw [rowsMap_row (by rw [hg.len]; exact hq)]
  split
  · rename_i z; exact h q z.1 z.2 hq
  · exact hg.r q hq
theorem WFg.set {g : List (List Cell)} (hg : WFg g) {r : Nat} (hr : r < 3) {l : List Cell} (h6 : l.length = 6) (h : WF l) : WFg (g.set r l) := by
  refine ⟨by rw [List.length_set]; exact hg.len, fun q hq => ?_⟩
  rw [row_set (by rw [hg.len]; exact hr)]
  split
  · exact ⟨h6, h⟩
  · exact hg.r q hq
theorem WFg.put {g : List (List Cell)} (hg : WFg g) {r k : Nat} {x : Cell} (hr : r < 3) (hk : k < 6) (hw : x.w = 1 ∨ (x.w = 2 ∧ k + 1 < 6)) (hp : PenOk x.p) : g.set r (Mine.put (row g r) k x) = g.set r (lawOver (row g r) k (wideTail x)) ∧ WFg (g.set r (Mine.put (row g r) k x)) := by
  obtain ⟨h6, h⟩ := hg.r r hr
  have e := put_over h (k := k) (x := x) (by rw [h6]; exact hw) (by lia)
  have lw : (wideTail x).length ≤ 6 - k ∧ 0 < (wideTail x).length := by
    unfold wideTail
    rcases hw with q | q
    · rw [if_neg (by lia)]; simp; lia
    · rw [if_pos q.1]; simp; lia
  have l6 : (lawOver (row g r) k (wideTail x)).length = 6 := by rw [lawOver_len (by lia)]; exact h6
  rw [e]
  exact ⟨rfl, hg.set hr l6 (h.over (WF.tail (by lia) hp) lw.2 (by lia))⟩
theorem Deed.eq {u : Lim} {c : Cur} {g gA gB : List (List Cell)} (hg : WFg g) (hu : u.Ok) (hc : PenOk c.p) (D : Deed u c g gA gB) : gA = gB ∧ WFg gA := by
  have bo : PenOk c.p.blank.p := blank_ok _
  cases D with
  | same => exact ⟨rfl, hg⟩
  | fill vs A x hv e =>
    obtain ⟨hA, -⟩ := areaN_ok hu hv e
    have a1 := hA.lr
    have a2 := hA.r6
    have z : ∀ j, A.t ≤ j → j < A.b + 1 → j < 3 → putC (row g j) A.l (List.replicate (A.r + 1 - A.l) (⟨[x], 1, c.p, c.k⟩ : Cell)) = lawOver (row g j) A.l (List.replicate (A.r + 1 - A.l) ⟨[x], 1, c.p, c.k⟩) := fun j _ _ h3 =>
      putC_over (hg.r j h3).2 (hg.r j h3).1 (ap1 a1) (ap2 a1 a2)
    refine ⟨rowsMap_congr hg.len z, hg.map fun j h1 h2 h3 => ?_⟩
    rw [z j h1 h2 h3]
    have := (hg.r j h3).1
    exact ⟨by rw [lawOver_len (this ▸ ap2 a1 a2)]; exact this, (hg.r j h3).2.over (WF.rep rfl hc) (ap1 a1) (this ▸ ap2 a1 a2)⟩
  | erase vs A hv e =>
    obtain ⟨hA, -⟩ := areaN_ok hu hv e
    have a1 := hA.lr
    have a2 := hA.r6
    have z : ∀ j, A.t ≤ j → j < A.b + 1 → j < 3 → eraseL (row g j) A.l A.r c.p false = lawOver (row g j) A.l (List.replicate (A.r + 1 - A.l) c.p.blank) := fun j _ _ h3 =>
      erase_over (hg.r j h3).2 a1 (by rw [(hg.r j h3).1]; exact a2) c.p
    refine ⟨rowsMap_congr hg.len z, hg.map fun j h1 h2 h3 => ?_⟩
    rw [z j h1 h2 h3]
    have := (hg.r j h3).1
    exact ⟨by rw [lawOver_len (this ▸ ap2 a1 a2)]; exact this, (hg.r j h3).2.over (WF.rep rfl bo) (ap1 a1) (this ▸ ap2 a1 a2)⟩
  | spare vs A hv e =>
    obtain ⟨hA, -⟩ := areaN_ok hu hv e
    have a1 := hA.lr
    have a2 := hA.r6
    refine ⟨rowsMap_congr hg.len fun j _ _ h3 => spare_eq (hg.r j h3).2 a1 (by rw [(hg.r j h3).1]; exact a2) c.p, hg.map fun j _ _ h3 => ?_⟩
    exact ⟨by rw [eraseL_len]; exact (hg.r j h3).1, (hg.r j h3).2.sel a1 (by rw [(hg.r j h3).1]; exact a2) c.p⟩
  | copy vs A hv h7 e =>
    obtain ⟨hA, b1, b2, b3, b4⟩ := areaN_ok hu hv e
    have a0 := hA.tb
    have a1 := hA.lr
    have a2 := hA.r6
    have a3 := hA.b3
    have u1 := hu.b3
    have u2 := hu.r6
    unfold copyR copyL
    rw [areaN_app (by rw [h7]; decide), e]
    dsimp only
    rw [valO_app (k := 5) (by rw [h7]; decide), valO_app (k := 6) (by rw [h7]; decide)]
    generalize u.t + (valO vs 5 1).toNat - 1 = rw_
    generalize u.l + (valO vs 6 1).toNat - 1 = cl
    by_cases q : rw_ ≤ u.b ∧ cl ≤ u.r
    · rw [if_pos q, if_pos q]
      have e1 : min A.b (A.t + u.b - rw_) + 1 - A.t = min (A.b - A.t) (u.b - rw_) + 1 := by rw [ar4 a0 q.1, Nat.add_assoc, Nat.add_sub_cancel_left]
      have e2 : min A.r (A.l + u.r - cl) + 1 = A.l + (min (A.r - A.l) (u.r - cl) + 1) := by rw [ar4 a1 q.2, Nat.add_assoc]
      unfold copyG
      rw [e1]
      generalize hm : min (A.r - A.l) (u.r - cl) + 1 = m at e2
      have m0 : 0 < m := hm ▸ Nat.succ_pos _
      have k4 : A.l + m ≤ 6 := hm ▸ ar5 a1 a2
      have k5 : cl + m ≤ 6 := hm ▸ ar6 q.2 u2
      have z : ∀ j, rw_ ≤ j → j < rw_ + (min (A.b - A.t) (u.b - rw_) + 1) → j < 3 → (putC (row g j) cl (mended ((takenRow g A.l (min A.r (A.l + u.r - cl)) (A.t + (j - rw_))).take (6 - cl))) = copyLF g u A rw_ cl j (row g j)) ∧ (copyLF g u A rw_ cl j (row g j)).length = 6 ∧ WF (copyLF g u A rw_ cl j (row g j)) := fun j h1 h2 h3 => by
        have w6 := hg.r j h3
        have s6 := hg.r (A.t + (j - rw_)) (ar8 a0 a3 h2)
        generalize hs : row g (A.t + (j - rw_)) = s at s6
        have k6 : A.l + m ≤ s.length := s6.1.symm ▸ k4
        have ln := takeL_len (l := s) (a := A.l) (m := m) k6
        have e3 : mended ((takenRow g A.l (min A.r (A.l + u.r - cl)) (A.t + (j - rw_))).take (6 - cl)) = takeL s A.l m := by
          unfold takenRow
          rw [hs, e2, ← take_mended s6.2 m0 k6, List.take_of_length_le (ln.symm ▸ Nat.le_sub_of_add_le' k5)]
          have hw := s6.2.take m0 (a := A.l) k6
          clear ln
          generalize takeL s A.l m = y at hw ⊢
          refine ext_at (mended_len y) fun i hi => ?_
          rw [mended_len] at hi
          rw [at_mended hi, if_neg]
          rintro (z | z)
          · have := hw.zero i hi z.2; lia
          · have := hw.next hi z.2; lia
        have k7 : cl + (takeL s A.l m).length ≤ 6 := ln.symm ▸ k5
        unfold copyLF
        rw [hs, e3, hm]
        rw [putC_over w6.2 w6.1 (ln.symm ▸ m0) k7]
        exact ⟨rfl, by rw [lawOver_len (w6.1.symm ▸ k7)]; exact w6.1, w6.2.over (s6.2.take m0 k6) (ln.symm ▸ m0) (w6.1.symm ▸ k7)⟩
      refine ⟨rowsMap_congr hg.len fun j h1 h2 h3 => (z j h1 h2 h3).1, hg.map fun j h1 h2 h3 => ?_⟩
      rw [(z j h1 h2 h3).1]
      exact (z j h1 h2 h3).2
    · rw [if_neg q, if_neg q]
      exact ⟨rfl, hg⟩
  | pens vs A st rev os hv h4 e ho =>
    obtain ⟨hA, b1, b2, b3, b4⟩ := areaN_ok hu hv e
    have a1 := hA.lr
    have a2 := hA.r6
    have u1 := hu.lr
    have u2 := hu.r6
    have t := fun p (hp : PenOk p) => tf_eq rev h4 ho p hp
    generalize (if rev then toggledP (numsOf (vs ++ os)) else turnedP (numsOf (vs ++ os))) = tf at *
    have bd : ∀ q, stF u A st q + (stL u A st q + 1 - stF u A st q) ≤ 6 := fun q => ar9 (Nat.le_of_lt (stF_lt hu hA)) (stL_lt hu hA)
    refine ⟨rowsMap_congr hg.len fun j h1 h2 h3 => pen_rep (hg.r j h3).2 (fun p hp => (t p hp).1) _ (by rw [(hg.r j h3).1]; exact bd j), hg.map fun j h1 h2 h3 => ?_⟩
    exact ⟨by rw [penRow_len]; exact (hg.r j h3).1, (hg.r j h3).2.pens (fun p hp => by rw [(t p hp).1]; exact (t p hp).2) _ (by rw [(hg.r j h3).1]; exact bd j)⟩
theorem grid0_ok : WFg grid0 := by
  have w : WF blanks := WF.rep rfl (blank_ok _)
  refine ⟨rfl, fun q hq => ?_⟩
  have : q = 0 ∨ q = 1 ∨ q = 2 := by lia
  rcases this with rfl | rfl | rfl <;> exact ⟨rfl, w⟩
theorem dvs_rows {σ : List CO} : ∀ (rs : List Nat) (g : List (List Cell)), rs.length = g.length → (∀ (j m : Nat) l, rs[j]? = some m → g[j]? = some l → σ[m]? = some (.list (l.map Cell.v))) → DVs σ (rs.map V.ref) (g.map fun l => PyData.list (l.map Cell.d))
  | [], [], _, _ => .nil
  | r :: rs, l :: g, h, hj => .cons (.list (hj 0 r l rfl rfl) (dv_cells l)) (dvs_rows rs g (by simpa using h) fun j m x h1 h2 => hj (j + 1) m x h1 h2)
  | [], _ :: _, h, _ => by simp at h
  | _ :: _, [], h, _ => by simp at h
theorem lay_rows : ∀ g : List (List Cell), PyData.canLayAll0 (g.map fun l => PyData.list (l.map Cell.d)) = true ∧ PyData.depthAll (g.map fun l => PyData.list (l.map Cell.d)) ≤ 3
  | [] => by simp [PyData.canLayAll0, PyData.depthAll]
  | l :: g => by
    have h1 := lay_cells l
    have h2 := lay_rows g
    simp [PyData.canLayAll0, PyData.depthAll, PyData.canLay0, PyData.depth, h1.1, h2.1]
    lia
theorem shaped_rows (g : List (List Cell)) : SeqAt.shaped (.list (g.map fun l => PyData.list (l.map Cell.d))) = true := by
  have := lay_rows g
  simp [SeqAt.shaped, PyData.canLay0, PyData.depth, this.1]
  lia
theorem CmpJ.neG {W : Wd} {d : Nat} {F : Fm} {σ : List CO} {ρ : Rho} {n n' : Nat} {rs rs' : List Nat} {g : List (List Cell)} {Q : V → List CO → Prop} (h1 : σ[n]? = some (.list (rs.map V.ref))) (L1 : Lists σ rs g) (h2 : σ[n']? = some (.list (rs'.map V.ref))) (L2 : Lists σ rs' g)
    (q : Q (.bool false) σ) : CmpJ W d F .NotEq (.ref n) (.ref n') ρ σ Q := by
  refine CmpJ.neD (.list h1 (dvs_rows rs g L1.1 L1.2)) (.list h2 (dvs_rows rs' g L2.1 L2.2)) (shaped_rows g) (shaped_rows g) ?_
  have e : PyData.eqv (.list (g.map fun l => PyData.list (l.map Cell.d))) (.list (g.map fun l => PyData.list (l.map Cell.d))) = true := SeqAt.eqv_refl _ (by simp [PyData.canLay0, (lay_rows g).1])
  rw [e]; exact q
section
variable {W : Wd} {d : Nat} {F : Fm} {σ : List CO} {ρ : Rho}
theorem SlJ.raw {value slice : Xp} {n : Addr} {l : List V} {ws : List Value} {a b : V} {lo hi : Option Int} {Q : V → List CO → Prop} (ho : W.hZ.IsList n (List.toArray ws)) (hw : ∀ am h, VRs am h l ws) (ea : a.part = some lo) (eb : b.part = some hi) (hl : l.length ≤ 100000)
    (q : Q (.ref σ.length) (σ ++ [.list (slc l lo hi)])) (hs : ∀ t u, subscripted slice false (.ref t) (.ref u) = operate [.ref u, .ref t] (getItem (.ref t) (.ref u)) := by intro _ _; with_unfolding_all rfl) :
    SlJ W d F value slice (.raw (.ref n)) a b ρ σ Q := by
  refine .mk ?_
  intro A B s am vs hR I hr hv P hP
  obtain ⟨va, _, rfl, ra, vl, _, rfl, rl, vu, _, rfl, ru, rfl⟩ := hv
  cases ra
  have hL : s.heap.IsList n (List.toArray ws) := let ⟨o, e, r⟩ := ho; ⟨o, I.i0.rp.old _ _ e, r⟩
  have rw' := hw am s.heap
  show wpAny _ _ (newFields "slice" [vl, vu, .none] >>= fun i => subscriptTail value slice (.ref n) i) _ _ s
  refine wpAny_bind (wpAny_newObj_type ?_)
  have I' := I.keeps (keep_push s.heap { cls := .type "slice", data := .fields #[vl, vu, .none] })
  have hL' := hL.push { cls := .type "slice", data := .fields #[vl, vu, .none] }
  have rw2 := hw am (s.heap.push { cls := .type "slice", data := .fields #[vl, vu, .none] })
  have z := I'.newList (rw2.slc lo hi)
  refine tail_any (s := { s with heap := _ }) hL'.typeIs slot_list_getitem.lookup (wpAny_getItem_list_slice (s := { s with heap := _ }) hL' (Heap.IsSliceOf.new _ _ _ _) (part_is ea rl) (part_is eb ru) .none nofun ?_ ?_) (hs _ _)
  · rw [Array.toArray_toList] at z
    exact hP _ { s with heap := _ } _ _ _ q z.2 z.1 hr
  · rw [List.size_toArray, rw'.length, sizeLine_eq]; lia
end
section
variable {W : Wd} {d : Nat} {σ : List CO} {Q : V → List CO → Prop}
theorem law_law (X : Ctx W) {sa : Addr} {ks : List Int} {ws : List Value} (ho : W.hZ.IsList sa (List.toArray ws)) (hw : ∀ am h, VRs am h (ks.map V.int) ws) (hl : ks.length ≤ 100000) (h : ∀ σ', Q (.bool true) σ') : CJ W (d + 10) u_law_law [.raw (.ref sa)] σ Q := by
  have hW := X.ok
  refine call.law_law X fun r_ => ?_
  refine (SsJ.cs (SJ.assignSwap (names := ["cells", "hand"]) (EJ.tuple (LJ.cons (EJ.comp _ [] [] (CmpOk.fm [] [] rfl (by decide +kernel) rfl rfl trivial trivial) (ItE.of (EJ.slice (EJ.of (Ev.nm .zx) (EPJ.none (EPJ.some (EJ.of Ev.ci (SlJ.raw ho hw rfl rfl ?_ (ItV.list kN ⟨?_, kA kN, fun C => ?_⟩))))))))))) rfl))
  · simpa using hl
  · rw [show (48 : Int) = ((48 : Nat) : Int) from rfl, slc_b, sizeLine_eq]; simp; lia
  rw [show (48 : Int) = ((48 : Nat) : Int) from rfl, slc_b, ← List.map_take]
  have hk : (ks.take 48).length ≤ 48 := by simp; lia
  generalize ks.take 48 = js at *
  have hj : (σ ++ [CO.list (js.map V.int)])[σ.length]? = some (.list (js.map V.int)) := kN
  generalize σ ++ [CO.list (js.map V.int)] = σA at *
  refine CompL.idx (fun i acc τ => ∃ cs : List Int, acc = cs.map V.int ∧ cs.length = i ∧ Same σA τ [] ∧ τ[σA.length]? = some (.list acc)) ⟨[], rfl, rfl, .app, kN⟩ ?_ ?_
  · rintro i c acc τ hc ⟨cs, rfl, hcl, hs, ha⟩
    rw [List.getElem?_map] at hc
    obtain ⟨j, hj2, rfl⟩ := Option.map_eq_some_iff.mp hc
    refine (EJ.of (Ev.fmod (Ev.nm .zx) (Ev.pow Ev.ci Ev.ci (by decide) (by decide)) ?_) ?_)
    · decide
    · exact ⟨ha, (hs.setNew (Nat.le_refl _)).get hj (by simp), cs ++ [j.fmod 1000000], by simp, by simp [hcl], hs.setNew (Nat.le_refl _), kS ha⟩
  rintro acc τ ⟨cs, rfl, hcl, hs, ha⟩
  have hcs : cs.length ≤ 48 := by rw [hcl, List.length_map]; exact hk
  refine LJ.cons (EJ.list (LJ.of (LEv.cs Ev.ci LEv.nl) ⟨lb rfl, LJ.nil ⟨lb rfl, _, _, rfl, rfl, .cons (.i 2) (.cons (.i 1) .nil), ?_⟩⟩))
  have H : Hnd (τ ++ [.list [.int 0]]) σA.length τ.length cs := ⟨kA ha, ⟨0, kN⟩, by have := (gq ha).1; lia, by lia⟩
  generalize hn : τ.length = nh at *
  generalize σA.length = nc at *
  generalize τ ++ [.list [.int 0]] = σB at *
  clear ha hs hcl hj
  refine (SsJ.cs (SJ.sn (EJ.ce (Ev.gl hW .zx) X.k_Screen (LEv.cs (Ev.gl hW (.i 1)) (LEv.cs (Ev.gl hW (.i 2)) (LEv.cs Ev.cnone (LEv.cs Ev.cnone LEv.nl)))) (CJ.cls hW X.m_Screen (CJc.up (d' := 8) (Screen_init X kN fun σC s i hsc hsC S hic hcu hmg => ⟨rfl, (AJ.nm (.i 3) rfl ?_)⟩) (by lia))))))
  have H3 : Hnd σC nc nh cs := H.move (hsC.newer rfl) (by simp) (by simp)
  have lc : nc < σB.length := (gq H.c).1
  have lh : nh < σB.length := by obtain ⟨k, e⟩ := H.h; exact (gq e).1
  have hic' : ∀ x ∈ i.c, σB.length < x := fun x hx => by have := hic x hx; simp at this; lia
  have l3 : σB.length < σC.length := by have := hsC.1; simp at this; lia
  rw [← hsc] at *
  have hicl : ∀ x ∈ i.c, x < σC.length := fun x hx => S.G.lt hx
  have lcu := (gq S.cu).1
  have lmg := (gq S.mg).1
  have lls := (gq S.G.ls).1
  refine (SsJ.cs (SJ.assignComp _ [] [("_law_wide", .int 6), ("_law_empty", .raw u_law_empty)] (CmpOk.fm [] ["_law_wide", "_law_empty"] rfl (by decide +kernel) rfl rfl trivial ⟨X.g_law_wide, X.g_law_empty, trivial⟩) rfl rfl (ItE.callE (Ev.gl hW (.i 3)) Keeps.type (LEv.cs (Ev.gl hW (.i 1)) LEv.nl) (ItC.range1 ?_ ⟨?_, trivial, _, (.i 4), fun C => ?_⟩))))
  · decide
  · rw [show (0 : Int) = ((0 : Nat) : Int) from rfl, show (3 : Int) = ((3 : Nat) : Int) from rfl, rangeV_len, sizeLine_eq]; decide
  refine CompL.idx (fun k acc τ => ∃ rs : List Nat, acc = rs.map V.ref ∧ rs.length = k ∧ Same σC τ [] ∧ τ[σC.length]? = some (.list acc) ∧ ∀ r ∈ rs, σC.length < r ∧ τ[r]? = some (.list (blanks.map Cell.v))) ⟨[], rfl, rfl, .app, kN, by simp⟩ ?_ ?_
  · rintro k c acc τ hc ⟨rs, rfl, hcl, hs, ha, hr⟩
    have hlt := (gq ha).1
    refine (EJ.binop (EJ.list (LJ.cons (EJ.ce (Ev.gl hW (.i 1)) X.k_law_empty (LEv.cs (Ev.tu (LEv.cs Ev.ci (LEv.cs (Ev.neg Ev.ci) (LEv.cs (Ev.neg Ev.ci) (LEv.cs (Ev.neg Ev.ci) (LEv.cs Ev.ci LEv.nl))))) (lb rfl)) LEv.nl) (CJ.up (d' := 1) (law_empty X (p := ⟨0, -1, 0⟩) (LJ.of LEv.nl ⟨(lb rfl), (EJ.of (Ev.gl hW .zx) (OpJ.mulList (by exact kN) ?_ ?_ ?_))⟩)) dd)))))
    all_goals try decide
    refine ⟨kA (kA ha), trivial, rs ++ [τ.length + 1], by simp, by simp [hcl], (hs.trans (Same.app.trans .app)).setNew (Nat.le_refl _), kS (kA (kA ha)), fun r q => ?_⟩
    rcases List.mem_append.mp q with q | q
    · exact ⟨(hr r q).1, get_ne (kA (kA (hr r q).2)) (by have := (hr r q).1; lia)⟩
    · have q := mq q
      subst q
      refine ⟨by lia, get_ne ?_ (by lia)⟩
      have el : τ.length + 1 = (τ ++ [CO.list [(Pen.blank ⟨0, -1, 0⟩).v]]).length := by simp
      rw [el, List.map_replicate]
      exact kN
  rintro acc τ ⟨rs, rfl, hr3, hs, ha, hr⟩
  have hr3 : rs.length = 3 := hr3
  have Sh : Shw τ σC.length rs grid0 := ⟨ha, ⟨hr3, fun j m l h1 h2 => by
    have e : l = blanks := List.eq_of_mem_replicate (List.mem_of_getElem? h2)
    rw [e]; exact (hr m (List.mem_of_getElem? h1)).2⟩, rfl, fun r h3 => (grid0_ok.r r h3).1, fun q => Nat.lt_irrefl _ (hr _ q).1⟩
  have Z : Lw τ σC.length nc nh σC.length cs rs s i ⟨0, 0, false, ⟨0, -1, 0⟩, false, false⟩ whole grid0 grid0 :=
    ⟨H3.move hs (by simp) (by simp), S.move hs, Sh, fun q => by have := hic' _ q; lia, fun q => by have := hic' _ q; lia, hicl, by lia, by lia, lls, Nat.le_refl _, fun x q => Nat.le_of_lt (hr x q).1⟩
  have hL : σC.length ≤ τ.length := hs.1
  have hg := grid0_ok
  generalize grid0 = g at *
  generalize σC.length = L at *
  clear hr Sh hr3 ha hs H3 S
  refine (SsJ.cs (SJ.for (ItE.call (EJ.glob hW (.i 3) ⟨_, rfl, Keeps.type, (LJ.cons (EJ.ce (Ev.gl hW (.i 4)) X.k_law_draw (LEv.cs (Ev.nm (.i 1)) (LEv.cs (Ev.nm (.i 2)) (LEv.cs Ev.ci LEv.nl))) (CJ.up (d' := 1) (law_draw X Z.H (by decide) fun x σ' hx0 hx1 hs H => have Z := Z.hand hs H; have hS := hs.1; (LJ.of LEv.nl (ItC.range1 ?_ ?_))) dd)))⟩))))
  · exact small_one (by lia) (by lia) (by lia) (by lia)
  refine LoopJ.idx (fun _ ρ τ => ∃ o rs g, ρ = ([("script", some (.raw (.ref sa))), ("cells", some (.ref nc)), ("hand", some (.ref nh)), ("screen", some (.ref s.sc)), ("shown", some (.ref L)), ("turn", o), ("limits", none), ("place", none), ("is_waiting", none)] : Rho) ∧ Lw τ L nc nh L cs rs s i ⟨0, 0, false, ⟨0, -1, 0⟩, false, false⟩ whole g g ∧ WFg g ∧ L ≤ τ.length) ⟨none, rs, g, rfl, Z, hg, by lia⟩ ?_ ?_
  · rintro _ c ρ τ _ ⟨o, rs, g, rfl, Z, hg, hL⟩
    refine (AJ.nm (.i 5) rfl (SsJ.cs (SJ.expr (EJ.ce (Ev.gl hW (.i 5)) X.k_law_put (LEv.cs (Ev.nm (.i 1)) (LEv.cs (Ev.nm (.i 2)) (LEv.cs (Ev.nm (.i 3)) (LEv.cs (Ev.nm (.i 4)) LEv.nl)))) (CJ.up (d' := 7) (law_put X Z hL fun r k x h1 h2 h3 h4 σ' rs' Z' hl => (SsJ.nl ?_)) dd)))))
    have y := hg.put h1 h2 h3 h4
    rw [← y.1] at Z'
    exact ⟨trivial, _, rs', _, rfl, Z', y.2, by lia⟩
  rintro ρ τ ⟨o, rs, g, rfl, Z, hg, hL⟩
  refine (SsJ.cs (SJ.sn (EJ.ce (Ev.gl hW (.i 6)) X.k_law_limits (LEv.cs (Ev.nm (.i 1)) (LEv.cs (Ev.nm (.i 2)) (LEv.cs (Ev.nm (.i 3)) LEv.nl))) (CJ.up (d' := 4) (law_limits X Z hL lcu lmg fun c m σ' hm hp Z hl => have h1 := Z.S.sc; have h2 := Z.S.cu; (AJ.nm (.i 6) rfl (SsJ.cs (SJ.assignSwap (names := ["place", "is_waiting"]) (EJ.tuple (LJ.cons (EJ.call (EJ.glob hW (.i 7) ⟨_, rfl, Keeps.type, (LJ.cons (EJ.meth0E hW (Ev.ta hW X.o_Screen (Ev.nm (.i 3)) X.a_Screen_cursor.find (by nofun) (nd_Screen rfl) (.i 6) rfl) (by nofun) X.m_Cursor_place (na_Cursor_place rfl) (CJ.up (d' := 1) (Cursor_place X h2 (LJ.of LEv.nl (CJ.tupleTup (LJ.of (LEv.cs (Ev.ta hW X.o_Cursor (Ev.ta hW X.o_Screen (Ev.nm (.i 3)) X.a_Screen_cursor.find (by nofun) (nd_Screen rfl) (.i 6) rfl) X.a_Cursor_is_waiting.find (by nofun) (nd_Cursor rfl) (.i 2) rfl) LEv.nl) ⟨(lb rfl), ⟨_, _, rfl, rfl, (PutAll.cons (.i 8) (PutAll.cons (.i 7) PutAll.nil)), ?_⟩⟩)))) dd)))⟩)))) rfl)))) dd))))
  have hu : (limOf c m).Ok := by
    unfold limOf
    split
    · exact hm
    · exact ⟨by decide, by decide, by decide, by decide⟩
  have hL2 : L ≤ σ'.length := by lia
  clear hL hl
  refine (SsJ.cs (SJ.for (ItE.call (EJ.glob hW (.i 3) ⟨_, rfl, Keeps.type, (LJ.cons (EJ.ce (Ev.gl hW (.i 4)) X.k_law_draw (LEv.cs (Ev.nm (.i 1)) (LEv.cs (Ev.nm (.i 2)) (LEv.cs Ev.ci LEv.nl))) (CJ.up (d' := 1) (law_draw X Z.H (by decide) fun x σ' hx0 hx1 hs H => have Z := Z.hand hs H; have hS := hs.1; (LJ.of LEv.nl (ItC.range1 ?_ ?_))) dd)))⟩))))
  · exact small_one (by lia) (by lia) (by lia) (by lia)
  refine LoopJ.idx (fun _ ρ τ => ∃ o rs g n, ρ = ([("script", some (.raw (.ref sa))), ("cells", some (.ref nc)), ("hand", some (.ref nh)), ("screen", some (.ref s.sc)), ("shown", some (.ref n)), ("turn", o), ("limits", some (limOf c m).v), ("place", some (.tup [.int c.row, .int c.col])), ("is_waiting", some (.bool c.w))] : Rho) ∧ Lw τ L nc nh n cs rs s i c m g g ∧ WFg g ∧ L ≤ τ.length) ⟨_, rs, g, _, rfl, Z, hg, by lia⟩ ?_ ?_
  · rintro _ e ρ τ _ ⟨o, rs, g, n, rfl, Z, hg, hL⟩
    refine (AJ.nm (.i 5) rfl (SsJ.cs (SJ.sn (EJ.ce (Ev.gl hW (.i 8)) X.k_law_deed (LEv.cs (Ev.nm (.i 1)) (LEv.cs (Ev.nm (.i 2)) (LEv.cs (Ev.nm (.i 3)) (LEv.cs (Ev.nm (.i 4)) (LEv.cs (Ev.nm (.i 6)) LEv.nl))))) (CJ.up (d' := 9) (law_deed X Z hL hu (fun q h3 => (hg.r q h3).2.W2) (fun q h3 => (hg.r q h3).2.W0 (by rw [(hg.r q h3).1]; decide)) fun σD n' rs' gA gB D Z' hl => (AJ.nm (.i 4) rfl ?_)) dd)))))
    have y := D.eq hg hu hp
    rw [← y.1] at Z'
    have hg := y.2
    generalize gA = g at *
    have hL4 : L ≤ σD.length := by lia
    clear Z D y hl hL
    have h1 := Z'.S.sc
    have h2 := Z'.S.cu
    refine (SsJ.cs (SJ.ite (TJ.cmp (EJ.comp _ [("screen", _)] [("list", .raw (.type "list"))] (CmpOk.fm ["screen"] ["list"] rfl (by decide +kernel) rfl rfl ⟨(.i 3), rfl, trivial⟩ ⟨X.g_list, trivial⟩) (ItE.callE (Ev.gl hW (.i 3)) Keeps.type (LEv.cs (Ev.gl hW (.i 1)) LEv.nl) (ItC.range1 ?_ ⟨?_, trivial, fun C => ?_⟩))))))
    · decide
    · rw [show (0 : Int) = ((0 : Nat) : Int) from rfl, show (3 : Int) = ((3 : Nat) : Int) from rfl, rangeV_len, sizeLine_eq]; decide
    refine CompL.idx (fun k acc τ => ∃ ts : List Nat, acc = ts.map V.ref ∧ ts.length = k ∧ Same σD τ [] ∧ τ[σD.length]? = some (.list acc) ∧ Lists τ ts (g.take k) ∧ ∀ r ∈ ts, σD.length < r) ⟨[], rfl, rfl, .app, kN, .nil, by simp⟩ ?_ ?_
    · rintro k a acc τ hc ⟨ts, rfl, hcl, hs, ha, hl, hr⟩
      rw [show (0 : Int) = ((0 : Nat) : Int) from rfl, show (3 : Int) = ((3 : Nat) : Int) from rfl] at hc
      obtain ⟨hk3, rfl⟩ := rangeV_get hc
      have Z3 := Z'.move hs
      have h1 := Z3.S.sc
      have h3 := Z3.S.G.gr
      have h4 := Z3.S.G.line k hk3
      have h5 := Z3.S.G.cells k hk3
      have hlt := (gq ha).1
      have w6 := Z3.S.G.wide k hk3
      refine (EJ.call (EJ.glob hW .zx ⟨_, rfl, Keeps.type, (LJ.cons (EJ.attr (EJ.methE hW (Ev.ta hW X.o_Screen (Ev.nm (.i 1)) X.a_Screen_grid.find (by first | exact h1 | exact h3 | exact h4 | exact h5) (nd_Screen rfl) (.i 5) rfl) (by first | exact h1 | exact h3 | exact h4 | exact h5) X.m_Grid_line (na_Grid_line rfl) (LEv.cs (Ev.nm .zx) LEv.nl) (CJ.up (d' := 1) (Grid_line X (by simp) Z3.S.G hk3 (AtJ.inst hW X.o_Line X.a_Line_cells.find (by first | exact h1 | exact h3 | exact h4 | exact h5) (nd_Line rfl) .zx rfl (LJ.of LEv.nl (CJ.listList (by first | exact h1 | exact h3 | exact h4 | exact h5) ?_ ?_)))) dd))))⟩))
      · simp; lia
      have z : (τ ++ [CO.list ((row g k).map Cell.v)])[σD.length]? = some (.list (ts.map V.ref)) := kA ha
      refine ⟨z, trivial, ts ++ [τ.length], by simp, by simp [hcl], (hs.trans .app).setNew (Nat.le_refl _), kS z, ?_, fun q hq => ?_⟩
      · rw [List.take_add_one, row_get (by rw [hg.len]; exact hk3)]
        refine Lists.move (js := [σD.length]) (Lists.snoc (hl.move (js := []) .app (by simp)) kN) (.set (by simp)) fun q hq => ?_
        rcases List.mem_append.mp hq with hq | hq
        · have := hr q hq; simp; lia
        · simp at hq; simp; lia
      · rcases List.mem_append.mp hq with hq | hq
        · exact hr q hq
        · have := mq hq; lia
    rintro acc τ ⟨ts, rfl, hcl, hs, ha, hl, hr⟩
    have e3 : (rangeV 0 3 1).length = 3 := rfl
    rw [e3, ← hg.len, List.take_length] at hl
    have Z3 := Z'.move hs
    have h1 := Z3.S.sc
    have h2 := Z3.S.cu
    have q1 := hs.1
    refine EJ.of (Ev.nm (.i 4)) (CmpJ.neG ha hl Z3.Sh.out Z3.Sh.l (TrJ.bl (iteN rfl ?_)))
    refine SsJ.nl ?_
    refine (SsJ.cs (SJ.ite (TJ.or (TJ.cmp (EJ.call (EJ.glob hW (.i 7) ⟨_, rfl, Keeps.type, (LJ.cons (EJ.meth0E hW (Ev.ta hW X.o_Screen (Ev.nm (.i 3)) X.a_Screen_cursor.find (by nofun) (nd_Screen rfl) (.i 6) rfl) (by nofun) X.m_Cursor_place (na_Cursor_place rfl) (CJ.up (d' := 1) (Cursor_place X h2 (LJ.of LEv.nl (CJ.tupleTup (EJ.of (Ev.nm (.i 7)) (CmpJ.neD (.tup (.cons .int (.cons .int .nil))) (.tup (.cons .int (.cons .int .nil))) rfl rfl (TrJ.bl (iteN (by rw [SeqAt.eqv_refl _ rfl]; rfl) (TJ.or (TJ.cmp (EJ.of (Ev.ta hW X.o_Cursor (Ev.ta hW X.o_Screen (Ev.nm (.i 3)) X.a_Screen_cursor.find (by nofun) (nd_Screen rfl) (.i 6) rfl) X.a_Cursor_is_waiting.find (by nofun) (nd_Cursor rfl) (.i 2) rfl) (EJ.of (Ev.nm (.i 8)) (CmpJ.neD .bool .bool rfl rfl (TrJ.bl (iteN (by rw [SeqAt.eqv_refl _ rfl]; rfl) (TJ.or_nil (iteF (SsJ.nl (SsJ.nl ?_)))))))))))))))))) dd)))⟩))))))
    exact ⟨trivial, _, rs', g, n', rfl, Z3, hg, by lia⟩
  rintro ρ τ ⟨o, rs, g, n, rfl, Z, hg, hL⟩
  refine (SsJ.cs (SJ.retE Ev.cbool ?_))
  exact h _
end
noncomputable def fragG (g : Addr → Option Obj) (as : List Addr) : Frag := as.filterMap fun a => match g a with | some o => some (a, o) | none => none
noncomputable abbrev fragOf (h : Heap) : List Addr → Frag := fragG h.get?
theorem fragOf_in (h : Heap) : ∀ as : List Addr, (fragOf h as).In h
  | [], a, o, e => by simp [fragG] at e
  | b :: as, a, o, e => by
    have ih := fragOf_in h as a o
    unfold fragOf fragG at e ih
    rw [List.filterMap_cons] at e
    cases hb : h.get? b with
    | none => rw [hb] at e; exact ih e
    | some x =>
      rw [hb] at e
      dsimp only at e
      rw [List.lookup_cons] at e
      cases q : a == b with
      | true => rw [q] at e; cases e; rw [beq_iff_eq.mp q]; exact hb
      | false => rw [q] at e; exact ih e
noncomputable def fnSeenG (g : Addr → Option Obj) (K : Frag) (a : Addr) : Option (Arguments × FuncBody × Scope × Value × Addr × List (Sr × Addr) × Addr × Bool) := match g a with
  | some o => match o.data with
    | .func f => some (f.params, f.body, f.scope, f.defaults, f.globals, f.closure, f.builtins, codeIn K f.code f.qualname)
    | _ => none
  | none => none
noncomputable abbrev fnSeen (h : Heap) := fnSeenG h.get?
structure Hs (W : Wd) (h : Heap) (as : List Addr) : Prop where
  keep : ∀ b o, h.get? b = some o → W.hZ.get? b = some o
  K : W.K = fragOf h as
  mg : W.mg = h.nsMap mainGlobals
  ok : W.Ok
theorem fnAt_of {W : Wd} {h : Heap} {as fl : List Addr} {el} {D : FnD} {dV : Value} {k a : Nat} (hs : Hs W h as) (e : fl.map (fnSeen h (fragOf h as)) = el) (h1 : fl[k]? = some a) (h2 : el[k]? = some (some (D.params, .stmts D.body, D.scope, dV, mainGlobals, [], builtinsNs, true))) : FnAt W D dV (.ref a) := by
  have q := congrArg (fun l => l[k]?) e
  simp only [List.getElem?_map, h1, Option.map_some, h2, Option.some.injEq] at q
  unfold fnSeen fnSeenG at q
  cases ho : h.get? a with
  | none => rw [ho] at q; cases q
  | some o =>
    rw [ho] at q
    dsimp only at q
    split at q
    · rename_i f hf
      obtain ⟨nm, ql, ps, bd, sc, gl, cl, df, kd, dc, pm, an, cd, ct, bi⟩ := f
      simp only [Option.some.injEq, Prod.mk.injEq] at q
      obtain ⟨rfl, rfl, rfl, rfl, rfl, rfl, rfl, hc⟩ := q
      exact ⟨a, o, nm, ql, kd, dc, pm, an, cd, ct, rfl, hs.keep _ _ ho, hf, codeRec_of ((fragOf_in h as).keeps hs.keep) hc⟩
    · cases q
theorem allT {l : List Bool} (e : l.all id = true) (k : Nat) {b : Bool} (h : l[k]? = some b) : b = true := by
  have := List.all_eq_true.mp e b (List.mem_of_getElem? h)
  exact this
noncomputable def seqOk (h : Heap) (a : Addr) (v : Value) : Bool := match h.get? a with
  | some ⟨_, _, .seq vs _, _⟩ => vs == #[v]
  | _ => false
theorem seqOk_of {W : Wd} {h : Heap} {as : List Addr} {a : Addr} {v : Value} (hs : Hs W h as) (e : seqOk h a v = true) : ∃ o n, W.hZ.get? a = some o ∧ o.data = .seq #[v] n := by
  unfold seqOk at e
  split at e
  · rename_i q
    exact ⟨_, _, hs.keep _ _ q, by rw [beq_iff_eq.mp e]⟩
  · cases e
theorem keeps_of {W : Wd} {h : Heap} {as : List Addr} {u : Value} (hs : Hs W h as) (e : keepIn (fragOf h as) u = true) : Keeps W u := .ofK hs.ok (hs.K ▸ e)
noncomputable def clsOk (K : Frag) (C : Addr) : Bool := findIn K (.ref C) "__setattr__" == some (some (.builtin "object.__setattr__")) && (findIn K (.ref C) "__getattribute__" == some (some (.builtin "object.__getattribute__")) && (findIn K (.ref C) "__getattr__" == some none && (plainOver K C && hasDictIn K C)))
theorem clsOk_of {K : Frag} {C : Addr} (e : clsOk K C = true) : ClsF K C := by
  obtain ⟨a, e⟩ := Bool.and_eq_true_iff.mp e
  obtain ⟨b, e⟩ := Bool.and_eq_true_iff.mp e
  obtain ⟨c, e⟩ := Bool.and_eq_true_iff.mp e
  obtain ⟨d, e⟩ := Bool.and_eq_true_iff.mp e
  exact ⟨beq_iff_eq.mp a, beq_iff_eq.mp b, beq_iff_eq.mp c, d, e⟩
noncomputable def attOk (K : Frag) (C : Addr) (x : Sr) : Bool := findIn K (.ref C) x == some none && takerIn K C x == some none
theorem attOk_of {W : Wd} {h : Heap} {as : List Addr} {C : Addr} {x : Sr} (hs : Hs W h as) (e : attOk (fragOf h as) C x = true) : AttF W C x := by
  rw [← hs.K] at e
  obtain ⟨a, e⟩ := Bool.and_eq_true_iff.mp e
  exact ⟨beq_iff_eq.mp a, beq_iff_eq.mp e⟩
noncomputable def methOk (K : Frag) (C : Addr) (x : Sr) (u : Value) : Bool := match u with
  | .ref f => findIn K (.ref C) x == some (some (.ref f)) && (typeIn K (.ref f) == some (.type "function") && (keepIn K (.ref f) && clsOk K C))
  | _ => false
theorem methOk_of {W : Wd} {h : Heap} {as : List Addr} {C : Addr} {x : Sr} {u : Value} (hs : Hs W h as) (e : methOk (fragOf h as) C x u = true) : MethF W C x u := by
  unfold methOk at e
  split at e
  · obtain ⟨a, e⟩ := Bool.and_eq_true_iff.mp e
    obtain ⟨b, e⟩ := Bool.and_eq_true_iff.mp e
    obtain ⟨c, e⟩ := Bool.and_eq_true_iff.mp e
    rw [← hs.K] at a b e
    exact ⟨clsOk_of e, ⟨_, rfl, beq_iff_eq.mp a, beq_iff_eq.mp b⟩, keeps_of hs c⟩
  · cases e
noncomputable def makeOk (K : Frag) (C : Addr) (u : Value) : Bool := match u with
  | .ref f => makesIn K C && (findIn K (.ref C) "__init__" == some (some (.ref f)) && typeIn K (.ref f) == some (.type "function"))
  | _ => false
theorem makeOk_of {W : Wd} {h : Heap} {as : List Addr} {C : Addr} {u : Value} (hs : Hs W h as) (e : makeOk (fragOf h as) C u = true) : MakeF W C u := by
  unfold makeOk at e
  split at e
  · obtain ⟨a, e⟩ := Bool.and_eq_true_iff.mp e
    obtain ⟨b, e⟩ := Bool.and_eq_true_iff.mp e
    rw [← hs.K] at a b e
    exact ⟨a, _, rfl, beq_iff_eq.mp b, beq_iff_eq.mp e⟩
  · cases e
mutual
noncomputable def vrIn (h : Heap) : V → Value → Bool
  | .none, v => v == .none
  | .any, _ => true
  | .bool b, v => v == .bool b
  | .int i, v => match v with | .int j _ => i == j | _ => false
  | .str x, v => match v with | .str y _ => x == y | _ => false
  | .tup l, v => match v with
    | .ref a => (match h.get? a with
      | some o => o.cls == .type "tuple" && (match o.data with | .seq vs _ => vrsIn h l vs.toList | _ => false)
      | none => false)
    | _ => false
  | .ref _, _ => false
  | .raw u, v => v == u
noncomputable def vrsIn (h : Heap) : List V → List Value → Bool
  | [], vs => vs.isEmpty
  | c :: cs, vs => match vs with | v :: r => vrIn h c v && vrsIn h cs r | [] => false
end
mutual
theorem vr_of {h h' : Heap} (hk : ∀ b o, h.get? b = some o → h'.get? b = some o) : ∀ (c : V) (v : Value), vrIn h c v = true → VR [] h' c v
  | .none, v, e => by unfold vrIn at e; unfold VR; exact beq_iff_eq.mp e
  | .any, v, e => by unfold VR; trivial
  | .bool b, v, e => by unfold vrIn at e; unfold VR; exact beq_iff_eq.mp e
  | .int i, v, e => by
    unfold vrIn at e; unfold VR
    split at e
    · exact ⟨_, by rw [beq_iff_eq.mp e]⟩
    · cases e
  | .str x, v, e => by
    unfold vrIn at e; unfold VR
    split at e
    · exact ⟨_, by rw [beq_iff_eq.mp e]⟩
    · cases e
  | .tup l, v, e => by
    unfold vrIn at e; unfold VR
    split at e
    · split at e
      · rename_i o ho
        obtain ⟨a, e⟩ := Bool.and_eq_true_iff.mp e
        split at e
        · rename_i vs n hd
          exact ⟨_, vs.toList, rfl, ⟨o, hk _ _ ho, beq_iff_eq.mp a, n, by rw [hd, Array.toArray_toList]⟩, vrs_of hk l _ e⟩
        · cases e
      · cases e
    · cases e
  | .ref _, v, e => by unfold vrIn at e; cases e
  | .raw u, v, e => by unfold vrIn at e; unfold VR; exact beq_iff_eq.mp e
theorem vrs_of {h h' : Heap} (hk : ∀ b o, h.get? b = some o → h'.get? b = some o) : ∀ (cs : List V) (vs : List Value), vrsIn h cs vs = true → VRs [] h' cs vs
  | [], vs, e => by unfold vrsIn at e; unfold VRs; exact List.isEmpty_iff.mp e
  | c :: cs, vs, e => by
    unfold vrsIn at e; unfold VRs
    split at e
    · obtain ⟨a, e⟩ := Bool.and_eq_true_iff.mp e
      exact ⟨_, _, rfl, vr_of hk c _ a, vrs_of hk cs _ e⟩
    · cases e
end
noncomputable def gvOk (h : Heap) (x : Sr) (c : V) : Bool := match h.nsMap mainGlobals x with | some v => vrIn h c v | none => false
theorem gv_of {W : Wd} {h : Heap} {as : List Addr} {x : Sr} {c : V} (hs : Hs W h as) (e : gvOk h x c = true) : GV W x c := by
  unfold gvOk at e
  split at e
  · rename_i v hv
    exact .inl ⟨v, by rw [hs.mg]; exact hv, vr_of hs.keep c v e⟩
  · cases e
noncomputable def gnOk (h : Heap) (x : Sr) : Bool := (h.nsMap mainGlobals x).isNone
theorem gn_of {W : Wd} {h : Heap} {as : List Addr} {x : Sr} {u : Value} (hs : Hs W h as) (hx : bootBuiltins x = some u) (hn : x ≠ "__name__") (e : gnOk h x = true) : GV W x (.raw u) :=
  .inr ⟨by rw [hs.mg]; exact Option.isNone_iff_eq_none.mp e, u, (hs.ok.bui x hn).trans hx, by unfold VR; rfl⟩
noncomputable def asL : List Addr := [0, 1, 2, 3, 4, 5, 6, 7, 8, 9, 10, 68, 69, 75, 76, 82, 83, 89, 90, 96, 97, 110, 111, 117, 118, 122, 123, 134, 135, 142, 143, 150, 151, 157, 158, 164, 165, 169, 170, 176, 177, 183, 184, 190, 191, 197, 198, 204, 205, 219, 220, 233, 234, 293, 294, 311, 312, 325, 326, 332, 333, 342, 343, 360, 361, 367, 368, 374, 375, 402, 403, 475, 476, 493, 494, 500, 501, 574, 575, 586, 587, 593, 594, 600, 601, 628, 629, 650, 651, 657, 658, 672, 673, 739, 740, 755, 756, 762, 763, 830, 831, 837, 838, 845, 846, 852, 853, 857, 858, 886, 887, 897, 898, 911, 912, 927, 928, 1177, 1178, 1188, 1189, 1195, 1196, 1202, 1203, 1209, 1210, 1216, 1217, 1223, 1224, 1230, 1231, 1235, 1236, 1242, 1243, 1249, 1250, 1254, 1255, 1259, 1260, 1264, 1265, 1271, 1272, 1276, 1277, 1281, 1282, 1286, 1287]
noncomputable def fnL : List Addr := [69, 76, 83, 90, 97, 111, 118, 123, 135, 143, 151, 158, 165, 170, 177, 184, 191, 198, 205, 220, 234, 312, 326, 333, 361, 368, 375, 403, 494, 501, 587, 594, 601, 629, 651, 658, 673, 756, 763, 831, 838, 846, 853, 858, 898, 912, 928, 1189, 1196, 1203, 1210, 1217, 1224, 1231, 1236, 1243, 1250, 1255, 1260, 1265, 1272, 1277, 1282, 1287]
noncomputable def fnE : List (Option (Arguments × FuncBody × Scope × Value × Addr × List (Sr × Addr) × Addr × Bool)) := [
  some (D_pen_with.params, .stmts D_pen_with.body, D_pen_with.scope, .none, mainGlobals, [], builtinsNs, true),
  some (D_under_of.params, .stmts D_under_of.body, D_under_of.scope, .none, mainGlobals, [], builtinsNs, true),
  some (D_flags_with_under.params, .stmts D_flags_with_under.body, D_flags_with_under.scope, .none, mainGlobals, [], builtinsNs, true),
  some (D_erased_pen.params, .stmts D_erased_pen.body, D_erased_pen.scope, .none, mainGlobals, [], builtinsNs, true),
  some (D_blank_cell.params, .stmts D_blank_cell.body, D_blank_cell.scope, .none, mainGlobals, [], builtinsNs, true),
  some (D_plain_of.params, .stmts D_plain_of.body, D_plain_of.scope, .none, mainGlobals, [], builtinsNs, true),
  some (D_value_of.params, .stmts D_value_of.body, D_value_of.scope, .none, mainGlobals, [], builtinsNs, true),
  some (D_values_of.params, .stmts D_values_of.body, D_values_of.scope, .none, mainGlobals, [], builtinsNs, true),
  some (D_edit_limits.params, .stmts D_edit_limits.body, D_edit_limits.scope, .none, mainGlobals, [], builtinsNs, true),
  some (D_area_of.params, .stmts D_area_of.body, D_area_of.scope, (.ref d_area_of), mainGlobals, [], builtinsNs, true),
  some (D_erase_rectangle.params, .stmts D_erase_rectangle.body, D_erase_rectangle.scope, (.ref d_erase_rectangle), mainGlobals, [], builtinsNs, true),
  some (D_fill_rectangle.params, .stmts D_fill_rectangle.body, D_fill_rectangle.scope, .none, mainGlobals, [], builtinsNs, true),
  some (D_copy_rectangle.params, .stmts D_copy_rectangle.body, D_copy_rectangle.scope, .none, mainGlobals, [], builtinsNs, true),
  some (D_edit_stretches.params, .stmts D_edit_stretches.body, D_edit_stretches.scope, .none, mainGlobals, [], builtinsNs, true),
  some (D_edit_turned.params, .stmts D_edit_turned.body, D_edit_turned.scope, .none, mainGlobals, [], builtinsNs, true),
  some (D_edit_toggled.params, .stmts D_edit_toggled.body, D_edit_toggled.scope, .none, mainGlobals, [], builtinsNs, true),
  some (D_edit_pens.params, .stmts D_edit_pens.body, D_edit_pens.scope, .none, mainGlobals, [], builtinsNs, true),
  some (D_change_rectangle.params, .stmts D_change_rectangle.body, D_change_rectangle.scope, .none, mainGlobals, [], builtinsNs, true),
  some (D_reverse_rectangle.params, .stmts D_reverse_rectangle.body, D_reverse_rectangle.scope, .none, mainGlobals, [], builtinsNs, true),
  some (D_Charsets_init.params, .stmts D_Charsets_init.body, D_Charsets_init.scope, (.ref d_Charsets_init), mainGlobals, [], builtinsNs, true),
  some (D_Charsets_reset.params, .stmts D_Charsets_reset.body, D_Charsets_reset.scope, .none, mainGlobals, [], builtinsNs, true),
  some (D_Cursor_init.params, .stmts D_Cursor_init.body, D_Cursor_init.scope, .none, mainGlobals, [], builtinsNs, true),
  some (D_Cursor_go.params, .stmts D_Cursor_go.body, D_Cursor_go.scope, .none, mainGlobals, [], builtinsNs, true),
  some (D_Cursor_place.params, .stmts D_Cursor_place.body, D_Cursor_place.scope, .none, mainGlobals, [], builtinsNs, true),
  some (D_Margins_init.params, .stmts D_Margins_init.body, D_Margins_init.scope, .none, mainGlobals, [], builtinsNs, true),
  some (D_Margins_set_rows.params, .stmts D_Margins_set_rows.body, D_Margins_set_rows.scope, .none, mainGlobals, [], builtinsNs, true),
  some (D_Margins_set_columns.params, .stmts D_Margins_set_columns.body, D_Margins_set_columns.scope, .none, mainGlobals, [], builtinsNs, true),
  some (D_Margins_area.params, .stmts D_Margins_area.body, D_Margins_area.scope, .none, mainGlobals, [], builtinsNs, true),
  some (D_Tabs_init.params, .stmts D_Tabs_init.body, D_Tabs_init.scope, .none, mainGlobals, [], builtinsNs, true),
  some (D_Tabs_put_eighths.params, .stmts D_Tabs_put_eighths.body, D_Tabs_put_eighths.scope, .none, mainGlobals, [], builtinsNs, true),
  some (D_line_blanks.params, .stmts D_line_blanks.body, D_line_blanks.scope, .none, mainGlobals, [], builtinsNs, true),
  some (D_right_half.params, .stmts D_right_half.body, D_right_half.scope, .none, mainGlobals, [], builtinsNs, true),
  some (D_line_part.params, .stmts D_line_part.body, D_line_part.scope, .none, mainGlobals, [], builtinsNs, true),
  some (D_Line_init.params, .stmts D_Line_init.body, D_Line_init.scope, .none, mainGlobals, [], builtinsNs, true),
  some (D_Line_part.params, .stmts D_Line_part.body, D_Line_part.scope, .none, mainGlobals, [], builtinsNs, true),
  some (D_Line_put.params, .stmts D_Line_put.body, D_Line_put.scope, .none, mainGlobals, [], builtinsNs, true),
  some (D_Line_erase.params, .stmts D_Line_erase.body, D_Line_erase.scope, (.ref d_Line_erase), mainGlobals, [], builtinsNs, true),
  some (D_Grid_init.params, .stmts D_Grid_init.body, D_Grid_init.scope, .none, mainGlobals, [], builtinsNs, true),
  some (D_Grid_line.params, .stmts D_Grid_line.body, D_Grid_line.scope, .none, mainGlobals, [], builtinsNs, true),
  some (D_Grid_cells_of.params, .stmts D_Grid_cells_of.body, D_Grid_cells_of.scope, .none, mainGlobals, [], builtinsNs, true),
  some (D_Grid_put_cells.params, .stmts D_Grid_put_cells.body, D_Grid_put_cells.scope, .none, mainGlobals, [], builtinsNs, true),
  some (D_Grid_erase_area.params, .stmts D_Grid_erase_area.body, D_Grid_erase_area.scope, (.ref d_Grid_erase_area), mainGlobals, [], builtinsNs, true),
  some (D_Grid_fill_area.params, .stmts D_Grid_fill_area.body, D_Grid_fill_area.scope, .none, mainGlobals, [], builtinsNs, true),
  some (D_Grid_copy_area.params, .stmts D_Grid_copy_area.body, D_Grid_copy_area.scope, .none, mainGlobals, [], builtinsNs, true),
  some (D_grid_cut.params, .stmts D_grid_cut.body, D_grid_cut.scope, .none, mainGlobals, [], builtinsNs, true),
  some (D_grid_mended.params, .stmts D_grid_mended.body, D_grid_mended.scope, .none, mainGlobals, [], builtinsNs, true),
  some (D_Screen_init.params, .stmts D_Screen_init.body, D_Screen_init.scope, (.ref d_Screen_init), mainGlobals, [], builtinsNs, true),
  some (D_law_draw.params, .stmts D_law_draw.body, D_law_draw.scope, .none, mainGlobals, [], builtinsNs, true),
  some (D_law_empty.params, .stmts D_law_empty.body, D_law_empty.scope, .none, mainGlobals, [], builtinsNs, true),
  some (D_law_pen.params, .stmts D_law_pen.body, D_law_pen.scope, .none, mainGlobals, [], builtinsNs, true),
  some (D_law_cut.params, .stmts D_law_cut.body, D_law_cut.scope, .none, mainGlobals, [], builtinsNs, true),
  some (D_law_over.params, .stmts D_law_over.body, D_law_over.scope, .none, mainGlobals, [], builtinsNs, true),
  some (D_law_put.params, .stmts D_law_put.body, D_law_put.scope, .none, mainGlobals, [], builtinsNs, true),
  some (D_law_limits.params, .stmts D_law_limits.body, D_law_limits.scope, .none, mainGlobals, [], builtinsNs, true),
  some (D_law_values.params, .stmts D_law_values.body, D_law_values.scope, .none, mainGlobals, [], builtinsNs, true),
  some (D_law_place.params, .stmts D_law_place.body, D_law_place.scope, .none, mainGlobals, [], builtinsNs, true),
  some (D_law_area.params, .stmts D_law_area.body, D_law_area.scope, .none, mainGlobals, [], builtinsNs, true),
  some (D_law_filled.params, .stmts D_law_filled.body, D_law_filled.scope, .none, mainGlobals, [], builtinsNs, true),
  some (D_law_spared.params, .stmts D_law_spared.body, D_law_spared.scope, .none, mainGlobals, [], builtinsNs, true),
  some (D_law_copied.params, .stmts D_law_copied.body, D_law_copied.scope, .none, mainGlobals, [], builtinsNs, true),
  some (D_law_turned.params, .stmts D_law_turned.body, D_law_turned.scope, .none, mainGlobals, [], builtinsNs, true),
  some (D_law_repenned.params, .stmts D_law_repenned.body, D_law_repenned.scope, .none, mainGlobals, [], builtinsNs, true),
  some (D_law_deed.params, .stmts D_law_deed.body, D_law_deed.scope, .none, mainGlobals, [], builtinsNs, true),
  some (D_law_law.params, .stmts D_law_law.body, D_law_law.scope, .none, mainGlobals, [], builtinsNs, true)]
noncomputable def chkL (h : Heap) (K : Frag) : List Bool := [
  gvOk h "pen_with" (.raw u_pen_with),
  keepIn K u_pen_with,
  gvOk h "under_of" (.raw u_under_of),
  keepIn K u_under_of,
  gvOk h "flags_with_under" (.raw u_flags_with_under),
  keepIn K u_flags_with_under,
  gvOk h "erased_pen" (.raw u_erased_pen),
  keepIn K u_erased_pen,
  gvOk h "blank_cell" (.raw u_blank_cell),
  keepIn K u_blank_cell,
  gvOk h "plain_of" (.raw u_plain_of),
  keepIn K u_plain_of,
  gvOk h "value_of" (.raw u_value_of),
  keepIn K u_value_of,
  gvOk h "values_of" (.raw u_values_of),
  keepIn K u_values_of,
  gvOk h "edit_limits" (.raw u_edit_limits),
  keepIn K u_edit_limits,
  seqOk h d_area_of (.int 0 361),
  gvOk h "area_of" (.raw u_area_of),
  keepIn K u_area_of,
  seqOk h d_erase_rectangle (.bool false),
  gvOk h "erase_rectangle" (.raw u_erase_rectangle),
  keepIn K u_erase_rectangle,
  gvOk h "fill_rectangle" (.raw u_fill_rectangle),
  keepIn K u_fill_rectangle,
  gvOk h "copy_rectangle" (.raw u_copy_rectangle),
  keepIn K u_copy_rectangle,
  gvOk h "edit_stretches" (.raw u_edit_stretches),
  keepIn K u_edit_stretches,
  gvOk h "edit_turned" (.raw u_edit_turned),
  keepIn K u_edit_turned,
  gvOk h "edit_toggled" (.raw u_edit_toggled),
  keepIn K u_edit_toggled,
  gvOk h "edit_pens" (.raw u_edit_pens),
  keepIn K u_edit_pens,
  gvOk h "change_rectangle" (.raw u_change_rectangle),
  keepIn K u_change_rectangle,
  gvOk h "reverse_rectangle" (.raw u_reverse_rectangle),
  keepIn K u_reverse_rectangle,
  seqOk h d_Charsets_init (.none),
  gvOk h "line_blanks" (.raw u_line_blanks),
  keepIn K u_line_blanks,
  gvOk h "right_half" (.raw u_right_half),
  keepIn K u_right_half,
  gvOk h "line_part" (.raw u_line_part),
  keepIn K u_line_part,
  seqOk h d_Line_erase (.bool false),
  seqOk h d_Grid_erase_area (.bool false),
  gvOk h "grid_cut" (.raw u_grid_cut),
  keepIn K u_grid_cut,
  gvOk h "grid_mended" (.raw u_grid_mended),
  keepIn K u_grid_mended,
  seqOk h d_Screen_init (.none),
  gvOk h "_law_draw" (.raw u_law_draw),
  keepIn K u_law_draw,
  gvOk h "_law_empty" (.raw u_law_empty),
  keepIn K u_law_empty,
  gvOk h "_law_pen" (.raw u_law_pen),
  keepIn K u_law_pen,
  gvOk h "_law_cut" (.raw u_law_cut),
  keepIn K u_law_cut,
  gvOk h "_law_over" (.raw u_law_over),
  keepIn K u_law_over,
  gvOk h "_law_put" (.raw u_law_put),
  keepIn K u_law_put,
  gvOk h "_law_limits" (.raw u_law_limits),
  keepIn K u_law_limits,
  gvOk h "_law_values" (.raw u_law_values),
  keepIn K u_law_values,
  gvOk h "_law_place" (.raw u_law_place),
  keepIn K u_law_place,
  gvOk h "_law_area" (.raw u_law_area),
  keepIn K u_law_area,
  gvOk h "_law_filled" (.raw u_law_filled),
  keepIn K u_law_filled,
  gvOk h "_law_spared" (.raw u_law_spared),
  keepIn K u_law_spared,
  gvOk h "_law_copied" (.raw u_law_copied),
  keepIn K u_law_copied,
  gvOk h "_law_turned" (.raw u_law_turned),
  keepIn K u_law_turned,
  gvOk h "_law_repenned" (.raw u_law_repenned),
  keepIn K u_law_repenned,
  gvOk h "_law_deed" (.raw u_law_deed),
  keepIn K u_law_deed,
  gvOk h "law" (.raw u_law_law),
  keepIn K u_law_law,
  clsOk K c_Charsets,
  gvOk h "Charsets" (.raw (.ref c_Charsets)),
  keepIn K (.ref c_Charsets),
  makeOk K c_Charsets u_Charsets_init,
  attOk K c_Charsets "made",
  attOk K c_Charsets "names",
  attOk K c_Charsets "left",
  attOk K c_Charsets "right",
  attOk K c_Charsets "shift",
  methOk K c_Charsets "reset" u_Charsets_reset,
  clsOk K c_Cursor,
  gvOk h "Cursor" (.raw (.ref c_Cursor)),
  keepIn K (.ref c_Cursor),
  makeOk K c_Cursor u_Cursor_init,
  attOk K c_Cursor "row",
  attOk K c_Cursor "column",
  attOk K c_Cursor "is_waiting",
  attOk K c_Cursor "pen",
  attOk K c_Cursor "is_origin",
  attOk K c_Cursor "is_guarding",
  methOk K c_Cursor "go" u_Cursor_go,
  methOk K c_Cursor "place" u_Cursor_place,
  clsOk K c_Margins,
  gvOk h "Margins" (.raw (.ref c_Margins)),
  keepIn K (.ref c_Margins),
  makeOk K c_Margins u_Margins_init,
  attOk K c_Margins "rows",
  attOk K c_Margins "columns",
  attOk K c_Margins "top",
  attOk K c_Margins "bottom",
  attOk K c_Margins "left",
  attOk K c_Margins "right",
  methOk K c_Margins "set_rows" u_Margins_set_rows,
  methOk K c_Margins "set_columns" u_Margins_set_columns,
  methOk K c_Margins "area" u_Margins_area,
  clsOk K c_Tabs,
  gvOk h "Tabs" (.raw (.ref c_Tabs)),
  keepIn K (.ref c_Tabs),
  makeOk K c_Tabs u_Tabs_init,
  attOk K c_Tabs "columns",
  attOk K c_Tabs "stops",
  methOk K c_Tabs "put_eighths" u_Tabs_put_eighths,
  clsOk K c_Line,
  gvOk h "Line" (.raw (.ref c_Line)),
  keepIn K (.ref c_Line),
  makeOk K c_Line u_Line_init,
  attOk K c_Line "cells",
  attOk K c_Line "is_wrapped",
  attOk K c_Line "size",
  methOk K c_Line "part" u_Line_part,
  methOk K c_Line "put" u_Line_put,
  methOk K c_Line "erase" u_Line_erase,
  clsOk K c_Grid,
  gvOk h "Grid" (.raw (.ref c_Grid)),
  keepIn K (.ref c_Grid),
  makeOk K c_Grid u_Grid_init,
  attOk K c_Grid "rows",
  attOk K c_Grid "columns",
  attOk K c_Grid "lines",
  methOk K c_Grid "line" u_Grid_line,
  methOk K c_Grid "cells_of" u_Grid_cells_of,
  methOk K c_Grid "put_cells" u_Grid_put_cells,
  methOk K c_Grid "erase_area" u_Grid_erase_area,
  methOk K c_Grid "fill_area" u_Grid_fill_area,
  methOk K c_Grid "copy_area" u_Grid_copy_area,
  clsOk K c_Screen,
  gvOk h "Screen" (.raw (.ref c_Screen)),
  keepIn K (.ref c_Screen),
  makeOk K c_Screen u_Screen_init,
  attOk K c_Screen "rows",
  attOk K c_Screen "columns",
  attOk K c_Screen "modes",
  attOk K c_Screen "widths",
  attOk K c_Screen "history",
  attOk K c_Screen "grid",
  attOk K c_Screen "cursor",
  attOk K c_Screen "margins",
  attOk K c_Screen "tabs",
  attOk K c_Screen "charsets",
  attOk K c_Screen "saved",
  attOk K c_Screen "last",
  attOk K c_Screen "has_right",
  gvOk h "ASCII_SET" (.raw r_ASCII_SET),
  gvOk h "SUPPLEMENT_SET" (.raw r_SUPPLEMENT_SET),
  gvOk h "BOLD" (.int 1),
  gvOk h "BLINK" (.int 8),
  gvOk h "INVERSE" (.int 32),
  gvOk h "HIDDEN" (.int 64),
  gvOk h "UNDER_SHIFT" (.int 9),
  gvOk h "UNDER_MASK" (.int 3584),
  gvOk h "NO_COLOUR" (.int (-1)),
  gvOk h "PLAIN" (.tup [.int 0, .int (-1), .int (-1), .int (-1), .int 0]),
  gvOk h "FLAGS" (.int 0),
  gvOk h "BACK" (.int 2),
  gvOk h "BLANK" (.int 32),
  gvOk h "EDIT_FLAGS" (.tup [.tup [.int 1, .int 1], .tup [.int 5, .int 8], .tup [.int 7, .int 32], .tup [.int 8, .int 64]]),
  gvOk h "TAB_WIDTH" (.int 8),
  gvOk h "LINE_SIZES" (.tup [.str "single", .str "wide", .str "top", .str "bottom"]),
  gvOk h "_law_rows" (.int 3),
  gvOk h "_law_wide" (.int 6),
  gnOk h "max",
  gnOk h "min",
  gnOk h "len",
  gnOk h "list",
  gnOk h "tuple",
  gnOk h "range",
  gnOk h "enumerate"]
theorem ctx_of {W : Wd} {h : Heap} (hs : Hs W h asL) (e1 : fnL.map (fnSeen h (fragOf h asL)) = fnE) (e2 : (chkL h (fragOf h asL)).all id = true) : Ctx W :=
  ⟨hs.ok,
fnAt_of (k := 0) hs e1 rfl rfl,
gv_of hs (allT e2 0 rfl),
keeps_of hs (allT e2 1 rfl),
fnAt_of (k := 1) hs e1 rfl rfl,
gv_of hs (allT e2 2 rfl),
keeps_of hs (allT e2 3 rfl),
fnAt_of (k := 2) hs e1 rfl rfl,
gv_of hs (allT e2 4 rfl),
keeps_of hs (allT e2 5 rfl),
fnAt_of (k := 3) hs e1 rfl rfl,
gv_of hs (allT e2 6 rfl),
keeps_of hs (allT e2 7 rfl),
fnAt_of (k := 4) hs e1 rfl rfl,
gv_of hs (allT e2 8 rfl),
keeps_of hs (allT e2 9 rfl),
fnAt_of (k := 5) hs e1 rfl rfl,
gv_of hs (allT e2 10 rfl),
keeps_of hs (allT e2 11 rfl),
fnAt_of (k := 6) hs e1 rfl rfl,
gv_of hs (allT e2 12 rfl),
keeps_of hs (allT e2 13 rfl),
fnAt_of (k := 7) hs e1 rfl rfl,
gv_of hs (allT e2 14 rfl),
keeps_of hs (allT e2 15 rfl),
fnAt_of (k := 8) hs e1 rfl rfl,
gv_of hs (allT e2 16 rfl),
keeps_of hs (allT e2 17 rfl),
fnAt_of (k := 9) hs e1 rfl rfl,
seqOk_of hs (allT e2 18 rfl),
gv_of hs (allT e2 19 rfl),
keeps_of hs (allT e2 20 rfl),
fnAt_of (k := 10) hs e1 rfl rfl,
seqOk_of hs (allT e2 21 rfl),
gv_of hs (allT e2 22 rfl),
keeps_of hs (allT e2 23 rfl),
fnAt_of (k := 11) hs e1 rfl rfl,
gv_of hs (allT e2 24 rfl),
keeps_of hs (allT e2 25 rfl),
fnAt_of (k := 12) hs e1 rfl rfl,
gv_of hs (allT e2 26 rfl),
keeps_of hs (allT e2 27 rfl),
fnAt_of (k := 13) hs e1 rfl rfl,
gv_of hs (allT e2 28 rfl),
keeps_of hs (allT e2 29 rfl),
fnAt_of (k := 14) hs e1 rfl rfl,
gv_of hs (allT e2 30 rfl),
keeps_of hs (allT e2 31 rfl),
fnAt_of (k := 15) hs e1 rfl rfl,
gv_of hs (allT e2 32 rfl),
keeps_of hs (allT e2 33 rfl),
fnAt_of (k := 16) hs e1 rfl rfl,
gv_of hs (allT e2 34 rfl),
keeps_of hs (allT e2 35 rfl),
fnAt_of (k := 17) hs e1 rfl rfl,
gv_of hs (allT e2 36 rfl),
keeps_of hs (allT e2 37 rfl),
fnAt_of (k := 18) hs e1 rfl rfl,
gv_of hs (allT e2 38 rfl),
keeps_of hs (allT e2 39 rfl),
fnAt_of (k := 19) hs e1 rfl rfl,
seqOk_of hs (allT e2 40 rfl),
fnAt_of (k := 20) hs e1 rfl rfl,
fnAt_of (k := 21) hs e1 rfl rfl,
fnAt_of (k := 22) hs e1 rfl rfl,
fnAt_of (k := 23) hs e1 rfl rfl,
fnAt_of (k := 24) hs e1 rfl rfl,
fnAt_of (k := 25) hs e1 rfl rfl,
fnAt_of (k := 26) hs e1 rfl rfl,
fnAt_of (k := 27) hs e1 rfl rfl,
fnAt_of (k := 28) hs e1 rfl rfl,
fnAt_of (k := 29) hs e1 rfl rfl,
fnAt_of (k := 30) hs e1 rfl rfl,
gv_of hs (allT e2 41 rfl),
keeps_of hs (allT e2 42 rfl),
fnAt_of (k := 31) hs e1 rfl rfl,
gv_of hs (allT e2 43 rfl),
keeps_of hs (allT e2 44 rfl),
fnAt_of (k := 32) hs e1 rfl rfl,
gv_of hs (allT e2 45 rfl),
keeps_of hs (allT e2 46 rfl),
fnAt_of (k := 33) hs e1 rfl rfl,
fnAt_of (k := 34) hs e1 rfl rfl,
fnAt_of (k := 35) hs e1 rfl rfl,
fnAt_of (k := 36) hs e1 rfl rfl,
seqOk_of hs (allT e2 47 rfl),
fnAt_of (k := 37) hs e1 rfl rfl,
fnAt_of (k := 38) hs e1 rfl rfl,
fnAt_of (k := 39) hs e1 rfl rfl,
fnAt_of (k := 40) hs e1 rfl rfl,
fnAt_of (k := 41) hs e1 rfl rfl,
seqOk_of hs (allT e2 48 rfl),
fnAt_of (k := 42) hs e1 rfl rfl,
fnAt_of (k := 43) hs e1 rfl rfl,
fnAt_of (k := 44) hs e1 rfl rfl,
gv_of hs (allT e2 49 rfl),
keeps_of hs (allT e2 50 rfl),
fnAt_of (k := 45) hs e1 rfl rfl,
gv_of hs (allT e2 51 rfl),
keeps_of hs (allT e2 52 rfl),
fnAt_of (k := 46) hs e1 rfl rfl,
seqOk_of hs (allT e2 53 rfl),
fnAt_of (k := 47) hs e1 rfl rfl,
gv_of hs (allT e2 54 rfl),
keeps_of hs (allT e2 55 rfl),
fnAt_of (k := 48) hs e1 rfl rfl,
gv_of hs (allT e2 56 rfl),
keeps_of hs (allT e2 57 rfl),
fnAt_of (k := 49) hs e1 rfl rfl,
gv_of hs (allT e2 58 rfl),
keeps_of hs (allT e2 59 rfl),
fnAt_of (k := 50) hs e1 rfl rfl,
gv_of hs (allT e2 60 rfl),
keeps_of hs (allT e2 61 rfl),
fnAt_of (k := 51) hs e1 rfl rfl,
gv_of hs (allT e2 62 rfl),
keeps_of hs (allT e2 63 rfl),
fnAt_of (k := 52) hs e1 rfl rfl,
gv_of hs (allT e2 64 rfl),
keeps_of hs (allT e2 65 rfl),
fnAt_of (k := 53) hs e1 rfl rfl,
gv_of hs (allT e2 66 rfl),
keeps_of hs (allT e2 67 rfl),
fnAt_of (k := 54) hs e1 rfl rfl,
gv_of hs (allT e2 68 rfl),
keeps_of hs (allT e2 69 rfl),
fnAt_of (k := 55) hs e1 rfl rfl,
gv_of hs (allT e2 70 rfl),
keeps_of hs (allT e2 71 rfl),
fnAt_of (k := 56) hs e1 rfl rfl,
gv_of hs (allT e2 72 rfl),
keeps_of hs (allT e2 73 rfl),
fnAt_of (k := 57) hs e1 rfl rfl,
gv_of hs (allT e2 74 rfl),
keeps_of hs (allT e2 75 rfl),
fnAt_of (k := 58) hs e1 rfl rfl,
gv_of hs (allT e2 76 rfl),
keeps_of hs (allT e2 77 rfl),
fnAt_of (k := 59) hs e1 rfl rfl,
gv_of hs (allT e2 78 rfl),
keeps_of hs (allT e2 79 rfl),
fnAt_of (k := 60) hs e1 rfl rfl,
gv_of hs (allT e2 80 rfl),
keeps_of hs (allT e2 81 rfl),
fnAt_of (k := 61) hs e1 rfl rfl,
gv_of hs (allT e2 82 rfl),
keeps_of hs (allT e2 83 rfl),
fnAt_of (k := 62) hs e1 rfl rfl,
gv_of hs (allT e2 84 rfl),
keeps_of hs (allT e2 85 rfl),
fnAt_of (k := 63) hs e1 rfl rfl,
gv_of hs (allT e2 86 rfl),
keeps_of hs (allT e2 87 rfl),
clsOk_of (hs.K ▸ allT e2 88 rfl),
gv_of hs (allT e2 89 rfl),
keeps_of hs (allT e2 90 rfl),
makeOk_of hs (allT e2 91 rfl),
attOk_of hs (allT e2 92 rfl),
attOk_of hs (allT e2 93 rfl),
attOk_of hs (allT e2 94 rfl),
attOk_of hs (allT e2 95 rfl),
attOk_of hs (allT e2 96 rfl),
methOk_of hs (allT e2 97 rfl),
clsOk_of (hs.K ▸ allT e2 98 rfl),
gv_of hs (allT e2 99 rfl),
keeps_of hs (allT e2 100 rfl),
makeOk_of hs (allT e2 101 rfl),
attOk_of hs (allT e2 102 rfl),
attOk_of hs (allT e2 103 rfl),
attOk_of hs (allT e2 104 rfl),
attOk_of hs (allT e2 105 rfl),
attOk_of hs (allT e2 106 rfl),
attOk_of hs (allT e2 107 rfl),
methOk_of hs (allT e2 108 rfl),
methOk_of hs (allT e2 109 rfl),
clsOk_of (hs.K ▸ allT e2 110 rfl),
gv_of hs (allT e2 111 rfl),
keeps_of hs (allT e2 112 rfl),
makeOk_of hs (allT e2 113 rfl),
attOk_of hs (allT e2 114 rfl),
attOk_of hs (allT e2 115 rfl),
attOk_of hs (allT e2 116 rfl),
attOk_of hs (allT e2 117 rfl),
attOk_of hs (allT e2 118 rfl),
attOk_of hs (allT e2 119 rfl),
methOk_of hs (allT e2 120 rfl),
methOk_of hs (allT e2 121 rfl),
methOk_of hs (allT e2 122 rfl),
clsOk_of (hs.K ▸ allT e2 123 rfl),
gv_of hs (allT e2 124 rfl),
keeps_of hs (allT e2 125 rfl),
makeOk_of hs (allT e2 126 rfl),
attOk_of hs (allT e2 127 rfl),
attOk_of hs (allT e2 128 rfl),
methOk_of hs (allT e2 129 rfl),
clsOk_of (hs.K ▸ allT e2 130 rfl),
gv_of hs (allT e2 131 rfl),
keeps_of hs (allT e2 132 rfl),
makeOk_of hs (allT e2 133 rfl),
attOk_of hs (allT e2 134 rfl),
attOk_of hs (allT e2 135 rfl),
attOk_of hs (allT e2 136 rfl),
methOk_of hs (allT e2 137 rfl),
methOk_of hs (allT e2 138 rfl),
methOk_of hs (allT e2 139 rfl),
clsOk_of (hs.K ▸ allT e2 140 rfl),
gv_of hs (allT e2 141 rfl),
keeps_of hs (allT e2 142 rfl),
makeOk_of hs (allT e2 143 rfl),
attOk_of hs (allT e2 144 rfl),
attOk_of hs (allT e2 145 rfl),
attOk_of hs (allT e2 146 rfl),
methOk_of hs (allT e2 147 rfl),
methOk_of hs (allT e2 148 rfl),
methOk_of hs (allT e2 149 rfl),
methOk_of hs (allT e2 150 rfl),
methOk_of hs (allT e2 151 rfl),
methOk_of hs (allT e2 152 rfl),
clsOk_of (hs.K ▸ allT e2 153 rfl),
gv_of hs (allT e2 154 rfl),
keeps_of hs (allT e2 155 rfl),
makeOk_of hs (allT e2 156 rfl),
attOk_of hs (allT e2 157 rfl),
attOk_of hs (allT e2 158 rfl),
attOk_of hs (allT e2 159 rfl),
attOk_of hs (allT e2 160 rfl),
attOk_of hs (allT e2 161 rfl),
attOk_of hs (allT e2 162 rfl),
attOk_of hs (allT e2 163 rfl),
attOk_of hs (allT e2 164 rfl),
attOk_of hs (allT e2 165 rfl),
attOk_of hs (allT e2 166 rfl),
attOk_of hs (allT e2 167 rfl),
attOk_of hs (allT e2 168 rfl),
attOk_of hs (allT e2 169 rfl),
gv_of hs (allT e2 170 rfl),
gv_of hs (allT e2 171 rfl),
gv_of hs (allT e2 172 rfl),
gv_of hs (allT e2 173 rfl),
gv_of hs (allT e2 174 rfl),
gv_of hs (allT e2 175 rfl),
gv_of hs (allT e2 176 rfl),
gv_of hs (allT e2 177 rfl),
gv_of hs (allT e2 178 rfl),
gv_of hs (allT e2 179 rfl),
gv_of hs (allT e2 180 rfl),
gv_of hs (allT e2 181 rfl),
gv_of hs (allT e2 182 rfl),
gv_of hs (allT e2 183 rfl),
gv_of hs (allT e2 184 rfl),
gv_of hs (allT e2 185 rfl),
gv_of hs (allT e2 186 rfl),
gv_of hs (allT e2 187 rfl),
gn_of hs rfl (by decide) (allT e2 188 rfl),
gn_of hs rfl (by decide) (allT e2 189 rfl),
gn_of hs rfl (by decide) (allT e2 190 rfl),
gn_of hs rfl (by decide) (allT e2 191 rfl),
gn_of hs rfl (by decide) (allT e2 192 rfl),
gn_of hs rfl (by decide) (allT e2 193 rfl),
gn_of hs rfl (by decide) (allT e2 194 rfl)⟩
noncomputable section
noncomputable abbrev pw : Program := PySem.Challenge.pw_og0293_01
noncomputable def hS0 (w : World) (os : OsState) : Shared := ⟨boot_heap w.params, Array.mk [], boot_drawn, boot_toks, os⟩
noncomputable def hEnv : Env := { scope := pw.main.scope, locals := mainNs, globals := mainNs, cells := [], code := .ref 13, frame := some 14 }
noncomputable abbrev hPos : Pos := ⟨0, 0, 0, 0⟩
noncomputable abbrev hB : List Stmt := behindTheImports pw
noncomputable abbrev hC : Code := .body hB hEnv
theorem fin_run {p : Program} {w : World} {nO : Nat} {ann : Option Value} {s : Shared} {c : Code} {pos q : Pos} : topRun treeTable p w nO ann 2 s ⟨doneF .next, c, pos, [topFrame q]⟩ = some s := by
  obtain ⟨h, g, d, t, o⟩ := s
  rfl
theorem run_all {p : Program} {w : World} {nO : Nat} {ann : Option Value} {sO s1 : Shared} {b : List Stmt} {env : Env} {pos pos2 pos3 q : Pos} {n1 n2 n3 : Nat} {T T' : SharedT}
   (h1 : topGo treeTable p w nO ann n1 sO (topStub p) = some (s1, ⟨denote treeTable (.body b env), .body b env, pos, [topFrame q]⟩))
   (h2 : segRun treeTable p w nO ann 1 n2 s1 (blockOf b env (.body b env) pos [topFrame q]) = some (.next, T.abs, .body b env, pos2))
   (h3 : segRunT treeTable p w nO ann 1 n3 T (piecesOf b env (.body b env) pos2 [topFrame q]) = some (.next, T', .body b env, pos3)) :
   topRun treeTable p w nO ann (n1 + (n2 + (n3 + 2))) sO (topStub p) = some T'.abs := by
  refine go_top h1 (piece_block h2 ?_)
  have := piece_app (rest := []) (segRun_of h3) (piece_nil (env := env) (fin_run (q := q)))
  rwa [List.append_nil] at this
noncomputable def hPre (w : World) (os : OsState) : Option (Shared × Thread) := topGo treeTable pw w 11 (some (.ref 6)) 12 (hS0 w os) (topStub pw)
noncomputable def hS (w : World) (os : OsState) : Shared := ((hPre w os).map (·.1)).getD (hS0 w os)
theorem pre_run (w : World) (os : OsState) : hPre w os = some (hS w os, ⟨denote treeTable hC, hC, hPos, [topFrame hPos]⟩) := by
  kernel_rfl
noncomputable def btOf (g : Nat → Obj) : Nat → BT
  | 0 => .nil
  | n + 1 => .node (g 0) (btOf (fun j => g (2 * j + 1)) n) (btOf (fun j => g (2 * j + 2)) n)
noncomputable def hT (w : World) (os : OsState) : SharedT :=
  { tree := btOf (fun i => (hS w os).heap.objs.toList.getD i default) 4, n := 15, life := (hS w os).heap.life, gens := (hS w os).gens, drawn := (hS w os).drawn, toks := (hS w os).toks, os := (hS w os).os }
theorem tree_abs (w : World) (os : OsState) : hS w os = (hT w os).abs := by kernel_rfl
theorem block_run (w : World) (os : OsState) : segRun treeTable pw w 11 (some (.ref 6)) 1 1 (hS w os) (blockOf hB hEnv hC hPos [topFrame hPos]) = some (.next, hS w os, hC, hPos) := by kernel_rfl
end
noncomputable section
theorem seg_of {p : Program} {w : World} {nO : Nat} {ann : Option Value} {b n : Nat} {s : SharedT} {sts : List Stmt} {env : Env} {c : Code} {pos : Pos} {B : List Frame} {α : Type} {f : Flow × SharedT × Code × Pos → α} {r : Option α}
   (h : (Fast.tw10110043849684766642 Fast.tw14364793385576792824 p w nO ann b n s ⟨(Fast.tw12563942051412417395 sts env).wrap doneF deadEnd id id, c, pos, B⟩).map f = r) :
   (segRunT treeTable p w nO ann b n s (piecesOf sts env c pos B)).map f = r := by
  unfold piecesOf
  rw [Fast.te10110043849684766642, Fast.te14364793385576792824, Fast.te12563942051412417395]
  exact h
noncomputable def hq : Program := view pw [83]
noncomputable def hLoose : List Str := (pw.main.scope.names.map (·.1)).filter (fun n => !(n == "law"))
noncomputable def hMods : List Str := importedModules pw.main.body
noncomputable def hLook (w : World) (s : Shared) := ((staticsOk hMods (boot_heap w.params) s.heap && namesBound pw s.heap && gensDone s && laidKept (boot_heap w.params) s.heap), Fast.tw4187177175401517315 hq hLoose hMods (fun _ => true) true s)
end
noncomputable section
noncomputable def hSeen (s : Shared) := (s.heap.isNs mainGlobals, fnL.map (fnSeen s.heap (fragOf s.heap asL)), (chkL s.heap (fragOf s.heap asL)).all id)
noncomputable def hAll (w : World) (s : Shared) := (hLook w s, hSeen s)
noncomputable def getT (T : SharedT) (a : Addr) : Option Obj := bif Nat.blt a T.n then (match T.tree.get a with | some o => alive o | none => T.abs.heap.get? a) else none
theorem getT_eq (T : SharedT) : T.abs.heap.get? = getT T := funext fun a => by
  unfold getT
  cases hb : Nat.blt a T.n with
  | true => cases hg : T.tree.get a with
    | some o => exact abs_get (Nat.le_of_ble_eq_true hb) hg
    | none => rfl
  | false => exact abs_get_none fun z => Bool.noConfusion (hb.symm.trans (Nat.ble_eq_true_of_le z))
theorem tA (w : World) (os : OsState) : (segRunT treeTable pw w 11 (some (.ref 6)) 1 7500 (hT w os) (piecesOf hB hEnv hC hPos [topFrame hPos])).map (fun r => (r.1, r.2.2.1, hLook w r.2.1.abs)) = some (.next, hC, (true, openGood hq hLoose)) := seg_of (by kernel_rfl)
theorem tB (w : World) (os : OsState) : (segRunT treeTable pw w 11 (some (.ref 6)) 1 7500 (hT w os) (piecesOf hB hEnv hC hPos [topFrame hPos])).map (fun r => (r.2.1.abs.heap.isNs mainGlobals, fnL.map (fnSeenG (getT r.2.1) (fragG (getT r.2.1) asL)), (chkL r.2.1.abs.heap (fragG (getT r.2.1) asL)).all id)) = some (true, fnE, true) := seg_of (by kernel_rfl)
theorem t4 (w : World) (os : OsState) : (segRunT treeTable pw w 11 (some (.ref 6)) 1 7500 (hT w os) (piecesOf hB hEnv hC hPos [topFrame hPos])).map (fun r => (r.1, r.2.2.1, hAll w r.2.1.abs)) = some (.next, hC, (true, openGood hq hLoose), (true, fnE, true)) := by
  obtain ⟨r, r1, r2⟩ := Option.map_eq_some_iff.mp (tA w os)
  obtain ⟨r', q1, q2⟩ := Option.map_eq_some_iff.mp (tB w os)
  cases Option.some.inj (r1.symm.trans q1)
  have e : hSeen r.2.1.abs = (true, fnE, true) := by
    unfold hSeen fnSeen fragOf
    rw [getT_eq]; exact q2
  refine Option.map_eq_some_iff.mpr ⟨r, r1, ?_⟩
  unfold hAll
  rw [e]
  rw [Prod.mk.injEq, Prod.mk.injEq] at r2
  rw [r2.1, r2.2.1, r2.2.2]
end
noncomputable abbrev rw_ : OpenLaw := PySem.Challenge.rw_og0293_01
theorem ints_of {R : WRecords} : ∀ xs : List WData, WShape.hasItems R xs .int = true → ∃ ks : List Int, xs = ks.map WData.int
  | [], _ => ⟨[], rfl⟩
  | x :: xs, h => by
    unfold WShape.hasItems at h
    obtain ⟨h1, h2⟩ := Bool.and_eq_true_iff.mp h
    obtain ⟨ks, rfl⟩ := ints_of xs h2
    cases x <;> first | exact (Bool.false_ne_true h1).elim | skip
    rename_i i
    exact ⟨i :: ks, rfl⟩
theorem args_of {args : List WData} (h : rw_.row.toRowW.claim.pre args = true) : ∃ ks : List Int, args = [.list (ks.map WData.int)] ∧ ks.length ≤ 63 := by
  obtain ⟨h1, h2⟩ := Bool.and_eq_true_iff.mp (show (WShape.hasAll [] args [.list .int] && WTm.holds [] rw_.pre { args := args }) = true from h)
  match args, h1, h2 with
  | [], h1, _ => cases h1
  | x :: y :: r, h1, _ => exact (Bool.false_ne_true (Bool.and_eq_true_iff.mp h1).2).elim
  | [x], h1, h2 =>
    have h1 : WShape.has [] x (.list .int) = true := (Bool.and_eq_true_iff.mp h1).1
    obtain ⟨xs, rfl⟩ : ∃ xs, x = .list xs := by
      cases x <;> first | exact (Bool.false_ne_true h1).elim | exact ⟨_, rfl⟩
    have h3 : WShape.hasItems [] xs .int = true := (Bool.or_eq_true_iff.mp h1).resolve_right Bool.false_ne_true
    obtain ⟨ks, rfl⟩ := ints_of xs h3
    refine ⟨ks, rfl, ?_⟩
    refine Decidable.byContradiction fun q => ?_
    have e0 : WTm.value [] (.not (.lt (.lit (.int 63)) (.len (.arg 0)))) { args := [WData.list (ks.map WData.int)] } = some (.bool (!decide ((63 : Int) < ((ks.map WData.int).length : Nat)))) := rfl
    rw [decide_eq_true (by simp; lia)] at e0
    have e : WTm.value [] rw_.pre { args := [WData.list (ks.map WData.int)] } = some (.bool false) := by
      show WTm.value [] (.and (.not (.lt (.lit (.int 63)) (.len (.arg 0)))) (.lit (.bool true))) _ = _
      unfold WTm.value
      rw [e0]; rfl
    unfold WTm.holds at h2
    rw [e] at h2
    cases h2
noncomputable section
noncomputable def hDef : DefRec := match pw.main.body[83]? with | some (PySem.Stmt.FunctionDef n a b _ _ _ sc _ _ p) => ⟨n, a, b, sc, p⟩ | _ => ⟨"", ⟨[], [], none, [], [], none, []⟩, [], ⟨.function, [], false, false, []⟩, ⟨0,0,0,0⟩⟩
theorem h_opening : opening pw = plainProg pw.main.scope.names := by kernel_rfl
theorem h_fence : ∀ s, fenceModules? pw s = some s := fun s => by kernel_rfl
theorem h_size (w : World) : ((boot_heap w.params).isNs mainGlobals && (Array.mk [] : Array GenState).size == 0, (boot_heap w.params).objs.size, (boot_heap w.params).nsMap mainGlobals "__annotations__") = (true, 11, some (.ref 6)) := by kernel_rfl
theorem top_ran (w : World) (os : OsState) : ∃ T : SharedT, topRun treeTable pw w 11 (some (.ref 6)) (12 + (1 + (7500 + 2))) (hS0 w os) (topStub pw) = some T.abs ∧ hAll w T.abs = ((true, openGood hq hLoose), (true, fnE, true)) := by
  obtain ⟨⟨fl, T, c, pos⟩, r1, r2⟩ := Option.map_eq_some_iff.mp (t4 w os)
  have c1 : fl = .next := congrArg Prod.fst r2
  have c2 : c = hC := congrArg (fun x => x.2.1) r2
  have c3 : hAll w T.abs = ((true, openGood hq hLoose), (true, fnE, true)) := congrArg (fun x => x.2.2) r2
  subst c1 c2
  have b := block_run w os
  have q := tree_abs w os
  have p := pre_run w os
  unfold hPre at p
  generalize hS w os = s1 at *
  subst q
  generalize hT w os = T0 at *
  exact ⟨T, run_all p b r1, c3⟩
theorem left_pieces {p q : Program} {loose : List Str} {Xt : Shared → Bool} {α : Type} {Yf : Shared → α} {Ya : World → α} {N : Nat} {g0 : Bool} {HO : Params → Heap} {gsO : Array GenState} {dO : Drawn} {kO : Nat} {mO : Nat} {ann : Option Value} {M : Nat}
    (open_ : ∀ w : World, (fencedOpening treeTable p w N).map (fun s => (s.heap, s.gens, s.drawn, s.toks)) = some (HO w.params, gsO, dO, kO))
    (size : ∀ w : World, ((HO w.params).isNs mainGlobals && gsO.size == 0, (HO w.params).objs.size, (HO w.params).nsMap mainGlobals "__annotations__") = (true, mO, ann))
    (le : M + (N - M) = N)
    (run : ∀ (w : World) (os : OsState), ∃ sK, topRun treeTable p w mO ann M ⟨HO w.params, gsO, dO, kO, os⟩ (topStub p) = some sK ∧
      (staticsOk (importedModules p.main.body) (HO w.params) sK.heap && namesBound p sK.heap && gensDone sK && laidKept (HO w.params) sK.heap) = true ∧
      openSeen q loose (importedModules p.main.body) Xt g0 sK = openGood q loose ∧ Yf sK = Ya w) : LeftO p q loose Xt Yf Ya N g0 := fun w => by
  obtain ⟨⟨h, gs, d, k, os⟩, e, e'⟩ := Option.map_eq_some_iff.mp (open_ w)
  obtain ⟨rfl, rfl, rfl, rfl⟩ : h = HO w.params ∧ gs = gsO ∧ d = dO ∧ k = kO := by simpa using e'
  obtain ⟨z1, z2, z3⟩ : _ ∧ _ ∧ _ := by simpa only [Prod.mk.injEq] using size w
  obtain ⟨sK, r, l1, l2, l3⟩ := run w os
  have r := topRun_mono (N - M) _ _ _ _ r
  rw [le] at r
  have t : topFrom treeTable p w N ⟨HO w.params, gs, d, k, os⟩ = some sK := by
    unfold topFrom
    dsimp only
    rw [z1, z2, z3, r]
    show (match staticsOk (importedModules p.main.body) (HO w.params) sK.heap && namesBound p sK.heap && gensDone sK && laidKept (HO w.params) sK.heap with | true => _ | false => _) = _
    rw [l1]
  unfold openEnds
  rw [e]
  show (topFrom treeTable p w N _).map _ = _
  rw [t]
  exact congrArg some (Prod.ext l2 l3)
theorem seen_of {q : Program} {loose mods : List Str} {Xt : Shared → Bool} {g0 : Bool} {s : Shared} {x} (h : Fast.tw4187177175401517315 q loose mods Xt g0 s = x) : openSeen q loose mods Xt g0 s = x := by
  rw [Fast.te4187177175401517315]; exact h
theorem h_left : LeftO pw hq hLoose (fun _ => true) hSeen (fun _ => (true, fnE, true)) 20000 :=
  left_pieces (boot_open (p := pw) (N := 20000) h_opening (by decide) h_fence) h_size (M := 12 + (1 + (7500 + 2))) (by decide) fun w os =>
    let ⟨T, r, a⟩ := top_ran w os
    ⟨T.abs, r, congrArg (fun x => x.1.1) a, seen_of (congrArg (fun x => x.1.2) a), congrArg (fun x => x.2) a⟩
end
noncomputable section
theorem h_def : defOf hq rw_.row.name = some (hDef, []) := by kernel_rfl
theorem h_the : rw_.row.prog.theDef rw_.row.name = some (hDef.params, hDef.body, hDef.scope) := by kernel_rfl
theorem h_kw : kwWritten? hDef.params.kwonlyargs hDef.params.kw_defaults = some [] := by kernel_rfl
theorem h_bare : rw_.row.prog.bare := ⟨rfl, rfl, rfl, rfl, rfl, by kernel_rfl⟩
theorem h_wr : (!rw_.row.writes || rw_.row.records.isEmpty) = true := by kernel_rfl
theorem h_ok1 : chainsOk hq = true := by kernel_rfl
theorem h_ok2 : opensWell rw_.row.prog = true := by kernel_rfl
theorem h_ok3 : (frees rw_.row.toRowW && rw_.row.within.isEmpty) = true := by kernel_rfl
theorem h_ok : (chainsOk hq && opensWell rw_.row.prog && (frees rw_.row.toRowW && rw_.row.within.isEmpty)) = true := by rw [h_ok1, h_ok2, h_ok3]; rfl
theorem h_prom : rw_.row.toRowW.promised := ⟨[.list []], by kernel_rfl, by kernel_rfl⟩
def YP (_w : World) (h' : Heap) : Prop := ∃ h : Heap, (∀ b o, h.get? b = some o → h'.get? b = some o) ∧ h.isNs mainGlobals = true ∧ fnL.map (fnSeen h (fragOf h asL)) = fnE ∧ (chkL h (fragOf h asL)).all id = true
theorem h_Y (w : World) (s : Shared) (e : hSeen s = (true, fnE, true)) : YP w s.heap :=
  ⟨s.heap, fun _ _ q => q, congrArg (fun x => x.1) e, congrArg (fun x => x.2.1) e, congrArg (fun x => x.2.2) e⟩
theorem h_Yk (w : World) (h h' : Heap) (Y : YP w h) (k : ∀ b o, h.get? b = some o → h'.get? b = some o) : YP w h' :=
  let ⟨g, a, b⟩ := Y; ⟨g, fun x o e => k _ _ (a x o e), b⟩
theorem ints_read {R : WRecords} {cl : Str → Option Addr} {h : Heap} : ∀ (ks : List Int) (vs : List Value) (as : List Addr), ReadsAllW R cl h vs (ks.map WData.int) as → ∀ am h', VRs am h' (ks.map V.int) vs
  | [], vs, as, r, am, h' => by cases r; unfold VRs; rfl
  | k :: ks, vs, as, r, am, h' => by
    cases r with
    | cons r1 r2 =>
      cases r1 with
      | int i t =>
        have ih := ints_read ks _ _ r2 am h'
        show VRs am h' (V.int k :: ks.map V.int) _
        unfold VRs
        exact ⟨_, _, rfl, by unfold VR; exact ⟨_, rfl⟩, ih⟩
theorem h_walk : WalkO hq hLoose (fun _ _ => True) YP rw_.row.toRowW hDef [] (fun f vs => PySem.call f vs) := by
  intro w sO sK mg mb G Y a o pm cd doc dV kV ho hd hcd hD hmg hgens args vals as hpre hlay hrd hwl hlo
  obtain ⟨h, hk, hi, e1, e2⟩ := Y
  have g0 : sK.heap.Ns mainGlobals (h.nsMap mainGlobals) := (Heap.Ns.of_isNs hi).keeps hk
  have ok : (Wd.mk pw w (fragOf h asL) sK.heap sK.os (h.nsMap mainGlobals) mb).Ok := ⟨(fragOf_in h asL).keeps hk, g0, G.T.b, G.T.nolimit, G.T.builtins⟩
  have X : Ctx (Wd.mk pw w (fragOf h asL) sK.heap sK.os (h.nsMap mainGlobals) mb) := ctx_of (h := h) ⟨hk, rfl, rfl, ok⟩ e1 e2
  obtain ⟨ks, rfl, hl⟩ := args_of hpre
  have hf : Value.ref a = u_law_law := by
    have q : mg "law" = some (.ref a) := hmg
    rw [G.T.g.agree g0 "law"] at q
    rcases X.g_law_law with ⟨v, h1, h2⟩ | ⟨h1, -⟩
    · have h1 : h.nsMap mainGlobals "law" = some v := h1
      unfold VR at h2
      rw [q] at h1
      cases h1; exact h2
    · have h1 : h.nsMap mainGlobals "law" = none := h1
      rw [q] at h1; cases h1
  cases hrd with
  | cons r1 r2 =>
    cases r2
    cases r1 with
    | list ha hc hdt hr =>
      rename_i sa so vs n xs
      have J := law_law (d := 0) X (sa := sa) (ks := ks) (ws := vs.toList) ⟨so, ha, hc, n, by rw [hdt, Array.toArray_toList]⟩ (ints_read ks _ _ hr) (by omega) (σ := []) (Q := fun c _ => c = .bool true) fun _ => rfl
      rw [hf]
      refine wpAny_mono (J.out callerA ⟨[], sK.heap⟩ sK [] [.ref sa] ⟨rfl, by decide, by decide⟩ ⟨⟨rfl, fun _ _ e => e, by simp, .nil, by simp⟩, ⟨[], rfl, by simp⟩, fun _ _ e _ _ => e⟩ ⟨hgens, rfl⟩ ⟨_, _, rfl, rfl, rfl⟩
        (fun v s' => GoodWG rw_.row.toRowW.claim (classAt sO.heap) (ExcName.means sO.heap) [.list (ks.map WData.int)] sK (.ok (.ret v)) s') fun v s' am' c σ' q rv I r => ?_) (fun _ _ q => q) fun _ _ q => q.elim
      subst q
      have rv : v = .bool true := rv
      subst rv
      refine ⟨.inl ⟨_, .bool true, [], rfl, fun _ => rfl, .bool true, by kernel_rfl, fun _ => ⟨.nil, by simp⟩⟩, .of_keep fun b o e => I.since.keep b o e (by simp [owns]) (by simp), r.2, .of_eq r.1⟩
theorem tb {a b : Bool} (h : a = true) (k : b = true) : (a && b) = true := by rw [h, k]; rfl
theorem h_lk (p : Program) (e : p = pw) : Fast.tw8326940854005059898 { strict := !R.allR (Fast.tw5923862056798008813 p.main.body) (Fast.tw3471404346716756564 Fast.tw17691160309236699985), foot := none, bare := R.filterR (Fast.tw13343964577679436407 p p.main.body) ["vars", "dir", "locals"] } p.main.body = true := by subst e; kernel_rfl
theorem h_look : Fast.tw12908688711261696721 pw = true := by
  unfold Fast.tw12908688711261696721
  refine tb (tb (tb (tb (tb ?_ ?_) ?_) ?_) (h_lk pw rfl)) ?_ <;> kernel_rfl
theorem h_row : Fast.tw17960256430627541270 (Fast.tw2368527892694137696 rw_) = true := by
  unfold Fast.tw17960256430627541270 Fast.tw2436336058641802641
  refine tb (tb (tb (tb (tb (tb (tb (tb (tb (tb (tb (tb (tb (tb (tb h_look ?_) ?_) ?_) ?_) ?_) ?_) ?_) ?_) ?_) ?_) ?_) ?_) ?_) ?_) ?_ <;> kernel_rfl
theorem h_said : rw_.wellSaid = true := by
  rw [Fast.te9446332074065402090]
  unfold Fast.tw9446332074065402090
  refine tb (tb (tb (tb (tb (tb (tb (tb (tb (tb (tb (tb (tb (tb (tb (tb (tb (tb h_row ?_) ?_) ?_) ?_) ?_) ?_) ?_) ?_) ?_) ?_) ?_) ?_) ?_) ?_) ?_) ?_) ?_) ?_ <;> kernel_rfl
theorem h_holds : rw_.Holds :=
  holds_law h_said fun k1 => holds_open (q := hq) (loose := hLoose) (Xt := fun _ => true) (XP := fun _ _ => True) (Yf := hSeen) (Ya := fun _ => (true, fnE, true)) (YP := YP) (d := hDef) (kwd := []) (N := 20000) h_left h_Y h_Yk
    (fun _ _ => trivial) (fun _ _ _ _ _ => trivial) h_def h_the h_kw (fun s _ => recFacts_of (R := []) (s := s) rfl) h_wr k1 h_ok h_bare h_prom h_walk
end
end Mine
theorem PySem.Challenge.cw_og0293_01_holds : PySem.Challenge.rw_og0293_01.Holds := by
  exact Mine.h_holds
