import PyProof.Rows.All
import Wide.All
import OpenK.AllK
import Wide.FinOn
import Open.SpecLaws
import KE.OsGo
import HandS.ForSpec
import HandS.Comp
import HandS.Dict
import HandS.Iter
import HandS.Walk
import HandS.Conv
import HandS.Zip
import HandS.More
import HandS.NoneIn
import HandS.CallLocal
import HandS.Deep
import PySem.Challenge.RW_gameforms_s01_answers
import HandS.Evl
import HandS.Steps
import HandS.Style
import KE.GoesMore
import KE.GoesNew
import KE.GoesEnum
import HandS.DictTup
import KE.KDictWalk
set_option Elab.async false
set_option linter.all false
set_option maxRecDepth 100000
section
set_option maxHeartbeats 4000000
local macro_rules | `(tactic| walk_at "wk") => `(tactic| repeat (first | exact trivial | refine ⟨Or.inr rfl, ?_⟩ | refine ⟨Or.inl rfl, ?_⟩))
/-! # The abstract layer: what an expression, a test, a statement, a walked thing is worth over abstract slots -/
namespace Gx
open PySem PySem.Spec PyProof.Rows L2
abbrev Mc := Su194.Mechanism
/-! ### data over a stable heap -/
mutual
inductive Rp (S : Hp) : V → PyData → Prop
  | non : Rp S .non .none
  | bl (b : Bool) : Rp S (.bl b) (.bool b)
  | int (i : Int) : Rp S (.int i) (.int i)
  | lst {a : Addr} {xs : List V} {ds : List PyData} : S a = some (.lst xs) → RpA S xs ds → Rp S (.ref a) (.list ds)
  | tup {a : Addr} {xs : List V} {ds : List PyData} : S a = some (.tup xs) → RpA S xs ds → Rp S (.ref a) (.tuple ds)
inductive RpA (S : Hp) : List V → List PyData → Prop
  | nil : RpA S [] []
  | cons {v : V} {vs : List V} {d : PyData} {ds : List PyData} : Rp S v d → RpA S vs ds → RpA S (v :: vs) (d :: ds)
end
section
variable {S S' : Hp}
mutual
theorem Rp.mono (e : Same S S') : ∀ (d : PyData) (v : V), Rp S v d → Rp S' v d
  | .none, _, h => by cases h; exact .non
  | .bool b, _, h => by cases h; exact .bl b
  | .int i, _, h => by cases h; exact .int i
  | .str _, _, h => by cases h
  | .list ds, _, h => by
    cases h with
    | lst h1 h2 => exact .lst (e _ _ h1) (RpA.mono e ds _ h2)
  | .tuple ds, _, h => by
    cases h with
    | tup h1 h2 => exact .tup (e _ _ h1) (RpA.mono e ds _ h2)
  | .dict _, _, h => by cases h
theorem RpA.mono (e : Same S S') : ∀ (ds : List PyData) (vs : List V), RpA S vs ds → RpA S' vs ds
  | [], _, h => by cases h; exact .nil
  | d :: ds, _, h => by
    cases h with
    | cons h1 h2 => exact .cons (Rp.mono e d _ h1) (RpA.mono e ds _ h2)
end
theorem Rp.up (e : Same S S') {d : PyData} {v : V} (h : Rp S v d) : Rp S' v d := Rp.mono e d v h
theorem RpA.up (e : Same S S') {ds : List PyData} {vs : List V} (h : RpA S vs ds) : RpA S' vs ds := RpA.mono e ds vs h
mutual
theorem Rp.dp {K : PySem.W.Frag} : ∀ (d : PyData) (v : V), Rp S v d → Dp K S v d
  | .none, _, h => by cases h; exact .non
  | .bool b, _, h => by cases h; exact .bl b
  | .int i, _, h => by cases h; exact .int i
  | .str _, _, h => by cases h
  | .list ds, _, h => by
    cases h with
    | lst h1 h2 => exact .lst (SqL.of h1) (RpA.dp ds _ h2)
  | .tuple ds, _, h => by
    cases h with
    | tup h1 h2 => exact .tup (SqT.of h1) (RpA.dp ds _ h2)
  | .dict _, _, h => by cases h
theorem RpA.dp {K : PySem.W.Frag} : ∀ (ds : List PyData) (vs : List V), RpA S vs ds → DpAll K S vs ds
  | [], _, h => by cases h; exact .nil
  | d :: ds, _, h => by
    cases h with
    | cons h1 h2 => exact .cons (Rp.dp d _ h1) (RpA.dp ds _ h2)
end
theorem RpA.len : ∀ {vs : List V} {ds : List PyData}, RpA S vs ds → vs.length = ds.length
  | _, _, .nil => rfl
  | _, _, .cons _ t => congrArg (· + 1) (RpA.len t)
theorem RpA.app : ∀ {vs ws : List V} {ds es : List PyData}, RpA S vs ds → RpA S ws es → RpA S (vs ++ ws) (ds ++ es)
  | _, _, _, _, .nil, h => h
  | _, _, _, _, .cons a t, h => .cons a (RpA.app t h)
theorem RpA.one {v : V} {d : PyData} (h : Rp S v d) : RpA S [v] [d] := .cons h .nil
theorem RpA.get : ∀ {vs : List V} {ds : List PyData} {i : Nat} {v : V}, RpA S vs ds → vs[i]? = some v → ∃ d, ds[i]? = some d ∧ Rp S v d
  | _, _, _, _, .nil, h => by simp at h
  | _, _, 0, _, .cons a _, h => by simp at h; subst h; exact ⟨_, rfl, a⟩
  | _, _, i + 1, _, .cons _ t, h => by
    obtain ⟨d, h1, h2⟩ := RpA.get (i := i) t (by simpa using h)
    exact ⟨d, by simpa using h1, h2⟩
theorem RpA.getd : ∀ {vs : List V} {ds : List PyData} {i : Nat} {d : PyData}, RpA S vs ds → ds[i]? = some d → ∃ v, vs[i]? = some v ∧ Rp S v d
  | _, _, _, _, .nil, h => by simp at h
  | _, _, 0, _, .cons a _, h => by simp at h; subst h; exact ⟨_, rfl, a⟩
  | _, _, i + 1, _, .cons _ t, h => by
    obtain ⟨d, h1, h2⟩ := RpA.getd (i := i) t (by simpa using h)
    exact ⟨d, by simpa using h1, h2⟩
theorem RpA.set : ∀ {vs : List V} {ds : List PyData} (i : Nat) {v : V} {d : PyData}, RpA S vs ds → Rp S v d → RpA S (vs.set i v) (ds.set i d)
  | _, _, _, _, _, .nil, _ => .nil
  | _, _, 0, _, _, .cons _ t, h => .cons h t
  | _, _, i + 1, _, _, .cons a t, h => .cons a (RpA.set i t h)
theorem RpA.take : ∀ {vs : List V} {ds : List PyData} (i : Nat), RpA S vs ds → RpA S (vs.take i) (ds.take i)
  | _, _, 0, _ => .nil
  | _, _, _ + 1, .nil => .nil
  | _, _, i + 1, .cons a t => .cons a (RpA.take i t)
theorem RpA.drop : ∀ {vs : List V} {ds : List PyData} (i : Nat), RpA S vs ds → RpA S (vs.drop i) (ds.drop i)
  | _, _, 0, h => h
  | _, _, _ + 1, .nil => .nil
  | _, _, i + 1, .cons _ t => RpA.drop i t
theorem RpA.rep {v : V} {d : PyData} (h : Rp S v d) : ∀ n, RpA S (List.replicate n v) (List.replicate n d)
  | 0 => .nil
  | n + 1 => .cons h (RpA.rep h n)
theorem RpA.ints : ∀ {vs : List V} {ns : List Int}, RpA S vs (ns.map PyData.int) → vs = ns.map V.int
  | _, [], h => by cases h; rfl
  | _, n :: ns, h => by
    cases h with
    | cons a t => cases a; rw [RpA.ints t]; rfl
theorem RpA.bools : ∀ {vs : List V} {bs : List Bool}, RpA S vs (bs.map PyData.bool) → vs = bs.map V.bl
  | _, [], h => by cases h; rfl
  | _, n :: ns, h => by
    cases h with
    | cons a t => cases a; rw [RpA.bools t]; rfl
end
/-! ### encodings -/
abbrev nI (n : Nat) : PyData := .int (n : Int)
abbrev nL (l : List Nat) : PyData := .list (l.map nI)
abbrev bL (l : List Bool) : PyData := .list (l.map PyData.bool)
abbrev nLL (l : List (List Nat)) : PyData := .list (l.map nL)
abbrev iL (l : List Int) : PyData := .list (l.map PyData.int)
/-! ### growth of the stable heap beside the heap -/
structure Gr (S H S' H' : Hp) : Prop where
  s : Same S S'
  h : Same H H'
  sub : Same S' H'
  fr : ∀ a o, S' a = some o → S a = none → H a = none
theorem Gr.refl {S H : Hp} (e : Same S H) : Gr S H S H := ⟨Same.refl _, Same.refl _, e, fun a o h1 h2 => by rw [h1] at h2; cases h2⟩
theorem Gr.trans {S H S1 H1 S2 H2 : Hp} (a : Gr S H S1 H1) (b : Gr S1 H1 S2 H2) : Gr S H S2 H2 :=
  ⟨a.s.trans b.s, a.h.trans b.h, b.sub, fun p o h1 h2 => by
    cases e : S1 p with
    | none => exact a.h.free (b.fr p o h1 e)
    | some o1 => exact a.fr p o1 e h2⟩
/-- an address of the heap that is not stable stays so -/
theorem Gr.keepNone {S H S' H' : Hp} (g : Gr S H S' H') {a : Addr} {o : HO} (h1 : S a = none) (h2 : H a = some o) : S' a = none := by
  cases e : S' a with
  | none => rfl
  | some o1 =>
    have := g.fr a o1 e h1
    rw [h2] at this
    cases this
/-- the heap alone grows -/
theorem Gr.grow {S H S' H' H2 : Hp} (g : Gr S H S' H') (e : Same H' H2) : Gr S H S' H2 := ⟨g.s, g.h.trans e, g.sub.trans e, g.fr⟩
/-- a new object is laid and made stable -/
theorem Gr.new {S H : Hp} (e : Same S H) {p : Addr} {o : HO} (hp : H p = none) : Gr S H (upd S p o) (upd H p o) := by
  have hs : S p = none := e.free hp
  refine ⟨fun a u ha => by rw [upd_ne (ne_of_none ha hs)]; exact ha, fun a u ha => by rw [upd_ne (ne_of_none ha hp)]; exact ha, fun a u ha => ?_, fun a u ha hn => ?_⟩
  · by_cases q : a = p
    · subst q; rw [upd_same] at ha ⊢; exact ha
    · rw [upd_ne q] at ha ⊢; exact e a u ha
  · by_cases q : a = p
    · subst q; exact hp
    · rw [upd_ne q] at ha; rw [ha] at hn; cases hn
theorem same_new {H : Hp} {p : Addr} {o : HO} (hp : H p = none) : Same H (upd H p o) := fun a u ha => by rw [upd_ne (ne_of_none ha hp)]; exact ha
/-- an object that stands in the heap, unknown at the start, is made stable -/
theorem Gr.freeze {S0 B S H : Hp} (g : Gr S0 B S H) {p : Addr} {o : HO} (hp : H p = some o) (hs : S p = none) (hb : B p = none) : Gr S0 B (upd S p o) H := by
  refine ⟨g.s.trans (same_new hs), g.h, fun a u ha => ?_, fun a u ha hn => ?_⟩
  · by_cases q : a = p
    · subst q; rw [upd_same] at ha; rw [hp]; exact ha
    · rw [upd_ne q] at ha; exact g.sub a u ha
  · by_cases q : a = p
    · subst q; exact hb
    · rw [upd_ne q] at ha; exact g.fr a u ha hn
/-! ### slots -/
inductive Sl
  | any
  | dat (d : PyData)
  | sq (ns : List Int)
  | ins (m : Mc)
  | ol (ds : List PyData)
  | od (kvs : List (List Nat × Bool))
def Sl.isOwn : Sl → Bool
  | .ol _ => true
  | .od _ => true
  | _ => false
def flds (m : Mc) (pd pt pm pk : Addr) : List (Str × V) :=
  [("agent_count", .int (m.target.agentCount : Int)), ("alternative_count", .int (m.target.alternativeCount : Int)), ("domains", .ref pd), ("target", .ref pt), ("message_counts", .ref pm), ("mechanism", .ref pk)]
structure InsAt (C : Addr) (S I : Hp) (a : Addr) (m : Mc) (dx pd pt pm pk : Addr) (rs : List V) : Prop where
  at_ : I a = some (.ins C dx (flds m pd pt pm pk))
  sa : S a = none
  pd_ : I pd = some (.lst rs)
  spd : S pd = none
  dom : RpA S rs (m.target.domains.map nLL)
  tg : Rp S (.ref pt) (nL m.target.outcomes)
  mc : Rp S (.ref pm) (nL m.messageCounts)
  me : Rp S (.ref pk) (nL m.outcomes)
def keyT (l : List Nat) : List Key := l.map fun n : Nat => (Sum.inl (n : Int) : Key)
def odV (kvs : List (List Nat × Bool)) : List (List Key × V) := kvs.map fun p => (keyT p.1, V.bl p.2)
def SlR (K : PySem.W.Frag) (C : Addr) (B S I H : Hp) (v : V) : Sl → Prop
  | .any => True
  | .dat d => Rp S v d
  | .sq ns => ∃ a, v = .ref a ∧ SqL K S a (ns.map V.int)
  | .ins m => ∃ a dx pd pt pm pk rs, v = .ref a ∧ InsAt C S I a m dx pd pt pm pk rs
  | .ol ds => ∃ a xs, v = .ref a ∧ S a = none ∧ I a = none ∧ B a = none ∧ H a = some (.lst xs) ∧ RpA S xs ds
  | .od kvs => ∃ a, v = .ref a ∧ S a = none ∧ I a = none ∧ B a = none ∧ H a = some (.dT (odV kvs))
section
variable {K : PySem.W.Frag} {C : Addr} {B S I H S' H' : Hp}
theorem SlR.up (g : Gr S H S' H') (i : Same I H) {v : V} : ∀ {x : Sl}, SlR K C B S I H v x → SlR K C B S' I H' v x
  | .any, _ => trivial
  | .dat d, h => Rp.up (d := d) g.s h
  | .sq ns, ⟨a, e, h⟩ => ⟨a, e, Same.seq g.s h⟩
  | .ins m, ⟨a, dx, pd, pt, pm, pk, rs, e, h⟩ => ⟨a, dx, pd, pt, pm, pk, rs, e, ⟨h.at_, g.keepNone h.sa (i _ _ h.at_), h.pd_, g.keepNone h.spd (i _ _ h.pd_), RpA.up g.s h.dom, Rp.up g.s h.tg, Rp.up g.s h.mc, Rp.up g.s h.me⟩⟩
  | .ol ds, ⟨a, xs, e, h1, h2, h3, h4, h5⟩ => ⟨a, xs, e, g.keepNone h1 h4, h2, h3, g.h _ _ h4, RpA.up g.s h5⟩
  | .od kvs, ⟨a, e, h1, h2, h3, h4⟩ => ⟨a, e, g.keepNone h1 h4, h2, h3, g.h _ _ h4⟩
/-- what is not one's own does not lean on the heaps B, H -/
theorem SlR.free {B' : Hp} {v : V} : ∀ {x : Sl}, x.isOwn = false → SlR K C B S I H v x → SlR K C B' S I H' v x
  | .any, _, _ => trivial
  | .dat _, _, h => h
  | .sq _, _, h => h
  | .ins _, _, h => h
  | .ol _, e, _ => by cases e
  | .od _, e, _ => by cases e
/-- the slots -/
structure EnvR (K : PySem.W.Frag) (C : Addr) (B S I H : Hp) (σ : L2.St) (ρ : List Sl) : Prop where
  len : σ.length = ρ.length
  at_ : ∀ (i : Nat) (x : Sl), ρ[i]? = some x → x = .any ∨ ∃ v, σ[i]? = some (some v) ∧ SlR K C B S I H v x
theorem EnvR.up {σ : L2.St} {ρ : List Sl} (g : Gr S H S' H') (i : Same I H) (r : EnvR K C B S I H σ ρ) : EnvR K C B S' I H' σ ρ :=
  ⟨r.len, fun j x h => by
    rcases r.at_ j x h with e | ⟨v, h1, h2⟩
    · exact .inl e
    · exact .inr ⟨v, h1, h2.up g i⟩⟩
theorem EnvR.set {σ : L2.St} {ρ : List Sl} (r : EnvR K C B S I H σ ρ) (j : Nat) {v : V} {x : Sl} (h : SlR K C B S I H v x) : EnvR K C B S I H (σ.set j (some v)) (ρ.set j x) :=
  ⟨by rw [List.length_set, List.length_set, r.len], fun i y hy => by
    by_cases e : j = i
    · subst e
      have hl : j < ρ.length := by
        have := (List.getElem?_eq_some_iff.mp hy).1
        rwa [List.length_set] at this
      rw [List.getElem?_set_self hl] at hy
      cases hy
      exact .inr ⟨v, List.getElem?_set_self (by rw [r.len]; exact hl), h⟩
    · rw [List.getElem?_set_ne e] at hy
      rcases r.at_ i y hy with q | ⟨w, h1, h2⟩
      · exact .inl q
      · exact .inr ⟨w, by rw [List.getElem?_set_ne e]; exact h1, h2⟩⟩
theorem EnvR.setAny {σ : L2.St} {ρ : List Sl} (r : EnvR K C B S I H σ ρ) (j : Nat) (x : Option V) : EnvR K C B S I H (σ.set j x) (ρ.set j .any) :=
  ⟨by rw [List.length_set, List.length_set, r.len], fun i y hy => by
    by_cases e : j = i
    · subst e
      have hl : j < ρ.length := by
        have := (List.getElem?_eq_some_iff.mp hy).1
        rwa [List.length_set] at this
      rw [List.getElem?_set_self hl] at hy
      cases hy
      exact .inl rfl
    · rw [List.getElem?_set_ne e] at hy
      rcases r.at_ i y hy with q | ⟨w, h1, h2⟩
      · exact .inl q
      · exact .inr ⟨w, by rw [List.getElem?_set_ne e]; exact h1, h2⟩⟩
def Wk : List Sl → List Sl → Prop
  | [], [] => True
  | a :: r, b :: s => (a = b ∨ b = .any) ∧ Wk r s
  | _, _ => False
theorem Wk.refl : ∀ ρ : List Sl, Wk ρ ρ
  | [] => trivial
  | _ :: r => ⟨.inl rfl, Wk.refl r⟩
theorem Wk.len : ∀ {ρ ρ' : List Sl}, Wk ρ ρ' → ρ.length = ρ'.length
  | [], [], _ => rfl
  | _ :: _, _ :: _, h => congrArg (· + 1) (Wk.len h.2)
  | [], _ :: _, h => h.elim
  | _ :: _, [], h => h.elim
theorem Wk.at_ : ∀ {ρ ρ' : List Sl}, Wk ρ ρ' → ∀ (i : Nat) (x : Sl), ρ'[i]? = some x → x = .any ∨ ρ[i]? = some x
  | [], [], _, _, _, h => by simp at h
  | a :: r, b :: s, h, 0, x, e => by
    simp at e
    subst e
    rcases h.1 with q | q
    · exact .inr (by simp [q])
    · exact .inl q
  | a :: r, b :: s, h, i + 1, x, e => by
    rcases Wk.at_ h.2 i x (by simpa using e) with q | q
    · exact .inl q
    · exact .inr (by simpa using q)
  | [], _ :: _, h, _, _, _ => h.elim
  | _ :: _, [], h, _, _, _ => h.elim
theorem EnvR.wk {σ : L2.St} {ρ ρ' : List Sl} (r : EnvR K C B S I H σ ρ) (w : Wk ρ ρ') : EnvR K C B S I H σ ρ' :=
  ⟨r.len.trans w.len, fun i x h => by
    rcases w.at_ i x h with q | q
    · exact .inl q
    · exact r.at_ i x q⟩
theorem EnvR.var {σ : L2.St} {ρ : List Sl} (r : EnvR K C B S I H σ ρ) {i : Nat} {x : Sl} (h : ρ[i]? = some x) (hx : x ≠ .any) : ∃ v, σ[i]? = some (some v) ∧ SlR K C B S I H v x := by
  rcases r.at_ i x h with e | e
  · exact absurd e hx
  · exact e
/-- a change of one object that is not stable, nor the instance's: the other slots stand, where none of them is one's own -/
theorem EnvR.upd {σ : L2.St} {ρ : List Sl} (r : EnvR K C B S I H σ ρ) {p : Addr} {o : HO} (hn : ρ.all (fun x => !x.isOwn) = true) : EnvR K C B S I (upd H p o) σ ρ :=
  ⟨r.len, fun i x h => by
    rcases r.at_ i x h with e | ⟨v, h1, h2⟩
    · exact .inl e
    · refine .inr ⟨v, h1, h2.free ?_⟩
      have := List.all_eq_true.mp hn x (List.mem_of_getElem? h)
      simpa using this⟩
end
/-! ### the judgements -/
section
variable (K : PySem.W.Frag) (C : Addr)
def E (te : TE) (ρ : List Sl) (x : Sl) : Prop := ∀ (B S I H : Hp) (σ : L2.St), Same S H → Same I H → EnvR K C B S I H σ ρ → ∀ Q : VK, (∀ v S' H', Gr S H S' H' → SlR K C B S' I H' v x → Q v H') → te σ H Q
/-- a new list, at an address of its own -/
def EN (te : TE) (ρ : List Sl) (ds : List PyData) : Prop := ∀ (B S I H : Hp) (σ : L2.St), Same S H → Same I H → EnvR K C B S I H σ ρ →
  ∀ Q : VK, (∀ p xs S' H', Gr S H S' H' → H p = none → S' p = none → H' p = some (.lst xs) → RpA S' xs ds → Q (.ref p) H') → te σ H Q
def ET (tt : TT) (ρ : List Sl) (b : Bool) : Prop := ∀ (B S I H : Hp) (σ : L2.St), Same S H → Same I H → EnvR K C B S I H σ ρ → ∀ Q : Bool → Hp → Prop, (∀ S' H', Gr S H S' H' → Q b H') → tt σ H Q
inductive SlRs (B S I H : Hp) : List V → List Sl → Prop
  | nil : SlRs B S I H [] []
  | cons {v : V} {vs : List V} {x : Sl} {xs : List Sl} : SlR K C B S I H v x → SlRs B S I H vs xs → SlRs B S I H (v :: vs) (x :: xs)
def EA (ta : TA) (ρ : List Sl) (xs : List Sl) : Prop := ∀ (B S I H : Hp) (σ : L2.St), Same S H → Same I H → EnvR K C B S I H σ ρ → ∀ Q : List V → Hp → Prop, (∀ vs S' H', Gr S H S' H' → SlRs K C B S' I H' vs xs → Q vs H') → ta σ H Q
/-- an optional part of a slice -/
def EO (to : TO) (ρ : List Sl) (o : Option Int) : Prop := ∀ (B S I H : Hp) (σ : L2.St), Same S H → Same I H → EnvR K C B S I H σ ρ → ∀ Q : Option Int → Hp → Prop, (∀ S' H', Gr S H S' H' → Q o H') → to σ H Q
structure IterOk (J : It) (S I : Hp) (ds : List PyData) : Prop where
  ex : ∃ (G : Hp → Prop) (Y : Nat → Hp → V → Hp → Prop), Walk J ds.length G Y ∧ (∀ H, Same S H → Same I H → G H) ∧
    ∀ (i : Nat) (d : PyData) (H : Hp) (x : V) (H' : Hp), ds[i]? = some d → Same S H → Same I H → Y i H x H' → ∀ S1, Same S S1 → Same S1 H → ∃ S2, Gr S1 H S2 H' ∧ Rp S2 x d
def EI (wi : TI) (ρ : List Sl) (ds : List PyData) : Prop := ∀ (B S I H : Hp) (σ : L2.St), Same S H → Same I H → EnvR K C B S I H σ ρ → ∀ R : It → Hp → Prop, (∀ J S' H', Gr S H S' H' → IterOk J S' I ds → R J H') → wi σ H R
/-- a target takes d: from the slots ρ to the slots ρ'; js: the slots that it sets -/
def GA (g : TG) (js : List Nat) (ρ : List Sl) (d : PyData) (ρ' : List Sl) : Prop := ∀ (B S I H : Hp) (σ : L2.St) (v : V), Same S H → EnvR K C B S I H σ ρ → Rp S v d →
  ∀ Q : L2.St → Hp → Prop, (∀ σ', EnvR K C B S I H σ' ρ' → (∀ vs, (∀ j ∈ js, j ∈ vs) → wipe σ' vs = wipe σ vs) → Q σ' H) → g v σ H Q
inductive Out
  | nx (ρ : List Sl)
  | rt (d : PyData)
/-- what is wanted behind a statement: the stable heap grows -/
def OutK (D : Ends) (S0 B S I : Hp) : Out → Prop
  | .nx ρ' => ∀ σ' S' H', Same S S' → Gr S0 B S' H' → EnvR K C B S' I H' σ' ρ' → D.nx σ' H'
  | .rt d => ∀ v S' H', Gr S0 B S' H' → Rp S' v d → D.rt v H'
def X (ts : TS) (ρ : List Sl) (o : Out) : Prop := ∀ (S0 B S I H : Hp) (σ : L2.St) (D : Ends), Gr S0 B S H → Same I B → EnvR K C B S I H σ ρ → OutK K C D S0 B S I o → ts D σ H
theorem OutK.up {D : Ends} {S0 B S S1 I : Hp} (e : Same S S1) : ∀ {o : Out}, OutK K C D S0 B S I o → OutK K C D S0 B S1 I o
  | .nx _, k => fun σ' S' H' e' g en => k σ' S' H' (e.trans e') g en
  | .rt _, k => k
/-- the promise of a def that changes nothing -/
def spF (P : List Sl → PyData → Prop) : Sp := fun vs H Q _ => ∃ S I xs d, Same S H ∧ Same I H ∧ SlRs K C H S I H vs xs ∧ P xs d ∧ ∀ v S' H', Gr S H S' H' → Rp S' v d → Q v H'
end
end Gx
namespace Gx
open PySem PySem.Spec PyProof.Rows L2
/-! ### the readings' operators by name -/
def rAddI : R2 := rI0 fun i j => .int (i + j)
def rSubI : R2 := rI0 fun i j => .int (i - j)
def rMulI : R2 := rI CMul fun i j => .int (i * j)
def rDivI : R2 := rI CDivN fun i j => .int (i.fdiv j)
def rModI : R2 := rI (fun _ j => j ≠ 0) fun i j => .int (i.fmod j)
def rLtI : R2 := rI0 fun i j => .bl (decide (i < j))
def rLeI : R2 := rI0 fun i j => .bl (decide (i ≤ j))
def rGtI : R2 := rI0 fun i j => .bl (decide (j < i))
def rGeI : R2 := rI0 fun i j => .bl (decide (j ≤ i))
def rNoN : R2 := fun x y H Q => y = .non ∧ Q (.bl (!decide (x = .non))) H
abbrev rLenS := Evl.rLenS
abbrev rListS := Evl.rListS
def rTupS (K : PySem.W.Frag) : List V → Hp → VK → Prop := fun xs H Q => ∃ p ys, xs = [.ref p] ∧ ((SqL K H p ys ∧ ∀ l, H l = none → Q (.ref l) (upd H l (.tup ys))) ∨ (SqT K H p ys ∧ Q (.ref p) H))
def rInt1 : List V → Hp → VK → Prop := fun xs H Q => (∃ i, xs = [.int i] ∧ Q (.int i) H) ∨ ∃ k, xs = [.bl k] ∧ Q (.int (if k then 1 else 0)) H
section
variable {K : PySem.W.Frag} {C : Addr} {ρ : List Sl}
/-! ### names, constants -/
theorem e_var {i : Nat} {x : Sl} (h : ρ[i]? = some x) (hx : x ≠ .any := by intro h; cases h) : E K C (tVar i) ρ x := fun B S I H σ hs hi r Q q => by
  obtain ⟨v, h1, h2⟩ := r.var h hx
  exact ⟨v, h1, q v S H (Gr.refl hs) h2⟩
theorem e_cI {n : Int} : E K C (tC (.int n)) ρ (.dat (.int n)) := fun B S I H σ hs hi r Q q => q _ S H (Gr.refl hs) (.int n)
theorem e_cN {i : Int} (n : Nat) (h : i = (n : Int) := by rfl) : E K C (tC (.int i)) ρ (.dat (nI n)) := by
  subst h
  exact e_cI
theorem e_cB {b : Bool} : E K C (tC (.bl b)) ρ (.dat (.bool b)) := fun B S I H σ hs hi r Q q => q _ S H (Gr.refl hs) (.bl b)
theorem e_cZ : E K C (tC .non) ρ (.dat .none) := fun B S I H σ hs hi r Q q => q _ S H (Gr.refl hs) .non
theorem e_is {te : TE} {d d' : PyData} (h : E K C te ρ (.dat d)) (e : d = d') : E K C te ρ (.dat d') := e ▸ h
theorem et_is {te : TT} {b b' : Bool} (h : ET K C te ρ b) (e : b = b') : ET K C te ρ b' := e ▸ h
/-! ### two operands, nothing made -/
theorem e_bin {r : R2} {ta tb : TE} {x y : Sl} {z : PyData} (ha : E K C ta ρ x) (hb : E K C tb ρ y)
    (hr : ∀ (B S I H : Hp) (v w : V), Same S H → Same I H → SlR K C B S I H v x → SlR K C B S I H w y → ∀ Q : VK, (∀ u, Rp S u z → Q u H) → r v w H Q) : E K C (tOp r ta tb) ρ (.dat z) := fun B S I H σ hs hi en Q q =>
  ha B S I H σ hs hi en _ fun v S1 H1 g1 s1 => hb B S1 I H1 σ g1.sub (hi.trans g1.h) (en.up g1 hi) _ fun w S2 H2 g2 s2 =>
    hr B S2 I H2 v w g2.sub ((hi.trans g1.h).trans g2.h) (s1.up g2 (hi.trans g1.h)) s2 _ fun u hu => q u S2 H2 (g1.trans g2) hu
theorem e_opI {h : Int → Int → Int} {ta tb : TE} {i j : Int} (ha : E K C ta ρ (.dat (.int i))) (hb : E K C tb ρ (.dat (.int j))) : E K C (tOp (rI0 fun i j => .int (h i j)) ta tb) ρ (.dat (.int (h i j))) :=
  e_bin ha hb fun B S I H v w _ _ a b Q q => by cases a; cases b; exact ⟨i, j, rfl, rfl, q _ (.int _)⟩
theorem e_opB {h : Int → Int → Bool} {ta tb : TE} {i j : Int} (ha : E K C ta ρ (.dat (.int i))) (hb : E K C tb ρ (.dat (.int j))) : E K C (tOp (rI0 fun i j => .bl (h i j)) ta tb) ρ (.dat (.bool (h i j))) :=
  e_bin ha hb fun B S I H v w _ _ a b Q q => by cases a; cases b; exact ⟨i, j, rfl, rfl, q _ (.bl _)⟩
theorem e_add {ta tb : TE} {i j : Nat} (ha : E K C ta ρ (.dat (nI i))) (hb : E K C tb ρ (.dat (nI j))) : E K C (tOp rAddI ta tb) ρ (.dat (nI (i + j))) :=
  e_is (e_opI (h := fun i j => i + j) ha hb) (congrArg PyData.int (by omega))
theorem e_sub {ta tb : TE} {i j : Nat} (ha : E K C ta ρ (.dat (nI i))) (hb : E K C tb ρ (.dat (nI j))) (hj : j ≤ i) : E K C (tOp rSubI ta tb) ρ (.dat (nI (i - j))) :=
  e_is (e_opI (h := fun i j => i - j) ha hb) (congrArg PyData.int (by omega))
theorem e_mul {ta tb : TE} {i j : Nat} (ha : E K C ta ρ (.dat (nI i))) (hb : E K C tb ρ (.dat (nI j))) (hj : j ≤ 4294967296) : E K C (tOp rMulI ta tb) ρ (.dat (nI (i * j))) :=
  e_bin ha hb fun B S I H v w _ _ a b Q q => by
    cases a
    cases b
    refine ⟨_, _, rfl, rfl, .inr ⟨by omega, by omega⟩, ?_⟩
    have e : ((i : Int) * (j : Int)) = ((i * j : Nat) : Int) := (Int.natCast_mul i j).symm
    show Q (.int ((i : Int) * (j : Int))) H
    rw [e]
    exact q _ (.int _)
theorem e_div {ta tb : TE} {i j : Nat} (ha : E K C ta ρ (.dat (nI i))) (hb : E K C tb ρ (.dat (nI j))) (hj : 0 < j) (hj2 : j < 1073741824) : E K C (tOp rDivI ta tb) ρ (.dat (nI (i / j))) :=
  e_bin ha hb fun B S I H v w _ _ a b Q q => by
    cases a
    cases b
    refine ⟨_, _, rfl, rfl, ⟨by omega, by omega⟩, ?_⟩
    have e : ((i : Int).fdiv (j : Int)) = ((i / j : Nat) : Int) := by
      rw [Int.fdiv_eq_ediv_of_nonneg _ (by omega)]
      exact (Int.natCast_ediv i j).symm
    show Q (.int ((i : Int).fdiv (j : Int))) H
    rw [e]
    exact q _ (.int _)
theorem e_mod {ta tb : TE} {i j : Nat} (ha : E K C ta ρ (.dat (nI i))) (hb : E K C tb ρ (.dat (nI j))) (hj : 0 < j) : E K C (tOp rModI ta tb) ρ (.dat (nI (i % j))) :=
  e_bin ha hb fun B S I H v w _ _ a b Q q => by
    cases a
    cases b
    refine ⟨_, _, rfl, rfl, (by show (j : Int) ≠ 0; omega), ?_⟩
    have e : ((i : Int).fmod (j : Int)) = ((i % j : Nat) : Int) := by
      rw [Int.fmod_eq_emod_of_nonneg _ (by omega)]
      exact (Int.natCast_emod i j).symm
    show Q (.int ((i : Int).fmod (j : Int))) H
    rw [e]
    exact q _ (.int _)
theorem e_lt {ta tb : TE} {i j : Nat} (ha : E K C ta ρ (.dat (nI i))) (hb : E K C tb ρ (.dat (nI j))) : E K C (tOp rLtI ta tb) ρ (.dat (.bool (decide (i < j)))) :=
  e_is (e_opB (h := fun i j => decide (i < j)) ha hb) (congrArg PyData.bool (decide_eq_decide.mpr (by omega)))
theorem e_le {ta tb : TE} {i j : Nat} (ha : E K C ta ρ (.dat (nI i))) (hb : E K C tb ρ (.dat (nI j))) : E K C (tOp rLeI ta tb) ρ (.dat (.bool (decide (i ≤ j)))) :=
  e_is (e_opB (h := fun i j => decide (i ≤ j)) ha hb) (congrArg PyData.bool (decide_eq_decide.mpr (by omega)))
theorem e_gt {ta tb : TE} {i j : Nat} (ha : E K C ta ρ (.dat (nI i))) (hb : E K C tb ρ (.dat (nI j))) : E K C (tOp rGtI ta tb) ρ (.dat (.bool (decide (j < i)))) :=
  e_is (e_opB (h := fun i j => decide (j < i)) ha hb) (congrArg PyData.bool (decide_eq_decide.mpr (by omega)))
theorem e_ge {ta tb : TE} {i j : Nat} (ha : E K C ta ρ (.dat (nI i))) (hb : E K C tb ρ (.dat (nI j))) : E K C (tOp rGeI ta tb) ρ (.dat (.bool (decide (j ≤ i)))) :=
  e_is (e_opB (h := fun i j => decide (j ≤ i)) ha hb) (congrArg PyData.bool (decide_eq_decide.mpr (by omega)))
theorem beqN {i j : Nat} : ((i : Int) == (j : Int)) = (i == j) := by
  rw [Bool.eq_iff_iff, beq_iff_eq, beq_iff_eq]
  omega
theorem e_eq {ta tb : TE} {i j : Nat} (ha : E K C ta ρ (.dat (nI i))) (hb : E K C tb ρ (.dat (nI j))) : E K C (tOp rEq ta tb) ρ (.dat (.bool (i == j))) :=
  e_bin ha hb fun B S I H v w _ _ a b Q q => by
    cases a
    cases b
    refine ⟨rfl, ?_⟩
    rw [dec_int, beqN]
    exact q _ (.bl _)
theorem e_ne {ta tb : TE} {i j : Nat} (ha : E K C ta ρ (.dat (nI i))) (hb : E K C tb ρ (.dat (nI j))) : E K C (tOp rNe ta tb) ρ (.dat (.bool (i != j))) :=
  e_bin ha hb fun B S I H v w _ _ a b Q q => by
    cases a
    cases b
    refine ⟨rfl, ?_⟩
    rw [dec_int, beqN]
    exact q _ (.bl _)
theorem e_eqB {ta tb : TE} {i j : Bool} (ha : E K C ta ρ (.dat (.bool i))) (hb : E K C tb ρ (.dat (.bool j))) : E K C (tOp rEq ta tb) ρ (.dat (.bool (i == j))) :=
  e_bin ha hb fun B S I H v w _ _ a b Q q => by
    cases a
    cases b
    refine ⟨rfl, ?_⟩
    rw [dec_bl]
    exact q _ (.bl _)
def isNone : PyData → Bool
  | .none => true
  | _ => false
theorem Rp.isNone {S : Hp} {v : V} {d : PyData} (h : Rp S v d) : decide (v = .non) = isNone d := by
  cases h <;> rfl
theorem e_isN {ta tb : TE} {d : PyData} (ha : E K C ta ρ (.dat d)) (hb : E K C tb ρ (.dat .none)) : E K C (tOp rIsN ta tb) ρ (.dat (.bool (isNone d))) :=
  e_bin ha hb fun B S I H v w _ _ a b Q q => by
    cases b
    refine ⟨rfl, ?_⟩
    rw [Rp.isNone a]
    exact q _ (.bl _)
theorem e_noN {ta tb : TE} {d : PyData} (ha : E K C ta ρ (.dat d)) (hb : E K C tb ρ (.dat .none)) : E K C (tOp rNoN ta tb) ρ (.dat (.bool (!isNone d))) :=
  e_bin ha hb fun B S I H v w _ _ a b Q q => by
    cases b
    refine ⟨rfl, ?_⟩
    rw [Rp.isNone a]
    exact q _ (.bl _)
/-! ### subscripts -/
theorem e_ix {ta tb : TE} {ds : List PyData} {n : Nat} {d : PyData} (ha : E K C ta ρ (.dat (.list ds))) (hb : E K C tb ρ (.dat (nI n))) (hd : ds[n]? = some d) : E K C (tOp (rIxL K) ta tb) ρ (.dat d) :=
  e_bin ha hb fun B S I H v w hs _ a b Q q => by
    cases b
    cases a with
    | lst h1 h2 =>
      obtain ⟨u, h3, h4⟩ := h2.getd hd
      exact ⟨_, _, _, u, rfl, rfl, SqL.of (hs _ _ h1), atI_nat h3, q _ h4⟩
/-- an item of a list whose items are told by a function -/
theorem e_ixM {α : Type} {f : α → PyData} {xs : List α} {ta tb : TE} {n : Nat} {x : α} (ha : E K C ta ρ (.dat (.list (xs.map f)))) (hb : E K C tb ρ (.dat (nI n))) (hx : xs[n]? = some x) : E K C (tOp (rIxL K) ta tb) ρ (.dat (f x)) :=
  e_ix ha hb (by rw [List.getElem?_map, hx] <;> rfl)
theorem e_ixT {ta tb : TE} {ds : List PyData} {n : Nat} {d : PyData} (ha : E K C ta ρ (.dat (.tuple ds))) (hb : E K C tb ρ (.dat (nI n))) (hd : ds[n]? = some d) : E K C (tOp (rIxT K) ta tb) ρ (.dat d) :=
  e_bin ha hb fun B S I H v w hs _ a b Q q => by
    cases b
    cases a with
    | tup h1 h2 =>
      obtain ⟨u, h3, h4⟩ := h2.getd hd
      exact ⟨_, _, _, u, rfl, rfl, SqT.of (hs _ _ h1), atI_nat h3, q _ h4⟩
theorem e_ixQ {ta tb : TE} {ns : List Int} {n : Nat} {z : Int} (ha : E K C ta ρ (.sq ns)) (hb : E K C tb ρ (.dat (nI n))) (hd : ns[n]? = some z) : E K C (tOp (rIxL K) ta tb) ρ (.dat (.int z)) :=
  e_bin ha hb fun B S I H v w hs _ a b Q q => by
    cases b
    obtain ⟨p, rfl, h1⟩ := a
    exact ⟨_, _, _, V.int z, rfl, rfl, Same.seq hs h1, atI_nat (by rw [List.getElem?_map, hd] <;> rfl), q _ (.int _)⟩
/-! ### truth values -/
theorem e_andV {ta tb : TE} {a b : Bool} (ha : E K C ta ρ (.dat (.bool a))) (hb : a = true → E K C tb ρ (.dat (.bool b))) : E K C (tAndV ta tb) ρ (.dat (.bool (a && b))) := fun B S I H σ hs hi en Q q =>
  ha B S I H σ hs hi en _ fun v S1 H1 g1 s1 => by
    cases s1
    refine ⟨a, rfl, ?_⟩
    cases a with
    | true =>
      rw [if_pos rfl]
      exact hb rfl B S1 I H1 σ g1.sub (hi.trans g1.h) (en.up g1 hi) _ fun w S2 H2 g2 s2 => q w S2 H2 (g1.trans g2) s2
    | false =>
      rw [if_neg Bool.false_ne_true]
      exact q _ S1 H1 g1 (.bl _)
theorem e_orV {ta tb : TE} {a b : Bool} (ha : E K C ta ρ (.dat (.bool a))) (hb : a = false → E K C tb ρ (.dat (.bool b))) : E K C (tOrV ta tb) ρ (.dat (.bool (a || b))) := fun B S I H σ hs hi en Q q =>
  ha B S I H σ hs hi en _ fun v S1 H1 g1 s1 => by
    cases s1
    refine ⟨a, rfl, ?_⟩
    cases a with
    | false =>
      rw [if_neg Bool.false_ne_true]
      exact hb rfl B S1 I H1 σ g1.sub (hi.trans g1.h) (en.up g1 hi) _ fun w S2 H2 g2 s2 => q w S2 H2 (g1.trans g2) s2
    | true =>
      rw [if_pos rfl]
      exact q _ S1 H1 g1 (.bl _)
theorem e_notV {ta : TE} {a : Bool} (ha : E K C ta ρ (.dat (.bool a))) : E K C (tNotV ta) ρ (.dat (.bool (!a))) := fun B S I H σ hs hi en Q q =>
  ha B S I H σ hs hi en _ fun v S1 H1 g1 s1 => by
    cases s1
    exact ⟨a, rfl, q _ S1 H1 g1 (.bl _)⟩
theorem e_if {t : TT} {ta tb : TE} {b : Bool} {d : PyData} (h : ET K C t ρ b) (h1 : b = true → E K C ta ρ (.dat d)) (h2 : b = false → E K C tb ρ (.dat d)) : E K C (tIf t ta tb) ρ (.dat d) := fun B S I H σ hs hi en Q q =>
  h B S I H σ hs hi en _ fun S1 H1 g1 => by
    cases b with
    | true =>
      rw [if_pos rfl]
      exact h1 rfl B S1 I H1 σ g1.sub (hi.trans g1.h) (en.up g1 hi) _ fun w S2 H2 g2 s2 => q w S2 H2 (g1.trans g2) s2
    | false =>
      rw [if_neg Bool.false_ne_true]
      exact h2 rfl B S1 I H1 σ g1.sub (hi.trans g1.h) (en.up g1 hi) _ fun w S2 H2 g2 s2 => q w S2 H2 (g1.trans g2) s2
theorem e_chain {r r' : R2} {ta tb tc : TE} {x y z : Sl} {a b : Bool} (ha : E K C ta ρ x) (hb : E K C tb ρ y) (hc : E K C tc ρ z)
    (hr : ∀ (B S I H : Hp) (v w : V), Same S H → Same I H → SlR K C B S I H v x → SlR K C B S I H w y → ∀ Q : VK, Q (.bl a) H → r v w H Q)
    (hr' : ∀ (B S I H : Hp) (v w : V), Same S H → Same I H → SlR K C B S I H v y → SlR K C B S I H w z → ∀ Q : VK, Q (.bl b) H → r' v w H Q) : E K C (tChain r r' ta tb tc) ρ (.dat (.bool (a && b))) := fun B S I H σ hs hi en Q q =>
  ha B S I H σ hs hi en _ fun v S1 H1 g1 s1 => hb B S1 I H1 σ g1.sub (hi.trans g1.h) (en.up g1 hi) _ fun w S2 H2 g2 s2 => by
    have hi2 : Same I H2 := (hi.trans g1.h).trans g2.h
    refine hr B S2 I H2 v w g2.sub hi2 (s1.up g2 (hi.trans g1.h)) s2 _ ⟨a, rfl, ?_⟩
    cases a with
    | true =>
      rw [if_pos rfl]
      exact hc B S2 I H2 σ g2.sub hi2 (en.up (g1.trans g2) hi) _ fun u S3 H3 g3 s3 => hr' B S3 I H3 w u g3.sub (hi2.trans g3.h) (s2.up g3 hi2) s3 _ (q _ S3 H3 ((g1.trans g2).trans g3) (.bl _))
    | false =>
      rw [if_neg Bool.false_ne_true]
      exact q _ S2 H2 (g1.trans g2) (.bl _)
theorem e_chLL {ta tb tc : TE} {i j k : Nat} (ha : E K C ta ρ (.dat (nI i))) (hb : E K C tb ρ (.dat (nI j))) (hc : E K C tc ρ (.dat (nI k))) : E K C (tChain rLeI rLeI ta tb tc) ρ (.dat (.bool (decide (i ≤ j) && decide (j ≤ k)))) :=
  e_chain ha hb hc (fun B S I H v w _ _ a b Q q => by
      cases a
      cases b
      refine ⟨_, _, rfl, rfl, ?_⟩
      have e : decide ((i : Int) ≤ (j : Int)) = decide (i ≤ j) := decide_eq_decide.mpr (by omega)
      show Q (.bl (decide ((i : Int) ≤ (j : Int)))) H
      rw [e]
      exact q) (fun B S I H v w _ _ a b Q q => by
      cases a
      cases b
      refine ⟨_, _, rfl, rfl, ?_⟩
      have e : decide ((j : Int) ≤ (k : Int)) = decide (j ≤ k) := decide_eq_decide.mpr (by omega)
      show Q (.bl (decide ((j : Int) ≤ (k : Int)))) H
      rw [e]
      exact q)
/-! ### tests -/
theorem et_test {te : TE} {b : Bool} (h : E K C te ρ (.dat (.bool b))) : ET K C (tTest te) ρ b := fun B S I H σ hs hi en Q q =>
  h B S I H σ hs hi en _ fun v S1 H1 g1 s1 => by cases s1; exact ⟨b, rfl, q S1 H1 g1⟩
theorem et_B {te : TE} {b : Bool} (h : E K C te ρ (.dat (.bool b))) : ET K C (tB te) ρ b := fun B S I H σ hs hi en Q q =>
  h B S I H σ hs hi en _ fun v S1 H1 g1 s1 => by cases s1; exact ⟨b, rfl, q S1 H1 g1⟩
theorem et_yes : ET K C tYes ρ true := fun B S I H σ hs hi en Q q => q S H (Gr.refl hs)
theorem et_and {t u : TT} {a b : Bool} (h1 : ET K C t ρ a) (h2 : a = true → ET K C u ρ b) : ET K C (tAnd t u) ρ (a && b) := fun B S I H σ hs hi en Q q => h1 B S I H σ hs hi en _ fun S1 H1 g1 => by
  cases a with
  | true =>
    rw [if_pos rfl]
    exact h2 rfl B S1 I H1 σ g1.sub (hi.trans g1.h) (en.up g1 hi) _ fun S2 H2 g2 => q S2 H2 (g1.trans g2)
  | false =>
    rw [if_neg Bool.false_ne_true]
    exact q S1 H1 g1
theorem et_or {t u : TT} {a b : Bool} (h1 : ET K C t ρ a) (h2 : a = false → ET K C u ρ b) : ET K C (tOr t u) ρ (a || b) := fun B S I H σ hs hi en Q q => h1 B S I H σ hs hi en _ fun S1 H1 g1 => by
  cases a with
  | false =>
    rw [if_neg Bool.false_ne_true]
    exact h2 rfl B S1 I H1 σ g1.sub (hi.trans g1.h) (en.up g1 hi) _ fun S2 H2 g2 => q S2 H2 (g1.trans g2)
  | true =>
    rw [if_pos rfl]
    exact q S1 H1 g1
theorem et_not {t : TT} {a : Bool} (h1 : ET K C t ρ a) : ET K C (tNot t) ρ (!a) := fun B S I H σ hs hi en Q q => h1 B S I H σ hs hi en _ fun S1 H1 g1 => q S1 H1 g1
/-! ### argument lists -/
theorem ea_nil : EA K C tNil ρ [] := fun B S I H σ hs hi en Q q => q [] S H (Gr.refl hs) .nil
theorem SlRs.up {B S I H S' H' : Hp} (g : Gr S H S' H') (i : Same I H) : ∀ {vs : List V} {xs : List Sl}, SlRs K C B S I H vs xs → SlRs K C B S' I H' vs xs
  | _, _, .nil => .nil
  | _, _, .cons a t => .cons (a.up g i) (SlRs.up g i t)
theorem SlRs.free {B B' S I H H' : Hp} : ∀ {vs : List V} {xs : List Sl}, xs.all (fun x => !x.isOwn) = true → SlRs K C B S I H vs xs → SlRs K C B' S I H' vs xs
  | _, _, _, .nil => .nil
  | _, x :: xs, h, .cons a t => by
    rw [List.all_cons, Bool.and_eq_true] at h
    exact .cons (a.free (by simpa using h.1)) (SlRs.free h.2 t)
theorem ea_cons {te : TE} {tr : TA} {x : Sl} {xs : List Sl} (h : E K C te ρ x) (hr : EA K C tr ρ xs) : EA K C (tCons te tr) ρ (x :: xs) := fun B S I H σ hs hi en Q q =>
  h B S I H σ hs hi en _ fun v S1 H1 g1 s1 => hr B S1 I H1 σ g1.sub (hi.trans g1.h) (en.up g1 hi) _ fun vs S2 H2 g2 s2 => q _ S2 H2 (g1.trans g2) (.cons (s1.up g2 (hi.trans g1.h)) s2)
theorem ea_one {te : TE} {x : Sl} (h : E K C te ρ x) : EA K C (tCons te tNil) ρ [x] := ea_cons h ea_nil
theorem SlRs.dats {B S I H : Hp} : ∀ {vs : List V} {ds : List PyData}, SlRs K C B S I H vs (ds.map Sl.dat) → RpA S vs ds
  | _, [], h => by cases h; exact .nil
  | _, d :: ds, h => by
    cases h with
    | cons a t => exact .cons a (SlRs.dats t)
/-! ### calls -/
theorem e_cb {r : List V → Hp → VK → Prop} {ta : TA} {xs : List Sl} {z : PyData} (ha : EA K C ta ρ xs) (hr : ∀ (B S I H : Hp) (vs : List V), Same S H → Same I H → SlRs K C B S I H vs xs → ∀ Q : VK, (∀ u, Rp S u z → Q u H) → r vs H Q) : E K C (tCB r ta) ρ (.dat z) := fun B S I H σ hs hi en Q q =>
  ha B S I H σ hs hi en _ fun vs S1 H1 g1 s1 => hr B S1 I H1 vs g1.sub (hi.trans g1.h) s1 _ fun u hu => q u S1 H1 g1 hu
theorem e_len {te : TE} {ds : List PyData} (h : E K C te ρ (.dat (.list ds))) : E K C (tCB (rLenS K) (tCons te tNil)) ρ (.dat (nI ds.length)) :=
  e_cb (ea_one h) fun B S I H vs hs _ r Q q => by
    cases r with
    | cons a t =>
      cases t
      cases a with
      | lst h1 h2 =>
        refine ⟨_, _, rfl, .inl (SqL.of (hs _ _ h1)), ?_⟩
        rw [h2.len]
        exact q _ (.int _)
theorem e_lenQ {te : TE} {ns : List Int} (h : E K C te ρ (.sq ns)) : E K C (tCB (rLenS K) (tCons te tNil)) ρ (.dat (nI ns.length)) :=
  e_cb (ea_one h) fun B S I H vs hs _ r Q q => by
    cases r with
    | cons a t =>
      cases t
      obtain ⟨p, rfl, h1⟩ := a
      refine ⟨_, _, rfl, .inl (Same.seq hs h1), ?_⟩
      rw [List.length_map]
      exact q _ (.int _)
theorem e_any {te : TE} {bs : List Bool} (h : E K C te ρ (.dat (bL bs))) : E K C (tCB (rAny K) (tCons te tNil)) ρ (.dat (.bool (bs.any id))) :=
  e_cb (ea_one h) fun B S I H vs hs _ r Q q => by
    cases r with
    | cons a t =>
      cases t
      cases a with
      | lst h1 h2 =>
        obtain rfl := h2.bools
        exact ⟨_, bs, rfl, SqL.of (hs _ _ h1), q _ (.bl _)⟩
theorem e_all {te : TE} {bs : List Bool} (h : E K C te ρ (.dat (bL bs))) : E K C (tCB (rAll K) (tCons te tNil)) ρ (.dat (.bool (bs.all id))) :=
  e_cb (ea_one h) fun B S I H vs hs _ r Q q => by
    cases r with
    | cons a t =>
      cases t
      cases a with
      | lst h1 h2 =>
        obtain rfl := h2.bools
        exact ⟨_, bs, rfl, SqL.of (hs _ _ h1), q _ (.bl _)⟩
/-- any, all of a comprehension's list -/
theorem e_anyM {α : Type} {te : TE} {xs : List α} {f : α → Bool} (h : E K C te ρ (.dat (.list (xs.map fun a => .bool (f a))))) : E K C (tCB (rAny K) (tCons te tNil)) ρ (.dat (.bool (xs.any f))) := by
  have e : xs.any f = (xs.map f).any id := by rw [List.any_map] <;> rfl
  rw [e]
  refine e_any (bs := xs.map f) ?_
  show E K C te ρ (.dat (.list ((xs.map f).map PyData.bool)))
  rw [List.map_map]
  exact h
theorem e_allM {α : Type} {te : TE} {xs : List α} {f : α → Bool} (h : E K C te ρ (.dat (.list (xs.map fun a => .bool (f a))))) : E K C (tCB (rAll K) (tCons te tNil)) ρ (.dat (.bool (xs.all f))) := by
  have e : xs.all f = (xs.map f).all id := by rw [List.all_map] <;> rfl
  rw [e]
  refine e_all (bs := xs.map f) ?_
  show E K C te ρ (.dat (.list ((xs.map f).map PyData.bool)))
  rw [List.map_map]
  exact h
theorem sum_cast : ∀ ns : List Nat, (ns.map fun n : Nat => (n : Int)).sum = ((ns.sum : Nat) : Int)
  | [] => rfl
  | n :: r => by
    rw [List.map_cons, List.sum_cons, List.sum_cons, sum_cast r]
    omega
theorem e_sum {te : TE} {ns : List Nat} (h : E K C te ρ (.dat (nL ns))) : E K C (tCB (rSum K) (tCons te tNil)) ρ (.dat (nI ns.sum)) :=
  e_cb (ea_one h) fun B S I H vs hs _ r Q q => by
    cases r with
    | cons a t =>
      cases t
      cases a with
      | lst h1 h2 =>
        have e : ns.map nI = (ns.map fun n : Nat => (n : Int)).map PyData.int := by rw [List.map_map] <;> rfl
        rw [e] at h2
        obtain rfl := h2.ints
        refine ⟨_, _, rfl, SqL.of (hs _ _ h1), ?_⟩
        rw [sum_cast]
        exact q _ (.int _)
theorem e_int {te : TE} {b : Bool} (h : E K C te ρ (.dat (.bool b))) : E K C (tCB rInt1 (tCons te tNil)) ρ (.dat (nI (if b then 1 else 0))) :=
  e_cb (ea_one h) fun B S I H vs hs _ r Q q => by
    cases r with
    | cons a t =>
      cases t
      cases a
      refine .inr ⟨b, rfl, ?_⟩
      cases b
      · exact q _ (.int _)
      · exact q _ (.int _)
theorem e_call {P : List Sl → PyData → Prop} {ta : TA} {xs : List Sl} {d : PyData} {E' : XK} (ha : EA K C ta ρ xs) (hp : P xs d) (hn : xs.all (fun x => !x.isOwn) = true := by rfl) : E K C (tCall (spF K C P) [] E' ta) ρ (.dat d) := fun B S I H σ hs hi en Q q =>
  ha B S I H σ hs hi en _ fun vs S1 H1 g1 s1 => by
    show spF K C P (vs ++ []) H1 Q E'
    rw [List.append_nil]
    exact ⟨S1, I, xs, d, g1.sub, hi.trans g1.h, s1.free hn, hp, fun v S' H' g r => q v S' H' (g1.trans g) r⟩
theorem e_meth {P : List Sl → PyData → Prop} {te : TE} {ta : TA} {m : Mc} {nm : Str} {xs : List Sl} {d : PyData} {E' : XK} (hk : ∀ pd pt pm pk, (flds m pd pt pm pk).lookup nm = none) (ht : E K C te ρ (.ins m)) (ha : EA K C ta ρ xs) (hp : P (.ins m :: xs) d)
    (hn : xs.all (fun x => !x.isOwn) = true := by rfl) : E K C (tMeth C nm (spF K C P) [] E' te ta) ρ (.dat d) := fun B S I H σ hs hi en Q q =>
  ht B S I H σ hs hi en _ fun v S1 H1 g1 s1 => by
    obtain ⟨a, dx, pd, pt, pm, pk, rs, rfl, h⟩ := s1
    have hi1 : Same I H1 := hi.trans g1.h
    refine ⟨a, dx, _, rfl, hi1 _ _ h.at_, hk _ _ _ _, ?_⟩
    refine ha B S1 I H1 σ g1.sub hi1 (en.up g1 hi) _ fun vs S2 H2 g2 s2 => ?_
    show spF K C P (V.ref a :: (vs ++ [])) H2 Q E'
    rw [List.append_nil]
    have s1' : SlR K C B S1 I H1 (.ref a) (.ins m) := ⟨a, dx, pd, pt, pm, pk, rs, rfl, h⟩
    exact ⟨S2, I, .ins m :: xs, d, g2.sub, hi1.trans g2.h, .cons ((s1'.up g2 hi1).free rfl) (s2.free hn), hp, fun w S' H' g r => q w S' H' ((g1.trans g2).trans g) r⟩
end
end Gx
namespace Gx
open PySem PySem.Spec PyProof.Rows L2
theorem sz {n : Nat} (h : n ≤ 10000000) : n ≤ sizeLine := by rw [sizeLine_eq]; omega
theorem szl {n : Nat} (h : n < 10000000) : n < sizeLine := by rw [sizeLine_eq]; omega
section
variable {K : PySem.W.Frag} {C : Addr} {ρ : List Sl}
/-! ### new lists -/
theorem e_new {te : TE} {ds : List PyData} (h : EN K C te ρ ds) : E K C te ρ (.dat (.list ds)) := fun B S I H σ hs hi en Q q =>
  h B S I H σ hs hi en _ fun p xs S1 H1 g hp hsp h1 hr => q _ _ _ (g.freeze (o := .lst xs) h1 hsp hp) (.lst upd_same (RpA.up (same_new hsp) hr))
theorem en_is {te : TE} {d d' : List PyData} (h : EN K C te ρ d) (e : d = d') : EN K C te ρ d' := e ▸ h
/-- where a reading makes one list at the end -/
theorem new_end {S H S1 H1 : Hp} (g : Gr S H S1 H1) {Q : VK} {ds : List PyData} {xs : List V} (hr : RpA S1 xs ds) (q : ∀ p xs S' H', Gr S H S' H' → H p = none → S' p = none → H' p = some (.lst xs) → RpA S' xs ds → Q (.ref p) H') :
    ∀ p, H1 p = none → Q (.ref p) (upd H1 p (.lst xs)) := fun p hp =>
  q p xs S1 _ (g.grow (same_new hp)) (g.h.free hp) (g.sub.free hp) upd_same hr
theorem en_lst {ta : TA} {ds : List PyData} (h : EA K C ta ρ (ds.map Sl.dat)) (hl : ds.length ≤ 10000000) : EN K C (tLst ta) ρ ds := fun B S I H σ hs hi en Q q =>
  h B S I H σ hs hi en _ fun vs S1 H1 g s1 => ⟨by rw [s1.dats.len]; exact sz hl, new_end g s1.dats q⟩
theorem en_list {te : TE} {ds : List PyData} (h : E K C te ρ (.dat (.list ds))) : EN K C (tCB (rListS K) (tCons te tNil)) ρ ds := fun B S I H σ hs hi en Q q =>
  h B S I H σ hs hi en _ fun v S1 H1 g s1 => by
    cases s1 with
    | lst h1 h2 => exact ⟨_, _, rfl, .inl (SqL.of (g.sub _ _ h1)), new_end g h2 q⟩
theorem en_cat {ta tb : TE} {as bs : List PyData} (ha : E K C ta ρ (.dat (.list as))) (hb : E K C tb ρ (.dat (.list bs))) (hl : as.length + bs.length ≤ 10000000) : EN K C (tOp rCat ta tb) ρ (as ++ bs) := fun B S I H σ hs hi en Q q =>
  ha B S I H σ hs hi en _ fun v S1 H1 g1 s1 => hb B S1 I H1 σ g1.sub (hi.trans g1.h) (en.up g1 hi) _ fun w S2 H2 g2 s2 => by
    have s1' := Rp.up g2.s s1
    cases s1' with
    | lst h1 h2 =>
      cases s2 with
      | lst h3 h4 => exact ⟨_, _, _, _, rfl, rfl, g2.sub _ _ h1, g2.sub _ _ h3, by rw [h2.len, h4.len]; exact sz hl, new_end (g1.trans g2) (h2.app h4) q⟩
theorem rep_flat {α : Type} (x : α) : ∀ n : Nat, (List.replicate n [x]).flatten = List.replicate n x
  | 0 => rfl
  | n + 1 => by rw [List.replicate_succ, List.flatten_cons, rep_flat x n, List.replicate_succ] <;> rfl
/-- [d] * n -/
theorem en_rep {ta tb : TE} {d : PyData} {n : Nat} (ha : E K C ta ρ (.dat (.list [d]))) (hb : E K C tb ρ (.dat (nI n))) (hl : n ≤ 10000000) : EN K C (tOp rRep ta tb) ρ (List.replicate n d) := fun B S I H σ hs hi en Q q =>
  ha B S I H σ hs hi en _ fun v S1 H1 g1 s1 => hb B S1 I H1 σ g1.sub (hi.trans g1.h) (en.up g1 hi) _ fun w S2 H2 g2 s2 => by
    have s1' := Rp.up g2.s s1
    cases s2
    cases s1' with
    | lst h1 h2 =>
      cases h2 with
      | cons h3 h4 =>
        cases h4
        rename_i v0
        refine ⟨_, (n : Int), [v0], rfl, rfl, g2.sub _ _ h1, by omega, by omega, ?_, ?_⟩
        · show 1 * (n : Int).toNat ≤ sizeLine
          rw [Nat.one_mul, Int.toNat_natCast]
          exact sz hl
        · have e : (List.replicate (n : Int).toNat [v0]).flatten = List.replicate n v0 := by rw [Int.toNat_natCast, rep_flat]
          rw [e]
          exact new_end (g1.trans g2) (RpA.rep h3 n) q
def cutD {α : Type} (ds : List α) (lo hi : Option Int) : List α := (ds.drop (HT.sIx ds.length 0 lo)).take (HT.sIx ds.length ds.length hi - HT.sIx ds.length 0 lo)
theorem eo_none : EO K C tNoPart ρ none := fun B S I H σ hs hi en Q q => q S H (Gr.refl hs)
theorem eo_some {te : TE} {n : Nat} (h : E K C te ρ (.dat (nI n))) : EO K C (tPart te) ρ (some (n : Int)) := fun B S I H σ hs hi en Q q =>
  h B S I H σ hs hi en _ fun v S1 H1 g1 s1 => by cases s1; exact ⟨_, rfl, q S1 H1 g1⟩
theorem en_sl {te : TE} {tl th : TO} {ds : List PyData} {lo hi' : Option Int} (h : E K C te ρ (.dat (.list ds))) (h1 : EO K C tl ρ lo) (h2 : EO K C th ρ hi') : EN K C (tSl (rSlL K) te tl th) ρ (cutD ds lo hi') := fun B S I H σ hs hi en Q q =>
  h B S I H σ hs hi en _ fun v S1 H1 g1 s1 => h1 B S1 I H1 σ g1.sub (hi.trans g1.h) (en.up g1 hi) _ fun S2 H2 g2 => h2 B S2 I H2 σ g2.sub ((hi.trans g1.h).trans g2.h) (en.up (g1.trans g2) hi) _ fun S3 H3 g3 => by
    have s1' := Rp.up (g2.s.trans g3.s) s1
    cases s1' with
    | lst h3 h4 =>
      rename_i a0 xs0
      refine ⟨a0, xs0, rfl, SqL.of (g3.sub _ _ h3), ?_⟩
      have e := h4.len
      have h5 : RpA S3 (cutV xs0 lo hi') (cutD ds lo hi') := by
        unfold cutV cutD
        rw [e]
        exact (h4.drop _).take _
      exact new_end ((g1.trans g2).trans g3) h5 q
theorem en_slQ {te : TE} {tl th : TO} {ns : List Int} {lo hi' : Option Int} (h : E K C te ρ (.sq ns)) (h1 : EO K C tl ρ lo) (h2 : EO K C th ρ hi') : EN K C (tSl (rSlL K) te tl th) ρ ((cutD ns lo hi').map PyData.int) := fun B S I H σ hs hi en Q q =>
  h B S I H σ hs hi en _ fun v S1 H1 g1 s1 => h1 B S1 I H1 σ g1.sub (hi.trans g1.h) (en.up g1 hi) _ fun S2 H2 g2 => h2 B S2 I H2 σ g2.sub ((hi.trans g1.h).trans g2.h) (en.up (g1.trans g2) hi) _ fun S3 H3 g3 => by
    obtain ⟨p, rfl, h3⟩ := s1
    refine ⟨p, _, rfl, Same.seq ((g2.s.trans g3.s).trans g3.sub) h3, ?_⟩
    have e : cutV (ns.map V.int) lo hi' = (cutD ns lo hi').map V.int := by
      unfold cutV cutD
      rw [List.length_map, List.map_take, List.map_drop]
    rw [e]
    have h5 : ∀ l : List Int, RpA S3 (l.map V.int) (l.map PyData.int) := fun l => by
      induction l with
      | nil => exact .nil
      | cons a r ih => exact .cons (.int a) ih
    exact new_end ((g1.trans g2).trans g3) (h5 _) q
/-- a tuple made of values, of a list -/
theorem e_tup {ta : TA} {ds : List PyData} (h : EA K C ta ρ (ds.map Sl.dat)) (hl : ds.length ≤ 1000) : E K C (tTup ta) ρ (.dat (.tuple ds)) := fun B S I H σ hs hi en Q q =>
  h B S I H σ hs hi en _ fun vs S1 H1 g s1 => ⟨by rw [s1.dats.len]; exact sz (by omega), fun p hp => q _ _ _ (g.trans (Gr.new g.sub hp)) (.tup upd_same (RpA.up (same_new (g.sub.free hp)) s1.dats))⟩
theorem e_tupS {te : TE} {ds : List PyData} (h : E K C te ρ (.dat (.list ds))) : E K C (tCB (rTupS K) (tCons te tNil)) ρ (.dat (.tuple ds)) := fun B S I H σ hs hi en Q q =>
  h B S I H σ hs hi en _ fun v S1 H1 g s1 => by
    cases s1 with
    | lst h1 h2 => exact ⟨_, _, rfl, .inl ⟨SqL.of (g.sub _ _ h1), fun p hp => q _ _ _ (g.trans (Gr.new g.sub hp)) (.tup upd_same (RpA.up (same_new (g.sub.free hp)) h2))⟩⟩
/-- list(range(n)) -/
theorem en_rg {te : TE} {n : Nat} (h : E K C te ρ (.dat (nI n))) (hl : n ≤ 1000) : EN K C (tLstRg (tRg1 te)) ρ ((List.range n).map nI) := fun B S I H σ hs hi en Q q =>
  h B S I H σ hs hi en _ fun v S1 H1 g s1 => by
    cases s1
    refine ⟨_, rfl, RgOk.of_le (Int.le_refl _) (by omega) (by omega) (by omega), ?_⟩
    have e : rgV 0 (n : Int) = (List.range n).map fun i : Nat => V.int (i : Int) := by
      unfold rgV
      rw [Int.sub_zero, Int.toNat_natCast]
      exact List.map_congr_left fun i _ => by rw [Int.zero_add]
    rw [e]
    have h5 : ∀ l : List Nat, RpA S1 (l.map fun i : Nat => V.int (i : Int)) (l.map nI) := fun l => by
      induction l with
      | nil => exact .nil
      | cons a r ih => exact .cons (.int _) ih
    exact new_end g (h5 _) q
/-! ### what is walked -/
theorem iok_list {a : Addr} {xs : List V} {S I : Hp} {ds : List PyData} (r : RpA S xs ds) (h : ∀ H, Same S H → Same I H → SqL K H a xs) : IterOk (Itl K a) S I ds := by
  have w := walk_list (K := K) (a := a) (xs := xs)
  rw [r.len] at w
  refine ⟨_, _, w, h, fun i d H x H' hd hs hi y S1 e1 e2 => ?_⟩
  obtain ⟨rfl, hx⟩ := y
  obtain ⟨d', h1, h2⟩ := r.get hx
  rw [hd] at h1
  cases h1
  exact ⟨S1, Gr.refl e2, h2.up e1⟩
theorem ei_list {te : TE} {ds : List PyData} (h : E K C te ρ (.dat (.list ds))) : EI K C (iList K te) ρ ds := fun B S I H σ hs hi en R q =>
  h B S I H σ hs hi en _ fun v S1 H1 g s1 => by
    cases s1 with
    | lst h1 h2 => exact ⟨_, rfl, ⟨_, SqL.of (g.sub _ _ h1)⟩, q _ S1 H1 g (iok_list h2 fun H' e _ => SqL.of (e _ _ h1))⟩
theorem ei_range {ta : TE} {n : Nat} (h : E K C ta ρ (.dat (nI n))) (hn : n ≤ 1000000) : EI K C (iRng1 (tCons ta tNil)) ρ ((List.range n).map nI) := fun B S I H σ hs hi en R q =>
  h B S I H σ hs hi en _ fun v S1 H1 g s1 => by
    cases s1
    refine ⟨(n : Int), rfl, by omega, by omega, q _ S1 H1 g ?_⟩
    have w := walk_range (lo := 0) (n := (n : Int).toNat)
    rw [Int.toNat_natCast] at w ⊢
    have el : ((List.range n).map nI).length = n := by rw [List.length_map, List.length_range]
    refine ⟨_, _, by rw [el]; exact w, fun _ _ _ => trivial, fun i d H x H' hd hs hi y S2 e1 e2 => ?_⟩
    obtain ⟨rfl, rfl⟩ := y
    have hi' : i < n := by
      have := (List.getElem?_eq_some_iff.mp hd).1
      omega
    rw [List.getElem?_map, List.getElem?_range hi'] at hd
    cases hd
    refine ⟨S2, Gr.refl e2, ?_⟩
    show Rp S2 (V.int (0 + (i : Int))) (nI i)
    rw [Int.zero_add]
    exact .int _
/-- a new pair -/
theorem pair_new {S1 S H : Hp} (e2 : Same S1 H) {T : Addr} {x y : V} {a b : PyData} (hT : H T = none) (h1 : Rp S1 x a) (h2 : Rp S1 y b) : ∃ S2, Gr S1 H S2 (upd H T (.tup [x, y])) ∧ Rp S2 (.ref T) (.tuple [a, b]) :=
  ⟨_, Gr.new e2 hT, .tup upd_same (.cons (h1.up (same_new (e2.free hT))) (.cons (h2.up (same_new (e2.free hT))) .nil))⟩
theorem zipIdx_at {α : Type} {ds : List α} {i : Nat} {p : α × Nat} (h : ds.zipIdx[i]? = some p) : ds[i]? = some p.1 ∧ p.2 = i := by
  rw [List.getElem?_zipIdx] at h
  cases e : ds[i]? with
  | none => rw [e] at h; cases h
  | some a =>
    rw [e] at h
    cases h
    exact ⟨rfl, Nat.zero_add i⟩
theorem ei_enum {α : Type} {f : α → PyData} {te : TE} {as : List α} (h : E K C te ρ (.dat (.list (as.map f)))) : EI K C (iEnum K (tCons te tNil)) ρ (as.zipIdx.map fun p => .tuple [nI p.2, f p.1]) := fun B S I H σ hs hi en R q =>
  h B S I H σ hs hi en _ fun v S1 H1 g s1 => by
    cases s1 with
    | lst h1 h2 =>
      refine ⟨_, _, rfl, SqL.of (g.sub _ _ h1), q _ S1 H1 g ?_⟩
      rename_i a xs
      have el : xs.length = (as.zipIdx.map fun p => PyData.tuple [nI p.2, f p.1]).length := by
        rw [h2.len, List.length_map, List.length_map, List.length_zipIdx]
      have w := walk_enum (K := K) (a := a) (xs := xs)
      rw [el] at w
      refine ⟨_, _, w, fun H' e _ => SqL.of (e _ _ h1), fun i d H x H' hd hs hi y S2 e1 e2 => ?_⟩
      obtain ⟨T, x1, x2, rfl, hT, rfl, hx1, hx2⟩ := y
      cases hx1
      obtain ⟨d', h3, h4⟩ := h2.get hx2
      rw [List.getElem?_map] at hd h3
      obtain ⟨p, hp, rfl⟩ := Option.map_eq_some_iff.mp hd
      obtain ⟨hp1, hp2⟩ := zipIdx_at hp
      rw [hp1] at h3
      cases h3
      rw [hp2]
      exact pair_new (S := S) e2 hT (.int _) (h4.up e1)
theorem zip_at {α β : Type} : ∀ {as : List α} {bs : List β} {i : Nat} {p : α × β}, (as.zip bs)[i]? = some p → as[i]? = some p.1 ∧ bs[i]? = some p.2
  | [], _, _, _, h => by simp at h
  | _ :: _, [], _, _, h => by simp at h
  | a :: as, b :: bs, 0, p, h => by
    simp at h
    subst h
    exact ⟨rfl, rfl⟩
  | a :: as, b :: bs, i + 1, p, h => by
    have := zip_at (as := as) (bs := bs) (i := i) (p := p) (by simpa using h)
    simpa using this
theorem ei_zip {α β : Type} {f : α → PyData} {g : β → PyData} {te tu : TE} {as : List α} {bs : List β} (h : E K C te ρ (.dat (.list (as.map f)))) (h' : E K C tu ρ (.dat (.list (bs.map g)))) :
    EI K C (iZip K (tCons te (tCons tu tNil))) ρ ((as.zip bs).map fun p => .tuple [f p.1, g p.2]) := fun B S I H σ hs hi en R q =>
  h B S I H σ hs hi en _ fun v S0 H0 g0 s0 => h' B S0 I H0 σ g0.sub (hi.trans g0.h) (en.up g0 hi) _ fun w S1 H1 g1 s2 => by
    have s1 := Rp.up g1.s s0
    cases s1 with
    | lst h1 h2 =>
      cases s2 with
      | lst h3 h4 =>
        refine ⟨_, _, _, _, rfl, SqL.of (g1.sub _ _ h1), SqL.of (g1.sub _ _ h3), q _ S1 H1 (g0.trans g1) ?_⟩
        rename_i a xs b ys
        have el : ((as.zip bs).map fun p => PyData.tuple [f p.1, g p.2]).length = min xs.length ys.length := by
          rw [h2.len, h4.len, List.length_map, List.length_map, List.length_map, List.length_zip]
        refine ⟨_, _, walk_zip (K := K) (a := a) (b := b) (xs := xs) (ys := ys) el, fun H' e _ => ⟨SqL.of (e _ _ h1), SqL.of (e _ _ h3)⟩, fun i d H x H' hd hs hi y S2 e1 e2 => ?_⟩
        obtain ⟨T, x1, x2, rfl, hT, rfl, hx1, hx2⟩ := y
        obtain ⟨d1, k1, k2⟩ := h2.get hx1
        obtain ⟨d2, k3, k4⟩ := h4.get hx2
        rw [List.getElem?_map] at hd k1 k3
        obtain ⟨p, hp, rfl⟩ := Option.map_eq_some_iff.mp hd
        obtain ⟨hp1, hp2⟩ := zip_at hp
        rw [hp1] at k1
        rw [hp2] at k3
        cases k1
        cases k3
        exact pair_new (S := S) e2 hT (k2.up e1) (k4.up e1)
/-! ### targets -/
theorem wipe_at (σ : L2.St) : ∀ (vs : List Nat) (k : Nat), (wipe σ vs)[k]? = if k ∈ vs then (if k < σ.length then some none else none) else σ[k]?
  | [], k => by simp [wipe]
  | v :: vs, k => by
    have ih := wipe_at σ vs k
    show ((wipe σ vs).set v none)[k]? = _
    by_cases e : v = k
    · subst e
      rw [List.getElem?_set_self']
      by_cases hl : v < σ.length
      · have hl' : v < (wipe σ vs).length := by rw [wipe_length]; exact hl
        simp [hl, List.getElem?_eq_getElem hl']
      · have hl' : ¬ v < (wipe σ vs).length := by rw [wipe_length]; exact hl
        have e3 : (wipe σ vs)[v]? = none := List.getElem?_eq_none (Nat.le_of_not_lt hl')
        simp [hl, e3]
    · rw [List.getElem?_set_ne e, ih]
      have e' : ¬ k = v := fun q => e q.symm
      simp [e']
theorem wipe_set {σ : L2.St} {i : Nat} {x : Option V} {vs : List Nat} (h : i ∈ vs) : wipe (σ.set i x) vs = wipe σ vs := by
  apply List.ext_getElem?
  intro k
  rw [wipe_at, wipe_at, List.length_set]
  by_cases hk : k ∈ vs
  · rw [if_pos hk, if_pos hk]
  · rw [if_neg hk, if_neg hk, List.getElem?_set_ne (fun e => hk (by rw [← e]; exact h))]
theorem wipe_wipe {σ : L2.St} {vs : List Nat} : wipe (wipe σ vs) vs = wipe σ vs := by
  apply List.ext_getElem?
  intro k
  rw [wipe_at, wipe_at, wipe_length]
  by_cases hk : k ∈ vs
  · rw [if_pos hk, if_pos hk]
  · rw [if_neg hk, if_neg hk]
def wipeR (ρ : List Sl) : List Nat → List Sl
  | [] => ρ
  | v :: vs => (wipeR ρ vs).set v .any
theorem EnvR.wipe {B S I H : Hp} {σ : L2.St} (en : EnvR K C B S I H σ ρ) : ∀ vs : List Nat, EnvR K C B S I H (wipe σ vs) (wipeR ρ vs)
  | [] => en
  | v :: vs => (EnvR.wipe en vs).setAny v none
theorem ga_name {i : Nat} {d : PyData} : GA K C (gName i) [i] ρ d (ρ.set i (.dat d)) := fun B S I H σ v hs en hv Q q =>
  q _ (en.set i hv) fun vs hj => wipe_set (hj i (List.mem_singleton.mpr rfl))
theorem ga_2 {i j : Nat} {d e : PyData} : GA K C (gTup K 2 (gCons (gName i) (gCons (gName j) gNil))) [i, j] ρ (.tuple [d, e]) ((ρ.set i (.dat d)).set j (.dat e)) := fun B S I H σ v hs en hv Q q => by
  cases hv with
  | tup h1 h2 =>
    cases h2 with
    | cons k1 k2 =>
      cases k2 with
      | cons k3 k4 =>
        cases k4
        exact ⟨_, _, rfl, SqT.of (hs _ _ h1), rfl, _, _, rfl, _, _, rfl, rfl, q _ ((en.set i (x := .dat d) k1).set j (x := .dat e) k3) fun vs hj => by
          rw [wipe_set (hj j (by simp)), wipe_set (hj i (by simp))]⟩
theorem ga_u2 {i j : Nat} {d e : PyData} : GA K C (gUnl K 2 (gCons (gName i) (gCons (gName j) gNil))) [i, j] ρ (.list [d, e]) ((ρ.set i (.dat d)).set j (.dat e)) := fun B S I H σ v hs en hv Q q => by
  cases hv with
  | lst h1 h2 =>
    cases h2 with
    | cons k1 k2 =>
      cases k2 with
      | cons k3 k4 =>
        cases k4
        exact ⟨_, _, rfl, SqL.of (hs _ _ h1), rfl, _, _, rfl, _, _, rfl, rfl, q _ ((en.set i (x := .dat d) k1).set j (x := .dat e) k3) fun vs hj => by
          rw [wipe_set (hj j (by simp)), wipe_set (hj i (by simp))]⟩
theorem ga_4 {i j k l : Nat} {d e f g : PyData} : GA K C (gTup K 4 (gCons (gName i) (gCons (gName j) (gCons (gName k) (gCons (gName l) gNil))))) [i, j, k, l] ρ (.tuple [d, e, f, g]) ((((ρ.set i (.dat d)).set j (.dat e)).set k (.dat f)).set l (.dat g)) := fun B S I H σ v hs en hv Q q => by
  cases hv with
  | tup h1 h2 =>
    cases h2 with
    | cons k1 k2 =>
      cases k2 with
      | cons k3 k4 =>
        cases k4 with
        | cons k5 k6 =>
          cases k6 with
          | cons k7 k8 =>
            cases k8
            exact ⟨_, _, rfl, SqT.of (hs _ _ h1), rfl, _, _, rfl, _, _, rfl, _, _, rfl, _, _, rfl, rfl, q _ ((((en.set i (x := .dat d) k1).set j (x := .dat e) k3).set k (x := .dat f) k5).set l (x := .dat g) k7) fun vs hj => by
              rw [wipe_set (hj l (by simp)), wipe_set (hj k (by simp)), wipe_set (hj j (by simp)), wipe_set (hj i (by simp))]⟩
/-! ### comprehensions -/
theorem en_lc {α : Type} {wi : TI} {g : TG} {tt : TT} {te : TE} {vs js : List Nat} {xs : List α} {enc : α → PyData} {p : α → Bool} {f : α → PyData} (hw : EI K C wi ρ (xs.map enc)) (hl : xs.length ≤ 10000000) (hj : ∀ j ∈ js, j ∈ vs)
    (hb : ∀ a ∈ xs, ∃ ρ', GA K C g js (wipeR ρ vs) (enc a) ρ' ∧ ET K C tt ρ' (p a) ∧ (p a = true → E K C te ρ' (.dat (f a)))) : EN K C (tLc wi g tt te vs) ρ ((xs.filter p).map f) := fun B S I H σ hs hI en Q q =>
  hw B S I H σ hs hI en _ fun J S1 H1 g1 ⟨G, Y, w, hG, hY⟩ D hD => by
    have hI1 : Same I H1 := hI.trans g1.h
    have en1 := en.up g1 hI
    have hsD : S1 D = none := g1.sub.free hD
    have hn : (xs.map enc).length = xs.length := List.length_map ..
    refine lc_it w (Qd := Q (.ref D)) (fun i H2 => ∃ S2 acc, Gr S1 H1 S2 H2 ∧ S2 D = none ∧ H2 D = some (.lst acc) ∧ RpA S2 acc (((xs.take i).filter p).map f)) ?_ ?_ ?_ ?_
    · exact ⟨S1, [], (Gr.refl g1.sub).grow (same_new hD), hsD, upd_same, .nil⟩
    · rintro i H2 _ ⟨S2, acc, g2, _, _, _⟩
      exact hG H2 (g2.s.trans g2.sub) (hI1.trans g2.h)
    · rintro i x H2 H3 hlt ⟨S2, acc, g2, hsD2, hH2, hr⟩ y
      have hlt' : i < xs.length := by rw [hn] at hlt; exact hlt
      have hd : (xs.map enc)[i]? = some (enc xs[i]) := by rw [List.getElem?_map, List.getElem?_eq_getElem hlt'] <;> rfl
      obtain ⟨S3, g3, hx⟩ := hY i _ H2 x H3 hd (g2.s.trans g2.sub) (hI1.trans g2.h) y S2 g2.s g2.sub
      have hsD3 : S3 D = none := g3.keepNone hsD2 hH2
      have hH3 := g3.h _ _ hH2
      have hI3 : Same I H3 := (hI1.trans g2.h).trans g3.h
      obtain ⟨ρ', ga, ht, he⟩ := hb xs[i] (List.getElem_mem hlt')
      have tk : xs.take (i + 1) = xs.take i ++ [xs[i]] := by rw [List.take_append_getElem]
      have hal : acc.length < sizeLine := by
        rw [hr.len, List.length_map]
        have h1 : ((xs.take i).filter p).length ≤ (xs.take i).length := List.length_filter_le ..
        have h2 : (xs.take i).length ≤ i := by rw [List.length_take]; exact Nat.min_le_left _ _
        exact szl (by omega)
      refine ga B S3 I H3 _ x g3.sub ((en1.up (g2.trans g3) hI1).wipe vs) hx _ fun σ' en' hw => ⟨(hw vs hj).trans wipe_wipe, ?_⟩
      refine ht B S3 I H3 σ' g3.sub hI3 en' _ fun S4 H4 g4 => ?_
      have hsD4 : S4 D = none := g4.keepNone hsD3 hH3
      have hH4 := g4.h _ _ hH3
      cases hp : p xs[i] with
      | false =>
        rw [if_neg Bool.false_ne_true]
        refine ⟨S4, acc, (g2.trans g3).trans g4, hsD4, hH4, ?_⟩
        rw [tk, List.filter_append, List.filter_cons, hp, if_neg Bool.false_ne_true, List.filter_nil, List.append_nil]
        exact hr.up (g3.s.trans g4.s)
      | true =>
        rw [if_pos rfl]
        refine he hp B S4 I H4 σ' g4.sub (hI3.trans g4.h) (en'.up g4 hI3) _ fun z S5 H5 g5 s5 => ?_
        have hsD5 : S5 D = none := g5.keepNone hsD4 hH4
        have hH5 := g5.h _ _ hH4
        have g25 := ((g2.trans g3).trans g4).trans g5
        refine ⟨acc, hH5, hal, S5, acc ++ [z], ⟨g25.s, fun a o ha => ?_, fun a o ha => ?_, g25.fr⟩, hsD5, upd_same, ?_⟩
        · rw [upd_ne (ne_of_none ha hD)]
          exact g25.h a o ha
        · rw [upd_ne (ne_of_none ha hsD5)]
          exact g25.sub a o ha
        · rw [tk, List.filter_append, List.filter_cons, hp, if_pos rfl, List.filter_nil, List.map_append]
          exact (hr.up ((g3.s.trans g4.s).trans g5.s)).app (.one s5)
    · rintro H2 ⟨S2, acc, g2, hsD2, hH2, hr⟩
      rw [hn, List.take_length] at hr
      exact q D acc S2 H2 (g1.trans g2) (g1.h.free hD) hsD2 hH2 hr
/-- without a test -/
theorem en_lc0 {α : Type} {wi : TI} {g : TG} {te : TE} {vs js : List Nat} {xs : List α} {enc f : α → PyData} (hw : EI K C wi ρ (xs.map enc)) (hl : xs.length ≤ 10000000) (hj : ∀ j ∈ js, j ∈ vs)
    (hb : ∀ a ∈ xs, ∃ ρ', GA K C g js (wipeR ρ vs) (enc a) ρ' ∧ E K C te ρ' (.dat (f a))) : EN K C (tLc wi g tYes te vs) ρ (xs.map f) := by
  have h := en_lc (p := fun _ => true) (f := f) hw hl hj fun a ha => (hb a ha).imp fun ρ' h => ⟨h.1, et_yes, fun _ => h.2⟩
  have e : xs.filter (fun _ => true) = xs := List.filter_eq_self.mpr fun _ _ => rfl
  rwa [e] at h
/-! ### statements -/
theorem x_seq {t u : TS} {ρ1 : List Sl} {o : Out} (h1 : X K C t ρ (.nx ρ1)) (h2 : X K C u ρ1 o) : X K C (tSeq t u) ρ o := fun S0 B S I H σ D g hib en k =>
  h1 S0 B S I H σ _ g hib en fun σ' S' H' e g' en' => h2 S0 B S' I H' σ' D g' hib en' (OutK.up K C e k)
theorem x_seqR {t u : TS} {d : PyData} (h1 : X K C t ρ (.rt d)) : X K C (tSeq t u) ρ (.rt d) := fun S0 B S I H σ D g hib en k =>
  h1 S0 B S I H σ { D with nx := u D } g hib en k
theorem x_next : X K C tNext ρ (.nx ρ) := fun S0 B S I H σ D g hib en k => k σ S H (Same.refl _) g en
theorem x_asg {te : TE} {g : TG} {js : List Nat} {d : PyData} {ρ' : List Sl} (h : E K C te ρ (.dat d)) (ga : GA K C g js ρ d ρ') : X K C (tAsg te g) ρ (.nx ρ') := fun S0 B S I H σ D gr hib en k =>
  h B S I H σ gr.sub (hib.trans gr.h) en _ fun v S1 H1 g1 s1 => ga B S1 I H1 σ v g1.sub (en.up g1 (hib.trans gr.h)) s1 _ fun σ' en' _ => k σ' S1 H1 g1.s (gr.trans g1) en'
theorem x_ret {te : TE} {d : PyData} (h : E K C te ρ (.dat d)) : X K C (tRet te) ρ (.rt d) := fun S0 B S I H σ D gr hib en k =>
  h B S I H σ gr.sub (hib.trans gr.h) en _ fun v S1 H1 g1 s1 => k v S1 H1 (gr.trans g1) s1
theorem x_retO {i : Nat} {ds : List PyData} (h : ρ[i]? = some (.ol ds)) : X K C (tRet (tVar i)) ρ (.rt (.list ds)) := fun S0 B S I H σ D gr hib en k => by
  obtain ⟨v, h1, a, xs, rfl, h2, h3, h4, h5, h6⟩ := en.var h (by intro z; cases z)
  exact ⟨_, h1, k _ _ _ (gr.freeze (o := .lst xs) h5 h2 h4) (.lst upd_same (h6.up (same_new h2)))⟩
theorem x_is {t : TS} {d d' : PyData} (h : X K C t ρ (.rt d)) (e : d = d') : X K C t ρ (.rt d') := e ▸ h
theorem x_if {c : TT} {t u : TS} {b : Bool} {o : Out} (h : ET K C c ρ b) (h1 : b = true → X K C t ρ o) (h2 : b = false → X K C u ρ o) : X K C (tIfS c t u) ρ o := fun S0 B S I H σ D gr hib en k =>
  h B S I H σ gr.sub (hib.trans gr.h) en _ fun S1 H1 g1 => by
    cases b with
    | true =>
      rw [if_pos rfl]
      exact h1 rfl S0 B S1 I H1 σ D (gr.trans g1) hib (en.up g1 (hib.trans gr.h)) (OutK.up K C g1.s k)
    | false =>
      rw [if_neg Bool.false_ne_true]
      exact h2 rfl S0 B S1 I H1 σ D (gr.trans g1) hib (en.up g1 (hib.trans gr.h)) (OutK.up K C g1.s k)
/-- if: return; the rest -/
theorem x_ifR {c : TT} {t u : TS} {b : Bool} {d : PyData} (h : ET K C c ρ b) (h1 : b = true → X K C t ρ (.rt d)) (h2 : b = false → X K C u ρ (.rt d)) : X K C (tSeq (tIfS c t tNext) u) ρ (.rt d) := fun S0 B S I H σ D gr hib en k =>
  h B S I H σ gr.sub (hib.trans gr.h) en _ fun S1 H1 g1 => by
    cases b with
    | true =>
      rw [if_pos rfl]
      exact h1 rfl S0 B S1 I H1 σ { D with nx := u D } (gr.trans g1) hib (en.up g1 (hib.trans gr.h)) (OutK.up K C g1.s k)
    | false =>
      rw [if_neg Bool.false_ne_true]
      exact h2 rfl S0 B S1 I H1 σ D (gr.trans g1) hib (en.up g1 (hib.trans gr.h)) (OutK.up K C g1.s k)
/-! ### one's own list -/
theorem Gr.wr {S0 B S H : Hp} (g : Gr S0 B S H) {a : Addr} {o : HO} (h1 : S a = none) (h2 : B a = none) : Gr S0 B S (upd H a o) :=
  ⟨g.s, fun b u hb => by rw [upd_ne (ne_of_none hb h2)]; exact g.h b u hb, fun b u hb => by rw [upd_ne (ne_of_none hb h1)]; exact g.sub b u hb, g.fr⟩
theorem EnvR.wr {B S I H : Hp} {σ : L2.St} {i : Nat} {a : Addr} {o : HO} {x : Sl} (en : EnvR K C B S I H σ ρ) (hv : σ[i]? = some (some (.ref a))) (new : SlR K C B S I (L2.upd H a o) (.ref a) x) (hn : (ρ.set i .any).all (fun x => !x.isOwn) = true) :
    EnvR K C B S I (L2.upd H a o) σ (ρ.set i x) := by
  have e1 : EnvR K C B S I H σ (ρ.set i .any) := ⟨by rw [List.length_set]; exact en.len, fun j y hy => by
    by_cases e : i = j
    · subst e
      have hl : i < ρ.length := by
        have := (List.getElem?_eq_some_iff.mp hy).1
        rwa [List.length_set] at this
      rw [List.getElem?_set_self hl] at hy
      cases hy
      exact .inl rfl
    · rw [List.getElem?_set_ne e] at hy
      exact en.at_ j y hy⟩
  have e2 := (e1.upd (p := a) (o := o) hn).set i new
  rw [List.set_set] at e2
  have e3 : σ.set i (some (.ref a)) = σ := by
    apply List.ext_getElem?
    intro k
    by_cases e : i = k
    · subst e
      rw [List.getElem?_set_self (List.getElem?_eq_some_iff.mp hv).1, hv]
    · rw [List.getElem?_set_ne e]
  rwa [e3] at e2
theorem x_asgN {te : TE} {i : Nat} {ds : List PyData} (h : EN K C te ρ ds) : X K C (tAsg te (gName i)) ρ (.nx (ρ.set i (.ol ds))) := fun S0 B S I H σ D gr hib en k =>
  h B S I H σ gr.sub (hib.trans gr.h) en _ fun p xs S1 H1 g1 hp hsp h1 hr => k _ S1 H1 g1.s (gr.trans g1) ((en.up g1 (hib.trans gr.h)).set i ⟨p, xs, rfl, hsp, (hib.trans gr.h).free hp, gr.h.free hp, h1, hr⟩)
theorem x_app {te : TE} {i : Nat} {ds : List PyData} {d : PyData} (hi : ρ[i]? = some (.ol ds)) (h : E K C te ρ (.dat d)) (hl : ds.length < 10000000) (hn : (ρ.set i .any).all (fun x => !x.isOwn) = true := by rfl) :
    X K C (tDrop (tBM K "list" rAppend (tVar i) (tCons te tNil))) ρ (.nx (ρ.set i (.ol (ds ++ [d])))) := fun S0 B S I H σ D gr hib en k => by
  obtain ⟨v, hv, a, xs, rfl, h2, h3, h4, h5, h6⟩ := en.var hi (by intro z; cases z)
  refine ⟨_, hv, .inl ⟨rfl, _, SqL.of h5⟩, ?_⟩
  refine h B S I H σ gr.sub (hib.trans gr.h) en _ fun y S1 H1 g1 s1 => ?_
  have h2' := g1.keepNone h2 h5
  refine ⟨a, xs, y, rfl, rfl, g1.h _ _ h5, by rw [h6.len]; exact szl hl, ?_⟩
  refine k σ S1 _ g1.s ((gr.trans g1).wr h2' h4) ((en.up g1 (hib.trans gr.h)).wr hv ⟨a, _, rfl, h2', h3, h4, upd_same, (h6.up g1.s).app (.one s1)⟩ hn)
theorem ixN_nat {n k : Nat} (h : k < n) : ixN n (k : Int) = some k := by
  unfold ixN
  rw [if_pos (by omega), if_pos (by omega), Int.toNat_natCast]
theorem x_setO {te tb : TE} {i : Nat} {ds : List PyData} {n : Nat} {d : PyData} (h : E K C te ρ (.dat d)) (hi : ρ[i]? = some (.ol ds)) (hb : E K C tb ρ (.dat (nI n))) (hl : n < ds.length) (hn : (ρ.set i .any).all (fun x => !x.isOwn) = true := by rfl) :
    X K C (tAsg te (gSub (tVar i) tb rSetL)) ρ (.nx (ρ.set i (.ol (ds.set n d)))) := fun S0 B S I H σ D gr hib en k => by
  obtain ⟨v, hv, a, xs, rfl, h2, h3, h4, h5, h6⟩ := en.var hi (by intro z; cases z)
  refine h B S I H σ gr.sub (hib.trans gr.h) en _ fun y S1 H1 g1 s1 => ⟨_, hv, ?_⟩
  refine hb B S1 I H1 σ g1.sub ((hib.trans gr.h).trans g1.h) (en.up g1 (hib.trans gr.h)) _ fun w S2 H2 g2 s2 => ?_
  cases s2
  have g12 := g1.trans g2
  have h2' := g12.keepNone h2 h5
  refine ⟨a, xs, (n : Int), n, rfl, rfl, g12.h _ _ h5, ixN_nat (by rw [h6.len]; exact hl), ?_⟩
  exact k σ S2 _ g12.s ((gr.trans g12).wr h2' h4) ((en.up g12 (hib.trans gr.h)).wr hv ⟨a, _, rfl, h2', h3, h4, upd_same, (h6.up g12.s).set n (Rp.up g2.s s1)⟩ hn)
/-- an item of one's own list -/
theorem e_ixO {tb : TE} {i : Nat} {ds : List PyData} {n : Nat} {d : PyData} (hi : ρ[i]? = some (.ol ds)) (hb : E K C tb ρ (.dat (nI n))) (hd : ds[n]? = some d) : E K C (tOp (rIxL K) (tVar i) tb) ρ (.dat d) := fun B S I H σ hs hI en Q q => by
  obtain ⟨v, hv, a, xs, rfl, h2, h3, h4, h5, h6⟩ := en.var hi (by intro z; cases z)
  refine ⟨_, hv, hb B S I H σ hs hI en _ fun w S1 H1 g1 s1 => ?_⟩
  cases s1
  obtain ⟨u, h7, h8⟩ := h6.getd hd
  exact ⟨a, xs, _, u, rfl, rfl, SqL.of (g1.h _ _ h5), atI_nat h7, q u S1 H1 g1 (h8.up g1.s)⟩
/-! ### for -/
def forE {α γ : Type} (step : γ → α → γ ⊕ PyData) : γ → List α → γ ⊕ PyData
  | s, [] => .inl s
  | s, a :: r => match step s a with
    | .inl s' => forE step s' r
    | .inr d => .inr d
theorem forE_app {α γ : Type} {step : γ → α → γ ⊕ PyData} : ∀ (l r : List α) (s s' : γ), forE step s l = .inl s' → forE step s (l ++ r) = forE step s' r
  | [], _, _, _, h => by cases h; rfl
  | a :: l, r, s, s', h => by
    unfold forE at h
    show (match step s a with | .inl s' => forE step s' (l ++ r) | .inr d => .inr d) = _
    cases e : step s a with
    | inl s1 =>
      rw [e] at h
      exact forE_app l r s1 s' h
    | inr d => rw [e] at h; cases h
def outE {γ : Type} (env : γ → List Sl) : γ ⊕ PyData → Out
  | .inl s => .nx (env s)
  | .inr d => .rt d
theorem x_for {α γ : Type} {wi : TI} {g : TG} {tb : TS} {xs : List α} {enc : α → PyData} (env : γ → List Sl) (step : γ → α → γ ⊕ PyData) (s0 : γ) (hw : EI K C wi ρ (xs.map enc)) (h0 : Wk ρ (env s0))
    (hb : ∀ pre a post s, xs = pre ++ a :: post → forE step s0 pre = .inl s → ∃ js ρ', GA K C g js (env s) (enc a) ρ' ∧ (match step s a with | .inl s' => ∃ ρ2, X K C tb ρ' (.nx ρ2) ∧ Wk ρ2 (env s') | .inr d => X K C tb ρ' (.rt d))) :
    X K C (tFor wi g tb) ρ (outE env (forE step s0 xs)) := fun S0 B S I H σ D gr hib en k =>
  hw B S I H σ gr.sub (hib.trans gr.h) en _ fun J S1 H1 g1 ⟨G, Y, w, hG, hY⟩ => by
    have en1 := en.up g1 (hib.trans gr.h)
    have hn : (xs.map enc).length = xs.length := List.length_map ..
    refine for_it w (fun i σ H => ∃ s S2, forE step s0 (xs.take i) = .inl s ∧ Gr S0 B S2 H ∧ Same S1 S2 ∧ EnvR K C B S2 I H σ (env s)) ?_ ?_ ?_ ?_
    · exact ⟨s0, S1, rfl, gr.trans g1, Same.refl _, en1.wk h0⟩
    · rintro i σ2 H2 _ ⟨s, S2, _, g2, e2, _⟩
      exact hG H2 (e2.trans g2.sub) (hib.trans g2.h)
    · rintro i x σ2 H2 H3 hlt ⟨s, S2, hf, g2, e2, en2⟩ y
      have hlt' : i < xs.length := by rw [hn] at hlt; exact hlt
      have hd : (xs.map enc)[i]? = some (enc xs[i]) := by rw [List.getElem?_map, List.getElem?_eq_getElem hlt'] <;> rfl
      obtain ⟨S3, g3, hx⟩ := hY i _ H2 x H3 hd (e2.trans g2.sub) (hib.trans g2.h) y S2 e2 g2.sub
      have hsp : xs = xs.take i ++ xs[i] :: xs.drop (i + 1) := by
        rw [List.getElem_cons_drop]
        exact (List.take_append_drop i xs).symm
      obtain ⟨js, ρ', ga, hx2⟩ := hb _ _ _ s hsp hf
      have tk : xs.take (i + 1) = xs.take i ++ [xs[i]] := by rw [List.take_append_getElem]
      refine ga B S3 I H3 σ2 x g3.sub (en2.up g3 (hib.trans g2.h)) hx _ fun σ' en' _ => ?_
      cases e : step s xs[i] with
      | inl s' =>
        rw [e] at hx2
        obtain ⟨ρ2, hX, hwk⟩ := hx2
        refine hX S0 B S3 I H3 σ' _ (g2.trans g3) hib en' fun σ4 S4 H4 e4 g4 en4 => ?_
        refine ⟨s', S4, ?_, g4, (e2.trans g3.s).trans e4, en4.wk hwk⟩
        rw [tk, forE_app _ _ _ _ hf]
        show (match step s xs[i] with | .inl s' => _ | .inr d => _) = _
        rw [e]
        rfl
      | inr d =>
        rw [e] at hx2
        refine hx2 S0 B S3 I H3 σ' _ (g2.trans g3) hib en' ?_
        have e5 : forE step s0 xs = .inr d := by
          rw [hsp, forE_app _ _ _ _ hf]
          show (match step s xs[i] with | .inl s' => _ | .inr d => _) = _
          rw [e]
        rw [e5] at k
        exact k
    · rintro σ2 H2 ⟨s, S2, hf, g2, e2, en2⟩
      rw [hn, List.take_length] at hf
      rw [hf] at k
      exact k σ2 S2 H2 (g1.s.trans e2) g2 en2
end
end Gx
namespace Gx
open PySem PySem.Spec PyProof.Rows L2
/-! ### the instance's attributes -/
structure Tx (K : PySem.W.Frag) (C : Addr) : Prop where
  cl : Cls K C
  nA : NoAttr K C "agent_count"
  nV : NoAttr K C "alternative_count"
  nD : NoAttr K C "domains"
  nT : NoAttr K C "target"
  nM : NoAttr K C "message_counts"
  nK : NoAttr K C "mechanism"
theorem lk_here {k : Str} {v : V} {r : List (Str × V)} : List.lookup k ((k, v) :: r) = some v := by
  have e : (k == k) = true := beq_self_eq_true k
  simp only [List.lookup, e]
theorem lk_past {k g : Str} {v : V} {r : List (Str × V)} (h : (k == g) = false) : List.lookup k ((g, v) :: r) = List.lookup k r := by
  simp only [List.lookup, h]
section
variable {m : Mc} {pd pt pm pk : Addr}
theorem fl_a : (flds m pd pt pm pk).lookup ("agent_count" : Str) = some (.int (m.target.agentCount : Int)) := lk_here
theorem fl_v : (flds m pd pt pm pk).lookup ("alternative_count" : Str) = some (.int (m.target.alternativeCount : Int)) := (lk_past (by decide +kernel)).trans lk_here
theorem fl_d : (flds m pd pt pm pk).lookup ("domains" : Str) = some (.ref pd) := (lk_past (by decide +kernel)).trans ((lk_past (by decide +kernel)).trans lk_here)
theorem fl_t : (flds m pd pt pm pk).lookup ("target" : Str) = some (.ref pt) := (lk_past (by decide +kernel)).trans ((lk_past (by decide +kernel)).trans ((lk_past (by decide +kernel)).trans lk_here))
theorem fl_m : (flds m pd pt pm pk).lookup ("message_counts" : Str) = some (.ref pm) := (lk_past (by decide +kernel)).trans ((lk_past (by decide +kernel)).trans ((lk_past (by decide +kernel)).trans ((lk_past (by decide +kernel)).trans lk_here)))
theorem fl_k : (flds m pd pt pm pk).lookup ("mechanism" : Str) = some (.ref pk) := (lk_past (by decide +kernel)).trans ((lk_past (by decide +kernel)).trans ((lk_past (by decide +kernel)).trans ((lk_past (by decide +kernel)).trans ((lk_past (by decide +kernel)).trans lk_here))))
/-- no attribute of that name -/
theorem fl_no {x : Str} (h : (x == ("agent_count" : Str)) = false ∧ (x == ("alternative_count" : Str)) = false ∧ (x == ("domains" : Str)) = false ∧ (x == ("target" : Str)) = false ∧ (x == ("message_counts" : Str)) = false ∧ (x == ("mechanism" : Str)) = false) : (flds m pd pt pm pk).lookup x = none :=
  (lk_past h.1).trans ((lk_past h.2.1).trans ((lk_past h.2.2.1).trans ((lk_past h.2.2.2.1).trans ((lk_past h.2.2.2.2.1).trans ((lk_past h.2.2.2.2.2).trans rfl)))))
end
section
variable {K : PySem.W.Frag} {C : Addr} {ρ : List Sl}
theorem e_fld {te : TE} {m : Mc} {f : Str} {d : PyData} (T : Tx K C) (hn : NoAttr K C f) (h : E K C te ρ (.ins m))
    (hl : ∀ (S I : Hp) (a dx pd pt pm pk : Addr) (rs : List V), InsAt C S I a m dx pd pt pm pk rs → ∃ v, (flds m pd pt pm pk).lookup f = some v ∧ Rp S v d) : E K C (tFld K te f) ρ (.dat d) := fun B S I H σ hs hi en Q q =>
  h B S I H σ hs hi en _ fun v S1 H1 g1 s1 => by
    obtain ⟨a, dx, pd, pt, pm, pk, rs, rfl, i⟩ := s1
    obtain ⟨v, h1, h2⟩ := hl _ _ _ _ _ _ _ _ _ i
    exact ⟨a, C, dx, _, v, rfl, (hi.trans g1.h) _ _ i.at_, T.cl, hn, h1, q v S1 H1 g1 h2⟩
theorem e_fA {te : TE} {m : Mc} (T : Tx K C) (h : E K C te ρ (.ins m)) : E K C (tFld K te "agent_count") ρ (.dat (nI m.target.agentCount)) := e_fld T T.nA h fun _ _ _ _ _ _ _ _ _ i => ⟨_, fl_a, .int _⟩
theorem e_fV {te : TE} {m : Mc} (T : Tx K C) (h : E K C te ρ (.ins m)) : E K C (tFld K te "alternative_count") ρ (.dat (nI m.target.alternativeCount)) := e_fld T T.nV h fun _ _ _ _ _ _ _ _ _ i => ⟨_, fl_v, .int _⟩
theorem e_fT {te : TE} {m : Mc} (T : Tx K C) (h : E K C te ρ (.ins m)) : E K C (tFld K te "target") ρ (.dat (nL m.target.outcomes)) := e_fld T T.nT h fun _ _ _ _ _ _ _ _ _ i => ⟨_, fl_t, i.tg⟩
theorem e_fM {te : TE} {m : Mc} (T : Tx K C) (h : E K C te ρ (.ins m)) : E K C (tFld K te "message_counts") ρ (.dat (nL m.messageCounts)) := e_fld T T.nM h fun _ _ _ _ _ _ _ _ _ i => ⟨_, fl_m, i.mc⟩
theorem e_fK {te : TE} {m : Mc} (T : Tx K C) (h : E K C te ρ (.ins m)) : E K C (tFld K te "mechanism") ρ (.dat (nL m.outcomes)) := e_fld T T.nK h fun _ _ _ _ _ _ _ _ _ i => ⟨_, fl_k, i.me⟩
/-- o.domains[i] -/
theorem e_dom {te tb : TE} {m : Mc} {n : Nat} {l : List (List Nat)} (T : Tx K C) (h : E K C te ρ (.ins m)) (hb : E K C tb ρ (.dat (nI n))) (hl : m.target.domains[n]? = some l) : E K C (tOp (rIxL K) (tFld K te "domains") tb) ρ (.dat (nLL l)) := fun B S I H σ hs hi en Q q =>
  h B S I H σ hs hi en _ fun v S1 H1 g1 s1 => by
    obtain ⟨a, dx, pd, pt, pm, pk, rs, rfl, i⟩ := s1
    have hi1 : Same I H1 := hi.trans g1.h
    refine ⟨a, C, dx, _, _, rfl, hi1 _ _ i.at_, T.cl, T.nD, fl_d, ?_⟩
    refine hb B S1 I H1 σ g1.sub hi1 (en.up g1 hi) _ fun w S2 H2 g2 s2 => ?_
    cases s2
    obtain ⟨u, h1, h2⟩ := i.dom.getd (i := n) (d := nLL l) (by rw [List.getElem?_map, hl] <;> rfl)
    exact ⟨pd, rs, _, u, rfl, rfl, SqL.of ((hi1.trans g2.h) _ _ i.pd_), atI_nat h1, q u S2 H2 (g1.trans g2) (h2.up g2.s)⟩
theorem ei_dom {te : TE} {m : Mc} (T : Tx K C) (h : E K C te ρ (.ins m)) : EI K C (iList K (tFld K te "domains")) ρ (m.target.domains.map nLL) := fun B S I H σ hs hi en R q =>
  h B S I H σ hs hi en _ fun v S1 H1 g1 s1 => by
    obtain ⟨a, dx, pd, pt, pm, pk, rs, rfl, i⟩ := s1
    have hi1 : Same I H1 := hi.trans g1.h
    refine ⟨a, C, dx, _, _, rfl, hi1 _ _ i.at_, T.cl, T.nD, fl_d, ?_⟩
    exact ⟨pd, rfl, ⟨rs, SqL.of (hi1 _ _ i.pd_)⟩, q _ S1 H1 g1 (iok_list i.dom fun H' _ e => SqL.of (e _ _ i.pd_))⟩
/-! ### in, index, max, sorted -/
theorem inV_nat {n : Nat} : ∀ ns : List Nat, inV (.int (n : Int)) ((ns.map fun k : Nat => (k : Int)).map V.int) = ns.contains n
  | [] => rfl
  | k :: r => by
    have ih := inV_nat (n := n) r
    unfold inV at ih ⊢
    rw [List.map_cons, List.map_cons, List.any_cons, ih, List.contains_cons]
    have e : eqV (V.int (k : Int)) (V.int (n : Int)) = (n == k) := by
      show ((k : Int) == (n : Int)) = (n == k)
      rw [Bool.eq_iff_iff, beq_iff_eq, beq_iff_eq]
      omega
    rw [e]
theorem inV_bool {b : Bool} : ∀ bs : List Bool, inV (.bl b) (bs.map V.bl) = bs.contains b
  | [] => rfl
  | k :: r => by
    have ih := inV_bool (b := b) r
    unfold inV at ih ⊢
    rw [List.map_cons, List.any_cons, ih, List.contains_cons]
    have e : eqV (V.bl k) (V.bl b) = (b == k) := by cases k <;> cases b <;> rfl
    rw [e]
theorem flat_ints (ns : List Int) : (ns.map V.int).all flatV = true := by
  rw [List.all_map]
  exact List.all_eq_true.mpr fun _ _ => rfl
theorem flat_bools (ns : List Bool) : (ns.map V.bl).all flatV = true := by
  rw [List.all_map]
  exact List.all_eq_true.mpr fun _ _ => rfl
theorem nats_int (ns : List Nat) : ns.map nI = (ns.map fun n : Nat => (n : Int)).map PyData.int := by rw [List.map_map] <;> rfl
theorem Rp.nats {S : Hp} {v : V} {ns : List Nat} (h : Rp S v (nL ns)) : ∃ a, v = .ref a ∧ S a = some (.lst ((ns.map fun n : Nat => (n : Int)).map V.int)) := by
  cases h with
  | lst h1 h2 =>
    rw [nats_int] at h2
    obtain rfl := h2.ints
    exact ⟨_, rfl, h1⟩
theorem e_inN {ta tb : TE} {n : Nat} {ns : List Nat} (ha : E K C ta ρ (.dat (nI n))) (hb : E K C tb ρ (.dat (nL ns))) : E K C (tOp (rIn K false) ta tb) ρ (.dat (.bool (ns.contains n))) :=
  e_bin ha hb fun B S I H v w hs _ a b Q q => by
    cases a
    obtain ⟨p, rfl, h1⟩ := Rp.nats b
    refine ⟨p, _, rfl, .inl (SqL.of (hs _ _ h1)), rfl, flat_ints _, ?_⟩
    rw [inV_nat, if_neg Bool.false_ne_true]
    exact q _ (.bl _)
theorem e_niN {ta tb : TE} {n : Nat} {ns : List Nat} (ha : E K C ta ρ (.dat (nI n))) (hb : E K C tb ρ (.dat (nL ns))) : E K C (tOp (rIn K true) ta tb) ρ (.dat (.bool (!ns.contains n))) :=
  e_bin ha hb fun B S I H v w hs _ a b Q q => by
    cases a
    obtain ⟨p, rfl, h1⟩ := Rp.nats b
    refine ⟨p, _, rfl, .inl (SqL.of (hs _ _ h1)), rfl, flat_ints _, ?_⟩
    rw [inV_nat, if_pos rfl]
    exact q _ (.bl _)
theorem e_inB {ta tb : TE} {b : Bool} {bs : List Bool} (ha : E K C ta ρ (.dat (.bool b))) (hb : E K C tb ρ (.dat (bL bs))) : E K C (tOp (rIn K false) ta tb) ρ (.dat (.bool (bs.contains b))) :=
  e_bin ha hb fun B S I H v w hs _ a b Q q => by
    cases a
    cases b with
    | lst h1 h2 =>
      obtain rfl := h2.bools
      refine ⟨_, _, rfl, .inl (SqL.of (hs _ _ h1)), rfl, flat_bools _, ?_⟩
      rw [inV_bool, if_neg Bool.false_ne_true]
      exact q _ (.bl _)
theorem idx_at : ∀ {ns : List Nat} {n : Nat}, n ∈ ns → ns[ns.idxOf n]? = some n ∧ ∀ m z, m < ns.idxOf n → ns[m]? = some z → z ≠ n
  | [], _, h => by cases h
  | k :: r, n, h => by
    rw [List.idxOf_cons]
    by_cases e : k = n
    · subst e
      have e1 : (k == k) = true := beq_self_eq_true k
      rw [e1]
      exact ⟨rfl, fun m z hm _ => absurd hm (Nat.not_lt_zero m)⟩
    · have e1 : (k == n) = false := beq_eq_false_iff_ne.mpr e
      rw [e1]
      have hr : n ∈ r := by
        rcases List.mem_cons.mp h with q | q
        · exact absurd q.symm e
        · exact q
      obtain ⟨h1, h2⟩ := idx_at hr
      refine ⟨by simpa using h1, fun m z hm hz => ?_⟩
      cases m with
      | zero =>
        have : k = z := by simpa using hz
        exact this ▸ e
      | succ m => exact h2 m z (by simpa using hm) (by simpa using hz)
theorem e_index {ta tb : TE} {ns : List Nat} {n : Nat} (ha : E K C ta ρ (.dat (nL ns))) (hb : E K C tb ρ (.dat (nI n))) (hm : n ∈ ns) : E K C (tBM K "list" (rIndex K) ta (tCons tb tNil)) ρ (.dat (nI (ns.idxOf n))) := fun B S I H σ hs hi en Q q =>
  ha B S I H σ hs hi en _ fun v S1 H1 g1 s1 => by
    obtain ⟨p, rfl, h1⟩ := Rp.nats s1
    refine ⟨.inl ⟨rfl, _, SqL.of (g1.sub _ _ h1)⟩, ?_⟩
    refine hb B S1 I H1 σ g1.sub (hi.trans g1.h) (en.up g1 hi) _ fun w S2 H2 g2 s2 => ?_
    cases s2
    obtain ⟨h3, h4⟩ := idx_at hm
    refine ⟨p, _, _, ns.idxOf n, .int (n : Int), rfl, rfl, SqL.of (g2.sub _ _ (g2.s _ _ h1)), rfl, flat_ints _, ?_, beq_self_eq_true _, fun m z hlt hz => ?_, q _ S2 H2 (g1.trans g2) (.int _)⟩
    · rw [List.getElem?_map, List.getElem?_map, h3] <;> rfl
    · rw [List.getElem?_map, List.getElem?_map] at hz
      cases e : ns[m]? with
      | none => rw [e] at hz; cases hz
      | some k =>
        rw [e] at hz
        cases hz
        have := h4 m k hlt e
        show ((k : Int) == (n : Int)) = false
        exact beq_eq_false_iff_ne.mpr fun q => this (by omega)
def maxL (ns : List Nat) : Nat := ns.foldl max 0
theorem max_le : ∀ (ns : List Nat) (a : Nat), a ≤ ns.foldl max a ∧ ∀ n ∈ ns, n ≤ ns.foldl max a
  | [], a => ⟨Nat.le_refl a, fun n h => by cases h⟩
  | k :: r, a => by
    obtain ⟨h1, h2⟩ := max_le r (max a k)
    refine ⟨Nat.le_trans (Nat.le_max_left a k) h1, fun n h => ?_⟩
    rcases List.mem_cons.mp h with q | q
    · rw [q]; exact Nat.le_trans (Nat.le_max_right a k) h1
    · exact h2 n q
theorem max_mem : ∀ (ns : List Nat) (a : Nat), ns.foldl max a = a ∨ ns.foldl max a ∈ ns
  | [], a => .inl rfl
  | k :: r, a => by
    rcases max_mem r (max a k) with h | h
    · rcases Nat.le_total a k with q | q
      · right
        show r.foldl max (max a k) ∈ k :: r
        rw [h, Nat.max_eq_right q]
        exact List.mem_cons_self
      · left
        show r.foldl max (max a k) = a
        rw [h, Nat.max_eq_left q]
    · exact .inr (List.mem_cons_of_mem _ h)
theorem e_max {te : TE} {ns : List Nat} (h : E K C te ρ (.dat (nL ns))) (hn : ns ≠ []) : E K C (tCB (rMax K) (tCons te tNil)) ρ (.dat (nI (maxL ns))) :=
  e_cb (ea_one h) fun B S I H vs hs _ r Q q => by
    cases r with
    | cons a t =>
      cases t
      obtain ⟨p, rfl, h1⟩ := Rp.nats a
      refine ⟨p, _, rfl, SqL.of (hs _ _ h1), ?_, fun m hm hy => ?_⟩
      · rw [List.length_map]
        exact List.length_pos_iff.mpr hn
      · obtain ⟨k, hk, rfl⟩ := List.mem_map.mp hm
        have e : k = maxL ns := by
          apply Nat.le_antisymm
          · exact (max_le ns 0).2 k hk
          · rcases max_mem ns 0 with q | q
            · unfold maxL; rw [q]; exact Nat.zero_le k
            · have := hy _ (List.mem_map.mpr ⟨_, q, rfl⟩)
              unfold maxL
              omega
        subst e
        exact q _ (.int _)
theorem eqvAll_int : ∀ as bs : List Int, PyData.eqvAll (as.map PyData.int) (bs.map PyData.int) = (as == bs)
  | [], [] => by simp [PyData.eqvAll]
  | [], _ :: _ => by simp [PyData.eqvAll]
  | _ :: _, [] => by simp [PyData.eqvAll]
  | a :: r, b :: s => by
    have ih := eqvAll_int r s
    rw [List.map_cons, List.map_cons]
    simp only [PyData.eqvAll, PyData.eqv]
    rw [ih, List.cons_beq_cons]
theorem lay_int : ∀ as : List Int, PyData.canLayAll0 (as.map PyData.int) = true
  | [] => by simp [PyData.canLayAll0]
  | a :: r => by
    have ih := lay_int r
    simp [PyData.canLayAll0, PyData.canLay0]
    simpa using ih
theorem dep_int : ∀ as : List Int, PyData.depthAll (as.map PyData.int) = 0
  | [] => by simp [PyData.depthAll]
  | a :: r => by
    have ih := dep_int r
    simp only [List.map_cons, PyData.depthAll, PyData.depth, ih]
    omega
theorem sh_int (as : List Int) : SeqAt.shaped (iL as) = true := by
  show (PyData.canLay0 (iL as) && decide (PyData.depth (iL as) ≤ 64)) = true
  rw [Bool.and_eq_true]
  refine ⟨by simp only [PyData.canLay0]; exact lay_int as, decide_eq_true ?_⟩
  simp only [PyData.depth, dep_int]
  omega
theorem beqL : ∀ as bs : List Nat, ((as.map fun n : Nat => (n : Int)) == (bs.map fun n : Nat => (n : Int))) = (as == bs)
  | [], [] => rfl
  | [], _ :: _ => rfl
  | _ :: _, [] => rfl
  | a :: r, b :: s => by
    rw [List.map_cons, List.map_cons, List.cons_beq_cons, List.cons_beq_cons, beqL r s, beqN]
theorem eqv_nL (as bs : List Nat) : PyData.eqv (nL as) (nL bs) = (as == bs) := by
  show PyData.eqv (.list (as.map nI)) (.list (bs.map nI)) = _
  rw [nats_int, nats_int]
  simp only [PyData.eqv]
  rw [eqvAll_int, beqL]
theorem sh_nL (as : List Nat) : SeqAt.shaped (nL as) = true := by
  show SeqAt.shaped (.list (as.map nI)) = true
  rw [nats_int]
  exact sh_int _
theorem sh_nLL (l : List (List Nat)) : SeqAt.shaped (nLL l) = true := by
  have h1 : ∀ l : List (List Nat), PyData.canLayAll0 (l.map nL) = true := fun l => by
    induction l with
    | nil => simp [PyData.canLayAll0]
    | cons a r ih =>
      have := sh_nL a
      have h2 : (PyData.canLay0 (nL a) && decide (PyData.depth (nL a) ≤ 64)) = true := this
      rw [Bool.and_eq_true] at h2
      rw [List.map_cons]
      simp only [PyData.canLayAll0, h2.1, ih, Bool.and_self]
  have h3 : ∀ a : List Nat, PyData.depth (nL a) = 1 := fun a => by
    show PyData.depth (.list (a.map nI)) = 1
    rw [nats_int]
    simp only [PyData.depth, dep_int]
  have h4 : ∀ l : List (List Nat), PyData.depthAll (l.map nL) ≤ 1 := fun l => by
    induction l with
    | nil => simp [PyData.depthAll]
    | cons a r ih =>
      rw [List.map_cons]
      simp only [PyData.depthAll, h3]
      omega
  show (PyData.canLay0 (nLL l) && decide (PyData.depth (nLL l) ≤ 64)) = true
  rw [Bool.and_eq_true]
  refine ⟨by simp only [PyData.canLay0]; exact h1 l, decide_eq_true ?_⟩
  simp only [PyData.depth]
  have := h4 l
  omega
theorem e_inD {ta tb : TE} {r : List Nat} {l : List (List Nat)} (ha : E K C ta ρ (.dat (nL r))) (hb : E K C tb ρ (.dat (nLL l))) : E K C (tOp (rInD K) ta tb) ρ (.dat (.bool (l.contains r))) :=
  e_bin ha hb fun B S I H v w hs _ a b Q q => by
    refine ⟨nL r, l.map nL, Rp.dp _ _ (Rp.up hs a), Rp.dp _ _ (Rp.up hs b), sh_nL r, sh_nLL l, ?_⟩
    have e : ((l.map nL).any fun z => PyData.eqv z (nL r)) = l.contains r := by
      rw [List.any_map]
      clear b hb q
      induction l with
      | nil => rfl
      | cons x s ih =>
        rw [List.any_cons, List.contains_cons, ih]
        have e1 : (((fun z => PyData.eqv z (nL r)) ∘ nL) x) = (r == x) := by
          show PyData.eqv (nL x) (nL r) = (r == x)
          rw [eqv_nL, Bool.eq_iff_iff, beq_iff_eq, beq_iff_eq]
          exact eq_comm
        rw [e1]
    rw [e]
    exact q _ (.bl _)
theorem sorted_range : ∀ n : Nat, (List.range n).Pairwise (· ≤ ·) := fun n => List.Pairwise.imp Nat.le_of_lt List.pairwise_lt_range
theorem cast_map_inj : ∀ {as bs : List Nat}, (as.map fun n : Nat => (n : Int)) = (bs.map fun n : Nat => (n : Int)) → as = bs := fun {as bs} h => by
  have := beqL as bs
  rw [h, beq_self_eq_true] at this
  exact eq_of_beq this.symm
/-- sorted(row) == list(range(count)) -/
theorem e_sortEq {te tn : TE} {ns : List Nat} {n : Nat} (h : E K C te ρ (.dat (nL ns))) (hl : ns.length < 64) (hn : E K C tn ρ (.dat (nI n))) (hn1 : n ≤ 1000) :
    E K C (tOp (rEqD K) (tCB (rSorted K) (tCons te tNil)) (tLstRg (tRg1 tn))) ρ (.dat (.bool (decide (ns.Perm (List.range n))))) := fun B S I H σ hs hi en Q q =>
  h B S I H σ hs hi en _ fun v S1 H1 g1 s1 => by
    obtain ⟨p, rfl, h1⟩ := Rp.nats s1
    refine ⟨p, _, rfl, SqL.of (g1.sub _ _ h1), by rw [List.length_map]; exact hl, fun ns' p' hperm hsort hp' => ?_⟩
    have g2 := Gr.new (o := .lst (ns'.map V.int)) g1.sub hp'
    have en2 := en.up (g1.trans g2) hi
    refine en_rg hn hn1 B _ I _ σ g2.sub ((hi.trans g1.h).trans g2.h) en2 _ fun p2 xs S3 H3 g3 hp2 hsp2 h3 hr => ?_
    have ex : xs = ((List.range n).map fun k : Nat => (k : Int)).map V.int := by
      rw [nats_int] at hr
      exact hr.ints
    subst ex
    have r1 : Rp S3 (.ref p') (iL ns') := .lst (g3.s _ _ upd_same) (by
      have h5 : ∀ l : List Int, RpA S3 (l.map V.int) (l.map PyData.int) := fun l => by
        induction l with
        | nil => exact .nil
        | cons a r ih => exact .cons (.int a) ih
      exact h5 _)
    have r2 : Dp K H3 (.ref p2) (nL (List.range n)) := by
      have : Dp K H3 (.ref p2) (.list ((List.range n).map nI)) := .lst (SqL.of h3) (RpA.dp _ _ (RpA.up g3.sub hr))
      exact this
    refine ⟨iL ns', nL (List.range n), Rp.dp _ _ (Rp.up g3.sub r1), r2, sh_int _, sh_nL _, ?_⟩
    have e : PyData.eqv (iL ns') (nL (List.range n)) = decide (ns.Perm (List.range n)) := by
      show PyData.eqv (.list (ns'.map PyData.int)) (.list ((List.range n).map nI)) = _
      rw [nats_int]
      simp only [PyData.eqv]
      rw [eqvAll_int, Bool.eq_iff_iff, beq_iff_eq, decide_eq_true_iff]
      constructor
      · intro e
        rw [e] at hperm
        -- the casts are a permutation
        have h6 := hperm.map Int.toNat
        rw [List.map_map, List.map_map] at h6
        have e7 : ∀ l : List Nat, l.map (Int.toNat ∘ fun k : Nat => (k : Int)) = l := fun l => by
          have : (Int.toNat ∘ fun k : Nat => (k : Int)) = id := funext fun k => Int.toNat_natCast k
          rw [this, List.map_id]
        rw [e7, e7] at h6
        exact h6.symm
      · intro hp
        have h6 := hp.map (fun k : Nat => (k : Int))
        have h7 := hperm.trans h6
        refine List.Perm.eq_of_pairwise (fun x y _ _ h1 h2 => Int.le_antisymm h1 h2) hsort ?_ h7
        exact List.Pairwise.map _ (fun a b hab => by omega) (sorted_range n)
    rw [e]
    exact q _ S3 H3 ((g1.trans g2).trans g3) (.bl _)
end
end Gx
namespace Gx
open PySem PySem.Spec PyProof.Rows L2
/-! ### defs and methods, by their promises -/
structure Fn (P : Program) (w : World) (K : PySem.W.Frag) (mg : Str → Option Value) (base : Heap) (k : Nat) (x : Str) (ps : List Str) (sp : Sp) : Prop where
  ex : ∃ f fd, FnOk P w K mg base CX0 k f fd ps sp ∧ mg x = some (.ref f) ∧ PySem.W.keepIn K (.ref f) = true ∧ Binds K fd ps []
structure Mt (P : Program) (w : World) (K : PySem.W.Frag) (mg : Str → Option Value) (base : Heap) (C : Addr) (k : Nat) (m : Str) (ps : List Str) (sp : Sp) : Prop where
  ex : ∃ f fd, FnOk P w K mg base CX0 k f fd ps sp ∧ Meth K C m f ∧ Binds K fd ps []
/-- the built-ins are still built-ins -/
structure Bt (mg : Str → Option Value) : Prop where
  len : mg "len" = none
  all : mg "all" = none
  any : mg "any" = none
  zip : mg "zip" = none
  range : mg "range" = none
  list : mg "list" = none
  tuple : mg "tuple" = none
  sum : mg "sum" = none
  sorted : mg "sorted" = none
  max : mg "max" = none
  enumerate : mg "enumerate" = none
  int : mg "int" = none
/-- the module's numbers and tuples -/
structure Cs (K : PySem.W.Frag) (mg : Str → Option Value) (aP aR aW aN : Addr) : Prop where
  pw : mg "POWERS" = some (.ref aP)
  rd : mg "READY" = some (.ref aR)
  wl : mg "WITH_LIST" = some (.ref aW)
  nc : mg "NUMBER_COUNTS" = some (.ref aN)
  pwT : ∀ H, SqT K H aP (([1, 2, 4, 8, 16, 32] : List Int).map V.int)
  rdT : ∀ H, SqT K H aR (([3, 4, 5, 6, 7, 8, 11, 14, 15, 16, 17, 18, 21] : List Int).map V.int)
  wlT : ∀ H, SqT K H aW (([1, 3, 6, 9, 10, 12, 14, 15, 16, 18] : List Int).map V.int)
  ncT : ∀ H, SqT K H aN (([2, 1, 1, 1, 1, 0, 0, 0, 0, 0, 1, 0, 0, 0, 0, 1, 0, 0, 0, 2, 2, 0, 2, 2, 0] : List Int).map V.int)
  i_NO_INSTANCE : ∃ t, mg "NO_INSTANCE" = some (.int (-11) t)
  i_NOT_READY : ∃ t, mg "NOT_READY" = some (.int (-16) t)
  i_UNKNOWN : ∃ t, mg "UNKNOWN" = some (.int (-2) t)
  i_INVALID : ∃ t, mg "INVALID" = some (.int (-22) t)
  i_TWICE : ∃ t, mg "TWICE" = some (.int (-17) t)
  i_FULL : ∃ t, mg "FULL" = some (.int (-28) t)
  i_NONE : ∃ t, mg "NONE" = some (.int (-33) t)
  i_ENDLESS : ∃ t, mg "ENDLESS" = some (.int (-75) t)
  i_MOST_PREFERENCES : ∃ t, mg "MOST_PREFERENCES" = some (.int 6 t)
  i_MOST_MESSAGES : ∃ t, mg "MOST_MESSAGES" = some (.int 6 t)
  i_MOST_STEPS : ∃ t, mg "MOST_STEPS" = some (.int 100 t)
  i_CREATE : ∃ t, mg "CREATE" = some (.int 0 t)
section
variable {X : Cx} {k : Nat} {x m : Str} {ps : List Str} {sp : Sp} {p pos apos : Pos} {e o : Expr} {es : List Expr} {t : TA} {ta : TE} {C : Addr}
theorem pe_gI {i : Int} (h : ∃ t, X.mg x = some (.int i t)) (hg : Gl X x := by rfl) (hd : (x == ("__debug__" : Str)) = false := by decide) : PE X (.Name x pos) (tC (.int i)) := by
  obtain ⟨t, h⟩ := h
  exact pe_glob hg h ⟨t, rfl⟩ hd
theorem pe_fn (F : Fn X.prog X.w X.K X.mg X.base k x ps sp) (hr : Room k X.A) (hg : Gl X x) (ha : PA X (e :: es) t) (hdb : (x == ("__debug__" : Str)) = false := by decide)
    (he : starEach (e :: es) X.env = (false, eval e X.env) :: starEach es X.env := by rfl) (hpl : (backTo pos (starEach es X.env)).any (·.1) = false := by rfl) : PE X (.Call (.Name x p) (e :: es) [] pos) (tCall sp [] E0 t) := by
  obtain ⟨f, fd, F, hm, hk, hb⟩ := F.ex
  exact pe_call F hr hg hm hk hb .nil pass0 ha hdb he hpl
theorem pe_mt {pl : Sem Bool} (he : PE X o ta) (c : Cls X.K C) (M : Mt X.prog X.w X.K X.mg X.base C k m ps sp) (hr : Room k X.A) (ha : PA X (e :: es) t)
    (hst : starEach (e :: es) X.env = (false, eval e X.env) :: starEach es X.env := by rfl) (hpl : (backTo pos (starEach es X.env)).any (·.1) = false := by rfl)
    (ht : eval (.Call (.Attribute o m apos) (e :: es) [] pos) X.env = (do
      let ov ← eval o X.env
      standAt apos.atName
      let (f, first) ← holding [ov] (getMethod ov m pl)
      callWith pos f first (backTo pos (starEach (e :: es) X.env)) (backToKw pos (keywordEach [] X.env))) := by rfl) :
    PE X (.Call (.Attribute o m apos) (e :: es) [] pos) (tMeth C m sp [] E0 ta t) := by
  obtain ⟨f, fd, F, hm, hb⟩ := M.ex
  exact pe_meth he c hm F hr hb .nil pass0 ha hst hpl ht
theorem pe_mt0 {pl : Sem Bool} (he : PE X o ta) (c : Cls X.K C) (M : Mt X.prog X.w X.K X.mg X.base C k m ps sp) (hr : Room k X.A)
    (ht : eval (.Call (.Attribute o m apos) [] [] pos) X.env = (do
      let ov ← eval o X.env
      standAt apos.atName
      let (f, first) ← holding [ov] (getMethod ov m pl)
      callWith pos f first (backTo pos (starEach [] X.env)) (backToKw pos (keywordEach [] X.env))) := by rfl) :
    PE X (.Call (.Attribute o m apos) [] [] pos) (tMeth C m sp [] E0 ta tNil) := by
  obtain ⟨f, fd, F, hm, hb⟩ := M.ex
  exact pe_meth0 he c hm F hr hb .nil pass0 ht
end
/-! ### from a body to a promise -/
section
variable {P : Program} {w : World} {K : PySem.W.Frag} {mg : Str → Option Value} {base : Heap} {C : Addr}
theorem SlRs.len {B S I H : Hp} : ∀ {vs : List V} {xs : List Sl}, SlRs K C B S I H vs xs → vs.length = xs.length
  | _, _, .nil => rfl
  | _, _, .cons _ t => congrArg (· + 1) (SlRs.len t)
theorem env_start {B S I H : Hp} {N : List Str} : ∀ {vs : List V} {xs : List Sl}, SlRs K C B S I H vs xs → ∀ n : Nat, EnvR K C B S I H (vs.map some ++ List.replicate n none) (xs ++ List.replicate n .any)
  | _, _, .nil, n => ⟨by simp, fun i x h => .inl (by
      have h' : (List.replicate n Sl.any)[i]? = some x := by simpa using h
      rw [List.getElem?_replicate] at h'
      split at h'
      · exact (Option.some.inj h').symm
      · cases h')⟩
  | _, _, .cons a t, n => by
    have ih := env_start (N := N) t n
    refine ⟨?_, fun i x h => ?_⟩
    · simpa using ih.len
    · cases i with
      | zero =>
        have e := Option.some.inj h
        subst e
        exact .inr ⟨_, rfl, a⟩
      | succ i => exact ih.at_ i x h
theorem body_ok {t : TS} {N : List Str} {Pr : List Sl → PyData → Prop} {vs : List V} {H : Hp} {Q : VK} {Q' : L2.St → Hp → Prop} {E' : XK} {n : Nat} (hn : ∀ xs d, Pr xs d → xs.length = n)
    (hx : ∀ xs d, Pr xs d → X K C t (xs ++ List.replicate (N.length - n) .any) (.rt d)) (h : spF K C Pr vs H Q E') : t { nx := Q', rt := Q } (L2.start N vs) H := by
  obtain ⟨S, I, xs, d, hs, hi, r, hp, k⟩ := h
  have hl : vs.length = n := r.len.trans (hn xs d hp)
  have en := env_start (N := N) r (N.length - n)
  unfold L2.start
  rw [hl]
  exact hx xs d hp S H S I H _ { nx := Q', rt := Q } (Gr.refl hs) hi en fun v S' H' g rv => k v S' H' g rv
theorem fn_okX {x qual : Str} {st : Stmt} {f : Addr} {fd : FuncData} {N ps : List Str} {k : Nat} {Pr : List Sl → PyData → Prop} {t : TS} (F : Fun K x qual st f fd) (S : FnScope N ps (defScope st))
    (hl : ∀ xs d, Pr xs d → xs.length = ps.length) (hx : ∀ xs d, Pr xs d → X K C t (xs ++ List.replicate (N.length - ps.length) .any) (.rt d))
    (hd : ∀ (cdv : Value) (A : Around) (outer : List Env) (s : Shared) (H : Hp) (E : XK), Room k (A.deeper (envOfC qual (defScope st) s.heap.objs.size f cdv)) → PSs (cxOf CX0 P w K mg base N qual (defScope st) f cdv A outer s H E).nox (defBody st) t) :
    FnOk P w K mg base CX0 (k + 1) f fd ps (spF K C Pr) :=
  F.ok S (fun vs H Q E h => by
    obtain ⟨S, I, xs, d, hs, hi, r, hp, k⟩ := h
    exact r.len.trans (hl xs d hp)) fun cdv A outer s H vs Q E hr h => ⟨t, hd cdv A outer s H E hr, body_ok hl hx h⟩
end
end Gx
/-! # The text's defs by their places, their slots (printed by gen.py) -/
namespace Gx
open PySem PySem.Spec PyProof.Rows L2
def topS (i : Nat) : Stmt := PySem.Challenge.pw_gameforms_s01_answers.main.body.getD i (.Pass ⟨0, 0, 0, 0⟩)
abbrev s_f_count_of : Stmt := topS 2
def N_f_count_of : List Str := ["sizes", "found", "size"]
abbrev s_f_is_within : Stmt := topS 3
def N_f_is_within : List Str := ["numbers", "sizes", "number", "size"]
abbrev s_f_place_of : Stmt := topS 4
def N_f_place_of : List Str := ["numbers", "sizes", "found", "number", "size"]
abbrev s_f_longer : Stmt := topS 5
def N_f_longer : List Str := ["rows", "size", "found", "row", "number"]
abbrev s_f_all_lists : Stmt := topS 6
def N_f_all_lists : List Str := ["sizes", "found", "size"]
abbrev s_f_with_number : Stmt := topS 7
def N_f_with_number : List Str := ["numbers", "at", "number", "found"]
abbrev s_f_mask_of : Stmt := topS 8
def N_f_mask_of : List Str := ["flags", "power", "flag"]
abbrev s_f_has : Stmt := topS 9
def N_f_has : List Str := ["mask", "number"]
abbrev s_f_part_of : Stmt := topS 11
def N_f_part_of : List Str := ["messages", "coalition", "is_inside", "agent", "message"]
abbrev s_m_message_profiles : Stmt := inClass (topS 47) 5
def N_m_message_profiles : List Str := ["self"]
abbrev s_m_outcome_of : Stmt := inClass (topS 47) 8
def N_m_outcome_of : List Str := ["self", "messages"]
abbrev s_f_can_force : Stmt := topS 12
def N_f_can_force : List Str := ["instance", "coalition", "alternatives", "safe", "messages", "part"]
abbrev s_f_can_respond : Stmt := topS 13
def N_f_can_respond : List Str := ["instance", "coalition", "alternatives", "met", "messages", "part"]
abbrev s_f_is_ranking : Stmt := topS 15
def N_f_is_ranking : List Str := ["row", "count"]
abbrev s_f_all_rankings : Stmt := topS 16
def N_f_all_rankings : List Str := ["count", "row"]
abbrev s_f_prefers : Stmt := topS 17
def N_f_prefers : List Str := ["ranking", "one", "other"]
abbrev s_f_not_preferred : Stmt := topS 18
def N_f_not_preferred : List Str := ["ranking", "alternative"]
abbrev s_f_best_of : Stmt := topS 19
def N_f_best_of : List Str := ["ranking", "alternatives", "alternative"]
abbrev s_f_outcome_row : Stmt := topS 21
def N_f_outcome_row : List Str := ["instance", "agent", "own", "rows", "row"]
abbrev s_f_outcome_rows : Stmt := topS 22
def N_f_outcome_rows : List Str := ["instance", "agent", "rows", "row", "own"]
abbrev s_f_is_never_better : Stmt := topS 23
def N_f_is_never_better : List Str := ["ranking", "row", "other", "here", "there"]
abbrev s_f_is_dominant : Stmt := topS 24
def N_f_is_dominant : List Str := ["ranking", "row", "rows", "other"]
abbrev s_f_does_dominate : Stmt := topS 25
def N_f_does_dominate : List Str := ["ranking", "row", "other"]
abbrev s_f_is_dominated : Stmt := topS 26
def N_f_is_dominated : List Str := ["ranking", "row", "rows", "other"]
abbrev s_f_dominant_flags : Stmt := topS 27
def N_f_dominant_flags : List Str := ["instance", "agent", "ranking", "rows", "row"]
abbrev s_f_dominated_flags : Stmt := topS 28
def N_f_dominated_flags : List Str := ["instance", "agent", "ranking", "rows", "row"]
abbrev s_f_dominant_table : Stmt := topS 29
def N_f_dominant_table : List Str := ["instance", "agent", "ranking"]
abbrev s_f_are_all_dominant : Stmt := topS 30
def N_f_are_all_dominant : List Str := ["flags", "messages", "row", "message"]
abbrev s_f_is_implemented : Stmt := topS 31
def N_f_is_implemented : List Str := ["instance", "flags", "wanted", "messages", "row"]
abbrev s_m_domain_sizes : Stmt := inClass (topS 47) 2
def N_m_domain_sizes : List Str := ["self", "domain"]
abbrev s_m_profiles : Stmt := inClass (topS 47) 4
def N_m_profiles : List Str := ["self"]
abbrev s_m_agents : Stmt := inClass (topS 47) 1
def N_m_agents : List Str := ["self"]
abbrev s_m_target_at : Stmt := inClass (topS 47) 7
def N_m_target_at : List Str := ["self", "profile"]
abbrev s_f_first_failure_of_dominance : Stmt := topS 32
def N_f_first_failure_of_dominance : List Str := ["instance", "tables", "profile", "flags", "agent", "table", "report"]
abbrev s_f_choices_of : Stmt := topS 35
def N_f_choices_of : List Str := ["instance", "messages", "agent", "count", "own"]
abbrev s_f_is_content : Stmt := topS 36
def N_f_is_content : List Str := ["instance", "messages", "agent", "ranking", "here", "there"]
abbrev s_m_preference_of : Stmt := inClass (topS 47) 6
def N_m_preference_of : List Str := ["self", "agent", "profile"]
abbrev s_f_is_equilibrium : Stmt := topS 37
def N_f_is_equilibrium : List Str := ["instance", "messages", "profile", "agent"]
abbrev s_f_equilibria : Stmt := topS 38
def N_f_equilibria : List Str := ["instance", "profile", "messages"]
abbrev s_f_content_row : Stmt := topS 39
def N_f_content_row : List Str := ["instance", "agent", "ranking", "messages"]
abbrev s_f_content_rows : Stmt := topS 40
def N_f_content_rows : List Str := ["instance", "agent", "ranking"]
abbrev s_f_is_attained : Stmt := topS 41
def N_f_is_attained : List Str := ["instance", "rows", "wanted", "found", "place", "outcome", "row"]
abbrev s_f_first_failure : Stmt := topS 42
def N_f_first_failure : List Str := ["instance", "tables", "profile", "rows", "agent", "table", "report"]
abbrev s_f_response_of : Stmt := topS 43
def N_f_response_of : List Str := ["instance", "messages", "agent", "ranking", "outcomes", "best"]
abbrev s_f_after_step : Stmt := topS 44
def N_f_after_step : List Str := ["instance", "messages", "profile", "agent", "response"]
abbrev s_f_dynamics : Stmt := topS 45
def N_f_dynamics : List Str := ["instance", "profile", "messages", "here", "count", "later"]
abbrev s_f_dictatorship : Stmt := topS 49
def N_f_dictatorship : List Str := ["instance", "agent", "profile"]
abbrev s_f_borda_scores : Stmt := topS 50
def N_f_borda_scores : List Str := ["instance", "profile", "scores", "agent", "index", "alternative"]
abbrev s_f_borda_winner : Stmt := topS 51
def N_f_borda_winner : List Str := ["instance", "profile", "scores"]
abbrev s_f_borda : Stmt := topS 52
def N_f_borda : List Str := ["instance", "profile"]
abbrev s_f_does_gain : Stmt := topS 53
def N_f_does_gain : List Str := ["instance", "profile", "agent", "other", "there"]
abbrev s_f_manipulation_at : Stmt := topS 54
def N_f_manipulation_at : List Str := ["instance", "profile", "agent", "other"]
abbrev s_f_first_manipulation : Stmt := topS 55
def N_f_first_manipulation : List Str := ["instance", "profile", "found"]
abbrev s_f_does_keep : Stmt := topS 56
def N_f_does_keep : List Str := ["ranking", "outcome", "other", "below"]
abbrev s_f_keeping : Stmt := topS 57
def N_f_keeping : List Str := ["instance", "profile", "agent", "ranking", "outcome", "other"]
abbrev s_f_violation_from : Stmt := topS 58
def N_f_violation_from : List Str := ["instance", "profile", "profiles", "outcome", "kept", "place", "other", "agent", "row", "report"]
abbrev s_f_first_violation : Stmt := topS 59
def N_f_first_violation : List Str := ["instance", "profiles", "profile", "found"]
abbrev s_f_created : Stmt := topS 72
def N_f_created : List Str := ["agent_count", "alternative_count"]
abbrev s_f_or_none : Stmt := topS 73
def N_f_or_none : List Str := ["found"]
abbrev s_f_result_of : Stmt := topS 74
def N_f_result_of : List Str := ["failure"]
abbrev s_m_change_domain : Stmt := inClass (topS 47) 9
def N_m_change_domain : List Str := ["self", "agent", "rankings", "ranking"]
abbrev s_f_add_preference : Stmt := topS 75
def N_f_add_preference : List Str := ["instance", "numbers", "row", "agent", "domain", "index"]
abbrev s_f_set_full_domain : Stmt := topS 76
def N_f_set_full_domain : List Str := ["instance", "numbers", "row", "agent", "rankings"]
abbrev s_m_change_target : Stmt := inClass (topS 47) 10
def N_m_change_target : List Str := ["self", "outcomes"]
abbrev s_f_set_target_outcome : Stmt := topS 77
def N_f_set_target_outcome : List Str := ["instance", "numbers", "row", "previous", "alternative", "sizes"]
abbrev s_f_use_dictatorship : Stmt := topS 78
def N_f_use_dictatorship : List Str := ["instance", "numbers", "row", "agent"]
abbrev s_f_use_borda : Stmt := topS 79
def N_f_use_borda : List Str := ["instance", "numbers", "row"]
abbrev s_f_target_outcome : Stmt := topS 80
def N_f_target_outcome : List Str := ["instance", "numbers", "row"]
abbrev s_f_monotonicity_violation : Stmt := topS 81
def N_f_monotonicity_violation : List Str := ["instance", "numbers", "row", "found"]
abbrev s_f_find_manipulation : Stmt := topS 82
def N_f_find_manipulation : List Str := ["instance", "numbers", "row"]
abbrev s_m_change_mechanism : Stmt := inClass (topS 47) 11
def N_m_change_mechanism : List Str := ["self", "message_counts", "outcomes"]
abbrev s_f_set_message_counts : Stmt := topS 83
def N_f_set_message_counts : List Str := ["instance", "numbers", "row", "count"]
abbrev s_f_set_mechanism_outcome : Stmt := topS 84
def N_f_set_mechanism_outcome : List Str := ["instance", "numbers", "row", "previous", "alternative", "sizes"]
abbrev s_f_use_direct_mechanism : Stmt := topS 85
def N_f_use_direct_mechanism : List Str := ["instance", "numbers", "row"]
abbrev s_f_mechanism_outcome : Stmt := topS 86
def N_f_mechanism_outcome : List Str := ["instance", "numbers", "row"]
abbrev s_f_message_counts : Stmt := topS 87
def N_f_message_counts : List Str := ["instance", "numbers", "row"]
abbrev s_f_count_equilibria : Stmt := topS 88
def N_f_count_equilibria : List Str := ["instance", "numbers", "row"]
abbrev s_f_equilibrium : Stmt := topS 89
def N_f_equilibrium : List Str := ["instance", "numbers", "row", "found"]
abbrev s_f_equilibrium_outcomes : Stmt := topS 90
def N_f_equilibrium_outcomes : List Str := ["instance", "numbers", "row", "outcomes", "messages", "alternative"]
abbrev s_f_implements_in_nash : Stmt := topS 91
def N_f_implements_in_nash : List Str := ["instance", "numbers", "row"]
abbrev s_f_best_response_dynamics : Stmt := topS 92
def N_f_best_response_dynamics : List Str := ["instance", "numbers", "row", "found", "profile", "messages"]
abbrev s_f_has_preference : Stmt := topS 93
def N_f_has_preference : List Str := ["instance", "agent", "preference"]
abbrev s_f_dominant_messages : Stmt := topS 94
def N_f_dominant_messages : List Str := ["instance", "numbers", "row", "agent", "preference"]
abbrev s_f_dominated_messages : Stmt := topS 95
def N_f_dominated_messages : List Str := ["instance", "numbers", "row", "agent", "preference"]
abbrev s_f_implements_in_dominant_strategies : Stmt := topS 96
def N_f_implements_in_dominant_strategies : List Str := ["instance", "numbers", "row"]
abbrev s_f_are_sets : Stmt := topS 97
def N_f_are_sets : List Str := ["instance", "coalition", "alternatives"]
abbrev s_f_force : Stmt := topS 98
def N_f_force : List Str := ["instance", "numbers", "row", "coalition", "alternatives"]
abbrev s_f_respond : Stmt := topS 99
def N_f_respond : List Str := ["instance", "numbers", "row", "coalition", "alternatives"]
abbrev s_f_describe : Stmt := topS 100
def N_f_describe : List Str := ["instance", "numbers", "row"]
abbrev s_m_is_ready : Stmt := inClass (topS 47) 3
def N_m_is_ready : List Str := ["self"]
abbrev s_f_answer : Stmt := topS 102
def N_f_answer : List Str := ["instance", "place", "numbers", "row", "deed"]
abbrev s_f_read_call : Stmt := topS 107
def N_f_read_call : List Str := ["calls", "at", "place", "end", "numbers", "behind"]
abbrev s_f_answers : Stmt := topS 108
def N_f_answers : List Str := ["calls", "found", "instance", "at", "place", "numbers", "row", "made", "told"]
abbrev s_m_init : Stmt := inClass (topS 47) 0
def N_m_init : List Str := ["self", "agent_count", "alternative_count", "agent"]
theorem sc_f_count_of : FnScope N_f_count_of ["sizes"] (defScope s_f_count_of) := ⟨rfl, rfl, rfl, by decide +kernel, rfl, by decide +kernel, by decide +kernel⟩
theorem sc_f_is_within : FnScope N_f_is_within ["numbers", "sizes"] (defScope s_f_is_within) := ⟨rfl, rfl, rfl, by decide +kernel, rfl, by decide +kernel, by decide +kernel⟩
theorem sc_f_place_of : FnScope N_f_place_of ["numbers", "sizes"] (defScope s_f_place_of) := ⟨rfl, rfl, rfl, by decide +kernel, rfl, by decide +kernel, by decide +kernel⟩
theorem sc_f_longer : FnScope N_f_longer ["rows", "size"] (defScope s_f_longer) := ⟨rfl, rfl, rfl, by decide +kernel, rfl, by decide +kernel, by decide +kernel⟩
theorem sc_f_all_lists : FnScope N_f_all_lists ["sizes"] (defScope s_f_all_lists) := ⟨rfl, rfl, rfl, by decide +kernel, rfl, by decide +kernel, by decide +kernel⟩
theorem sc_f_with_number : FnScope N_f_with_number ["numbers", "at", "number"] (defScope s_f_with_number) := ⟨rfl, rfl, rfl, by decide +kernel, rfl, by decide +kernel, by decide +kernel⟩
theorem sc_f_mask_of : FnScope N_f_mask_of ["flags"] (defScope s_f_mask_of) := ⟨rfl, rfl, rfl, by decide +kernel, rfl, by decide +kernel, by decide +kernel⟩
theorem sc_f_has : FnScope N_f_has ["mask", "number"] (defScope s_f_has) := ⟨rfl, rfl, rfl, by decide +kernel, rfl, by decide +kernel, by decide +kernel⟩
theorem sc_f_part_of : FnScope N_f_part_of ["messages", "coalition", "is_inside"] (defScope s_f_part_of) := ⟨rfl, rfl, rfl, by decide +kernel, rfl, by decide +kernel, by decide +kernel⟩
theorem sc_m_message_profiles : FnScope N_m_message_profiles ["self"] (defScope s_m_message_profiles) := ⟨rfl, rfl, rfl, by decide +kernel, rfl, by decide +kernel, by decide +kernel⟩
theorem sc_m_outcome_of : FnScope N_m_outcome_of ["self", "messages"] (defScope s_m_outcome_of) := ⟨rfl, rfl, rfl, by decide +kernel, rfl, by decide +kernel, by decide +kernel⟩
theorem sc_f_can_force : FnScope N_f_can_force ["instance", "coalition", "alternatives"] (defScope s_f_can_force) := ⟨rfl, rfl, rfl, by decide +kernel, rfl, by decide +kernel, by decide +kernel⟩
theorem sc_f_can_respond : FnScope N_f_can_respond ["instance", "coalition", "alternatives"] (defScope s_f_can_respond) := ⟨rfl, rfl, rfl, by decide +kernel, rfl, by decide +kernel, by decide +kernel⟩
theorem sc_f_is_ranking : FnScope N_f_is_ranking ["row", "count"] (defScope s_f_is_ranking) := ⟨rfl, rfl, rfl, by decide +kernel, rfl, by decide +kernel, by decide +kernel⟩
theorem sc_f_all_rankings : FnScope N_f_all_rankings ["count"] (defScope s_f_all_rankings) := ⟨rfl, rfl, rfl, by decide +kernel, rfl, by decide +kernel, by decide +kernel⟩
theorem sc_f_prefers : FnScope N_f_prefers ["ranking", "one", "other"] (defScope s_f_prefers) := ⟨rfl, rfl, rfl, by decide +kernel, rfl, by decide +kernel, by decide +kernel⟩
theorem sc_f_not_preferred : FnScope N_f_not_preferred ["ranking", "alternative"] (defScope s_f_not_preferred) := ⟨rfl, rfl, rfl, by decide +kernel, rfl, by decide +kernel, by decide +kernel⟩
theorem sc_f_best_of : FnScope N_f_best_of ["ranking", "alternatives"] (defScope s_f_best_of) := ⟨rfl, rfl, rfl, by decide +kernel, rfl, by decide +kernel, by decide +kernel⟩
theorem sc_f_outcome_row : FnScope N_f_outcome_row ["instance", "agent", "own", "rows"] (defScope s_f_outcome_row) := ⟨rfl, rfl, rfl, by decide +kernel, rfl, by decide +kernel, by decide +kernel⟩
theorem sc_f_outcome_rows : FnScope N_f_outcome_rows ["instance", "agent"] (defScope s_f_outcome_rows) := ⟨rfl, rfl, rfl, by decide +kernel, rfl, by decide +kernel, by decide +kernel⟩
theorem sc_f_is_never_better : FnScope N_f_is_never_better ["ranking", "row", "other"] (defScope s_f_is_never_better) := ⟨rfl, rfl, rfl, by decide +kernel, rfl, by decide +kernel, by decide +kernel⟩
theorem sc_f_is_dominant : FnScope N_f_is_dominant ["ranking", "row", "rows"] (defScope s_f_is_dominant) := ⟨rfl, rfl, rfl, by decide +kernel, rfl, by decide +kernel, by decide +kernel⟩
theorem sc_f_does_dominate : FnScope N_f_does_dominate ["ranking", "row", "other"] (defScope s_f_does_dominate) := ⟨rfl, rfl, rfl, by decide +kernel, rfl, by decide +kernel, by decide +kernel⟩
theorem sc_f_is_dominated : FnScope N_f_is_dominated ["ranking", "row", "rows"] (defScope s_f_is_dominated) := ⟨rfl, rfl, rfl, by decide +kernel, rfl, by decide +kernel, by decide +kernel⟩
theorem sc_f_dominant_flags : FnScope N_f_dominant_flags ["instance", "agent", "ranking"] (defScope s_f_dominant_flags) := ⟨rfl, rfl, rfl, by decide +kernel, rfl, by decide +kernel, by decide +kernel⟩
theorem sc_f_dominated_flags : FnScope N_f_dominated_flags ["instance", "agent", "ranking"] (defScope s_f_dominated_flags) := ⟨rfl, rfl, rfl, by decide +kernel, rfl, by decide +kernel, by decide +kernel⟩
theorem sc_f_dominant_table : FnScope N_f_dominant_table ["instance", "agent"] (defScope s_f_dominant_table) := ⟨rfl, rfl, rfl, by decide +kernel, rfl, by decide +kernel, by decide +kernel⟩
theorem sc_f_are_all_dominant : FnScope N_f_are_all_dominant ["flags", "messages"] (defScope s_f_are_all_dominant) := ⟨rfl, rfl, rfl, by decide +kernel, rfl, by decide +kernel, by decide +kernel⟩
theorem sc_f_is_implemented : FnScope N_f_is_implemented ["instance", "flags", "wanted"] (defScope s_f_is_implemented) := ⟨rfl, rfl, rfl, by decide +kernel, rfl, by decide +kernel, by decide +kernel⟩
theorem sc_m_domain_sizes : FnScope N_m_domain_sizes ["self"] (defScope s_m_domain_sizes) := ⟨rfl, rfl, rfl, by decide +kernel, rfl, by decide +kernel, by decide +kernel⟩
theorem sc_m_profiles : FnScope N_m_profiles ["self"] (defScope s_m_profiles) := ⟨rfl, rfl, rfl, by decide +kernel, rfl, by decide +kernel, by decide +kernel⟩
theorem sc_m_agents : FnScope N_m_agents ["self"] (defScope s_m_agents) := ⟨rfl, rfl, rfl, by decide +kernel, rfl, by decide +kernel, by decide +kernel⟩
theorem sc_m_target_at : FnScope N_m_target_at ["self", "profile"] (defScope s_m_target_at) := ⟨rfl, rfl, rfl, by decide +kernel, rfl, by decide +kernel, by decide +kernel⟩
theorem sc_f_first_failure_of_dominance : FnScope N_f_first_failure_of_dominance ["instance"] (defScope s_f_first_failure_of_dominance) := ⟨rfl, rfl, rfl, by decide +kernel, rfl, by decide +kernel, by decide +kernel⟩
theorem sc_f_choices_of : FnScope N_f_choices_of ["instance", "messages", "agent"] (defScope s_f_choices_of) := ⟨rfl, rfl, rfl, by decide +kernel, rfl, by decide +kernel, by decide +kernel⟩
theorem sc_f_is_content : FnScope N_f_is_content ["instance", "messages", "agent", "ranking"] (defScope s_f_is_content) := ⟨rfl, rfl, rfl, by decide +kernel, rfl, by decide +kernel, by decide +kernel⟩
theorem sc_m_preference_of : FnScope N_m_preference_of ["self", "agent", "profile"] (defScope s_m_preference_of) := ⟨rfl, rfl, rfl, by decide +kernel, rfl, by decide +kernel, by decide +kernel⟩
theorem sc_f_is_equilibrium : FnScope N_f_is_equilibrium ["instance", "messages", "profile"] (defScope s_f_is_equilibrium) := ⟨rfl, rfl, rfl, by decide +kernel, rfl, by decide +kernel, by decide +kernel⟩
theorem sc_f_equilibria : FnScope N_f_equilibria ["instance", "profile"] (defScope s_f_equilibria) := ⟨rfl, rfl, rfl, by decide +kernel, rfl, by decide +kernel, by decide +kernel⟩
theorem sc_f_content_row : FnScope N_f_content_row ["instance", "agent", "ranking"] (defScope s_f_content_row) := ⟨rfl, rfl, rfl, by decide +kernel, rfl, by decide +kernel, by decide +kernel⟩
theorem sc_f_content_rows : FnScope N_f_content_rows ["instance", "agent"] (defScope s_f_content_rows) := ⟨rfl, rfl, rfl, by decide +kernel, rfl, by decide +kernel, by decide +kernel⟩
theorem sc_f_is_attained : FnScope N_f_is_attained ["instance", "rows", "wanted"] (defScope s_f_is_attained) := ⟨rfl, rfl, rfl, by decide +kernel, rfl, by decide +kernel, by decide +kernel⟩
theorem sc_f_first_failure : FnScope N_f_first_failure ["instance"] (defScope s_f_first_failure) := ⟨rfl, rfl, rfl, by decide +kernel, rfl, by decide +kernel, by decide +kernel⟩
theorem sc_f_response_of : FnScope N_f_response_of ["instance", "messages", "agent", "ranking"] (defScope s_f_response_of) := ⟨rfl, rfl, rfl, by decide +kernel, rfl, by decide +kernel, by decide +kernel⟩
theorem sc_f_after_step : FnScope N_f_after_step ["instance", "messages", "profile"] (defScope s_f_after_step) := ⟨rfl, rfl, rfl, by decide +kernel, rfl, by decide +kernel, by decide +kernel⟩
theorem sc_f_dynamics : FnScope N_f_dynamics ["instance", "profile", "messages"] (defScope s_f_dynamics) := ⟨rfl, rfl, rfl, by decide +kernel, rfl, by decide +kernel, by decide +kernel⟩
theorem sc_f_dictatorship : FnScope N_f_dictatorship ["instance", "agent"] (defScope s_f_dictatorship) := ⟨rfl, rfl, rfl, by decide +kernel, rfl, by decide +kernel, by decide +kernel⟩
theorem sc_f_borda_scores : FnScope N_f_borda_scores ["instance", "profile"] (defScope s_f_borda_scores) := ⟨rfl, rfl, rfl, by decide +kernel, rfl, by decide +kernel, by decide +kernel⟩
theorem sc_f_borda_winner : FnScope N_f_borda_winner ["instance", "profile"] (defScope s_f_borda_winner) := ⟨rfl, rfl, rfl, by decide +kernel, rfl, by decide +kernel, by decide +kernel⟩
theorem sc_f_borda : FnScope N_f_borda ["instance"] (defScope s_f_borda) := ⟨rfl, rfl, rfl, by decide +kernel, rfl, by decide +kernel, by decide +kernel⟩
theorem sc_f_does_gain : FnScope N_f_does_gain ["instance", "profile", "agent", "other"] (defScope s_f_does_gain) := ⟨rfl, rfl, rfl, by decide +kernel, rfl, by decide +kernel, by decide +kernel⟩
theorem sc_f_manipulation_at : FnScope N_f_manipulation_at ["instance", "profile"] (defScope s_f_manipulation_at) := ⟨rfl, rfl, rfl, by decide +kernel, rfl, by decide +kernel, by decide +kernel⟩
theorem sc_f_first_manipulation : FnScope N_f_first_manipulation ["instance"] (defScope s_f_first_manipulation) := ⟨rfl, rfl, rfl, by decide +kernel, rfl, by decide +kernel, by decide +kernel⟩
theorem sc_f_does_keep : FnScope N_f_does_keep ["ranking", "outcome", "other"] (defScope s_f_does_keep) := ⟨rfl, rfl, rfl, by decide +kernel, rfl, by decide +kernel, by decide +kernel⟩
theorem sc_f_keeping : FnScope N_f_keeping ["instance", "profile", "agent"] (defScope s_f_keeping) := ⟨rfl, rfl, rfl, by decide +kernel, rfl, by decide +kernel, by decide +kernel⟩
theorem sc_f_violation_from : FnScope N_f_violation_from ["instance", "profile", "profiles"] (defScope s_f_violation_from) := ⟨rfl, rfl, rfl, by decide +kernel, rfl, by decide +kernel, by decide +kernel⟩
theorem sc_f_first_violation : FnScope N_f_first_violation ["instance"] (defScope s_f_first_violation) := ⟨rfl, rfl, rfl, by decide +kernel, rfl, by decide +kernel, by decide +kernel⟩
theorem sc_f_created : FnScope N_f_created ["agent_count", "alternative_count"] (defScope s_f_created) := ⟨rfl, rfl, rfl, by decide +kernel, rfl, by decide +kernel, by decide +kernel⟩
theorem sc_f_or_none : FnScope N_f_or_none ["found"] (defScope s_f_or_none) := ⟨rfl, rfl, rfl, by decide +kernel, rfl, by decide +kernel, by decide +kernel⟩
theorem sc_f_result_of : FnScope N_f_result_of ["failure"] (defScope s_f_result_of) := ⟨rfl, rfl, rfl, by decide +kernel, rfl, by decide +kernel, by decide +kernel⟩
theorem sc_m_change_domain : FnScope N_m_change_domain ["self", "agent", "rankings"] (defScope s_m_change_domain) := ⟨rfl, rfl, rfl, by decide +kernel, rfl, by decide +kernel, by decide +kernel⟩
theorem sc_f_add_preference : FnScope N_f_add_preference ["instance", "numbers", "row"] (defScope s_f_add_preference) := ⟨rfl, rfl, rfl, by decide +kernel, rfl, by decide +kernel, by decide +kernel⟩
theorem sc_f_set_full_domain : FnScope N_f_set_full_domain ["instance", "numbers", "row"] (defScope s_f_set_full_domain) := ⟨rfl, rfl, rfl, by decide +kernel, rfl, by decide +kernel, by decide +kernel⟩
theorem sc_m_change_target : FnScope N_m_change_target ["self", "outcomes"] (defScope s_m_change_target) := ⟨rfl, rfl, rfl, by decide +kernel, rfl, by decide +kernel, by decide +kernel⟩
theorem sc_f_set_target_outcome : FnScope N_f_set_target_outcome ["instance", "numbers", "row"] (defScope s_f_set_target_outcome) := ⟨rfl, rfl, rfl, by decide +kernel, rfl, by decide +kernel, by decide +kernel⟩
theorem sc_f_use_dictatorship : FnScope N_f_use_dictatorship ["instance", "numbers", "row"] (defScope s_f_use_dictatorship) := ⟨rfl, rfl, rfl, by decide +kernel, rfl, by decide +kernel, by decide +kernel⟩
theorem sc_f_use_borda : FnScope N_f_use_borda ["instance", "numbers", "row"] (defScope s_f_use_borda) := ⟨rfl, rfl, rfl, by decide +kernel, rfl, by decide +kernel, by decide +kernel⟩
theorem sc_f_target_outcome : FnScope N_f_target_outcome ["instance", "numbers", "row"] (defScope s_f_target_outcome) := ⟨rfl, rfl, rfl, by decide +kernel, rfl, by decide +kernel, by decide +kernel⟩
theorem sc_f_monotonicity_violation : FnScope N_f_monotonicity_violation ["instance", "numbers", "row"] (defScope s_f_monotonicity_violation) := ⟨rfl, rfl, rfl, by decide +kernel, rfl, by decide +kernel, by decide +kernel⟩
theorem sc_f_find_manipulation : FnScope N_f_find_manipulation ["instance", "numbers", "row"] (defScope s_f_find_manipulation) := ⟨rfl, rfl, rfl, by decide +kernel, rfl, by decide +kernel, by decide +kernel⟩
theorem sc_m_change_mechanism : FnScope N_m_change_mechanism ["self", "message_counts", "outcomes"] (defScope s_m_change_mechanism) := ⟨rfl, rfl, rfl, by decide +kernel, rfl, by decide +kernel, by decide +kernel⟩
theorem sc_f_set_message_counts : FnScope N_f_set_message_counts ["instance", "numbers", "row"] (defScope s_f_set_message_counts) := ⟨rfl, rfl, rfl, by decide +kernel, rfl, by decide +kernel, by decide +kernel⟩
theorem sc_f_set_mechanism_outcome : FnScope N_f_set_mechanism_outcome ["instance", "numbers", "row"] (defScope s_f_set_mechanism_outcome) := ⟨rfl, rfl, rfl, by decide +kernel, rfl, by decide +kernel, by decide +kernel⟩
theorem sc_f_use_direct_mechanism : FnScope N_f_use_direct_mechanism ["instance", "numbers", "row"] (defScope s_f_use_direct_mechanism) := ⟨rfl, rfl, rfl, by decide +kernel, rfl, by decide +kernel, by decide +kernel⟩
theorem sc_f_mechanism_outcome : FnScope N_f_mechanism_outcome ["instance", "numbers", "row"] (defScope s_f_mechanism_outcome) := ⟨rfl, rfl, rfl, by decide +kernel, rfl, by decide +kernel, by decide +kernel⟩
theorem sc_f_message_counts : FnScope N_f_message_counts ["instance", "numbers", "row"] (defScope s_f_message_counts) := ⟨rfl, rfl, rfl, by decide +kernel, rfl, by decide +kernel, by decide +kernel⟩
theorem sc_f_count_equilibria : FnScope N_f_count_equilibria ["instance", "numbers", "row"] (defScope s_f_count_equilibria) := ⟨rfl, rfl, rfl, by decide +kernel, rfl, by decide +kernel, by decide +kernel⟩
theorem sc_f_equilibrium : FnScope N_f_equilibrium ["instance", "numbers", "row"] (defScope s_f_equilibrium) := ⟨rfl, rfl, rfl, by decide +kernel, rfl, by decide +kernel, by decide +kernel⟩
theorem sc_f_equilibrium_outcomes : FnScope N_f_equilibrium_outcomes ["instance", "numbers", "row"] (defScope s_f_equilibrium_outcomes) := ⟨rfl, rfl, rfl, by decide +kernel, rfl, by decide +kernel, by decide +kernel⟩
theorem sc_f_implements_in_nash : FnScope N_f_implements_in_nash ["instance", "numbers", "row"] (defScope s_f_implements_in_nash) := ⟨rfl, rfl, rfl, by decide +kernel, rfl, by decide +kernel, by decide +kernel⟩
theorem sc_f_best_response_dynamics : FnScope N_f_best_response_dynamics ["instance", "numbers", "row"] (defScope s_f_best_response_dynamics) := ⟨rfl, rfl, rfl, by decide +kernel, rfl, by decide +kernel, by decide +kernel⟩
theorem sc_f_has_preference : FnScope N_f_has_preference ["instance", "agent", "preference"] (defScope s_f_has_preference) := ⟨rfl, rfl, rfl, by decide +kernel, rfl, by decide +kernel, by decide +kernel⟩
theorem sc_f_dominant_messages : FnScope N_f_dominant_messages ["instance", "numbers", "row"] (defScope s_f_dominant_messages) := ⟨rfl, rfl, rfl, by decide +kernel, rfl, by decide +kernel, by decide +kernel⟩
theorem sc_f_dominated_messages : FnScope N_f_dominated_messages ["instance", "numbers", "row"] (defScope s_f_dominated_messages) := ⟨rfl, rfl, rfl, by decide +kernel, rfl, by decide +kernel, by decide +kernel⟩
theorem sc_f_implements_in_dominant_strategies : FnScope N_f_implements_in_dominant_strategies ["instance", "numbers", "row"] (defScope s_f_implements_in_dominant_strategies) := ⟨rfl, rfl, rfl, by decide +kernel, rfl, by decide +kernel, by decide +kernel⟩
theorem sc_f_are_sets : FnScope N_f_are_sets ["instance", "coalition", "alternatives"] (defScope s_f_are_sets) := ⟨rfl, rfl, rfl, by decide +kernel, rfl, by decide +kernel, by decide +kernel⟩
theorem sc_f_force : FnScope N_f_force ["instance", "numbers", "row"] (defScope s_f_force) := ⟨rfl, rfl, rfl, by decide +kernel, rfl, by decide +kernel, by decide +kernel⟩
theorem sc_f_respond : FnScope N_f_respond ["instance", "numbers", "row"] (defScope s_f_respond) := ⟨rfl, rfl, rfl, by decide +kernel, rfl, by decide +kernel, by decide +kernel⟩
theorem sc_f_describe : FnScope N_f_describe ["instance", "numbers", "row"] (defScope s_f_describe) := ⟨rfl, rfl, rfl, by decide +kernel, rfl, by decide +kernel, by decide +kernel⟩
theorem sc_m_is_ready : FnScope N_m_is_ready ["self"] (defScope s_m_is_ready) := ⟨rfl, rfl, rfl, by decide +kernel, rfl, by decide +kernel, by decide +kernel⟩
theorem sc_f_answer : FnScope N_f_answer ["instance", "place", "numbers", "row"] (defScope s_f_answer) := ⟨rfl, rfl, rfl, by decide +kernel, rfl, by decide +kernel, by decide +kernel⟩
theorem sc_f_read_call : FnScope N_f_read_call ["calls", "at"] (defScope s_f_read_call) := ⟨rfl, rfl, rfl, by decide +kernel, rfl, by decide +kernel, by decide +kernel⟩
theorem sc_f_answers : FnScope N_f_answers ["calls"] (defScope s_f_answers) := ⟨rfl, rfl, rfl, by decide +kernel, rfl, by decide +kernel, by decide +kernel⟩
theorem sc_m_init : FnScope N_m_init ["self", "agent_count", "alternative_count"] (defScope s_m_init) := ⟨rfl, rfl, rfl, by decide +kernel, rfl, by decide +kernel, by decide +kernel⟩
end Gx
namespace Gx
open PySem PySem.Spec PyProof.Rows L2
section
variable {K : PySem.W.Frag} {C : Addr} {ρ : List Sl}
theorem forE_fold {α γ : Type} (f : γ → α → γ) : ∀ (xs : List α) (s : γ), forE (fun s a => .inl (f s a)) s xs = .inl (xs.foldl f s)
  | [], _ => rfl
  | a :: r, s => forE_fold f r (f s a)
/-- a loop that keeps a state and never leaves -/
theorem x_forF {α γ : Type} {wi : TI} {g : TG} {tb : TS} {xs : List α} {enc : α → PyData} (env : γ → List Sl) (f : γ → α → γ) (s0 : γ) (hw : EI K C wi ρ (xs.map enc)) (h0 : Wk ρ (env s0))
    (hb : ∀ pre a post, xs = pre ++ a :: post → ∃ js ρ', GA K C g js (env (pre.foldl f s0)) (enc a) ρ' ∧ ∃ ρ2, X K C tb ρ' (.nx ρ2) ∧ Wk ρ2 (env (f (pre.foldl f s0) a))) :
    X K C (tFor wi g tb) ρ (.nx (env (xs.foldl f s0))) := by
  have h := x_for (tb := tb) (g := g) env (fun s a => .inl (f s a)) s0 hw h0 fun pre a post s e hs => by
    rw [forE_fold] at hs
    cases hs
    exact hb pre a post e
  rw [forE_fold] at h
  exact h
theorem forE_find {α : Type} (f : α → Option PyData) : ∀ xs : List α, forE (γ := Unit) (fun s a => match f a with | some d => .inr d | none => .inl s) () xs = match xs.findSome? f with | some d => .inr d | none => .inl ()
  | [] => rfl
  | a :: r => by
    have ih := forE_find f r
    rw [List.findSome?_cons]
    rw [forE]
    cases e : f a with
    | none => exact ih
    | some d => rfl
/-- a loop that leaves at the first item of which f tells something; the rest follows -/
theorem x_find {α : Type} {wi : TI} {g : TG} {tb u : TS} {xs : List α} {enc : α → PyData} {d' : PyData} (ρ0 : List Sl) (f : α → Option PyData) (hw : EI K C wi ρ (xs.map enc)) (h0 : Wk ρ ρ0)
    (hb : ∀ pre a post, xs = pre ++ a :: post → (∀ b ∈ pre, f b = none) → ∃ js ρ', GA K C g js ρ0 (enc a) ρ' ∧ (match f a with | some d => X K C tb ρ' (.rt d) | none => ∃ ρ2, X K C tb ρ' (.nx ρ2) ∧ Wk ρ2 ρ0))
    (hr : xs.findSome? f = none → X K C u ρ0 (.rt d')) : X K C (tSeq (tFor wi g tb) u) ρ (.rt ((xs.findSome? f).getD d')) := by
  have h := x_for (tb := tb) (g := g) (γ := Unit) (fun _ => ρ0) (fun s a => match f a with | some d => .inr d | none => .inl s) () hw h0 fun pre a post s e hs => by
    have hp : ∀ b ∈ pre, f b = none := by
      rw [forE_find] at hs
      cases e2 : pre.findSome? f with
      | none => exact List.findSome?_eq_none_iff.mp e2
      | some d => rw [e2] at hs; cases hs
    obtain ⟨js, ρ', h1, h2⟩ := hb pre a post e hp
    refine ⟨js, ρ', h1, ?_⟩
    cases e3 : f a with
    | none => rw [e3] at h2; exact h2
    | some d => rw [e3] at h2; exact h2
  rw [forE_find] at h
  cases e : xs.findSome? f with
  | none =>
    rw [e] at h
    exact x_seq h (hr e)
  | some d =>
    rw [e] at h
    exact x_seqR h
/-- the same, the item by membership -/
theorem x_findM {α : Type} {wi : TI} {g : TG} {tb u : TS} {xs : List α} {enc : α → PyData} {d' : PyData} (ρ0 : List Sl) (f : α → Option PyData) (hw : EI K C wi ρ (xs.map enc)) (h0 : Wk ρ ρ0)
    (hb : ∀ a ∈ xs, ∃ js ρ', GA K C g js ρ0 (enc a) ρ' ∧ (match f a with | some d => X K C tb ρ' (.rt d) | none => ∃ ρ2, X K C tb ρ' (.nx ρ2) ∧ Wk ρ2 ρ0))
    (hr : xs.findSome? f = none → X K C u ρ0 (.rt d')) : X K C (tSeq (tFor wi g tb) u) ρ (.rt ((xs.findSome? f).getD d')) :=
  x_find ρ0 f hw h0 (fun pre a post e _ => hb a (by rw [e]; simp)) hr
theorem mem_mid {α : Type} {xs pre post : List α} {a : α} (e : xs = pre ++ a :: post) : a ∈ xs := by rw [e]; simp
/-- a loop that leaves at the first item of which f tells something, by itself -/
theorem x_find0 {α : Type} {wi : TI} {g : TG} {tb : TS} {xs : List α} {enc : α → PyData} (ρ0 : List Sl) (f : α → Option PyData) (hw : EI K C wi ρ (xs.map enc)) (h0 : Wk ρ ρ0)
    (hb : ∀ a ∈ xs, ∃ js ρ', GA K C g js ρ0 (enc a) ρ' ∧ (match f a with | some d => X K C tb ρ' (.rt d) | none => ∃ ρ2, X K C tb ρ' (.nx ρ2) ∧ Wk ρ2 ρ0)) : (match xs.findSome? f with | some d => X K C (tFor wi g tb) ρ (.rt d) | none => X K C (tFor wi g tb) ρ (.nx ρ0)) := by
  have h := x_for (tb := tb) (g := g) (γ := Unit) (fun _ => ρ0) (fun s a => match f a with | some d => .inr d | none => .inl s) () hw h0 fun pre a post s e hs => by
    obtain ⟨js, ρ', h1, h2⟩ := hb a (mem_mid e)
    refine ⟨js, ρ', h1, ?_⟩
    cases e3 : f a with
    | none => rw [e3] at h2; exact h2
    | some d => rw [e3] at h2; exact h2
  rw [forE_find] at h
  cases e : xs.findSome? f with
  | none => rw [e] at h; exact h
  | some d => rw [e] at h; exact h
/-- an if in a loop's body that leaves, or nothing -/
theorem b_if {c : TT} {t : TS} {b : Bool} {d : PyData} {ρ0 : List Sl} (h : ET K C c ρ b) (h1 : b = true → X K C t ρ (.rt d)) (hw : Wk ρ ρ0) :
    (match (if b = true then some d else none : Option PyData) with | some d => X K C (tIfS c t tNext) ρ (.rt d) | none => ∃ ρ2, X K C (tIfS c t tNext) ρ (.nx ρ2) ∧ Wk ρ2 ρ0) := by
  cases b with
  | true => exact x_if h (fun _ => h1 rfl) fun q => by cases q
  | false => exact ⟨ρ, x_if h (fun q => by cases q) fun _ => x_next, hw⟩
theorem x_asgE {te : TE} {i : Nat} {d : PyData} (h : E K C te ρ (.dat d)) : X K C (tAsg te (gName i)) ρ (.nx (ρ.set i (.dat d))) := x_asg h ga_name
/-- a, b = x, y -/
theorem x_par {ta : TA} {i j : Nat} {d e : PyData} (h : EA K C ta ρ [.dat d, .dat e]) : X K C (tPar i j ta) ρ (.nx ((ρ.set i (.dat d)).set j (.dat e))) := fun S0 B S I H σ D gr hib en k =>
  h B S I H σ gr.sub (hib.trans gr.h) en _ fun vs S1 H1 g1 s1 => by
    cases s1 with
    | cons a t =>
      cases t with
      | cons b t2 =>
        cases t2
        exact ⟨_, _, rfl, k _ S1 H1 g1.s (gr.trans g1) (((en.up g1 (hib.trans gr.h)).set i a).set j b)⟩
end
end Gx
/-! # zip of a written tuple and a list; items of a written tuple -/
namespace Gx
open PySem PySem.Spec PyProof.Rows L2
theorem hu64 {A : Around} {k : Nat} (hr : Room k A) : A.units + 64 < cLine := by
  have := hr.un
  omega
theorem hu65 {A : Around} {k : Nat} (hr : Room k A) : A.units + 65 < cLine := by
  have := hr.un
  omega
/-- the tuple at a and the list at b, side by side; each turn gives a new pair -/
def ItzM (K : PySem.W.Frag) (a b : Addr) : It where
  go i H := ∃ (xs ys : List V) (x y : V), SqT K H a xs ∧ SqL K H b ys ∧ xs[i]? = some x ∧ ys[i]? = some y
  yld i H v H' := ∃ T x y, v = .ref T ∧ H T = none ∧ H' = upd H T (.tup [x, y]) ∧ (∀ xs, SqT K H a xs → xs[i]? = some x) ∧ ∀ ys, SqL K H b ys → ys[i]? = some y
  stop i H := ∃ xs ys : List V, SqT K H a xs ∧ SqL K H b ys ∧ i = min xs.length ys.length
/-- what stands of the iterator's own cells at turn i -/
structure ZmAt (z TI TO i1 i2 a b : Addr) (i : Nat) (h : Heap) : Prop where
  zz : IsZip h z TI TO .none
  ti : IsTupOf2 h TI (.ref i1) (.ref i2)
  to : ∃ a1 a2, IsTupOf2 h TO a1 a2
  t1 : h.IsTupleIter i1 a i
  t2 : h.IsListIter i2 b i
theorem turn_zipM {P : Program} {w : World} {K : PySem.W.Frag} {elts : List Expr} {kk : Nat} {tpos : Pos} {a b z TI TO i1 i2 : Addr} (S : ZipSep2 z TI TO i1 i2 [i1, a] [i2, b]) :
    Turn P w K (.Tuple elts kk tpos) (ItzM K a b) [z, TI, TO, i1, i2] z (ZmAt z TI TO i1 i2 a b) where
  mem := by simp
  obj := fun i h st c hc => by
    obtain ⟨o1, e1, _, d1⟩ := st.t1
    obtain ⟨o2, e2, _, d2⟩ := st.t2
    obtain ⟨x, y, eT⟩ := st.to
    simp only [List.mem_cons, List.not_mem_nil, or_false] at hc
    rcases hc with rfl | rfl | rfl | rfl | rfl
    · exact ⟨_, st.zz, fun v q => by cases q⟩
    · exact ⟨_, st.ti, fun v q => by cases q⟩
    · exact ⟨_, eT, fun v q => by cases q⟩
    · exact ⟨o1, e1, fun v q => by rw [d1] at q; cases q⟩
    · exact ⟨o2, e2, fun v q => by rw [d2] at q; cases q⟩
  keep := fun i h h' st k => by
    obtain ⟨x, y, eT⟩ := st.to
    exact ⟨k z (by simp) _ st.zz, k TI (by simp) _ st.ti, ⟨x, y, k TO (by simp) _ eT⟩, st.t1.at fun o q => k i1 (by simp) o q, st.t2.at fun o q => k i2 (by simp) o q⟩
  item := by
    intro Y hP hw hK hc i pins s σ H E I hf st hg
    subst hP hw hK
    obtain ⟨xs, ys, x, y, hqx, hqy, hx, hy⟩ := hg
    obtain ⟨its, rv, p, _⟩ := I.tuple hqx
    obtain ⟨its2, rv2, p2, _⟩ := I.list hqy
    obtain ⟨u, hu, ru⟩ := rv.get hx
    obtain ⟨u2, hu2, ru2⟩ := rv2.get hy
    have pT : s.heap.IsTuple a its.toArray := p
    have pL : s.heap.IsList b its2.toArray := p2.isList
    have na : a ≠ i1 := fun q => by
      obtain ⟨o1, e1, c1, _⟩ := st.t1
      obtain ⟨o2, e2, c2, _⟩ := pT
      rw [q, e1] at e2
      cases e2
      rw [c1] at c2
      exact absurd c2 (by decide)
    have nb : b ≠ i2 := fun q => by
      obtain ⟨o1, e1, c1, _⟩ := st.t2
      obtain ⟨o2, e2, c2, _⟩ := pL
      rw [q, e1] at e2
      cases e2
      rw [c1] at c2
      exact absurd c2 (by decide)
    have W := GoesN.zip2 (prog := Y.prog) (w := Y.w) (A := Y.A) (elts := elts) (x1 := kk) (pos := tpos) S (.tuple (A := Y.A.in1) (I.ok.hd hc) i1 a na its.toArray) (.list (A := Y.A.in1) (I.ok.hd hc) i2 b nb its2.toArray)
    have h1 : i < its.toArray.size := by
      have := (List.getElem?_eq_some_iff.mp hu).1
      simpa using this
    have h2 : i < its2.toArray.size := by
      have := (List.getElem?_eq_some_iff.mp hu2).1
      simpa using this
    refine W.goes i s _ E (by omega) ⟨st.zz, st.ti, st.to, ⟨st.t1, pT⟩, ⟨st.t2, pL⟩⟩ fun v h' tk hY st' hk _ => ?_
    obtain ⟨T, x', y', rfl, hT, hx', hy', hTT⟩ := hY
    obtain rfl : x' = u := by
      have e : its.toArray[i]? = some u := by simpa using hu
      rw [e] at hx'
      exact (Option.some.inj hx').symm
    obtain rfl : y' = u2 := by
      have e : its2.toArray[i]? = some u2 := by simpa using hu2
      rw [e] at hy'
      exact (Option.some.inj hy').symm
    have new : ObjOk Y.prog Y.w (upd H T (.tup [x, y])) h' T (.tup [x, y]) := ⟨by show 2 ≤ sizeLine; decide, [x', y'], .cons ru (.cons ru2 .nil), hTT⟩
    have I1 := I.turnedNew (t' := tk) (ch := [z, TI, TO, i1, i2]) (fun c o hb q => hk c o (fun m => hb (by simp only [List.mem_cons, List.not_mem_nil, or_false] at m ⊢; rcases m with m | m | m | m <;> simp [m])) q) hf hT new
    obtain ⟨k1, k2, k3, ⟨k4, _⟩, ⟨k5, _⟩⟩ := st'
    refine ⟨.ref T, _, I1, rfl, ⟨T, x, y, rfl, I.hok.fresh hT, rfl, fun l hl => by rw [I.tuple_inj hl hqx]; exact hx, fun l hl => by rw [I.list_inj hl hqy]; exact hy⟩, ⟨k1, k2, k3, k4, k5⟩, fun c hcm => ?_⟩
    have hn := (hf c hcm).1
    have hlt : c < s.heap.objs.size := by
      obtain ⟨o1, e1, _, _⟩ := st.t1
      obtain ⟨o2, e2, _, _⟩ := st.t2
      obtain ⟨q1, q2, eT⟩ := st.to
      simp only [List.mem_cons, List.not_mem_nil, or_false] at hcm
      rcases hcm with rfl | rfl | rfl | rfl | rfl
      · exact Heap.lt_size st.zz
      · exact Heap.lt_size st.ti
      · exact Heap.lt_size eT
      · exact Heap.lt_size e1
      · exact Heap.lt_size e2
    rw [upd_ne (Nat.ne_of_lt (Nat.lt_of_lt_of_le hlt hT))]
    exact hn
  done := by
    intro Y hP hw hK hc i pins s σ H E I hf st hg
    subst hP hw hK
    obtain ⟨xs, ys, hqx, hqy, hend⟩ := hg
    obtain ⟨its, rv, p, _⟩ := I.tuple hqx
    obtain ⟨its2, rv2, p2, _⟩ := I.list hqy
    have pT : s.heap.IsTuple a its.toArray := p
    have pL : s.heap.IsList b its2.toArray := p2.isList
    have na : a ≠ i1 := fun q => by
      obtain ⟨o1, e1, c1, _⟩ := st.t1
      obtain ⟨o2, e2, c2, _⟩ := pT
      rw [q, e1] at e2
      cases e2
      rw [c1] at c2
      exact absurd c2 (by decide)
    have nb : b ≠ i2 := fun q => by
      obtain ⟨o1, e1, c1, _⟩ := st.t2
      obtain ⟨o2, e2, c2, _⟩ := pL
      rw [q, e1] at e2
      cases e2
      rw [c1] at c2
      exact absurd c2 (by decide)
    have W := GoesN.zip2 (prog := Y.prog) (w := Y.w) (A := Y.A) (elts := elts) (x1 := kk) (pos := tpos) S (.tuple (A := Y.A.in1) (I.ok.hd hc) i1 a na its.toArray) (.list (A := Y.A.in1) (I.ok.hd hc) i2 b nb its2.toArray)
    have e : i = min its.toArray.size its2.toArray.size := by
      rw [hend, rv.length, rv2.length, List.size_toArray, List.size_toArray]
    refine W.stops s _ E (by rw [← e]; exact ⟨st.zz, st.ti, st.to, ⟨st.t1, pT⟩, ⟨st.t2, pL⟩⟩) fun h' tk hk _ => ?_
    exact I.turnedL (t' := tk) (ch := [z, TI, TO, i1, i2]) (fun c o hb q => hk c o (fun m => hb (by simp only [List.mem_cons, List.not_mem_nil, or_false] at m ⊢; rcases m with m | m | m | m <;> simp [m])) q) hf
  self := fun A i s Q E st h => wpAny_pyIter_zip st.zz h
def iZipM (K : PySem.W.Frag) (ta : TA) : TI := fun σ H R => ta σ H fun vs H1 => ∃ a b xs ys, vs = [.ref a, .ref b] ∧ SqT K H1 a xs ∧ SqL K H1 b ys ∧ R (ItzM K a b) H1
theorem pi_zipM {X : Cx} {e e2 : Expr} {ta : TA} {p pos tpos : Pos} {elts : List Expr} {kk : Nat} (hg : Gl X "zip") (hm : X.mg "zip" = none) (ha : PA X [e, e2] ta)
    (hs : starEach [e, e2] X.env = (false, eval e X.env) :: starEach [e2] X.env := by rfl) (hpl : (backTo pos (starEach [e2] X.env)).any (·.1) = false := by rfl) :
    PI X (.Tuple elts kk tpos) (.Call (.Name "zip" p) [e, e2] [] pos) (iZipM X.K ta) := by
  refine ⟨fun pins s σ H R I h => ?_⟩
  refine Call_ (ld_blt I hg hm PyProof.Rows.boot_zip (PyProof.Rows.callWith_type1 (thn (ha.run pos pins s σ H _ I h) fun us s1 ⟨vs, H1, I1, r1, q1⟩ => ?_) hs hpl))
  obtain ⟨a, b, xs, ys, rfl, hqx, hqy, q⟩ := q1
  obtain ⟨its, rv, p1, _⟩ := I1.tuple hqx
  obtain ⟨its2, rv2, p2, _⟩ := I1.list hqy
  have pT : s1.heap.IsTuple a its.toArray := p1
  have pL : s1.heap.IsList b its2.toArray := p2.isList
  cases r1 with
  | cons r rr =>
    cases rr with
    | cons r' rr =>
      cases rr
      cases r
      cases r'
      obtain ⟨o1, ho1, _⟩ := id pT
      obtain ⟨o2, ho2, _⟩ := id pL
      refine zip_begins2 (begins_tuple a its.toArray) (begins_list b its2.toArray) pT pL fun h' hz hTI hTO h1 h2 hsz hk => wpAny_pyIter_zip hz ?_
      have I2 : Inv X pins σ H1 { s1 with heap := h' } := I1.kept (t' := s1.toks) hk
      refine ⟨s1.heap.objs.size + 4, [s1.heap.objs.size + 4, s1.heap.objs.size + 2, s1.heap.objs.size + 3, s1.heap.objs.size, s1.heap.objs.size + 1], _, _, H1, rfl, I2,
        turn_zipM (zip_sep2 (fp1 := [a]) (fp2 := [b]) (fun c hc => by rw [List.mem_singleton.mp hc]; exact Heap.lt_size ho1) (fun c hc => by rw [List.mem_singleton.mp hc]; exact Heap.lt_size ho2)), ⟨hz, hTI, ⟨_, _, hTO⟩, ⟨_, h1, rfl, rfl⟩, ⟨_, h2, rfl, rfl⟩⟩, fun c hcm => ?_, q⟩
      have hle : s1.heap.objs.size ≤ c := by
        simp only [List.mem_cons, List.not_mem_nil, or_false] at hcm
        rcases hcm with rfl | rfl | rfl | rfl | rfl <;> omega
      exact I1.fpOk hle (I1.hok.fresh hle)
section
variable {K : PySem.W.Frag} {C : Addr} {ρ : List Sl}
theorem walk_zipM {a b : Addr} {xs ys : List V} {n : Nat} (hn : n = min xs.length ys.length) : Walk (ItzM K a b) n (fun H => SqT K H a xs ∧ SqL K H b ys) (YPair (fun i => xs[i]?) (fun i => ys[i]?)) := by
  subst hn
  refine ⟨fun i _ hi q => ?_, fun _ q => ⟨xs, ys, q.1, q.2, rfl⟩, fun i H v H' _ q y => ?_⟩
  · exact ⟨xs, ys, xs[i], ys[i], q.1, q.2, List.getElem?_eq_getElem (by omega), List.getElem?_eq_getElem (by omega)⟩
  · obtain ⟨T, x, z, h1, h2, h3, h4, h5⟩ := y
    exact ⟨T, x, z, h1, h2, h3, h4 xs q.1, h5 ys q.2⟩
theorem ei_zipM {β : Type} {g : β → PyData} {te : TE} {as : List Nat} {bs : List β} {pw : Addr} (hp : ∀ H, SqT K H pw ((as.map fun n : Nat => (n : Int)).map V.int)) (h : E K C te ρ (.dat (.list (bs.map g)))) :
    EI K C (iZipM K (tCons (tC (.ref pw)) (tCons te tNil))) ρ ((as.zip bs).map fun p => .tuple [nI p.1, g p.2]) := fun B S I H σ hs hi en R q =>
  h B S I H σ hs hi en _ fun w S1 H1 g1 s2 => by
    cases s2 with
    | lst h3 h4 =>
      refine ⟨pw, _, _, _, rfl, hp H1, SqL.of (g1.sub _ _ h3), q _ S1 H1 g1 ?_⟩
      rename_i b ys
      have el : ((as.zip bs).map fun p => PyData.tuple [nI p.1, g p.2]).length = min ((as.map fun n : Nat => (n : Int)).map V.int).length ys.length := by
        rw [h4.len, List.length_map, List.length_map, List.length_map, List.length_map, List.length_zip]
      refine ⟨_, _, walk_zipM (K := K) (a := pw) (b := b) (ys := ys) el, fun H' e _ => ⟨hp H', SqL.of (e _ _ h3)⟩, fun i d H x H' hd hs hi y S2 e1 e2 => ?_⟩
      obtain ⟨T, x1, x2, rfl, hT, rfl, hx1, hx2⟩ := y
      obtain ⟨d2, k3, k4⟩ := h4.get hx2
      rw [List.getElem?_map] at hd k3
      replace hx1 : ((as.map fun n : Nat => (n : Int)).map V.int)[i]? = some x1 := hx1
      rw [List.getElem?_map, List.getElem?_map] at hx1
      obtain ⟨p, hpp, rfl⟩ := Option.map_eq_some_iff.mp hd
      obtain ⟨hp1, hp2⟩ := zip_at hpp
      rw [hp1] at hx1
      rw [hp2] at k3
      cases hx1
      cases k3
      exact pair_new (S := S) e2 hT (.int _) (k4.up e1)
/-- an item of a written tuple -/
theorem e_ixC {tb : TE} {pw : Addr} {ns : List Int} {n k : Nat} (hp : ∀ H, SqT K H pw (ns.map V.int)) (hb : E K C tb ρ (.dat (nI n))) (hd : ns[n]? = some (k : Int)) : E K C (tOp (rIxT K) (tC (.ref pw)) tb) ρ (.dat (nI k)) := fun B S I H σ hs hi en Q q =>
  hb B S I H σ hs hi en _ fun w S1 H1 g1 s2 => by
    cases s2
    exact ⟨pw, _, _, V.int (k : Int), rfl, rfl, hp H1, atI_nat (by rw [List.getElem?_map, hd] <;> rfl), q _ S1 H1 g1 (.int _)⟩
theorem inV_ints {n : Int} : ∀ ns : List Int, inV (.int n) (ns.map V.int) = ns.contains n
  | [] => rfl
  | k :: r => by
    have ih := inV_ints (n := n) r
    unfold inV at ih ⊢
    rw [List.map_cons, List.any_cons, ih, List.contains_cons]
    have e : eqV (V.int k) (V.int n) = (n == k) := by
      show (k == n) = (n == k)
      rw [Bool.eq_iff_iff, beq_iff_eq, beq_iff_eq]
      exact eq_comm
    rw [e]
/-- not in, in a written tuple -/
theorem e_niC {ta : TE} {pw : Addr} {ns : List Int} {n : Int} (hp : ∀ H, SqT K H pw (ns.map V.int)) (ha : E K C ta ρ (.dat (.int n))) : E K C (tOp (rIn K true) ta (tC (.ref pw))) ρ (.dat (.bool (!ns.contains n))) := fun B S I H σ hs hi en Q q =>
  ha B S I H σ hs hi en _ fun w S1 H1 g1 s2 => by
    cases s2
    refine ⟨pw, _, rfl, .inr (hp H1), rfl, flat_ints _, ?_⟩
    rw [if_pos rfl, inV_ints]
    exact q _ S1 H1 g1 (.bl _)
theorem e_inC {ta : TE} {pw : Addr} {ns : List Int} {n : Int} (hp : ∀ H, SqT K H pw (ns.map V.int)) (ha : E K C ta ρ (.dat (.int n))) : E K C (tOp (rIn K false) ta (tC (.ref pw))) ρ (.dat (.bool (ns.contains n))) := fun B S I H σ hs hi en Q q =>
  ha B S I H σ hs hi en _ fun w S1 H1 g1 s2 => by
    cases s2
    refine ⟨pw, _, rfl, .inr (hp H1), rfl, flat_ints _, ?_⟩
    rw [if_neg Bool.false_ne_true, inV_ints]
    exact q _ S1 H1 g1 (.bl _)
end
end Gx
namespace Gx
open PySem PySem.Spec PyProof.Rows L2

/-! # Lists below sizes, their places, masks, rankings: what the defs compute -/
def prodL (l : List Nat) : Nat := l.foldl (fun a b => a * b) 1
def within (ns ss : List Nat) : Bool := (ns.length == ss.length) && (ns.zip ss).all fun p => decide (p.1 < p.2)
def placeOf (ns ss : List Nat) : Nat := (ns.zip ss).foldl (fun f p => f * p.2 + p.1) 0
def longer (rows : List (List Nat)) (size : Nat) : List (List Nat) := rows.flatMap fun row => (List.range size).map fun n => row ++ [n]
def allLists (ss : List Nat) : List (List Nat) := ss.foldl longer [[]]
def pows : List Nat := [1, 2, 4, 8, 16, 32]
def maskOf (bs : List Bool) : Nat := (((pows.zip bs).filter fun p => p.2).map fun p => p.1).sum
def hasB (mask n : Nat) : Bool := mask / 2 ^ n % 2 == 1
def isRk (c : Nat) (row : List Nat) : Bool := decide (row.Perm (List.range c))
def allRk (c : Nat) : List (List Nat) := (allLists (List.replicate c c)).filter (isRk c)
def bestOf (r as : List Nat) : Nat := (r.filter fun x => as.contains x).headD 0
/-! ### promises -/
def P_f_count_of : List Sl → PyData → Prop := fun xs d => ∃ l : List Nat, xs = [.dat (nL l)] ∧ (∀ s ∈ l, s ≤ 6) ∧ d = nI (prodL l)
def P_f_is_within : List Sl → PyData → Prop := fun xs d => ∃ ns ss : List Nat, xs = [.dat (nL ns), .dat (nL ss)] ∧ ss.length ≤ 1000 ∧ d = .bool (within ns ss)
def P_f_place_of : List Sl → PyData → Prop := fun xs d => ∃ ns ss : List Nat, xs = [.dat (nL ns), .dat (nL ss)] ∧ (∀ s ∈ ss, s ≤ 6) ∧ d = nI (placeOf ns ss)
def P_f_longer : List Sl → PyData → Prop := fun xs d => ∃ (rows : List (List Nat)) (n : Nat), xs = [.dat (nLL rows), .dat (nI n)] ∧ (rows.length ≤ 1300 ∧ n ≤ 6 ∧ ∀ r ∈ rows, r.length ≤ 10) ∧ d = nLL (longer rows n)
def P_f_all_lists : List Sl → PyData → Prop := fun xs d => ∃ ss : List Nat, xs = [.dat (nL ss)] ∧ (ss.length ≤ 4 ∧ ∀ s ∈ ss, s ≤ 6) ∧ d = nLL (allLists ss)
def P_f_with_number : List Sl → PyData → Prop := fun xs d => ∃ (l : List Nat) (i n : Nat), xs = [.dat (nL l), .dat (nI i), .dat (nI n)] ∧ i < l.length ∧ d = nL (l.set i n)
def P_f_mask_of : List Sl → PyData → Prop := fun xs d => ∃ bs : List Bool, xs = [.dat (bL bs)] ∧ d = nI (maskOf bs)
def P_f_has : List Sl → PyData → Prop := fun xs d => ∃ mask n : Nat, xs = [.dat (nI mask), .dat (nI n)] ∧ n < 6 ∧ d = .bool (hasB mask n)
def P_f_is_ranking : List Sl → PyData → Prop := fun xs d => ∃ (row : List Nat) (c : Nat), xs = [.dat (nL row), .dat (nI c)] ∧ (row.length < 64 ∧ c ≤ 1000) ∧ d = .bool (isRk c row)
def P_f_all_rankings : List Sl → PyData → Prop := fun xs d => ∃ c : Nat, xs = [.dat (nI c)] ∧ c ≤ 4 ∧ d = nLL (allRk c)
def P_f_prefers : List Sl → PyData → Prop := fun xs d => ∃ (r : List Nat) (a b : Nat), xs = [.dat (nL r), .dat (nI a), .dat (nI b)] ∧ (a ∈ r ∧ b ∈ r) ∧ d = .bool (Su193.prefers r a b)
def P_f_not_preferred : List Sl → PyData → Prop := fun xs d => ∃ (r : List Nat) (a : Nat), xs = [.dat (nL r), .dat (nI a)] ∧ a ∈ r ∧ d = nL (r.drop (r.idxOf a))
def P_f_best_of : List Sl → PyData → Prop := fun xs d => ∃ (r as : List Nat), xs = [.dat (nL r), .dat (nL as)] ∧ (r.length ≤ 1000 ∧ ∃ x ∈ r, x ∈ as) ∧ d = nI (bestOf r as)
abbrev sp_f_count_of (K : PySem.W.Frag) (C : Addr) : Sp := spF K C P_f_count_of
abbrev sp_f_is_within (K : PySem.W.Frag) (C : Addr) : Sp := spF K C P_f_is_within
abbrev sp_f_place_of (K : PySem.W.Frag) (C : Addr) : Sp := spF K C P_f_place_of
abbrev sp_f_longer (K : PySem.W.Frag) (C : Addr) : Sp := spF K C P_f_longer
abbrev sp_f_all_lists (K : PySem.W.Frag) (C : Addr) : Sp := spF K C P_f_all_lists
abbrev sp_f_with_number (K : PySem.W.Frag) (C : Addr) : Sp := spF K C P_f_with_number
abbrev sp_f_mask_of (K : PySem.W.Frag) (C : Addr) : Sp := spF K C P_f_mask_of
abbrev sp_f_has (K : PySem.W.Frag) (C : Addr) : Sp := spF K C P_f_has
abbrev sp_f_is_ranking (K : PySem.W.Frag) (C : Addr) : Sp := spF K C P_f_is_ranking
abbrev sp_f_all_rankings (K : PySem.W.Frag) (C : Addr) : Sp := spF K C P_f_all_rankings
abbrev sp_f_prefers (K : PySem.W.Frag) (C : Addr) : Sp := spF K C P_f_prefers
abbrev sp_f_not_preferred (K : PySem.W.Frag) (C : Addr) : Sp := spF K C P_f_not_preferred
abbrev sp_f_best_of (K : PySem.W.Frag) (C : Addr) : Sp := spF K C P_f_best_of
theorem len_f_count_of : ∀ xs d, P_f_count_of xs d → xs.length = 1 := fun xs d ⟨_, e, _⟩ => by rw [e] <;> rfl
theorem len_f_is_within : ∀ xs d, P_f_is_within xs d → xs.length = 2 := fun xs d ⟨_, _, e, _⟩ => by rw [e] <;> rfl
theorem len_f_place_of : ∀ xs d, P_f_place_of xs d → xs.length = 2 := fun xs d ⟨_, _, e, _⟩ => by rw [e] <;> rfl
theorem len_f_longer : ∀ xs d, P_f_longer xs d → xs.length = 2 := fun xs d ⟨_, _, e, _⟩ => by rw [e] <;> rfl
theorem len_f_all_lists : ∀ xs d, P_f_all_lists xs d → xs.length = 1 := fun xs d ⟨_, e, _⟩ => by rw [e] <;> rfl
theorem len_f_with_number : ∀ xs d, P_f_with_number xs d → xs.length = 3 := fun xs d ⟨_, _, _, e, _⟩ => by rw [e] <;> rfl
theorem len_f_mask_of : ∀ xs d, P_f_mask_of xs d → xs.length = 1 := fun xs d ⟨_, e, _⟩ => by rw [e] <;> rfl
theorem len_f_has : ∀ xs d, P_f_has xs d → xs.length = 2 := fun xs d ⟨_, _, e, _⟩ => by rw [e] <;> rfl
theorem len_f_is_ranking : ∀ xs d, P_f_is_ranking xs d → xs.length = 2 := fun xs d ⟨_, _, e, _⟩ => by rw [e] <;> rfl
theorem len_f_all_rankings : ∀ xs d, P_f_all_rankings xs d → xs.length = 1 := fun xs d ⟨_, e, _⟩ => by rw [e] <;> rfl
theorem len_f_prefers : ∀ xs d, P_f_prefers xs d → xs.length = 3 := fun xs d ⟨_, _, _, e, _⟩ => by rw [e] <;> rfl
theorem len_f_not_preferred : ∀ xs d, P_f_not_preferred xs d → xs.length = 2 := fun xs d ⟨_, _, e, _⟩ => by rw [e] <;> rfl
theorem len_f_best_of : ∀ xs d, P_f_best_of xs d → xs.length = 2 := fun xs d ⟨_, _, e, _⟩ => by rw [e] <;> rfl
/-! ### readings (printed by gen.py) -/
/-- 0 sizes, 1 found, 2 size -/
def t_f_count_of (K : PySem.W.Frag) (C : Addr) : TS :=
    (tSeq (tAsg (tC (.int 1)) (gName 1))
    (tSeq (tFor (iList K (tVar 0)) (gName 2) (tAsg (tOp rMulI (tVar 1) (tVar 2)) (gName 1)))
    (tRet (tVar 1))))
/-- 0 numbers, 1 sizes, 2 number, 3 size -/
def t_f_is_within (K : PySem.W.Frag) (C : Addr) : TS :=
    (tRet (tAndV (tOp rEq (tCB (rLenS K) (tCons (tVar 0) tNil)) (tCB (rLenS K) (tCons (tVar 1) tNil))) (tCB (rAll K) (tCons (tLc (iZip K (tCons (tVar 0) (tCons (tVar 1) tNil))) (gTup K 2 (gCons (gName 2) (gCons (gName 3) gNil))) tYes (tOp rLtI (tVar 2) (tVar 3)) [2, 3]) tNil))))
/-- 0 numbers, 1 sizes, 2 found, 3 number, 4 size -/
def t_f_place_of (K : PySem.W.Frag) (C : Addr) : TS :=
    (tSeq (tAsg (tC (.int 0)) (gName 2))
    (tSeq (tFor (iZip K (tCons (tVar 0) (tCons (tVar 1) tNil))) (gTup K 2 (gCons (gName 3) (gCons (gName 4) gNil))) (tAsg (tOp rAddI (tOp rMulI (tVar 2) (tVar 4)) (tVar 3)) (gName 2)))
    (tRet (tVar 2))))
/-- 0 rows, 1 size, 2 found, 3 row, 4 number -/
def t_f_longer (K : PySem.W.Frag) (C : Addr) : TS :=
    (tSeq (tAsg (tLst tNil) (gName 2))
    (tSeq (tFor (iList K (tVar 0)) (gName 3) (tFor (iRng1 (tCons (tVar 1) tNil)) (gName 4) (tDrop (tBM K "list" rAppend (tVar 2) (tCons (tOp rCat (tVar 3) (tLst (tCons (tVar 4) tNil))) tNil)))))
    (tRet (tVar 2))))
/-- 0 sizes, 1 found, 2 size -/
def t_f_all_lists (K : PySem.W.Frag) (C : Addr) : TS :=
    (tSeq (tAsg (tLst (tCons (tLst tNil) tNil)) (gName 1))
    (tSeq (tFor (iList K (tVar 0)) (gName 2) (tAsg (tCall (sp_f_longer K C) [] E0 (tCons (tVar 1) (tCons (tVar 2) tNil))) (gName 1)))
    (tRet (tVar 1))))
/-- 0 numbers, 1 at, 2 number, 3 found -/
def t_f_with_number (K : PySem.W.Frag) (C : Addr) : TS :=
    (tSeq (tAsg (tCB (rListS K) (tCons (tVar 0) tNil)) (gName 3))
    (tSeq (tAsg (tVar 2) (gSub (tVar 3) (tVar 1) rSetL))
    (tRet (tVar 3))))
/-- 0 flags, 1 power, 2 flag -/
def t_f_mask_of (K : PySem.W.Frag) (C pw : Addr) : TS :=
    (tRet (tCB (rSum K) (tCons (tLc (iZipM K (tCons (tC (.ref pw)) (tCons (tVar 0) tNil))) (gTup K 2 (gCons (gName 1) (gCons (gName 2) gNil))) (tB (tVar 2)) (tVar 1) [1, 2]) tNil)))
/-- 0 mask, 1 number -/
def t_f_has (K : PySem.W.Frag) (C pw : Addr) : TS :=
    (tRet (tOp rEq (tOp rModI (tOp rDivI (tVar 0) (tOp (rIxT K) (tC (.ref pw)) (tVar 1))) (tC (.int 2))) (tC (.int 1))))
/-- 0 row, 1 count -/
def t_f_is_ranking (K : PySem.W.Frag) (C : Addr) : TS :=
    (tRet (tOp (rEqD K) (tCB (rSorted K) (tCons (tVar 0) tNil)) (tLstRg (tRg1 (tVar 1)))))
/-- 0 count, 1 row -/
def t_f_all_rankings (K : PySem.W.Frag) (C : Addr) : TS :=
    (tRet (tLc (iList K (tCall (sp_f_all_lists K C) [] E0 (tCons (tOp rRep (tLst (tCons (tVar 0) tNil)) (tVar 0)) tNil))) (gName 1) (tB (tCall (sp_f_is_ranking K C) [] E0 (tCons (tVar 1) (tCons (tVar 0) tNil)))) (tVar 1) [1]))
/-- 0 ranking, 1 one, 2 other -/
def t_f_prefers (K : PySem.W.Frag) (C : Addr) : TS :=
    (tRet (tOp rLtI (tBM K "list" (rIndex K) (tVar 0) (tCons (tVar 1) tNil)) (tBM K "list" (rIndex K) (tVar 0) (tCons (tVar 2) tNil))))
/-- 0 ranking, 1 alternative -/
def t_f_not_preferred (K : PySem.W.Frag) (C : Addr) : TS :=
    (tRet (tSl (rSlL K) (tVar 0) (tPart (tBM K "list" (rIndex K) (tVar 0) (tCons (tVar 1) tNil))) tNoPart))
/-- 0 ranking, 1 alternatives, 2 alternative -/
def t_f_best_of (K : PySem.W.Frag) (C : Addr) : TS :=
    (tRet (tOp (rIxL K) (tLc (iList K (tVar 0)) (gName 2) (tTest (tOp (rIn K false) (tVar 2) (tVar 1))) (tVar 2) [2]) (tC (.int 0))))
/-! ### the defs compute it -/
section
variable {K : PySem.W.Frag} {mg : Str → Option Value} {C pw rd wl nc : Addr}
theorem x_f_count_of (T : Tx K C) : ∀ xs d, P_f_count_of xs d → X K C (t_f_count_of K C) (xs ++ List.replicate (N_f_count_of.length - 1) .any) (.rt d) := by
  rintro xs d ⟨l, rfl, hs, rfl⟩
  refine x_seq (x_asgE (e_cN 1)) (x_seq (x_forF (fun s => [.dat (nL l), .dat (nI s), .any]) (fun s a => s * a) 1 (ei_list (e_var rfl)) (by walk_at "wk") ?_) (x_ret (e_var rfl)))
  intro pre a post e
  exact ⟨_, _, ga_name, _, x_asgE (e_mul (e_var rfl) (e_var rfl) (by have := hs a (mem_mid e); omega)), by walk_at "wk"⟩
theorem x_f_is_within (T : Tx K C) : ∀ xs d, P_f_is_within xs d → X K C (t_f_is_within K C) (xs ++ List.replicate (N_f_is_within.length - 2) .any) (.rt d) := by
  rintro xs d ⟨ns, ss, rfl, hl, rfl⟩
  refine x_ret (e_is (e_andV (e_eq (e_len (e_var rfl)) (e_len (e_var rfl))) fun _ => e_allM (e_new (en_lc0 (js := [2, 3]) (ei_zip (e_var rfl) (e_var rfl)) ?_ (fun _ h => h) fun p hp => ⟨_, ga_2, e_lt (e_var rfl) (e_var rfl)⟩))) ?_)
  · rw [List.length_zip]; omega
  · rw [List.length_map, List.length_map]
    rfl
theorem x_f_place_of (T : Tx K C) : ∀ xs d, P_f_place_of xs d → X K C (t_f_place_of K C) (xs ++ List.replicate (N_f_place_of.length - 2) .any) (.rt d) := by
  rintro xs d ⟨ns, ss, rfl, hs, rfl⟩
  refine x_seq (x_asgE (e_cN 0)) (x_seq (x_forF (fun s => [.dat (nL ns), .dat (nL ss), .dat (nI s), .any, .any]) (fun s p => s * p.2 + p.1) 0 (ei_zip (e_var rfl) (e_var rfl)) (by walk_at "wk") ?_) (x_ret (e_var rfl)))
  intro pre a post e
  have h1 : a.2 ∈ ss := (List.of_mem_zip (mem_mid e)).2
  exact ⟨_, _, ga_2, _, x_asgE (e_add (e_mul (e_var rfl) (e_var rfl) (by have := hs _ h1; omega)) (e_var rfl)), by walk_at "wk"⟩
theorem grow_len {n : Nat} (row : List Nat) : ∀ (l : List Nat) (acc : List (List Nat)), (l.foldl (fun acc k => acc ++ [row ++ [k]]) acc) = acc ++ l.map fun k => row ++ [k]
  | [], acc => by simp
  | k :: r, acc => by
    rw [List.foldl_cons, grow_len (n := n) row r, List.map_cons, List.append_assoc]
    rfl
theorem grow_rows (n : Nat) : ∀ (rows : List (List Nat)) (acc : List (List Nat)), rows.foldl (fun acc row => (List.range n).foldl (fun acc k => acc ++ [row ++ [k]]) acc) acc = acc ++ longer rows n
  | [], acc => by simp [longer]
  | row :: r, acc => by
    rw [List.foldl_cons, grow_len (n := n), grow_rows n r]
    unfold longer
    rw [List.flatMap_cons, List.append_assoc]
theorem longer_len (n : Nat) : ∀ rows : List (List Nat), (longer rows n).length = rows.length * n
  | [] => by simp [longer]
  | row :: r => by
    have ih := longer_len n r
    unfold longer at ih ⊢
    rw [List.flatMap_cons, List.length_append, ih, List.length_map, List.length_range, List.length_cons, Nat.succ_mul]
    omega
theorem longer_row {n k : Nat} {rows : List (List Nat)} (h : ∀ r ∈ rows, r.length = k) : ∀ r ∈ longer rows n, r.length = k + 1 := fun r hr => by
  unfold longer at hr
  obtain ⟨row, h1, h2⟩ := List.mem_flatMap.mp hr
  obtain ⟨j, _, rfl⟩ := List.mem_map.mp h2
  rw [List.length_append, h row h1]
  rfl
theorem x_f_longer (T : Tx K C) : ∀ xs d, P_f_longer xs d → X K C (t_f_longer K C) (xs ++ List.replicate (N_f_longer.length - 2) .any) (.rt d) := by
  rintro xs d ⟨rows, n, rfl, ⟨h1, h2, h3⟩, rfl⟩
  have key : X K C (tFor (iList K (tVar 0)) (gName 3) (tFor (iRng1 (tCons (tVar 1) tNil)) (gName 4) (tDrop (tBM K "list" rAppend (tVar 2) (tCons (tOp rCat (tVar 3) (tLst (tCons (tVar 4) tNil))) tNil)))))
      [.dat (nLL rows), .dat (nI n), .ol [], .any, .any] (.nx [.dat (nLL rows), .dat (nI n), .ol ((longer rows n).map nL), .any, .any]) := by
    have h := x_forF (K := K) (C := C) (ρ := [.dat (nLL rows), .dat (nI n), .ol [], .any, .any]) (wi := iList K (tVar 0)) (g := gName 3) (tb := tFor (iRng1 (tCons (tVar 1) tNil)) (gName 4) (tDrop (tBM K "list" rAppend (tVar 2) (tCons (tOp rCat (tVar 3) (tLst (tCons (tVar 4) tNil))) tNil))))
      (fun acc => [.dat (nLL rows), .dat (nI n), .ol (acc.map nL), .any, .any]) (fun acc row => (List.range n).foldl (fun acc k => acc ++ [row ++ [k]]) acc) [] (ei_list (e_var rfl)) (by walk_at "wk") ?_
    · rw [grow_rows, List.nil_append] at h
      exact h
    · intro pre row post e
      refine ⟨_, _, ga_name, _, x_forF (fun acc => [.dat (nLL rows), .dat (nI n), .ol (acc.map nL), .dat (nL row), .any]) (fun acc k => acc ++ [row ++ [k]]) (pre.foldl (fun acc row => (List.range n).foldl (fun acc k => acc ++ [row ++ [k]]) acc) []) (ei_range (e_var rfl) (by omega)) (by walk_at "wk") ?_, by walk_at "wk"⟩
      intro pre2 k post2 e2
      refine ⟨_, _, ga_name, _, x_app rfl (e_new (en_cat (e_var rfl) (e_new (en_lst (ds := [nI k]) (ea_one (e_var rfl)) (by show 1 ≤ 10000000; omega))) ?_)) ?_, ?_⟩
      · have := h3 row (mem_mid e)
        rw [List.length_map]
        show row.length + 1 ≤ 10000000
        omega
      · rw [grow_len (n := n), grow_rows, List.length_map, List.nil_append, List.length_append, longer_len, List.length_map]
        have e3 := congrArg List.length e
        have e4 := congrArg List.length e2
        rw [List.length_append, List.length_cons] at e3 e4
        rw [List.length_range] at e4
        have e5 : pre.length * n ≤ 1300 * 6 := Nat.mul_le_mul (by omega) h2
        omega
      · refine ⟨.inl rfl, .inl rfl, .inl ?_, .inl rfl, .inr rfl, trivial⟩
        show Sl.ol _ = Sl.ol _
        rw [List.map_append]
        show Sl.ol (_ ++ [PyData.list (row.map nI ++ [nI k])]) = Sl.ol (_ ++ [nL (row ++ [k])])
        show _ = Sl.ol (_ ++ [PyData.list ((row ++ [k]).map nI)])
        rw [List.map_append]
        rfl
  exact x_seq (x_asgN (en_lst (ds := []) ea_nil (Nat.zero_le _))) (x_seq key (x_retO rfl))
theorem all_len {ss : List Nat} (hs : ∀ s ∈ ss, s ≤ 6) : ∀ (pre : List Nat) (k : Nat) (acc : List (List Nat)), (∀ s ∈ pre, s ≤ 6) → acc.length ≤ 6 ^ k → (∀ r ∈ acc, r.length = k) → (pre.foldl longer acc).length ≤ 6 ^ (k + pre.length) ∧ ∀ r ∈ pre.foldl longer acc, r.length = k + pre.length
  | [], k, acc, _, h, h2 => ⟨h, h2⟩
  | s :: r, k, acc, h0, h, h2 => by
    have h3 : (longer acc s).length ≤ 6 ^ (k + 1) := by
      rw [longer_len, Nat.pow_succ]
      exact Nat.mul_le_mul h (h0 s List.mem_cons_self)
    have ih := all_len hs r (k + 1) (longer acc s) (fun x hx => h0 x (List.mem_cons_of_mem _ hx)) h3 (longer_row h2)
    rw [List.foldl_cons, List.length_cons]
    have e : k + (r.length + 1) = k + 1 + r.length := by omega
    rw [e]
    exact ih
theorem x_f_all_lists (T : Tx K C) : ∀ xs d, P_f_all_lists xs d → X K C (t_f_all_lists K C) (xs ++ List.replicate (N_f_all_lists.length - 1) .any) (.rt d) := by
  rintro xs d ⟨ss, rfl, ⟨h1, h2⟩, rfl⟩
  refine x_seq (x_asgE (e_new (en_lst (ds := [nL []]) (ea_one (e_new (en_lst (ds := []) ea_nil (Nat.zero_le _)))) (by show 1 ≤ 10000000; omega)))) (x_seq (x_forF (fun s => [.dat (nL ss), .dat (nLL s), .any]) longer [[]] (ei_list (e_var rfl)) (by walk_at "wk") ?_) (x_ret (e_var rfl)))
  intro pre a post e
  have hp : ∀ s ∈ pre, s ≤ 6 := fun s hs => h2 s (by rw [e]; simp [hs])
  obtain ⟨k1, k2⟩ := all_len h2 pre 0 [[]] hp (by decide) (by simp)
  have e3 := congrArg List.length e
  rw [List.length_append, List.length_cons] at e3
  have k3 : 6 ^ (0 + pre.length) ≤ 6 ^ 3 := Nat.pow_le_pow_right (by decide) (by omega)
  refine ⟨_, _, ga_name, _, x_asgE (e_call (ea_cons (e_var rfl) (ea_one (e_var rfl))) ⟨_, _, rfl, ⟨?_, h2 a (mem_mid e), fun r hr => ?_⟩, rfl⟩), by walk_at "wk"⟩
  · have : 6 ^ 3 = 216 := by decide
    omega
  · have := k2 r hr
    omega
theorem x_f_with_number (T : Tx K C) : ∀ xs d, P_f_with_number xs d → X K C (t_f_with_number K C) (xs ++ List.replicate (N_f_with_number.length - 3) .any) (.rt d) := by
  rintro xs d ⟨l, i, n, rfl, hi, rfl⟩
  refine x_is (x_seq (x_asgN (en_list (e_var rfl))) (x_seq (x_setO (n := i) (e_var rfl) rfl (e_var rfl) (by rw [List.length_map]; exact hi)) (x_retO rfl))) ?_
  show PyData.list _ = PyData.list _
  rw [List.map_set]
theorem x_f_has (T : Tx K C) (Z : Cs K mg pw rd wl nc) : ∀ xs d, P_f_has xs d → X K C (t_f_has K C pw) (xs ++ List.replicate (N_f_has.length - 2) .any) (.rt d) := by
  rintro xs d ⟨mask, n, rfl, hn, rfl⟩
  have hp : ([1, 2, 4, 8, 16, 32] : List Int)[n]? = some ((2 ^ n : Nat) : Int) := by
    match n, hn with
    | 0, _ => rfl
    | 1, _ => rfl
    | 2, _ => rfl
    | 3, _ => rfl
    | 4, _ => rfl
    | 5, _ => rfl
  have h2 : 2 ^ n ≤ 2 ^ 5 := Nat.pow_le_pow_right (by decide) (by omega)
  have h3 : 0 < 2 ^ n := Nat.pos_of_ne_zero (by simp)
  exact x_ret (e_eq (e_mod (e_div (e_var rfl) (e_ixC Z.pwT (e_var rfl) hp) h3 (by omega)) (e_cN 2) (by omega)) (e_cN 1))
theorem x_f_mask_of (T : Tx K C) (Z : Cs K mg pw rd wl nc) : ∀ xs d, P_f_mask_of xs d → X K C (t_f_mask_of K C pw) (xs ++ List.replicate (N_f_mask_of.length - 1) .any) (.rt d) := by
  rintro xs d ⟨bs, rfl, rfl⟩
  have hw : EI K C (iZipM K (tCons (tC (.ref pw)) (tCons (tVar 0) tNil))) [.dat (bL bs), .any, .any] ((pows.zip bs).map fun p => .tuple [nI p.1, .bool p.2]) := ei_zipM (as := pows) Z.pwT (e_var rfl)
  have h := en_lc (K := K) (C := C) (ρ := [.dat (bL bs), .any, .any]) (js := [1, 2]) (vs := [1, 2]) (g := gTup K 2 (gCons (gName 1) (gCons (gName 2) gNil))) (tt := tB (tVar 2)) (te := tVar 1) (p := fun p => p.2) (f := fun p => nI p.1) hw (by rw [List.length_zip]; exact Nat.le_trans (Nat.min_le_left _ _) (by decide)) (fun _ h => h) fun p hp => ⟨_, ga_2, et_B (e_var rfl), fun _ => e_var rfl⟩
  refine x_ret (e_sum (e_is (e_new h) ?_))
  show PyData.list _ = PyData.list ((((pows.zip bs).filter fun p => p.2).map fun p => p.1).map nI)
  rw [List.map_map]
  rfl
theorem x_f_is_ranking (T : Tx K C) : ∀ xs d, P_f_is_ranking xs d → X K C (t_f_is_ranking K C) (xs ++ List.replicate (N_f_is_ranking.length - 2) .any) (.rt d) := by
  rintro xs d ⟨row, c, rfl, ⟨h1, h2⟩, rfl⟩
  exact x_ret (e_sortEq (e_var rfl) h1 (e_var rfl) h2)
theorem allLists_len {ss : List Nat} (h1 : ss.length ≤ 4) (h2 : ∀ s ∈ ss, s ≤ 6) : (allLists ss).length ≤ 1296 ∧ ∀ r ∈ allLists ss, r.length = ss.length := by
  obtain ⟨k1, k2⟩ := all_len h2 ss 0 [[]] h2 (by decide) (by simp)
  have k3 : 6 ^ (0 + ss.length) ≤ 6 ^ 4 := Nat.pow_le_pow_right (by decide) (by omega)
  have : 6 ^ 4 = 1296 := by decide
  refine ⟨?_, fun r hr => ?_⟩
  · unfold allLists
    omega
  · have := k2 r hr
    omega
theorem x_f_all_rankings (T : Tx K C) : ∀ xs d, P_f_all_rankings xs d → X K C (t_f_all_rankings K C) (xs ++ List.replicate (N_f_all_rankings.length - 1) .any) (.rt d) := by
  rintro xs d ⟨c, rfl, hc, rfl⟩
  have h1 : (List.replicate c c).length ≤ 4 := by rw [List.length_replicate]; exact hc
  have h2 : ∀ s ∈ List.replicate c c, s ≤ 6 := fun s hs => by rw [(List.mem_replicate.mp hs).2]; omega
  obtain ⟨h3, h4⟩ := allLists_len h1 h2
  have h := en_lc (K := K) (C := C) (ρ := [.dat (nI c), .any]) (wi := iList K (tCall (sp_f_all_lists K C) [] E0 (tCons (tOp rRep (tLst (tCons (tVar 0) tNil)) (tVar 0)) tNil))) (js := [1]) (vs := [1]) (g := gName 1) (tt := tB (tCall (sp_f_is_ranking K C) [] E0 (tCons (tVar 1) (tCons (tVar 0) tNil)))) (te := tVar 1)
    (xs := allLists (List.replicate c c)) (enc := nL) (p := isRk c) (f := nL) (ei_list (e_call (ea_one (e_is (e_new (en_rep (e_new (en_lst (ds := [nI c]) (ea_one (e_var rfl)) (by show 1 ≤ 10000000; omega))) (e_var rfl) (by omega))) (show _ = nL (List.replicate c c) by show PyData.list _ = PyData.list _; rw [List.map_replicate]))) ⟨_, rfl, ⟨h1, h2⟩, rfl⟩)) (by omega) (fun _ h => h)
    fun r hr => ⟨_, ga_name, et_B (e_call (ea_cons (e_var rfl) (ea_one (e_var rfl))) ⟨_, _, rfl, ⟨by rw [h4 r hr, List.length_replicate]; omega, by omega⟩, rfl⟩), fun _ => e_var rfl⟩
  exact x_ret (e_new h)
theorem x_f_prefers (T : Tx K C) : ∀ xs d, P_f_prefers xs d → X K C (t_f_prefers K C) (xs ++ List.replicate (N_f_prefers.length - 3) .any) (.rt d) := by
  rintro xs d ⟨r, a, b, rfl, ⟨ha, hb⟩, rfl⟩
  exact x_ret (e_lt (e_index (e_var rfl) (e_var rfl) ha) (e_index (e_var rfl) (e_var rfl) hb))
theorem x_f_not_preferred (T : Tx K C) : ∀ xs d, P_f_not_preferred xs d → X K C (t_f_not_preferred K C) (xs ++ List.replicate (N_f_not_preferred.length - 2) .any) (.rt d) := by
  rintro xs d ⟨r, a, rfl, ha, rfl⟩
  refine x_ret (e_is (e_new (en_sl (e_var rfl) (eo_some (e_index (e_var rfl) (e_var rfl) ha)) eo_none)) ?_)
  show PyData.list _ = PyData.list _
  unfold cutD
  rw [HT.sIx_nat, HT.sIx_none, List.length_map, Nat.min_eq_left (Nat.le_of_lt (List.idxOf_lt_length_of_mem ha)), ← List.map_drop, List.take_of_length_le]
  rw [List.length_map, List.length_drop]
  exact Nat.le_refl _
theorem x_f_best_of (T : Tx K C) : ∀ xs d, P_f_best_of xs d → X K C (t_f_best_of K C) (xs ++ List.replicate (N_f_best_of.length - 2) .any) (.rt d) := by
  rintro xs d ⟨r, as, rfl, ⟨hl, x, hx, hy⟩, rfl⟩
  have h := en_lc (K := K) (C := C) (ρ := [.dat (nL r), .dat (nL as), .any]) (wi := iList K (tVar 0)) (js := [2]) (vs := [2]) (g := gName 2) (tt := tTest (tOp (rIn K false) (tVar 2) (tVar 1))) (te := tVar 2) (xs := r) (enc := nI) (p := fun x => as.contains x) (f := nI) (ei_list (e_var rfl)) (by omega) (fun _ h => h)
    fun y hy => ⟨_, ga_name, et_test (e_inN (e_var rfl) (e_var rfl)), fun _ => e_var rfl⟩
  refine x_ret (e_ixM (f := nI) (e_new h) (e_cN 0) ?_)
  unfold bestOf
  have hm : x ∈ r.filter fun x => as.contains x := List.mem_filter.mpr ⟨hx, by simpa using hy⟩
  cases e : r.filter fun x => as.contains x with
  | nil => rw [e] at hm; cases hm
  | cons z zs => rfl
end
end Gx
namespace Gx
open PySem PySem.Spec PyProof.Rows L2
section
variable {P : Program} {w : World} {K : PySem.W.Frag} {mg : Str → Option Value} {base : Heap} {C pw rd wl nc : Addr}
theorem d_f_count_of (T : Tx K C) (G : Bt mg) (Z : Cs K mg pw rd wl nc)  {f : Addr} (cdv : Value) (A : Around) (outer : List Env) (s : Shared) (H : Hp) (E : XK) (hr : Room 0 (A.deeper (envOfC "count_of" (defScope s_f_count_of) s.heap.objs.size f cdv))) :
    PSs (cxOf CX0 P w K mg base N_f_count_of "count_of" (defScope s_f_count_of) f cdv A outer s H E).nox (defBody s_f_count_of) (t_f_count_of K C) := by
  have nd := sc_f_count_of.nd
  exact (pss_cons (ps_set (i := 1) nd rfl (Or.inl rfl) pe_int)
    (pss_cons (ps_for PassesOwn.never rfl (pi_list (pv 0)) (pg_name (i := 2) nd rfl (Or.inl rfl)) (pss_one (ps_set (i := 1) nd rfl (Or.inl rfl) (pe_op op_mul (pv 1) (pv 2)))))
    (pss_one (ps_ret (pv 1)))))
theorem ok_f_count_of (T : Tx K C) (G : Bt mg) (Z : Cs K mg pw rd wl nc)  {f : Addr} {fd : FuncData} (F : Fun K "count_of" "count_of" s_f_count_of f fd) : FnOk P w K mg base CX0 1 f fd ["sizes"] (sp_f_count_of K C) :=
  fn_okX F sc_f_count_of len_f_count_of (x_f_count_of T) (fun cdv A outer s H E hr => d_f_count_of T G Z  cdv A outer s H E hr)
theorem d_f_is_within (T : Tx K C) (G : Bt mg) (Z : Cs K mg pw rd wl nc)  {f : Addr} (cdv : Value) (A : Around) (outer : List Env) (s : Shared) (H : Hp) (E : XK) (hr : Room 0 (A.deeper (envOfC "is_within" (defScope s_f_is_within) s.heap.objs.size f cdv))) :
    PSs (cxOf CX0 P w K mg base N_f_is_within "is_within" (defScope s_f_is_within) f cdv A outer s H E).nox (defBody s_f_is_within) (t_f_is_within K C) := by
  have nd := sc_f_is_within.nd
  exact (pss_one (ps_ret (pe_and (pe_cmpR op_eq (pe_callB call_len_seq (by rfl) G.len (by decide +kernel) (pa_cons (pv 0) pa_nil)) (pe_callB call_len_seq (by rfl) G.len (by decide +kernel) (pa_cons (pv 1) pa_nil)) (nomark _)) (pe_one (pe_callB (cr_all rfl) (by rfl) G.all (by decide +kernel) (pa_cons (pe_lc (own := [("number", 2), ("size", 3)]) (g := (gTup K 2 (gCons (gName 2) (gCons (gName 3) gNil)))) (tt := tYes) rfl nd (pi_zip (by rfl) G.zip (pa_cons (pv 0) (pa_cons (pv 1) pa_nil))) (blkOk_by (N := N_f_is_within) (sc := defScope s_f_is_within) (by decide +kernel)) (fun _ _ _ _ _ => (pg_tup rfl (pgs_cons (pg_name (i := 2) nd rfl (Or.inl rfl)) (pgs_cons (pg_name (i := 3) nd rfl (Or.inl rfl)) pgs_nil)))) (fun _ _ _ _ _ => pts_nil) (fun _ _ _ _ _ => (pe_cmpR op_lt (pv 2) (pv 3) (nomark _)))) pa_nil))))))
theorem ok_f_is_within (T : Tx K C) (G : Bt mg) (Z : Cs K mg pw rd wl nc)  {f : Addr} {fd : FuncData} (F : Fun K "is_within" "is_within" s_f_is_within f fd) : FnOk P w K mg base CX0 1 f fd ["numbers", "sizes"] (sp_f_is_within K C) :=
  fn_okX F sc_f_is_within len_f_is_within (x_f_is_within T) (fun cdv A outer s H E hr => d_f_is_within T G Z  cdv A outer s H E hr)
theorem d_f_place_of (T : Tx K C) (G : Bt mg) (Z : Cs K mg pw rd wl nc)  {f : Addr} (cdv : Value) (A : Around) (outer : List Env) (s : Shared) (H : Hp) (E : XK) (hr : Room 0 (A.deeper (envOfC "place_of" (defScope s_f_place_of) s.heap.objs.size f cdv))) :
    PSs (cxOf CX0 P w K mg base N_f_place_of "place_of" (defScope s_f_place_of) f cdv A outer s H E).nox (defBody s_f_place_of) (t_f_place_of K C) := by
  have nd := sc_f_place_of.nd
  exact (pss_cons (ps_set (i := 2) nd rfl (Or.inl rfl) pe_int)
    (pss_cons (ps_for PassesOwn.never rfl (pi_zip (by rfl) G.zip (pa_cons (pv 0) (pa_cons (pv 1) pa_nil))) (pg_tup rfl (pgs_cons (pg_name (i := 3) nd rfl (Or.inl rfl)) (pgs_cons (pg_name (i := 4) nd rfl (Or.inl rfl)) pgs_nil))) (pss_one (ps_set (i := 2) nd rfl (Or.inl rfl) (pe_op op_add (pe_op op_mul (pv 2) (pv 4)) (pv 3)))))
    (pss_one (ps_ret (pv 2)))))
theorem ok_f_place_of (T : Tx K C) (G : Bt mg) (Z : Cs K mg pw rd wl nc)  {f : Addr} {fd : FuncData} (F : Fun K "place_of" "place_of" s_f_place_of f fd) : FnOk P w K mg base CX0 1 f fd ["numbers", "sizes"] (sp_f_place_of K C) :=
  fn_okX F sc_f_place_of len_f_place_of (x_f_place_of T) (fun cdv A outer s H E hr => d_f_place_of T G Z  cdv A outer s H E hr)
theorem d_f_longer (T : Tx K C) (G : Bt mg) (Z : Cs K mg pw rd wl nc)  {f : Addr} (cdv : Value) (A : Around) (outer : List Env) (s : Shared) (H : Hp) (E : XK) (hr : Room 0 (A.deeper (envOfC "longer" (defScope s_f_longer) s.heap.objs.size f cdv))) :
    PSs (cxOf CX0 P w K mg base N_f_longer "longer" (defScope s_f_longer) f cdv A outer s H E).nox (defBody s_f_longer) (t_f_longer K C) := by
  have nd := sc_f_longer.nd
  exact (pss_cons (ps_set (i := 2) nd rfl (Or.inl rfl) (pe_lst pa_nil))
    (pss_cons (ps_for PassesOwn.never rfl (pi_list (pv 0)) (pg_name (i := 3) nd rfl (Or.inl rfl)) (pss_one (ps_for PassesOwn.never rfl (pi_range1 (by rfl) G.range (pa_cons (pv 1) pa_nil)) (pg_name (i := 4) nd rfl (Or.inl rfl)) (pss_one (ps_expr (pe_bm PySem.F.plainAttrs_list PySem.F.slot_list_append PySem.F.type_list_append mt_append (pv 2) (pa_cons (pe_op op_cat (pv 3) (pe_lst (pa_cons (pv 4) pa_nil))) pa_nil)))))))
    (pss_one (ps_ret (pv 2)))))
theorem ok_f_longer (T : Tx K C) (G : Bt mg) (Z : Cs K mg pw rd wl nc)  {f : Addr} {fd : FuncData} (F : Fun K "longer" "longer" s_f_longer f fd) : FnOk P w K mg base CX0 1 f fd ["rows", "size"] (sp_f_longer K C) :=
  fn_okX F sc_f_longer len_f_longer (x_f_longer T) (fun cdv A outer s H E hr => d_f_longer T G Z  cdv A outer s H E hr)
theorem d_f_all_lists (T : Tx K C) (G : Bt mg) (Z : Cs K mg pw rd wl nc) (F_longer : Fn P w K mg base 1 "longer" ["rows", "size"] (sp_f_longer K C)) {f : Addr} (cdv : Value) (A : Around) (outer : List Env) (s : Shared) (H : Hp) (E : XK) (hr : Room 1 (A.deeper (envOfC "all_lists" (defScope s_f_all_lists) s.heap.objs.size f cdv))) :
    PSs (cxOf CX0 P w K mg base N_f_all_lists "all_lists" (defScope s_f_all_lists) f cdv A outer s H E).nox (defBody s_f_all_lists) (t_f_all_lists K C) := by
  have nd := sc_f_all_lists.nd
  exact (pss_cons (ps_set (i := 1) nd rfl (Or.inl rfl) (pe_lst (pa_cons (pe_lst pa_nil) pa_nil)))
    (pss_cons (ps_for PassesOwn.never rfl (pi_list (pv 0)) (pg_name (i := 2) nd rfl (Or.inl rfl)) (pss_one (ps_set (i := 1) nd rfl (Or.inl rfl) (pe_fn F_longer (hr.mono (by decide)) rfl (pa_cons (pv 1) (pa_cons (pv 2) pa_nil))))))
    (pss_one (ps_ret (pv 1)))))
theorem ok_f_all_lists (T : Tx K C) (G : Bt mg) (Z : Cs K mg pw rd wl nc) (F_longer : Fn P w K mg base 1 "longer" ["rows", "size"] (sp_f_longer K C)) {f : Addr} {fd : FuncData} (F : Fun K "all_lists" "all_lists" s_f_all_lists f fd) : FnOk P w K mg base CX0 2 f fd ["sizes"] (sp_f_all_lists K C) :=
  fn_okX F sc_f_all_lists len_f_all_lists (x_f_all_lists T) (fun cdv A outer s H E hr => d_f_all_lists T G Z F_longer cdv A outer s H E hr)
theorem d_f_with_number (T : Tx K C) (G : Bt mg) (Z : Cs K mg pw rd wl nc)  {f : Addr} (cdv : Value) (A : Around) (outer : List Env) (s : Shared) (H : Hp) (E : XK) (hr : Room 0 (A.deeper (envOfC "with_number" (defScope s_f_with_number) s.heap.objs.size f cdv))) :
    PSs (cxOf CX0 P w K mg base N_f_with_number "with_number" (defScope s_f_with_number) f cdv A outer s H E).nox (defBody s_f_with_number) (t_f_with_number K C) := by
  have nd := sc_f_with_number.nd
  exact (pss_cons (ps_set (i := 3) nd rfl (Or.inl rfl) (pe_callTy call_list_of (by rfl) G.list (by decide +kernel) (pa_cons (pv 0) pa_nil)))
    (pss_cons (ps_asg (pv 2) (pg_sub (pv 3) (pv 1) set_list))
    (pss_one (ps_ret (pv 3)))))
theorem ok_f_with_number (T : Tx K C) (G : Bt mg) (Z : Cs K mg pw rd wl nc)  {f : Addr} {fd : FuncData} (F : Fun K "with_number" "with_number" s_f_with_number f fd) : FnOk P w K mg base CX0 1 f fd ["numbers", "at", "number"] (sp_f_with_number K C) :=
  fn_okX F sc_f_with_number len_f_with_number (x_f_with_number T) (fun cdv A outer s H E hr => d_f_with_number T G Z  cdv A outer s H E hr)
theorem d_f_mask_of (T : Tx K C) (G : Bt mg) (Z : Cs K mg pw rd wl nc)  {f : Addr} (cdv : Value) (A : Around) (outer : List Env) (s : Shared) (H : Hp) (E : XK) (hr : Room 0 (A.deeper (envOfC "mask_of" (defScope s_f_mask_of) s.heap.objs.size f cdv))) :
    PSs (cxOf CX0 P w K mg base N_f_mask_of "mask_of" (defScope s_f_mask_of) f cdv A outer s H E).nox (defBody s_f_mask_of) (t_f_mask_of K C pw) := by
  have nd := sc_f_mask_of.nd
  exact (pss_one (ps_ret (pe_callB (cr_sum rfl) (by rfl) G.sum (by decide +kernel) (pa_cons (pe_lc (own := [("power", 1), ("flag", 2)]) (g := (gTup K 2 (gCons (gName 1) (gCons (gName 2) gNil)))) (tt := (tB (tVar 2))) rfl nd (pi_zipM (by rfl) G.zip (pa_cons (pe_glob rfl Z.pw rfl) (pa_cons (pv 0) pa_nil))) (blkOk_by (N := N_f_mask_of) (sc := defScope s_f_mask_of) (by decide +kernel)) (fun _ _ _ _ _ => (pg_tup rfl (pgs_cons (pg_name (i := 1) nd rfl (Or.inl rfl)) (pgs_cons (pg_name (i := 2) nd rfl (Or.inl rfl)) pgs_nil)))) (fun _ _ _ _ _ => (pts_one (pt_val (pv 2)))) (fun _ _ _ _ _ => (pv 1))) pa_nil))))
theorem ok_f_mask_of (T : Tx K C) (G : Bt mg) (Z : Cs K mg pw rd wl nc)  {f : Addr} {fd : FuncData} (F : Fun K "mask_of" "mask_of" s_f_mask_of f fd) : FnOk P w K mg base CX0 1 f fd ["flags"] (sp_f_mask_of K C) :=
  fn_okX F sc_f_mask_of len_f_mask_of (x_f_mask_of T Z) (fun cdv A outer s H E hr => d_f_mask_of T G Z  cdv A outer s H E hr)
theorem d_f_has (T : Tx K C) (G : Bt mg) (Z : Cs K mg pw rd wl nc)  {f : Addr} (cdv : Value) (A : Around) (outer : List Env) (s : Shared) (H : Hp) (E : XK) (hr : Room 0 (A.deeper (envOfC "has" (defScope s_f_has) s.heap.objs.size f cdv))) :
    PSs (cxOf CX0 P w K mg base N_f_has "has" (defScope s_f_has) f cdv A outer s H E).nox (defBody s_f_has) (t_f_has K C pw) := by
  have nd := sc_f_has.nd
  exact (pss_one (ps_ret (pe_cmpR op_eq (pe_op op_modN (pe_op op_fdivN (pv 0) (pe_ix ix_tup (pe_glob rfl Z.pw rfl) (pv 1) (fun _ _ => rfl))) pe_int) pe_int (nomark _))))
theorem ok_f_has (T : Tx K C) (G : Bt mg) (Z : Cs K mg pw rd wl nc)  {f : Addr} {fd : FuncData} (F : Fun K "has" "has" s_f_has f fd) : FnOk P w K mg base CX0 1 f fd ["mask", "number"] (sp_f_has K C) :=
  fn_okX F sc_f_has len_f_has (x_f_has T Z) (fun cdv A outer s H E hr => d_f_has T G Z  cdv A outer s H E hr)
theorem d_f_is_ranking (T : Tx K C) (G : Bt mg) (Z : Cs K mg pw rd wl nc)  {f : Addr} (cdv : Value) (A : Around) (outer : List Env) (s : Shared) (H : Hp) (E : XK) (hr : Room 0 (A.deeper (envOfC "is_ranking" (defScope s_f_is_ranking) s.heap.objs.size f cdv))) :
    PSs (cxOf CX0 P w K mg base N_f_is_ranking "is_ranking" (defScope s_f_is_ranking) f cdv A outer s H E).nox (defBody s_f_is_ranking) (t_f_is_ranking K C) := by
  have nd := sc_f_is_ranking.nd
  exact (pss_one (ps_ret (pe_cmpR (op_eqD (hu64 hr)) (pe_callB cr_sorted (by rfl) G.sorted (by decide +kernel) (pa_cons (pv 0) pa_nil)) (pe_listRg rfl (by rfl) G.list (prg_1 (by rfl) G.range (pv 1))) (nomark _))))
theorem ok_f_is_ranking (T : Tx K C) (G : Bt mg) (Z : Cs K mg pw rd wl nc)  {f : Addr} {fd : FuncData} (F : Fun K "is_ranking" "is_ranking" s_f_is_ranking f fd) : FnOk P w K mg base CX0 1 f fd ["row", "count"] (sp_f_is_ranking K C) :=
  fn_okX F sc_f_is_ranking len_f_is_ranking (x_f_is_ranking T) (fun cdv A outer s H E hr => d_f_is_ranking T G Z  cdv A outer s H E hr)
theorem d_f_all_rankings (T : Tx K C) (G : Bt mg) (Z : Cs K mg pw rd wl nc) (F_all_lists : Fn P w K mg base 2 "all_lists" ["sizes"] (sp_f_all_lists K C)) (F_is_ranking : Fn P w K mg base 1 "is_ranking" ["row", "count"] (sp_f_is_ranking K C)) {f : Addr} (cdv : Value) (A : Around) (outer : List Env) (s : Shared) (H : Hp) (E : XK) (hr : Room 2 (A.deeper (envOfC "all_rankings" (defScope s_f_all_rankings) s.heap.objs.size f cdv))) :
    PSs (cxOf CX0 P w K mg base N_f_all_rankings "all_rankings" (defScope s_f_all_rankings) f cdv A outer s H E).nox (defBody s_f_all_rankings) (t_f_all_rankings K C) := by
  have nd := sc_f_all_rankings.nd
  exact (pss_one (ps_ret (pe_lc (own := [("row", 1)]) (g := (gName 1)) (tt := (tB (tCall (sp_f_is_ranking K C) [] E0 (tCons (tVar 1) (tCons (tVar 0) tNil))))) rfl nd (pi_list (pe_fn F_all_lists (hr.mono (by decide)) rfl (pa_cons (pe_op op_rep (pe_lst (pa_cons (pv 0) pa_nil)) (pv 0)) pa_nil))) (blkOk_by (N := N_f_all_rankings) (sc := defScope s_f_all_rankings) (by decide +kernel)) (fun _ _ _ _ _ => (pg_name (i := 1) nd rfl (Or.inl rfl))) (fun _ _ _ _ _ => (pts_one (pt_val (pe_fn F_is_ranking (hr.mono (by decide)) rfl (pa_cons (pv 1) (pa_cons (pv 0) pa_nil)))))) (fun _ _ _ _ _ => (pv 1)))))
theorem ok_f_all_rankings (T : Tx K C) (G : Bt mg) (Z : Cs K mg pw rd wl nc) (F_all_lists : Fn P w K mg base 2 "all_lists" ["sizes"] (sp_f_all_lists K C)) (F_is_ranking : Fn P w K mg base 1 "is_ranking" ["row", "count"] (sp_f_is_ranking K C)) {f : Addr} {fd : FuncData} (F : Fun K "all_rankings" "all_rankings" s_f_all_rankings f fd) : FnOk P w K mg base CX0 3 f fd ["count"] (sp_f_all_rankings K C) :=
  fn_okX F sc_f_all_rankings len_f_all_rankings (x_f_all_rankings T) (fun cdv A outer s H E hr => d_f_all_rankings T G Z F_all_lists F_is_ranking cdv A outer s H E hr)
theorem d_f_prefers (T : Tx K C) (G : Bt mg) (Z : Cs K mg pw rd wl nc)  {f : Addr} (cdv : Value) (A : Around) (outer : List Env) (s : Shared) (H : Hp) (E : XK) (hr : Room 0 (A.deeper (envOfC "prefers" (defScope s_f_prefers) s.heap.objs.size f cdv))) :
    PSs (cxOf CX0 P w K mg base N_f_prefers "prefers" (defScope s_f_prefers) f cdv A outer s H E).nox (defBody s_f_prefers) (t_f_prefers K C) := by
  have nd := sc_f_prefers.nd
  exact (pss_one (ps_ret (pe_cmpR op_lt (pe_bm PySem.F.plainAttrs_list PySem.F.slot_list_index PySem.F.type_list_index mt_index (pv 0) (pa_cons (pv 1) pa_nil)) (pe_bm PySem.F.plainAttrs_list PySem.F.slot_list_index PySem.F.type_list_index mt_index (pv 0) (pa_cons (pv 2) pa_nil)) (nomark _))))
theorem ok_f_prefers (T : Tx K C) (G : Bt mg) (Z : Cs K mg pw rd wl nc)  {f : Addr} {fd : FuncData} (F : Fun K "prefers" "prefers" s_f_prefers f fd) : FnOk P w K mg base CX0 1 f fd ["ranking", "one", "other"] (sp_f_prefers K C) :=
  fn_okX F sc_f_prefers len_f_prefers (x_f_prefers T) (fun cdv A outer s H E hr => d_f_prefers T G Z  cdv A outer s H E hr)
theorem d_f_not_preferred (T : Tx K C) (G : Bt mg) (Z : Cs K mg pw rd wl nc)  {f : Addr} (cdv : Value) (A : Around) (outer : List Env) (s : Shared) (H : Hp) (E : XK) (hr : Room 0 (A.deeper (envOfC "not_preferred" (defScope s_f_not_preferred) s.heap.objs.size f cdv))) :
    PSs (cxOf CX0 P w K mg base N_f_not_preferred "not_preferred" (defScope s_f_not_preferred) f cdv A outer s H E).nox (defBody s_f_not_preferred) (t_f_not_preferred K C) := by
  have nd := sc_f_not_preferred.nd
  exact (pss_one (ps_ret (pe_slice sl_list (pv 0) (po_some (pe_bm PySem.F.plainAttrs_list PySem.F.slot_list_index PySem.F.type_list_index mt_index (pv 0) (pa_cons (pv 1) pa_nil))) po_none)))
theorem ok_f_not_preferred (T : Tx K C) (G : Bt mg) (Z : Cs K mg pw rd wl nc)  {f : Addr} {fd : FuncData} (F : Fun K "not_preferred" "not_preferred" s_f_not_preferred f fd) : FnOk P w K mg base CX0 1 f fd ["ranking", "alternative"] (sp_f_not_preferred K C) :=
  fn_okX F sc_f_not_preferred len_f_not_preferred (x_f_not_preferred T) (fun cdv A outer s H E hr => d_f_not_preferred T G Z  cdv A outer s H E hr)
theorem d_f_best_of (T : Tx K C) (G : Bt mg) (Z : Cs K mg pw rd wl nc)  {f : Addr} (cdv : Value) (A : Around) (outer : List Env) (s : Shared) (H : Hp) (E : XK) (hr : Room 0 (A.deeper (envOfC "best_of" (defScope s_f_best_of) s.heap.objs.size f cdv))) :
    PSs (cxOf CX0 P w K mg base N_f_best_of "best_of" (defScope s_f_best_of) f cdv A outer s H E).nox (defBody s_f_best_of) (t_f_best_of K C) := by
  have nd := sc_f_best_of.nd
  exact (pss_one (ps_ret (pe_ix ix_list (pe_lc (own := [("alternative", 2)]) (g := (gName 2)) (tt := (tTest (tOp (rIn K false) (tVar 2) (tVar 1)))) rfl nd (pi_list (pv 0)) (blkOk_by (N := N_f_best_of) (sc := defScope s_f_best_of) (by decide +kernel)) (fun _ _ _ _ _ => (pg_name (i := 2) nd rfl (Or.inl rfl))) (fun _ _ _ _ _ => (pts_one (pt_cmpR op_in_seq (pv 2) (pv 1) (by with_unfolding_all rfl)))) (fun _ _ _ _ _ => (pv 2))) pe_int (fun _ _ => rfl))))
theorem ok_f_best_of (T : Tx K C) (G : Bt mg) (Z : Cs K mg pw rd wl nc)  {f : Addr} {fd : FuncData} (F : Fun K "best_of" "best_of" s_f_best_of f fd) : FnOk P w K mg base CX0 1 f fd ["ranking", "alternatives"] (sp_f_best_of K C) :=
  fn_okX F sc_f_best_of len_f_best_of (x_f_best_of T) (fun cdv A outer s H E hr => d_f_best_of T G Z  cdv A outer s H E hr)
end
end Gx
/-! # Plain Lean: lists below sizes, places, well-formed instances -/
namespace Gx
open PySem PySem.Spec PyProof.Rows L2
theorem getD_at {α : Type} {l : List α} {n : Nat} {d : α} (h : n < l.length) : l[n]? = some (l.getD n d) := by
  rw [List.getD_eq_getElem?_getD, List.getElem?_eq_getElem h] <;> rfl
theorem getD_mem {α : Type} {l : List α} {n : Nat} {d : α} (h : n < l.length) : l.getD n d ∈ l := by
  have := getD_at (d := d) h
  exact List.mem_of_getElem? this
/-! ### within, by recursion -/
theorem wn_nil : within [] [] = true := rfl
theorem wn_cons {n s : Nat} {ns ss : List Nat} : within (n :: ns) (s :: ss) = (decide (n < s) && within ns ss) := by
  unfold within
  rw [List.length_cons, List.length_cons, List.zip_cons_cons, List.all_cons]
  have e : (ns.length + 1 == ss.length + 1) = (ns.length == ss.length) := by
    rw [Bool.eq_iff_iff, beq_iff_eq, beq_iff_eq]
    omega
  rw [e]
  cases (ns.length == ss.length) <;> cases decide (n < s) <;> simp
theorem wn_ne1 {n : Nat} {ns : List Nat} : within (n :: ns) [] = false := rfl
theorem wn_ne2 {s : Nat} {ss : List Nat} : within [] (s :: ss) = false := rfl
theorem wn_len {ns ss : List Nat} (h : within ns ss = true) : ns.length = ss.length := by
  unfold within at h
  rw [Bool.and_eq_true, beq_iff_eq] at h
  exact h.1
theorem wn_at : ∀ {ns ss : List Nat} (i : Nat), within ns ss = true → i < ss.length → ns.getD i 0 < ss.getD i 0
  | [], [], i, _, h => by simp at h
  | _ :: _, [], i, h, _ => by rw [wn_ne1] at h; cases h
  | [], _ :: _, i, h, _ => by rw [wn_ne2] at h; cases h
  | n :: ns, s :: ss, 0, h, _ => by
    rw [wn_cons, Bool.and_eq_true, decide_eq_true_iff] at h
    exact h.1
  | n :: ns, s :: ss, i + 1, h, hi => by
    rw [wn_cons, Bool.and_eq_true] at h
    exact wn_at (ns := ns) (ss := ss) i h.2 (by simpa using hi)
theorem wn_of : ∀ {ns ss : List Nat}, ns.length = ss.length → (∀ i, i < ss.length → ns.getD i 0 < ss.getD i 0) → within ns ss = true
  | [], [], _, _ => rfl
  | _ :: _, [], h, _ => by cases h
  | [], _ :: _, h, _ => by cases h
  | n :: ns, s :: ss, h, k => by
    rw [wn_cons, Bool.and_eq_true, decide_eq_true_iff]
    exact ⟨k 0 (by simp), wn_of (by simpa using h) fun i hi => k (i + 1) (by simpa using hi)⟩
theorem getD_set {l : List Nat} {i j n : Nat} (h : i < l.length) : (l.set i n).getD j 0 = if i = j then n else l.getD j 0 := by
  rw [List.getD_eq_getElem?_getD, List.getD_eq_getElem?_getD, List.getElem?_set]
  by_cases e : i = j
  · rw [if_pos e, if_pos e, if_pos h]
    rfl
  · rw [if_neg e, if_neg e]
theorem wn_set {r ss : List Nat} {i n : Nat} (h : within r ss = true) (hn : n < ss.getD i 0) : within (r.set i n) ss = true := by
  have hl := wn_len h
  by_cases hi : i < ss.length
  · refine wn_of (by rw [List.length_set]; exact hl) fun j hj => ?_
    rw [getD_set (by omega)]
    by_cases e : i = j
    · rw [if_pos e, ← e]; exact hn
    · rw [if_neg e]; exact wn_at j h hj
  · rw [List.set_eq_of_length_le (by omega)]
    exact h
theorem foldl_mul (ss : List Nat) : ∀ P : Nat, ss.foldl (fun a b => a * b) P = P * prodL ss := by
  induction ss with
  | nil => intro P; simp [prodL]
  | cons s r ih =>
    intro P
    unfold prodL
    rw [List.foldl_cons, List.foldl_cons, ih, ih (1 * s), Nat.one_mul, Nat.mul_assoc]
theorem prodL_cons (s : Nat) (r : List Nat) : prodL (s :: r) = s * prodL r := by
  unfold prodL
  rw [List.foldl_cons, foldl_mul, Nat.one_mul]
  rfl
theorem place_lt : ∀ (ns ss : List Nat) (acc P : Nat), within ns ss = true → acc < P → (ns.zip ss).foldl (fun f p => f * p.2 + p.1) acc < ss.foldl (fun a b => a * b) P
  | [], [], acc, P, _, h => h
  | _ :: _, [], _, _, h, _ => by rw [wn_ne1] at h; cases h
  | [], _ :: _, _, _, h, _ => by rw [wn_ne2] at h; cases h
  | n :: ns, s :: ss, acc, P, h, hp => by
    rw [wn_cons, Bool.and_eq_true, decide_eq_true_iff] at h
    rw [List.zip_cons_cons, List.foldl_cons, List.foldl_cons]
    refine place_lt ns ss _ _ h.2 ?_
    have h1 : (acc + 1) * s ≤ P * s := Nat.mul_le_mul_right s hp
    have h2 : (acc + 1) * s = acc * s + s := Nat.succ_mul acc s
    show acc * s + n < P * s
    omega
theorem place_ok {ns ss : List Nat} (h : within ns ss = true) : placeOf ns ss < prodL ss := place_lt ns ss 0 1 h (by omega)
/-! ### all lists below sizes are the specification's -/
theorem fold_longer : ∀ (ss : List Nat) (acc : List (List Nat)), ss.foldl longer acc = acc.flatMap fun a => (Su193.enumerateProfiles ss).map fun r => a ++ r
  | [], acc => by
    show acc = acc.flatMap fun a => [a ++ []]
    induction acc with
    | nil => rfl
    | cons a r ih => rw [List.flatMap_cons, ← ih, List.append_nil] <;> rfl
  | s :: ss, acc => by
    rw [List.foldl_cons, fold_longer ss]
    unfold longer
    rw [List.flatMap_assoc]
    refine congrArg (fun f => acc.flatMap f) (funext fun a => ?_)
    show ((List.range s).map fun n => a ++ [n]).flatMap _ = ((List.range s).flatMap fun t => (Su193.enumerateProfiles ss).map fun r => t :: r).map fun r => a ++ r
    rw [List.flatMap_map, List.map_flatMap]
    refine congrArg (fun f => (List.range s).flatMap f) (funext fun t => ?_)
    show ((Su193.enumerateProfiles ss).map fun r => a ++ [t] ++ r) = ((Su193.enumerateProfiles ss).map fun r => t :: r).map fun r => a ++ r
    rw [List.map_map]
    refine List.map_congr_left fun r _ => ?_
    show a ++ [t] ++ r = a ++ (t :: r)
    rw [List.append_assoc] <;> rfl
theorem allLists_eq (ss : List Nat) : allLists ss = Su193.enumerateProfiles ss := by
  unfold allLists
  rw [fold_longer]
  show ([[]] : List (List Nat)).flatMap _ = _
  rw [List.flatMap_cons, List.flatMap_nil, List.append_nil]
  show (Su193.enumerateProfiles ss).map (fun r => [] ++ r) = _
  have e : (fun r : List Nat => [] ++ r) = id := funext fun r => rfl
  rw [e, List.map_id]
theorem mem_enum : ∀ {ss r : List Nat}, r ∈ Su193.enumerateProfiles ss ↔ within r ss = true
  | [], r => by
    show r ∈ [[]] ↔ _
    rw [List.mem_singleton]
    cases r with
    | nil => simp [wn_nil]
    | cons n ns => simp [wn_ne1]
  | s :: ss, r => by
    show r ∈ (List.range s).flatMap (fun t => (Su193.enumerateProfiles ss).map fun q => t :: q) ↔ _
    rw [List.mem_flatMap]
    constructor
    · rintro ⟨t, ht, h⟩
      obtain ⟨q, hq, rfl⟩ := List.mem_map.mp h
      rw [wn_cons, Bool.and_eq_true, decide_eq_true_iff]
      exact ⟨List.mem_range.mp ht, mem_enum.mp hq⟩
    · intro h
      cases r with
      | nil => rw [wn_ne2] at h; cases h
      | cons n ns =>
        rw [wn_cons, Bool.and_eq_true, decide_eq_true_iff] at h
        exact ⟨n, List.mem_range.mpr h.1, List.mem_map.mpr ⟨ns, mem_enum.mpr h.2, rfl⟩⟩
theorem mem_all {ss r : List Nat} : r ∈ allLists ss ↔ within r ss = true := by rw [allLists_eq, mem_enum]
theorem enum_len : ∀ ss : List Nat, (Su193.enumerateProfiles ss).length = prodL ss
  | [] => rfl
  | s :: ss => by
    have ih := enum_len ss
    show ((List.range s).flatMap fun t => (Su193.enumerateProfiles ss).map fun q => t :: q).length = _
    rw [prodL_cons, ← ih, List.length_flatMap]
    have e : (fun a : Nat => ((Su193.enumerateProfiles ss).map fun q => a :: q).length) = fun _ => (Su193.enumerateProfiles ss).length := funext fun a => List.length_map ..
    rw [e, List.map_const', List.length_range, List.sum_replicate_nat]
/-! ### well-formed instances -/
def RkOk (c : Nat) (r : List Nat) : Prop := r.length = c ∧ r.Nodup ∧ ∀ x ∈ r, x < c
def sizesM (m : Mc) : List Nat := m.target.domains.map List.length
structure Wf (m : Mc) : Prop where
  a1 : 1 ≤ m.target.agentCount
  a3 : m.target.agentCount ≤ 3
  v2 : 2 ≤ m.target.alternativeCount
  v4 : m.target.alternativeCount ≤ 4
  dl : m.target.domains.length = m.target.agentCount
  d6 : ∀ l ∈ m.target.domains, l.length ≤ 6
  dr : ∀ l ∈ m.target.domains, ∀ r ∈ l, RkOk m.target.alternativeCount r
  ml : m.messageCounts.length = m.target.agentCount
  m6 : ∀ k ∈ m.messageCounts, 1 ≤ k ∧ k ≤ 6
  ol : m.outcomes.length = prodL m.messageCounts
  ov : ∀ x ∈ m.outcomes, x < m.target.alternativeCount
  tl : m.target.outcomes.length = prodL (sizesM m)
  tv : ∀ x ∈ m.target.outcomes, x < m.target.alternativeCount
def out (m : Mc) (s : List Nat) : Nat := m.outcomes.getD (placeOf s m.messageCounts) 0
def tgt (m : Mc) (p : List Nat) : Nat := m.target.outcomes.getD (placeOf p (sizesM m)) 0
def domM (m : Mc) (i : Nat) : List (List Nat) := m.target.domains.getD i []
def prf (m : Mc) (i : Nat) (p : List Nat) : List Nat := (domM m i).getD (p.getD i 0) []
section
variable {m : Mc}
theorem Wf.mc6 (W : Wf m) : ∀ k ∈ m.messageCounts, k ≤ 6 := fun k hk => (W.m6 k hk).2
theorem Wf.sz6 (W : Wf m) : ∀ k ∈ sizesM m, k ≤ 6 := fun k hk => by
  obtain ⟨l, hl, rfl⟩ := List.mem_map.mp hk
  exact W.d6 l hl
theorem Wf.szl (W : Wf m) : (sizesM m).length = m.target.agentCount := by
  unfold sizesM
  rw [List.length_map, W.dl]
theorem Wf.out_at (W : Wf m) {s : List Nat} (h : within s m.messageCounts = true) : m.outcomes[placeOf s m.messageCounts]? = some (out m s) := getD_at (by rw [W.ol]; exact place_ok h)
theorem Wf.out_lt (W : Wf m) {s : List Nat} (h : within s m.messageCounts = true) : out m s < m.target.alternativeCount := W.ov _ (getD_mem (by rw [W.ol]; exact place_ok h))
theorem Wf.tgt_at (W : Wf m) {p : List Nat} (h : within p (sizesM m) = true) : m.target.outcomes[placeOf p (sizesM m)]? = some (tgt m p) := getD_at (by rw [W.tl]; exact place_ok h)
theorem Wf.tgt_lt (W : Wf m) {p : List Nat} (h : within p (sizesM m) = true) : tgt m p < m.target.alternativeCount := W.tv _ (getD_mem (by rw [W.tl]; exact place_ok h))
theorem Wf.dom_at (W : Wf m) {i : Nat} (h : i < m.target.agentCount) : m.target.domains[i]? = some (domM m i) := getD_at (by rw [W.dl]; exact h)
theorem Wf.dom_mem (W : Wf m) {i : Nat} (h : i < m.target.agentCount) : domM m i ∈ m.target.domains := getD_mem (by rw [W.dl]; exact h)
theorem Wf.dom_rk (W : Wf m) {i : Nat} (h : i < m.target.agentCount) {r : List Nat} (hr : r ∈ domM m i) : RkOk m.target.alternativeCount r := W.dr _ (W.dom_mem h) r hr
theorem Wf.sz_at (W : Wf m) {i : Nat} (h : i < m.target.agentCount) : (sizesM m).getD i 0 = (domM m i).length := by
  have e := W.dom_at h
  unfold sizesM
  rw [List.getD_eq_getElem?_getD, List.getElem?_map, e] <;> rfl
theorem Wf.prf_at (W : Wf m) {i : Nat} (h : i < m.target.agentCount) {p : List Nat} (hp : within p (sizesM m) = true) : (domM m i)[p.getD i 0]? = some (prf m i p) := getD_at (by
  have := wn_at i hp (by rw [W.szl]; exact h)
  rw [W.sz_at h] at this
  exact this)
theorem Wf.prf_rk (W : Wf m) {i : Nat} (h : i < m.target.agentCount) {p : List Nat} (hp : within p (sizesM m) = true) : RkOk m.target.alternativeCount (prf m i p) := W.dom_rk h (List.mem_of_getElem? (W.prf_at h hp))
theorem Wf.mp_len (W : Wf m) : (allLists m.messageCounts).length ≤ 1296 := (allLists_len (by rw [W.ml]; have := W.a3; omega) W.mc6).1
theorem Wf.pr_len (W : Wf m) : (allLists (sizesM m)).length ≤ 1296 := (allLists_len (by rw [W.szl]; have := W.a3; omega) W.sz6).1
theorem rk_mem {c x : Nat} {r : List Nat} (h : RkOk c r) (hx : x < c) : x ∈ r := by
  obtain ⟨h1, h2, h3⟩ := h
  refine Classical.byContradiction fun hn => ?_
  have h4 : (x :: r).Nodup := List.nodup_cons.mpr ⟨hn, h2⟩
  have h5 := List.Nodup.length_le_of_subset (l₂ := List.range c) h4 fun y hy => by
    rcases List.mem_cons.mp hy with e | e
    · rw [e]; exact List.mem_range.mpr hx
    · exact List.mem_range.mpr (h3 y e)
  rw [List.length_cons, List.length_range] at h5
  omega
end
end Gx
namespace Gx
open PySem PySem.Spec PyProof.Rows L2
/-! # The instance's methods; dominance -/
abbrev bLL (l : List (List Bool)) : PyData := .list (l.map bL)
def optL : Option (List Nat) → PyData
  | none => .none
  | some l => nL l
def nb (r row other : List Nat) : Bool := !(row.zip other).any fun p => Su193.prefers r p.1 p.2
def isDomR (r row : List Nat) (rows : List (List Nat)) : Bool := rows.all fun o => nb r o row
def isDomdR (r row : List Nat) (rows : List (List Nat)) : Bool := rows.any fun o => nb r row o && !nb r o row
def rows0 (m : Mc) (i : Nat) : List (List Nat) := (allLists m.messageCounts).filter fun s => s.getD i 0 == 0
def oRow (m : Mc) (i : Nat) (rows : List (List Nat)) (own : Nat) : List Nat := rows.map fun s => out m (s.set i own)
def oRows (m : Mc) (i : Nat) : List (List Nat) := (List.range (m.messageCounts.getD i 0)).map (oRow m i (rows0 m i))
def domF (m : Mc) (i : Nat) (r : List Nat) : List Bool := (oRows m i).map fun row => isDomR r row (oRows m i)
def domdF (m : Mc) (i : Nat) (r : List Nat) : List Bool := (oRows m i).map fun row => isDomdR r row (oRows m i)
def domT (m : Mc) (i : Nat) : List (List Bool) := (domM m i).map (domF m i)
def allDom (flags : List (List Bool)) (s : List Nat) : Bool := (flags.zip s).all fun p => p.1.getD p.2 false
def impl (m : Mc) (flags : List (List Bool)) (wanted : Nat) : Bool := (flags.all fun row => row.contains true) && (allLists m.messageCounts).all fun s => !(allDom flags s && (out m s != wanted))
def flagsAt (m : Mc) (p : List Nat) : List (List Bool) := (((List.range m.target.agentCount).map (domT m)).zip p).map fun q => q.1.getD q.2 []
def failD (m : Mc) : Option (List Nat) := (allLists (sizesM m)).find? fun p => !impl m (flagsAt m p) (tgt m p)
def P_m_message_profiles : List Sl → PyData → Prop := fun xs d => ∃ m : Mc, xs = [.ins m] ∧ Wf m ∧ d = nLL (allLists m.messageCounts)
def P_m_outcome_of : List Sl → PyData → Prop := fun xs d => ∃ (m : Mc) (s : List Nat), xs = [.ins m, .dat (nL s)] ∧ (Wf m ∧ within s m.messageCounts = true) ∧ d = nI (out m s)
def P_m_domain_sizes : List Sl → PyData → Prop := fun xs d => ∃ m : Mc, xs = [.ins m] ∧ m.target.domains.length ≤ 1000 ∧ d = nL (sizesM m)
def P_m_profiles : List Sl → PyData → Prop := fun xs d => ∃ m : Mc, xs = [.ins m] ∧ Wf m ∧ d = nLL (allLists (sizesM m))
def P_m_agents : List Sl → PyData → Prop := fun xs d => ∃ m : Mc, xs = [.ins m] ∧ m.target.agentCount ≤ 1000 ∧ d = nL (List.range m.target.agentCount)
def P_m_target_at : List Sl → PyData → Prop := fun xs d => ∃ (m : Mc) (p : List Nat), xs = [.ins m, .dat (nL p)] ∧ (Wf m ∧ within p (sizesM m) = true) ∧ d = nI (tgt m p)
def P_m_preference_of : List Sl → PyData → Prop := fun xs d => ∃ (m : Mc) (i : Nat) (p : List Nat), xs = [.ins m, .dat (nI i), .dat (nL p)] ∧ (Wf m ∧ i < m.target.agentCount ∧ within p (sizesM m) = true) ∧ d = nL (prf m i p)
def P_m_is_ready : List Sl → PyData → Prop := fun xs d => ∃ m : Mc, xs = [.ins m] ∧ m.target.domains.length ≤ 1000 ∧ d = .bool (!(sizesM m).contains 0)
def P_f_outcome_row : List Sl → PyData → Prop := fun xs d => ∃ (m : Mc) (i own : Nat) (rows : List (List Nat)), xs = [.ins m, .dat (nI i), .dat (nI own), .dat (nLL rows)] ∧ (Wf m ∧ i < m.target.agentCount ∧ own < m.messageCounts.getD i 0 ∧ (∀ s ∈ rows, within s m.messageCounts = true) ∧ rows.length ≤ 1300) ∧ d = nL (oRow m i rows own)
def P_f_outcome_rows : List Sl → PyData → Prop := fun xs d => ∃ (m : Mc) (i : Nat), xs = [.ins m, .dat (nI i)] ∧ (Wf m ∧ i < m.target.agentCount) ∧ d = nLL (oRows m i)
def P_f_is_never_better : List Sl → PyData → Prop := fun xs d => ∃ (r row other : List Nat), xs = [.dat (nL r), .dat (nL row), .dat (nL other)] ∧ ((∀ x ∈ row, x ∈ r) ∧ (∀ x ∈ other, x ∈ r) ∧ row.length ≤ 1300) ∧ d = .bool (nb r row other)
def P_f_is_dominant : List Sl → PyData → Prop := fun xs d => ∃ (r row : List Nat) (rows : List (List Nat)), xs = [.dat (nL r), .dat (nL row), .dat (nLL rows)] ∧ (row ∈ rows ∧ (∀ o ∈ rows, (∀ x ∈ o, x ∈ r) ∧ o.length ≤ 1300) ∧ rows.length ≤ 10) ∧ d = .bool (isDomR r row rows)
def P_f_does_dominate : List Sl → PyData → Prop := fun xs d => ∃ (r row other : List Nat), xs = [.dat (nL r), .dat (nL row), .dat (nL other)] ∧ ((∀ x ∈ row, x ∈ r) ∧ (∀ x ∈ other, x ∈ r) ∧ row.length ≤ 1300 ∧ other.length ≤ 1300) ∧ d = .bool (nb r other row && !nb r row other)
def P_f_is_dominated : List Sl → PyData → Prop := fun xs d => ∃ (r row : List Nat) (rows : List (List Nat)), xs = [.dat (nL r), .dat (nL row), .dat (nLL rows)] ∧ (row ∈ rows ∧ (∀ o ∈ rows, (∀ x ∈ o, x ∈ r) ∧ o.length ≤ 1300) ∧ rows.length ≤ 10) ∧ d = .bool (isDomdR r row rows)
def P_f_dominant_flags : List Sl → PyData → Prop := fun xs d => ∃ (m : Mc) (i : Nat) (r : List Nat), xs = [.ins m, .dat (nI i), .dat (nL r)] ∧ (Wf m ∧ i < m.target.agentCount ∧ RkOk m.target.alternativeCount r) ∧ d = bL (domF m i r)
def P_f_dominated_flags : List Sl → PyData → Prop := fun xs d => ∃ (m : Mc) (i : Nat) (r : List Nat), xs = [.ins m, .dat (nI i), .dat (nL r)] ∧ (Wf m ∧ i < m.target.agentCount ∧ RkOk m.target.alternativeCount r) ∧ d = bL (domdF m i r)
def P_f_dominant_table : List Sl → PyData → Prop := fun xs d => ∃ (m : Mc) (i : Nat), xs = [.ins m, .dat (nI i)] ∧ (Wf m ∧ i < m.target.agentCount) ∧ d = bLL (domT m i)
def P_f_are_all_dominant : List Sl → PyData → Prop := fun xs d => ∃ (flags : List (List Bool)) (s : List Nat), xs = [.dat (bLL flags), .dat (nL s)] ∧ (within s (flags.map List.length) = true ∧ flags.length ≤ 1000) ∧ d = .bool (allDom flags s)
def P_f_is_implemented : List Sl → PyData → Prop := fun xs d => ∃ (m : Mc) (flags : List (List Bool)) (wanted : Nat), xs = [.ins m, .dat (bLL flags), .dat (nI wanted)] ∧ (Wf m ∧ flags.map List.length = m.messageCounts) ∧ d = .bool (impl m flags wanted)
def P_f_first_failure_of_dominance : List Sl → PyData → Prop := fun xs d => ∃ m : Mc, xs = [.ins m] ∧ Wf m ∧ d = optL (failD m)
abbrev sp_m_message_profiles (K : PySem.W.Frag) (C : Addr) : Sp := spF K C P_m_message_profiles
theorem len_m_message_profiles : ∀ xs d, P_m_message_profiles xs d → xs.length = 1 := fun xs d ⟨_, e, _⟩ => by rw [e] <;> rfl
abbrev sp_m_outcome_of (K : PySem.W.Frag) (C : Addr) : Sp := spF K C P_m_outcome_of
theorem len_m_outcome_of : ∀ xs d, P_m_outcome_of xs d → xs.length = 2 := fun xs d ⟨_, _, e, _⟩ => by rw [e] <;> rfl
abbrev sp_m_domain_sizes (K : PySem.W.Frag) (C : Addr) : Sp := spF K C P_m_domain_sizes
theorem len_m_domain_sizes : ∀ xs d, P_m_domain_sizes xs d → xs.length = 1 := fun xs d ⟨_, e, _⟩ => by rw [e] <;> rfl
abbrev sp_m_profiles (K : PySem.W.Frag) (C : Addr) : Sp := spF K C P_m_profiles
theorem len_m_profiles : ∀ xs d, P_m_profiles xs d → xs.length = 1 := fun xs d ⟨_, e, _⟩ => by rw [e] <;> rfl
abbrev sp_m_agents (K : PySem.W.Frag) (C : Addr) : Sp := spF K C P_m_agents
theorem len_m_agents : ∀ xs d, P_m_agents xs d → xs.length = 1 := fun xs d ⟨_, e, _⟩ => by rw [e] <;> rfl
abbrev sp_m_target_at (K : PySem.W.Frag) (C : Addr) : Sp := spF K C P_m_target_at
theorem len_m_target_at : ∀ xs d, P_m_target_at xs d → xs.length = 2 := fun xs d ⟨_, _, e, _⟩ => by rw [e] <;> rfl
abbrev sp_m_preference_of (K : PySem.W.Frag) (C : Addr) : Sp := spF K C P_m_preference_of
theorem len_m_preference_of : ∀ xs d, P_m_preference_of xs d → xs.length = 3 := fun xs d ⟨_, _, _, e, _⟩ => by rw [e] <;> rfl
abbrev sp_m_is_ready (K : PySem.W.Frag) (C : Addr) : Sp := spF K C P_m_is_ready
theorem len_m_is_ready : ∀ xs d, P_m_is_ready xs d → xs.length = 1 := fun xs d ⟨_, e, _⟩ => by rw [e] <;> rfl
abbrev sp_f_outcome_row (K : PySem.W.Frag) (C : Addr) : Sp := spF K C P_f_outcome_row
theorem len_f_outcome_row : ∀ xs d, P_f_outcome_row xs d → xs.length = 4 := fun xs d ⟨_, _, _, _, e, _⟩ => by rw [e] <;> rfl
abbrev sp_f_outcome_rows (K : PySem.W.Frag) (C : Addr) : Sp := spF K C P_f_outcome_rows
theorem len_f_outcome_rows : ∀ xs d, P_f_outcome_rows xs d → xs.length = 2 := fun xs d ⟨_, _, e, _⟩ => by rw [e] <;> rfl
abbrev sp_f_is_never_better (K : PySem.W.Frag) (C : Addr) : Sp := spF K C P_f_is_never_better
theorem len_f_is_never_better : ∀ xs d, P_f_is_never_better xs d → xs.length = 3 := fun xs d ⟨_, _, _, e, _⟩ => by rw [e] <;> rfl
abbrev sp_f_is_dominant (K : PySem.W.Frag) (C : Addr) : Sp := spF K C P_f_is_dominant
theorem len_f_is_dominant : ∀ xs d, P_f_is_dominant xs d → xs.length = 3 := fun xs d ⟨_, _, _, e, _⟩ => by rw [e] <;> rfl
abbrev sp_f_does_dominate (K : PySem.W.Frag) (C : Addr) : Sp := spF K C P_f_does_dominate
theorem len_f_does_dominate : ∀ xs d, P_f_does_dominate xs d → xs.length = 3 := fun xs d ⟨_, _, _, e, _⟩ => by rw [e] <;> rfl
abbrev sp_f_is_dominated (K : PySem.W.Frag) (C : Addr) : Sp := spF K C P_f_is_dominated
theorem len_f_is_dominated : ∀ xs d, P_f_is_dominated xs d → xs.length = 3 := fun xs d ⟨_, _, _, e, _⟩ => by rw [e] <;> rfl
abbrev sp_f_dominant_flags (K : PySem.W.Frag) (C : Addr) : Sp := spF K C P_f_dominant_flags
theorem len_f_dominant_flags : ∀ xs d, P_f_dominant_flags xs d → xs.length = 3 := fun xs d ⟨_, _, _, e, _⟩ => by rw [e] <;> rfl
abbrev sp_f_dominated_flags (K : PySem.W.Frag) (C : Addr) : Sp := spF K C P_f_dominated_flags
theorem len_f_dominated_flags : ∀ xs d, P_f_dominated_flags xs d → xs.length = 3 := fun xs d ⟨_, _, _, e, _⟩ => by rw [e] <;> rfl
abbrev sp_f_dominant_table (K : PySem.W.Frag) (C : Addr) : Sp := spF K C P_f_dominant_table
theorem len_f_dominant_table : ∀ xs d, P_f_dominant_table xs d → xs.length = 2 := fun xs d ⟨_, _, e, _⟩ => by rw [e] <;> rfl
abbrev sp_f_are_all_dominant (K : PySem.W.Frag) (C : Addr) : Sp := spF K C P_f_are_all_dominant
theorem len_f_are_all_dominant : ∀ xs d, P_f_are_all_dominant xs d → xs.length = 2 := fun xs d ⟨_, _, e, _⟩ => by rw [e] <;> rfl
abbrev sp_f_is_implemented (K : PySem.W.Frag) (C : Addr) : Sp := spF K C P_f_is_implemented
theorem len_f_is_implemented : ∀ xs d, P_f_is_implemented xs d → xs.length = 3 := fun xs d ⟨_, _, _, e, _⟩ => by rw [e] <;> rfl
abbrev sp_f_first_failure_of_dominance (K : PySem.W.Frag) (C : Addr) : Sp := spF K C P_f_first_failure_of_dominance
theorem len_f_first_failure_of_dominance : ∀ xs d, P_f_first_failure_of_dominance xs d → xs.length = 1 := fun xs d ⟨_, e, _⟩ => by rw [e] <;> rfl
/-! ### readings (printed by gen.py) -/
/-- 0 self -/
def t_m_message_profiles (K : PySem.W.Frag) (C : Addr) : TS :=
    (tRet (tCall (sp_f_all_lists K C) [] E0 (tCons (tFld K (tVar 0) "message_counts") tNil)))
/-- 0 self, 1 messages -/
def t_m_outcome_of (K : PySem.W.Frag) (C : Addr) : TS :=
    (tRet (tOp (rIxL K) (tFld K (tVar 0) "mechanism") (tCall (sp_f_place_of K C) [] E0 (tCons (tVar 1) (tCons (tFld K (tVar 0) "message_counts") tNil)))))
/-- 0 self, 1 domain -/
def t_m_domain_sizes (K : PySem.W.Frag) (C : Addr) : TS :=
    (tRet (tLc (iList K (tFld K (tVar 0) "domains")) (gName 1) tYes (tCB (rLenS K) (tCons (tVar 1) tNil)) [1]))
/-- 0 self -/
def t_m_profiles (K : PySem.W.Frag) (C : Addr) : TS :=
    (tRet (tCall (sp_f_all_lists K C) [] E0 (tCons (tMeth C "domain_sizes" (sp_m_domain_sizes K C) [] E0 (tVar 0) tNil) tNil)))
/-- 0 self -/
def t_m_agents (K : PySem.W.Frag) (C : Addr) : TS :=
    (tRet (tLstRg (tRg1 (tFld K (tVar 0) "agent_count"))))
/-- 0 self, 1 profile -/
def t_m_target_at (K : PySem.W.Frag) (C : Addr) : TS :=
    (tRet (tOp (rIxL K) (tFld K (tVar 0) "target") (tCall (sp_f_place_of K C) [] E0 (tCons (tVar 1) (tCons (tMeth C "domain_sizes" (sp_m_domain_sizes K C) [] E0 (tVar 0) tNil) tNil)))))
/-- 0 self, 1 agent, 2 profile -/
def t_m_preference_of (K : PySem.W.Frag) (C : Addr) : TS :=
    (tRet (tOp (rIxL K) (tOp (rIxL K) (tFld K (tVar 0) "domains") (tVar 1)) (tOp (rIxL K) (tVar 2) (tVar 1))))
/-- 0 self -/
def t_m_is_ready (K : PySem.W.Frag) (C : Addr) : TS :=
    (tRet (tOp (rIn K true) (tC (.int 0)) (tMeth C "domain_sizes" (sp_m_domain_sizes K C) [] E0 (tVar 0) tNil)))
/-- 0 instance, 1 agent, 2 own, 3 rows, 4 row -/
def t_f_outcome_row (K : PySem.W.Frag) (C : Addr) : TS :=
    (tRet (tLc (iList K (tVar 3)) (gName 4) tYes (tMeth C "outcome_of" (sp_m_outcome_of K C) [] E0 (tVar 0) (tCons (tCall (sp_f_with_number K C) [] E0 (tCons (tVar 4) (tCons (tVar 1) (tCons (tVar 2) tNil)))) tNil)) [4]))
/-- 0 instance, 1 agent, 2 rows, 3 row, 4 own -/
def t_f_outcome_rows (K : PySem.W.Frag) (C : Addr) : TS :=
    (tSeq (tAsg (tLc (iList K (tMeth C "message_profiles" (sp_m_message_profiles K C) [] E0 (tVar 0) tNil)) (gName 3) (tTest (tOp rEq (tOp (rIxL K) (tVar 3) (tVar 1)) (tC (.int 0)))) (tVar 3) [3]) (gName 2))
    (tRet (tLc (iRng1 (tCons (tOp (rIxL K) (tFld K (tVar 0) "message_counts") (tVar 1)) tNil)) (gName 4) tYes (tCall (sp_f_outcome_row K C) [] E0 (tCons (tVar 0) (tCons (tVar 1) (tCons (tVar 4) (tCons (tVar 2) tNil))))) [4])))
/-- 0 ranking, 1 row, 2 other, 3 here, 4 there -/
def t_f_is_never_better (K : PySem.W.Frag) (C : Addr) : TS :=
    (tRet (tNotV (tCB (rAny K) (tCons (tLc (iZip K (tCons (tVar 1) (tCons (tVar 2) tNil))) (gTup K 2 (gCons (gName 3) (gCons (gName 4) gNil))) tYes (tCall (sp_f_prefers K C) [] E0 (tCons (tVar 0) (tCons (tVar 3) (tCons (tVar 4) tNil)))) [3, 4]) tNil))))
/-- 0 ranking, 1 row, 2 rows, 3 other -/
def t_f_is_dominant (K : PySem.W.Frag) (C : Addr) : TS :=
    (tRet (tCB (rAll K) (tCons (tLc (iList K (tVar 2)) (gName 3) tYes (tCall (sp_f_is_never_better K C) [] E0 (tCons (tVar 0) (tCons (tVar 3) (tCons (tVar 1) tNil)))) [3]) tNil)))
/-- 0 ranking, 1 row, 2 other -/
def t_f_does_dominate (K : PySem.W.Frag) (C : Addr) : TS :=
    (tRet (tAndV (tCall (sp_f_is_never_better K C) [] E0 (tCons (tVar 0) (tCons (tVar 2) (tCons (tVar 1) tNil)))) (tNotV (tCall (sp_f_is_never_better K C) [] E0 (tCons (tVar 0) (tCons (tVar 1) (tCons (tVar 2) tNil)))))))
/-- 0 ranking, 1 row, 2 rows, 3 other -/
def t_f_is_dominated (K : PySem.W.Frag) (C : Addr) : TS :=
    (tRet (tCB (rAny K) (tCons (tLc (iList K (tVar 2)) (gName 3) tYes (tCall (sp_f_does_dominate K C) [] E0 (tCons (tVar 0) (tCons (tVar 3) (tCons (tVar 1) tNil)))) [3]) tNil)))
/-- 0 instance, 1 agent, 2 ranking, 3 rows, 4 row -/
def t_f_dominant_flags (K : PySem.W.Frag) (C : Addr) : TS :=
    (tSeq (tAsg (tCall (sp_f_outcome_rows K C) [] E0 (tCons (tVar 0) (tCons (tVar 1) tNil))) (gName 3))
    (tRet (tLc (iList K (tVar 3)) (gName 4) tYes (tCall (sp_f_is_dominant K C) [] E0 (tCons (tVar 2) (tCons (tVar 4) (tCons (tVar 3) tNil)))) [4])))
/-- 0 instance, 1 agent, 2 ranking, 3 rows, 4 row -/
def t_f_dominated_flags (K : PySem.W.Frag) (C : Addr) : TS :=
    (tSeq (tAsg (tCall (sp_f_outcome_rows K C) [] E0 (tCons (tVar 0) (tCons (tVar 1) tNil))) (gName 3))
    (tRet (tLc (iList K (tVar 3)) (gName 4) tYes (tCall (sp_f_is_dominated K C) [] E0 (tCons (tVar 2) (tCons (tVar 4) (tCons (tVar 3) tNil)))) [4])))
/-- 0 instance, 1 agent, 2 ranking -/
def t_f_dominant_table (K : PySem.W.Frag) (C : Addr) : TS :=
    (tRet (tLc (iList K (tOp (rIxL K) (tFld K (tVar 0) "domains") (tVar 1))) (gName 2) tYes (tCall (sp_f_dominant_flags K C) [] E0 (tCons (tVar 0) (tCons (tVar 1) (tCons (tVar 2) tNil)))) [2]))
/-- 0 flags, 1 messages, 2 row, 3 message -/
def t_f_are_all_dominant (K : PySem.W.Frag) (C : Addr) : TS :=
    (tRet (tCB (rAll K) (tCons (tLc (iZip K (tCons (tVar 0) (tCons (tVar 1) tNil))) (gTup K 2 (gCons (gName 2) (gCons (gName 3) gNil))) tYes (tOp (rIxL K) (tVar 2) (tVar 3)) [2, 3]) tNil)))
/-- 0 instance, 1 flags, 2 wanted, 3 messages, 4 row -/
def t_f_is_implemented (K : PySem.W.Frag) (C : Addr) : TS :=
    (tSeq (tIfS (tNot (tB (tCB (rAll K) (tCons (tLc (iList K (tVar 1)) (gName 4) tYes (tOp (rIn K false) (tC (.bl true)) (tVar 4)) [4]) tNil)))) (tRet (tC (.bl false))) tNext)
    (tSeq (tFor (iList K (tMeth C "message_profiles" (sp_m_message_profiles K C) [] E0 (tVar 0) tNil)) (gName 3) (tIfS (tAnd (tB (tCall (sp_f_are_all_dominant K C) [] E0 (tCons (tVar 1) (tCons (tVar 3) tNil)))) (tTest (tOp rNe (tMeth C "outcome_of" (sp_m_outcome_of K C) [] E0 (tVar 0) (tCons (tVar 3) tNil)) (tVar 2)))) (tRet (tC (.bl false))) tNext))
    (tRet (tC (.bl true)))))
/-- 0 instance, 1 tables, 2 profile, 3 flags, 4 agent, 5 table, 6 report -/
def t_f_first_failure_of_dominance (K : PySem.W.Frag) (C : Addr) : TS :=
    (tSeq (tAsg (tLc (iList K (tMeth C "agents" (sp_m_agents K C) [] E0 (tVar 0) tNil)) (gName 4) tYes (tCall (sp_f_dominant_table K C) [] E0 (tCons (tVar 0) (tCons (tVar 4) tNil))) [4]) (gName 1))
    (tSeq (tFor (iList K (tMeth C "profiles" (sp_m_profiles K C) [] E0 (tVar 0) tNil)) (gName 2) (tSeq (tAsg (tLc (iZip K (tCons (tVar 1) (tCons (tVar 2) tNil))) (gTup K 2 (gCons (gName 5) (gCons (gName 6) gNil))) tYes (tOp (rIxL K) (tVar 5) (tVar 6)) [5, 6]) (gName 3))
    (tIfS (tNot (tB (tCall (sp_f_is_implemented K C) [] E0 (tCons (tVar 0) (tCons (tVar 3) (tCons (tMeth C "target_at" (sp_m_target_at K C) [] E0 (tVar 0) (tCons (tVar 2) tNil)) tNil)))))) (tRet (tVar 2)) tNext)))
    (tRet (tC .non))))
section
variable {K : PySem.W.Frag} {C : Addr}
theorem x_m_message_profiles (T : Tx K C) : ∀ xs d, P_m_message_profiles xs d → X K C (t_m_message_profiles K C) (xs ++ List.replicate (N_m_message_profiles.length - 1) .any) (.rt d) := by
  rintro xs d ⟨m, rfl, W, rfl⟩
  exact x_ret (e_call (ea_one (e_fM T (e_var rfl))) ⟨_, rfl, ⟨by rw [W.ml]; have := W.a3; omega, W.mc6⟩, rfl⟩)
theorem x_m_outcome_of (T : Tx K C) : ∀ xs d, P_m_outcome_of xs d → X K C (t_m_outcome_of K C) (xs ++ List.replicate (N_m_outcome_of.length - 2) .any) (.rt d) := by
  rintro xs d ⟨m, s, rfl, ⟨W, h⟩, rfl⟩
  exact x_ret (e_ixM (e_fK T (e_var rfl)) (e_call (ea_cons (e_var rfl) (ea_one (e_fM T (e_var rfl)))) ⟨_, _, rfl, W.mc6, rfl⟩) (W.out_at h))
theorem x_m_domain_sizes (T : Tx K C) : ∀ xs d, P_m_domain_sizes xs d → X K C (t_m_domain_sizes K C) (xs ++ List.replicate (N_m_domain_sizes.length - 1) .any) (.rt d) := by
  rintro xs d ⟨m, rfl, h, rfl⟩
  have h1 := en_lc0 (K := K) (C := C) (ρ := [.ins m, .any]) (wi := iList K (tFld K (tVar 0) "domains")) (g := gName 1) (te := tCB (rLenS K) (tCons (tVar 1) tNil)) (js := [1]) (vs := [1]) (xs := m.target.domains) (enc := nLL) (f := fun l => nI l.length) (ei_dom T (e_var rfl)) (by omega) (fun _ h => h)
    fun l hl => ⟨_, ga_name, e_is (e_len (e_var rfl)) (by rw [List.length_map])⟩
  refine x_ret (e_is (e_new h1) ?_)
  show PyData.list _ = PyData.list ((m.target.domains.map List.length).map nI)
  rw [List.map_map]
  rfl
theorem x_m_profiles (T : Tx K C) : ∀ xs d, P_m_profiles xs d → X K C (t_m_profiles K C) (xs ++ List.replicate (N_m_profiles.length - 1) .any) (.rt d) := by
  rintro xs d ⟨m, rfl, W, rfl⟩
  exact x_ret (e_call (ea_one (e_meth (fun _ _ _ _ => fl_no (by decide +kernel)) (e_var rfl) ea_nil ⟨_, rfl, by rw [W.dl]; have := W.a3; omega, rfl⟩)) ⟨_, rfl, ⟨by rw [W.szl]; have := W.a3; omega, W.sz6⟩, rfl⟩)
theorem x_m_agents (T : Tx K C) : ∀ xs d, P_m_agents xs d → X K C (t_m_agents K C) (xs ++ List.replicate (N_m_agents.length - 1) .any) (.rt d) := by
  rintro xs d ⟨m, rfl, h, rfl⟩
  exact x_ret (e_new (en_rg (e_fA T (e_var rfl)) h))
theorem x_m_target_at (T : Tx K C) : ∀ xs d, P_m_target_at xs d → X K C (t_m_target_at K C) (xs ++ List.replicate (N_m_target_at.length - 2) .any) (.rt d) := by
  rintro xs d ⟨m, p, rfl, ⟨W, h⟩, rfl⟩
  exact x_ret (e_ixM (e_fT T (e_var rfl)) (e_call (ea_cons (e_var rfl) (ea_one (e_meth (fun _ _ _ _ => fl_no (by decide +kernel)) (e_var rfl) ea_nil ⟨_, rfl, by rw [W.dl]; have := W.a3; omega, rfl⟩))) ⟨_, _, rfl, W.sz6, rfl⟩) (W.tgt_at h))
theorem x_m_preference_of (T : Tx K C) : ∀ xs d, P_m_preference_of xs d → X K C (t_m_preference_of K C) (xs ++ List.replicate (N_m_preference_of.length - 3) .any) (.rt d) := by
  rintro xs d ⟨m, i, p, rfl, ⟨W, hi, h⟩, rfl⟩
  exact x_ret (e_ixM (e_dom T (e_var rfl) (e_var rfl) (W.dom_at hi)) (e_ixM (e_var rfl) (e_var rfl) (getD_at (d := 0) (by rw [wn_len h, W.szl]; exact hi))) (W.prf_at hi h))
theorem x_m_is_ready (T : Tx K C) : ∀ xs d, P_m_is_ready xs d → X K C (t_m_is_ready K C) (xs ++ List.replicate (N_m_is_ready.length - 1) .any) (.rt d) := by
  rintro xs d ⟨m, rfl, h, rfl⟩
  exact x_ret (e_niN (e_cN 0) (e_meth (fun _ _ _ _ => fl_no (by decide +kernel)) (e_var rfl) ea_nil ⟨_, rfl, h, rfl⟩))
theorem x_f_outcome_row (T : Tx K C) : ∀ xs d, P_f_outcome_row xs d → X K C (t_f_outcome_row K C) (xs ++ List.replicate (N_f_outcome_row.length - 4) .any) (.rt d) := by
  rintro xs d ⟨m, i, own, rows, rfl, ⟨W, hi, ho, hr, hl⟩, rfl⟩
  refine x_ret (e_is (e_new (en_lc0 (js := [4]) (xs := rows) (enc := nL) (f := fun s => nI (out m (s.set i own))) (ei_list (e_var rfl)) (by omega) (fun _ h => h) fun s hs => ⟨_, ga_name, ?_⟩)) ?_)
  · have h1 := hr s hs
    have h2 : i < s.length := by rw [wn_len h1, W.ml]; exact hi
    exact e_meth (fun _ _ _ _ => fl_no (by decide +kernel)) (e_var rfl) (ea_one (e_call (ea_cons (e_var rfl) (ea_cons (e_var rfl) (ea_one (e_var rfl)))) ⟨_, _, _, rfl, h2, rfl⟩)) ⟨_, _, rfl, ⟨W, wn_set h1 ho⟩, rfl⟩
  · show PyData.list _ = PyData.list ((rows.map fun s => out m (s.set i own)).map nI)
    rw [List.map_map]
    rfl
theorem rows0_ok {m : Mc} (W : Wf m) (i : Nat) : (∀ s ∈ rows0 m i, within s m.messageCounts = true) ∧ (rows0 m i).length ≤ 1300 := by
  refine ⟨fun s hs => mem_all.mp (List.mem_filter.mp hs).1, ?_⟩
  have h1 := W.mp_len
  have h2 : (rows0 m i).length ≤ (allLists m.messageCounts).length := List.length_filter_le ..
  omega
theorem Wf.mci {m : Mc} (W : Wf m) {i : Nat} (hi : i < m.target.agentCount) : m.messageCounts[i]? = some (m.messageCounts.getD i 0) ∧ m.messageCounts.getD i 0 ≤ 6 := by
  have h : i < m.messageCounts.length := by rw [W.ml]; exact hi
  exact ⟨getD_at h, W.mc6 _ (getD_mem h)⟩
theorem x_f_outcome_rows (T : Tx K C) : ∀ xs d, P_f_outcome_rows xs d → X K C (t_f_outcome_rows K C) (xs ++ List.replicate (N_f_outcome_rows.length - 2) .any) (.rt d) := by
  rintro xs d ⟨m, i, rfl, ⟨W, hi⟩, rfl⟩
  obtain ⟨h1, h2⟩ := rows0_ok W i
  obtain ⟨h3, h4⟩ := W.mci hi
  have hA := en_lc (K := K) (C := C) (ρ := [.ins m, .dat (nI i), .any, .any, .any]) (wi := iList K (tMeth C "message_profiles" (sp_m_message_profiles K C) [] E0 (tVar 0) tNil)) (g := gName 3) (tt := tTest (tOp rEq (tOp (rIxL K) (tVar 3) (tVar 1)) (tC (.int 0)))) (te := tVar 3) (js := [3]) (vs := [3]) (xs := allLists m.messageCounts) (enc := nL) (p := fun s => s.getD i 0 == 0) (f := nL)
    (ei_list (e_meth (fun _ _ _ _ => fl_no (by decide +kernel)) (e_var rfl) ea_nil ⟨_, rfl, W, rfl⟩)) (by have := W.mp_len; omega) (fun _ h => h)
    fun s hs => ⟨_, ga_name, et_test (e_eq (e_ixM (e_var rfl) (e_var rfl) (getD_at (d := 0) (by rw [wn_len (mem_all.mp hs), W.ml]; exact hi))) (e_cN 0)), fun _ => e_var rfl⟩
  refine x_seq (x_asgE (e_new hA)) (x_ret (e_is (e_new (en_lc0 (js := [4]) (xs := List.range (m.messageCounts.getD i 0)) (enc := nI) (f := fun own => nL (oRow m i (rows0 m i) own)) (ei_range (e_ixM (e_fM T (e_var rfl)) (e_var rfl) h3) (by omega)) (by rw [List.length_range]; omega) (fun _ h => h)
    fun own ho => ⟨_, ga_name, e_call (ea_cons (e_var rfl) (ea_cons (e_var rfl) (ea_cons (e_var rfl) (ea_one (e_var rfl))))) ⟨_, _, _, _, rfl, ⟨W, hi, List.mem_range.mp ho, h1, h2⟩, rfl⟩⟩)) ?_))
  show PyData.list _ = PyData.list (((List.range (m.messageCounts.getD i 0)).map (oRow m i (rows0 m i))).map nL)
  rw [List.map_map]
  rfl
theorem x_f_is_never_better (T : Tx K C) : ∀ xs d, P_f_is_never_better xs d → X K C (t_f_is_never_better K C) (xs ++ List.replicate (N_f_is_never_better.length - 3) .any) (.rt d) := by
  rintro xs d ⟨r, row, other, rfl, ⟨h1, h2, h3⟩, rfl⟩
  refine x_ret (e_notV (e_anyM (f := fun p : Nat × Nat => Su193.prefers r p.1 p.2) (e_new (en_lc0 (js := [3, 4]) (ei_zip (e_var rfl) (e_var rfl)) ?_ (fun _ h => h) fun p hp => ⟨_, ga_2, ?_⟩))))
  · rw [List.length_zip]; omega
  · have h4 := List.of_mem_zip hp
    exact e_call (ea_cons (e_var rfl) (ea_cons (e_var rfl) (ea_one (e_var rfl)))) ⟨_, _, _, rfl, ⟨h1 _ h4.1, h2 _ h4.2⟩, rfl⟩
theorem x_f_is_dominant (T : Tx K C) : ∀ xs d, P_f_is_dominant xs d → X K C (t_f_is_dominant K C) (xs ++ List.replicate (N_f_is_dominant.length - 3) .any) (.rt d) := by
  rintro xs d ⟨r, row, rows, rfl, ⟨h1, h2, h3⟩, rfl⟩
  exact x_ret (e_allM (f := fun o => nb r o row) (e_new (en_lc0 (js := [3]) (ei_list (e_var rfl)) (by omega) (fun _ h => h) fun o ho => ⟨_, ga_name, e_call (ea_cons (e_var rfl) (ea_cons (e_var rfl) (ea_one (e_var rfl)))) ⟨_, _, _, rfl, ⟨(h2 o ho).1, (h2 row h1).1, (h2 o ho).2⟩, rfl⟩⟩)))
theorem x_f_does_dominate (T : Tx K C) : ∀ xs d, P_f_does_dominate xs d → X K C (t_f_does_dominate K C) (xs ++ List.replicate (N_f_does_dominate.length - 3) .any) (.rt d) := by
  rintro xs d ⟨r, row, other, rfl, ⟨h1, h2, h3, h4⟩, rfl⟩
  exact x_ret (e_andV (e_call (ea_cons (e_var rfl) (ea_cons (e_var rfl) (ea_one (e_var rfl)))) ⟨_, _, _, rfl, ⟨h2, h1, h4⟩, rfl⟩) fun _ => e_notV (e_call (ea_cons (e_var rfl) (ea_cons (e_var rfl) (ea_one (e_var rfl)))) ⟨_, _, _, rfl, ⟨h1, h2, h3⟩, rfl⟩))
theorem x_f_is_dominated (T : Tx K C) : ∀ xs d, P_f_is_dominated xs d → X K C (t_f_is_dominated K C) (xs ++ List.replicate (N_f_is_dominated.length - 3) .any) (.rt d) := by
  rintro xs d ⟨r, row, rows, rfl, ⟨h1, h2, h3⟩, rfl⟩
  exact x_ret (e_anyM (f := fun o => nb r row o && !nb r o row) (e_new (en_lc0 (js := [3]) (ei_list (e_var rfl)) (by omega) (fun _ h => h) fun o ho => ⟨_, ga_name, e_call (ea_cons (e_var rfl) (ea_cons (e_var rfl) (ea_one (e_var rfl)))) ⟨_, _, _, rfl, ⟨(h2 o ho).1, (h2 row h1).1, (h2 o ho).2, (h2 row h1).2⟩, rfl⟩⟩)))
theorem oRows_ok {m : Mc} (W : Wf m) {i : Nat} (hi : i < m.target.agentCount) : (∀ o ∈ oRows m i, (∀ x ∈ o, x < m.target.alternativeCount) ∧ o.length ≤ 1300) ∧ (oRows m i).length ≤ 6 := by
  obtain ⟨h1, h2⟩ := rows0_ok W i
  obtain ⟨h3, h4⟩ := W.mci hi
  refine ⟨fun o ho => ?_, by unfold oRows; rw [List.length_map, List.length_range]; exact h4⟩
  obtain ⟨own, hown, rfl⟩ := List.mem_map.mp ho
  refine ⟨fun x hx => ?_, by unfold oRow; rw [List.length_map]; exact h2⟩
  obtain ⟨s, hs, rfl⟩ := List.mem_map.mp hx
  exact W.out_lt (wn_set (h1 s hs) (List.mem_range.mp hown))
theorem x_f_dominant_flags (T : Tx K C) : ∀ xs d, P_f_dominant_flags xs d → X K C (t_f_dominant_flags K C) (xs ++ List.replicate (N_f_dominant_flags.length - 3) .any) (.rt d) := by
  rintro xs d ⟨m, i, r, rfl, ⟨W, hi, hr⟩, rfl⟩
  obtain ⟨h1, h2⟩ := oRows_ok W hi
  refine x_seq (x_asgE (e_call (ea_cons (e_var rfl) (ea_one (e_var rfl))) ⟨_, _, rfl, ⟨W, hi⟩, rfl⟩)) (x_ret (e_is (e_new (en_lc0 (js := [4]) (f := fun row => .bool (isDomR r row (oRows m i))) (ei_list (e_var rfl)) (by omega) (fun _ h => h)
    fun row hrow => ⟨_, ga_name, e_call (ea_cons (e_var rfl) (ea_cons (e_var rfl) (ea_one (e_var rfl)))) ⟨_, _, _, rfl, ⟨hrow, fun o ho => ⟨fun x hx => rk_mem hr ((h1 o ho).1 x hx), (h1 o ho).2⟩, by omega⟩, rfl⟩⟩)) ?_))
  show PyData.list _ = PyData.list (((oRows m i).map _).map PyData.bool)
  rw [List.map_map]
  rfl
theorem x_f_dominated_flags (T : Tx K C) : ∀ xs d, P_f_dominated_flags xs d → X K C (t_f_dominated_flags K C) (xs ++ List.replicate (N_f_dominated_flags.length - 3) .any) (.rt d) := by
  rintro xs d ⟨m, i, r, rfl, ⟨W, hi, hr⟩, rfl⟩
  obtain ⟨h1, h2⟩ := oRows_ok W hi
  refine x_seq (x_asgE (e_call (ea_cons (e_var rfl) (ea_one (e_var rfl))) ⟨_, _, rfl, ⟨W, hi⟩, rfl⟩)) (x_ret (e_is (e_new (en_lc0 (js := [4]) (f := fun row => .bool (isDomdR r row (oRows m i))) (ei_list (e_var rfl)) (by omega) (fun _ h => h)
    fun row hrow => ⟨_, ga_name, e_call (ea_cons (e_var rfl) (ea_cons (e_var rfl) (ea_one (e_var rfl)))) ⟨_, _, _, rfl, ⟨hrow, fun o ho => ⟨fun x hx => rk_mem hr ((h1 o ho).1 x hx), (h1 o ho).2⟩, by omega⟩, rfl⟩⟩)) ?_))
  show PyData.list _ = PyData.list (((oRows m i).map _).map PyData.bool)
  rw [List.map_map]
  rfl
theorem x_f_dominant_table (T : Tx K C) : ∀ xs d, P_f_dominant_table xs d → X K C (t_f_dominant_table K C) (xs ++ List.replicate (N_f_dominant_table.length - 2) .any) (.rt d) := by
  rintro xs d ⟨m, i, rfl, ⟨W, hi⟩, rfl⟩
  have hl : (domM m i).length ≤ 6 := W.d6 _ (W.dom_mem hi)
  refine x_ret (e_is (e_new (en_lc0 (js := [2]) (xs := domM m i) (enc := nL) (f := fun r => bL (domF m i r)) (ei_list (e_dom T (e_var rfl) (e_var rfl) (W.dom_at hi))) (by omega) (fun _ h => h)
    fun r hr => ⟨_, ga_name, e_call (ea_cons (e_var rfl) (ea_cons (e_var rfl) (ea_one (e_var rfl)))) ⟨_, _, _, rfl, ⟨W, hi, W.dom_rk hi hr⟩, rfl⟩⟩)) ?_)
  show PyData.list _ = PyData.list (((domM m i).map (domF m i)).map bL)
  rw [List.map_map]
  rfl
theorem zip_wn {flags : List (List Bool)} {s : List Nat} (h : within s (flags.map List.length) = true) : ∀ p ∈ flags.zip s, p.2 < p.1.length := by
  induction flags generalizing s with
  | nil => intro p hp; simp at hp
  | cons f r ih =>
    cases s with
    | nil => intro p hp; simp at hp
    | cons n ns =>
      rw [List.map_cons, wn_cons, Bool.and_eq_true, decide_eq_true_iff] at h
      intro p hp
      rw [List.zip_cons_cons] at hp
      rcases List.mem_cons.mp hp with e | e
      · rw [e]; exact h.1
      · exact ih h.2 p e
theorem x_f_are_all_dominant (T : Tx K C) : ∀ xs d, P_f_are_all_dominant xs d → X K C (t_f_are_all_dominant K C) (xs ++ List.replicate (N_f_are_all_dominant.length - 2) .any) (.rt d) := by
  rintro xs d ⟨flags, s, rfl, ⟨h1, h2⟩, rfl⟩
  refine x_ret (e_allM (f := fun p : List Bool × Nat => p.1.getD p.2 false) (e_new (en_lc0 (js := [2, 3]) (ei_zip (f := bL) (g := nI) (e_var rfl) (e_var rfl)) ?_ (fun _ h => h) fun p hp => ⟨_, ga_2, e_ixM (e_var rfl) (e_var rfl) (getD_at (zip_wn h1 p hp))⟩)))
  rw [List.length_zip]
  omega
theorem all_find {α : Type} (p : α → Bool) (xs : List α) : (xs.findSome? fun a => if p a = true then some (PyData.bool false) else none).getD (.bool true) = .bool (xs.all fun a => !p a) := by
  induction xs with
  | nil => rfl
  | cons a r ih =>
    rw [List.findSome?_cons, List.all_cons]
    cases p a with
    | true => rfl
    | false => exact ih
theorem x_f_is_implemented (T : Tx K C) : ∀ xs d, P_f_is_implemented xs d → X K C (t_f_is_implemented K C) (xs ++ List.replicate (N_f_is_implemented.length - 3) .any) (.rt d) := by
  rintro xs d ⟨m, flags, wanted, rfl, ⟨W, hf⟩, rfl⟩
  have hl : flags.length ≤ 3 := by
    have e := congrArg List.length hf
    rw [List.length_map, W.ml] at e
    have := W.a3
    omega
  refine x_ifR (et_not (et_B (e_allM (f := fun row : List Bool => row.contains true) (e_new (en_lc0 (js := [4]) (enc := bL) (ei_list (e_var rfl)) (by omega) (fun _ h => h) fun row hrow => ⟨_, ga_name, e_inB e_cB (e_var rfl)⟩))))) (fun hb => ?_) fun hb => ?_
  · refine x_is (x_ret e_cB) ?_
    unfold impl
    have : (flags.all fun row => row.contains true) = false := by simpa using hb
    rw [this, Bool.false_and]
  · have hb' : (flags.all fun row => row.contains true) = true := by simpa using hb
    have h := x_findM (K := K) (C := C) (ρ := [.ins m, .dat (bLL flags), .dat (nI wanted), .any, .any]) (wi := iList K (tMeth C "message_profiles" (sp_m_message_profiles K C) [] E0 (tVar 0) tNil)) (g := gName 3) (tb := tIfS (tAnd (tB (tCall (sp_f_are_all_dominant K C) [] E0 (tCons (tVar 1) (tCons (tVar 3) tNil)))) (tTest (tOp rNe (tMeth C "outcome_of" (sp_m_outcome_of K C) [] E0 (tVar 0) (tCons (tVar 3) tNil)) (tVar 2)))) (tRet (tC (.bl false))) tNext) (u := tRet (tC (.bl true))) (xs := allLists m.messageCounts) (enc := nL) (d' := .bool true)
      [.ins m, .dat (bLL flags), .dat (nI wanted), .any, .any] (fun s => if (allDom flags s && (out m s != wanted)) = true then some (.bool false) else none) (ei_list (e_meth (fun _ _ _ _ => fl_no (by decide +kernel)) (e_var rfl) ea_nil ⟨_, rfl, W, rfl⟩)) (Wk.refl _) (fun s hs => ?_) (fun _ => x_ret e_cB)
    · rw [all_find] at h
      refine x_is h ?_
      unfold impl
      rw [hb', Bool.true_and]
    · have hw := mem_all.mp hs
      exact ⟨_, _, ga_name, b_if (et_and (et_B (e_call (ea_cons (e_var rfl) (ea_one (e_var rfl))) ⟨_, _, rfl, ⟨by rw [hf]; exact hw, by omega⟩, rfl⟩)) fun _ => et_test (e_ne (e_meth (fun _ _ _ _ => fl_no (by decide +kernel)) (e_var rfl) (ea_one (e_var rfl)) ⟨_, _, rfl, ⟨W, hw⟩, rfl⟩) (e_var rfl))) (fun _ => x_ret e_cB) (by walk_at "wk")⟩
theorem find_opt (p : List Nat → Bool) (xs : List (List Nat)) : (xs.findSome? fun a => if p a = true then some (nL a) else none).getD .none = optL (xs.find? p) := by
  induction xs with
  | nil => rfl
  | cons a r ih =>
    rw [List.findSome?_cons, List.find?_cons]
    cases p a with
    | true => rfl
    | false => exact ih
theorem domF_len {m : Mc} (i : Nat) (r : List Nat) : (domF m i r).length = m.messageCounts.getD i 0 := by
  unfold domF oRows
  rw [List.length_map, List.length_map, List.length_range]
theorem zip_range {α : Type} (f : Nat → α) : ∀ (n k : Nat) (p : List Nat), p.length = n → ((List.range' k n).map f).zip p = (p.zipIdx k).map fun q => (f q.2, q.1)
  | 0, k, p, h => by
    have : p = [] := List.length_eq_zero_iff.mp h
    rw [this]
    rfl
  | n + 1, k, p, h => by
    cases p with
    | nil => cases h
    | cons x r =>
      rw [List.range'_succ, List.map_cons, List.zip_cons_cons, zip_range f n (k + 1) r (by simpa using h), List.zipIdx_cons, List.map_cons]
theorem tables_at {α : Type} (f : Nat → α) {n : Nat} {p : List Nat} (h : p.length = n) : ((List.range n).map f).zip p = p.zipIdx.map fun q => (f q.2, q.1) := by
  rw [List.range_eq_range', zip_range f n 0 p h]
theorem flagsAt_len {m : Mc} (W : Wf m) {p : List Nat} (h : within p (sizesM m) = true) : (flagsAt m p).map List.length = m.messageCounts := by
  have hp : p.length = m.target.agentCount := by rw [wn_len h, W.szl]
  unfold flagsAt
  rw [tables_at _ hp, List.map_map, List.map_map]
  apply List.ext_getElem
  · rw [List.length_map, List.length_zipIdx, hp, W.ml]
  · intro i h1 h2
    rw [List.getElem_map, List.getElem_zipIdx]
    show ((domT m (0 + i)).getD _ []).length = _
    rw [Nat.zero_add]
    have hi : i < m.target.agentCount := by rw [← W.ml]; exact h2
    have hi2 : i < p.length := by omega
    have h3 := wn_at i h (by rw [W.szl]; exact hi)
    rw [W.sz_at hi] at h3
    have e : p.getD i 0 = p[i] := by rw [List.getD_eq_getElem?_getD, List.getElem?_eq_getElem hi2] <;> rfl
    rw [e] at h3
    have h4 : (domT m i).getD p[i] [] ∈ domT m i := getD_mem (by unfold domT; rw [List.length_map]; exact h3)
    obtain ⟨r, _, hr⟩ := List.mem_map.mp h4
    rw [← hr, domF_len, List.getD_eq_getElem?_getD, List.getElem?_eq_getElem h2] <;> rfl
theorem x_f_first_failure_of_dominance (T : Tx K C) : ∀ xs d, P_f_first_failure_of_dominance xs d → X K C (t_f_first_failure_of_dominance K C) (xs ++ List.replicate (N_f_first_failure_of_dominance.length - 1) .any) (.rt d) := by
  rintro xs d ⟨m, rfl, W, rfl⟩
  have ha : m.target.agentCount ≤ 3 := W.a3
  have hT := en_lc0 (K := K) (C := C) (ρ := [.ins m, .any, .any, .any, .any, .any, .any]) (wi := iList K (tMeth C "agents" (sp_m_agents K C) [] E0 (tVar 0) tNil)) (g := gName 4) (te := tCall (sp_f_dominant_table K C) [] E0 (tCons (tVar 0) (tCons (tVar 4) tNil))) (js := [4]) (vs := [4]) (xs := List.range m.target.agentCount) (enc := nI) (f := fun i => bLL (domT m i))
    (ei_list (e_meth (fun _ _ _ _ => fl_no (by decide +kernel)) (e_var rfl) ea_nil ⟨_, rfl, by omega, rfl⟩)) (by rw [List.length_range]; omega) (fun _ h => h)
    fun i hi => ⟨_, ga_name, e_call (ea_cons (e_var rfl) (ea_one (e_var rfl))) ⟨_, _, rfl, ⟨W, List.mem_range.mp hi⟩, rfl⟩⟩
  have hT2 : ((List.range m.target.agentCount).map fun i => bLL (domT m i)) = ((List.range m.target.agentCount).map (domT m)).map bLL := by
    rw [List.map_map]
    rfl
  rw [hT2] at hT
  refine x_seq (x_asgE (e_new hT)) ?_
  have h := x_findM (K := K) (C := C) (ρ := [.ins m, .dat (.list (((List.range m.target.agentCount).map (domT m)).map bLL)), .any, .any, .any, .any, .any]) (wi := iList K (tMeth C "profiles" (sp_m_profiles K C) [] E0 (tVar 0) tNil)) (g := gName 2)
    (tb := tSeq (tAsg (tLc (iZip K (tCons (tVar 1) (tCons (tVar 2) tNil))) (gTup K 2 (gCons (gName 5) (gCons (gName 6) gNil))) tYes (tOp (rIxL K) (tVar 5) (tVar 6)) [5, 6]) (gName 3)) (tIfS (tNot (tB (tCall (sp_f_is_implemented K C) [] E0 (tCons (tVar 0) (tCons (tVar 3) (tCons (tMeth C "target_at" (sp_m_target_at K C) [] E0 (tVar 0) (tCons (tVar 2) tNil)) tNil)))))) (tRet (tVar 2)) tNext))
    (u := tRet (tC .non)) (xs := allLists (sizesM m)) (enc := nL) (d' := .none) [.ins m, .dat (.list (((List.range m.target.agentCount).map (domT m)).map bLL)), .any, .any, .any, .any, .any]
    (fun p => if (!impl m (flagsAt m p) (tgt m p)) = true then some (nL p) else none) (ei_list (e_meth (fun _ _ _ _ => fl_no (by decide +kernel)) (e_var rfl) ea_nil ⟨_, rfl, W, rfl⟩)) (Wk.refl _) (fun p hp => ?_) (fun _ => x_ret e_cZ)
  · rw [find_opt] at h
    exact h
  · have hw := mem_all.mp hp
    have hpl : p.length = m.target.agentCount := by rw [wn_len hw, W.szl]
    have hF := en_lc0 (K := K) (C := C) (ρ := [.ins m, .dat (.list (((List.range m.target.agentCount).map (domT m)).map bLL)), .dat (nL p), .any, .any, .any, .any]) (wi := iZip K (tCons (tVar 1) (tCons (tVar 2) tNil))) (g := gTup K 2 (gCons (gName 5) (gCons (gName 6) gNil))) (te := tOp (rIxL K) (tVar 5) (tVar 6)) (js := [5, 6]) (vs := [5, 6])
      (xs := ((List.range m.target.agentCount).map (domT m)).zip p) (enc := fun q => .tuple [bLL q.1, nI q.2]) (f := fun q => bL (q.1.getD q.2 [])) (ei_zip (f := bLL) (g := nI) (e_var rfl) (e_var rfl)) (by rw [List.length_zip]; omega) (fun _ h => h)
      fun q hq => ⟨_, ga_2, e_ixM (e_var rfl) (e_var rfl) (getD_at ?_)⟩
    · have hF2 : ((((List.range m.target.agentCount).map (domT m)).zip p).map fun q => bL (q.1.getD q.2 [])) = (flagsAt m p).map bL := by
        unfold flagsAt
        rw [List.map_map]
        rfl
      rw [hF2] at hF
      have hS := x_asgE (i := 3) (e_new hF)
      have hB := b_if (K := K) (C := C) (ρ := [.ins m, .dat (.list (((List.range m.target.agentCount).map (domT m)).map bLL)), .dat (nL p), .dat (.list ((flagsAt m p).map bL)), .any, .any, .any]) (c := tNot (tB (tCall (sp_f_is_implemented K C) [] E0 (tCons (tVar 0) (tCons (tVar 3) (tCons (tMeth C "target_at" (sp_m_target_at K C) [] E0 (tVar 0) (tCons (tVar 2) tNil)) tNil)))))) (t := tRet (tVar 2)) (d := nL p)
        (ρ0 := [.ins m, .dat (.list (((List.range m.target.agentCount).map (domT m)).map bLL)), .any, .any, .any, .any, .any])
        (et_not (et_B (e_call (ea_cons (e_var rfl) (ea_cons (e_var rfl) (ea_one (e_meth (fun _ _ _ _ => fl_no (by decide +kernel)) (e_var rfl) (ea_one (e_var rfl)) ⟨_, _, rfl, ⟨W, hw⟩, rfl⟩)))) ⟨_, _, _, rfl, ⟨W, flagsAt_len W hw⟩, rfl⟩))) (fun _ => x_ret (e_var rfl)) (by walk_at "wk")
      refine ⟨_, _, ga_name, ?_⟩
      cases e : (!impl m (flagsAt m p) (tgt m p)) with
      | true =>
        rw [e] at hB
        exact x_seq hS hB
      | false =>
        rw [e] at hB
        obtain ⟨ρ2, k1, k2⟩ := hB
        exact ⟨ρ2, x_seq hS k1, k2⟩
    · rw [tables_at _ hpl] at hq
      obtain ⟨z, hz, rfl⟩ := List.mem_map.mp hq
      obtain ⟨j, hj, e⟩ := List.mem_iff_getElem.mp hz
      have h5 := zipIdx_at (show p.zipIdx[j]? = some z by rw [List.getElem?_eq_getElem hj, e])
      have hj2 : j < m.target.agentCount := by rw [List.length_zipIdx] at hj; omega
      have h3 := wn_at j hw (by rw [W.szl]; exact hj2)
      rw [W.sz_at hj2, List.getD_eq_getElem?_getD, h5.1] at h3
      show z.1 < (domT m z.2).length
      rw [h5.2]
      unfold domT
      rw [List.length_map]
      exact h3
end
end Gx
namespace Gx
open PySem PySem.Spec PyProof.Rows L2
section
variable {P : Program} {w : World} {K : PySem.W.Frag} {mg : Str → Option Value} {base : Heap} {C pw rd wl nc : Addr}
theorem d_m_message_profiles (T : Tx K C) (G : Bt mg) (Z : Cs K mg pw rd wl nc) (F_all_lists : Fn P w K mg base 2 "all_lists" ["sizes"] (sp_f_all_lists K C)) {f : Addr} (cdv : Value) (A : Around) (outer : List Env) (s : Shared) (H : Hp) (E : XK) (hr : Room 2 (A.deeper (envOfC "Instance.message_profiles" (defScope s_m_message_profiles) s.heap.objs.size f cdv))) :
    PSs (cxOf CX0 P w K mg base N_m_message_profiles "Instance.message_profiles" (defScope s_m_message_profiles) f cdv A outer s H E).nox (defBody s_m_message_profiles) (t_m_message_profiles K C) := by
  have nd := sc_m_message_profiles.nd
  exact (pss_one (ps_ret (pe_fn F_all_lists (hr.mono (by decide)) rfl (pa_cons (pe_fld (pv 0) rfl) pa_nil))))
theorem ok_m_message_profiles (T : Tx K C) (G : Bt mg) (Z : Cs K mg pw rd wl nc) (F_all_lists : Fn P w K mg base 2 "all_lists" ["sizes"] (sp_f_all_lists K C)) {f : Addr} {fd : FuncData} (F : Fun K "message_profiles" "Instance.message_profiles" s_m_message_profiles f fd) : FnOk P w K mg base CX0 3 f fd ["self"] (sp_m_message_profiles K C) :=
  fn_okX F sc_m_message_profiles len_m_message_profiles (x_m_message_profiles T) (fun cdv A outer s H E hr => d_m_message_profiles T G Z F_all_lists cdv A outer s H E hr)
theorem d_m_outcome_of (T : Tx K C) (G : Bt mg) (Z : Cs K mg pw rd wl nc) (F_place_of : Fn P w K mg base 1 "place_of" ["numbers", "sizes"] (sp_f_place_of K C)) {f : Addr} (cdv : Value) (A : Around) (outer : List Env) (s : Shared) (H : Hp) (E : XK) (hr : Room 1 (A.deeper (envOfC "Instance.outcome_of" (defScope s_m_outcome_of) s.heap.objs.size f cdv))) :
    PSs (cxOf CX0 P w K mg base N_m_outcome_of "Instance.outcome_of" (defScope s_m_outcome_of) f cdv A outer s H E).nox (defBody s_m_outcome_of) (t_m_outcome_of K C) := by
  have nd := sc_m_outcome_of.nd
  exact (pss_one (ps_ret (pe_ix ix_list (pe_fld (pv 0) rfl) (pe_fn F_place_of (hr.mono (by decide)) rfl (pa_cons (pv 1) (pa_cons (pe_fld (pv 0) rfl) pa_nil))) (fun _ _ => rfl))))
theorem ok_m_outcome_of (T : Tx K C) (G : Bt mg) (Z : Cs K mg pw rd wl nc) (F_place_of : Fn P w K mg base 1 "place_of" ["numbers", "sizes"] (sp_f_place_of K C)) {f : Addr} {fd : FuncData} (F : Fun K "outcome_of" "Instance.outcome_of" s_m_outcome_of f fd) : FnOk P w K mg base CX0 2 f fd ["self", "messages"] (sp_m_outcome_of K C) :=
  fn_okX F sc_m_outcome_of len_m_outcome_of (x_m_outcome_of T) (fun cdv A outer s H E hr => d_m_outcome_of T G Z F_place_of cdv A outer s H E hr)
theorem d_m_domain_sizes (T : Tx K C) (G : Bt mg) (Z : Cs K mg pw rd wl nc)  {f : Addr} (cdv : Value) (A : Around) (outer : List Env) (s : Shared) (H : Hp) (E : XK) (hr : Room 0 (A.deeper (envOfC "Instance.domain_sizes" (defScope s_m_domain_sizes) s.heap.objs.size f cdv))) :
    PSs (cxOf CX0 P w K mg base N_m_domain_sizes "Instance.domain_sizes" (defScope s_m_domain_sizes) f cdv A outer s H E).nox (defBody s_m_domain_sizes) (t_m_domain_sizes K C) := by
  have nd := sc_m_domain_sizes.nd
  exact (pss_one (ps_ret (pe_lc (own := [("domain", 1)]) (g := (gName 1)) (tt := tYes) rfl nd (pi_list (pe_fld (pv 0) rfl)) (blkOk_by (N := N_m_domain_sizes) (sc := defScope s_m_domain_sizes) (by decide +kernel)) (fun _ _ _ _ _ => (pg_name (i := 1) nd rfl (Or.inl rfl))) (fun _ _ _ _ _ => pts_nil) (fun _ _ _ _ _ => (pe_callB call_len_seq (by rfl) G.len (by decide +kernel) (pa_cons (pv 1) pa_nil))))))
theorem ok_m_domain_sizes (T : Tx K C) (G : Bt mg) (Z : Cs K mg pw rd wl nc)  {f : Addr} {fd : FuncData} (F : Fun K "domain_sizes" "Instance.domain_sizes" s_m_domain_sizes f fd) : FnOk P w K mg base CX0 1 f fd ["self"] (sp_m_domain_sizes K C) :=
  fn_okX F sc_m_domain_sizes len_m_domain_sizes (x_m_domain_sizes T) (fun cdv A outer s H E hr => d_m_domain_sizes T G Z  cdv A outer s H E hr)
theorem d_m_profiles (T : Tx K C) (G : Bt mg) (Z : Cs K mg pw rd wl nc) (F_all_lists : Fn P w K mg base 2 "all_lists" ["sizes"] (sp_f_all_lists K C)) (M_domain_sizes : Mt P w K mg base C 1 "domain_sizes" ["self"] (sp_m_domain_sizes K C)) {f : Addr} (cdv : Value) (A : Around) (outer : List Env) (s : Shared) (H : Hp) (E : XK) (hr : Room 2 (A.deeper (envOfC "Instance.profiles" (defScope s_m_profiles) s.heap.objs.size f cdv))) :
    PSs (cxOf CX0 P w K mg base N_m_profiles "Instance.profiles" (defScope s_m_profiles) f cdv A outer s H E).nox (defBody s_m_profiles) (t_m_profiles K C) := by
  have nd := sc_m_profiles.nd
  exact (pss_one (ps_ret (pe_fn F_all_lists (hr.mono (by decide)) rfl (pa_cons (pe_mt0 (pv 0) T.cl M_domain_sizes (hr.mono (by decide))) pa_nil))))
theorem ok_m_profiles (T : Tx K C) (G : Bt mg) (Z : Cs K mg pw rd wl nc) (F_all_lists : Fn P w K mg base 2 "all_lists" ["sizes"] (sp_f_all_lists K C)) (M_domain_sizes : Mt P w K mg base C 1 "domain_sizes" ["self"] (sp_m_domain_sizes K C)) {f : Addr} {fd : FuncData} (F : Fun K "profiles" "Instance.profiles" s_m_profiles f fd) : FnOk P w K mg base CX0 3 f fd ["self"] (sp_m_profiles K C) :=
  fn_okX F sc_m_profiles len_m_profiles (x_m_profiles T) (fun cdv A outer s H E hr => d_m_profiles T G Z F_all_lists M_domain_sizes cdv A outer s H E hr)
theorem d_m_agents (T : Tx K C) (G : Bt mg) (Z : Cs K mg pw rd wl nc)  {f : Addr} (cdv : Value) (A : Around) (outer : List Env) (s : Shared) (H : Hp) (E : XK) (hr : Room 0 (A.deeper (envOfC "Instance.agents" (defScope s_m_agents) s.heap.objs.size f cdv))) :
    PSs (cxOf CX0 P w K mg base N_m_agents "Instance.agents" (defScope s_m_agents) f cdv A outer s H E).nox (defBody s_m_agents) (t_m_agents K C) := by
  have nd := sc_m_agents.nd
  exact (pss_one (ps_ret (pe_listRg rfl (by rfl) G.list (prg_1 (by rfl) G.range (pe_fld (pv 0) rfl)))))
theorem ok_m_agents (T : Tx K C) (G : Bt mg) (Z : Cs K mg pw rd wl nc)  {f : Addr} {fd : FuncData} (F : Fun K "agents" "Instance.agents" s_m_agents f fd) : FnOk P w K mg base CX0 1 f fd ["self"] (sp_m_agents K C) :=
  fn_okX F sc_m_agents len_m_agents (x_m_agents T) (fun cdv A outer s H E hr => d_m_agents T G Z  cdv A outer s H E hr)
theorem d_m_target_at (T : Tx K C) (G : Bt mg) (Z : Cs K mg pw rd wl nc) (F_place_of : Fn P w K mg base 1 "place_of" ["numbers", "sizes"] (sp_f_place_of K C)) (M_domain_sizes : Mt P w K mg base C 1 "domain_sizes" ["self"] (sp_m_domain_sizes K C)) {f : Addr} (cdv : Value) (A : Around) (outer : List Env) (s : Shared) (H : Hp) (E : XK) (hr : Room 1 (A.deeper (envOfC "Instance.target_at" (defScope s_m_target_at) s.heap.objs.size f cdv))) :
    PSs (cxOf CX0 P w K mg base N_m_target_at "Instance.target_at" (defScope s_m_target_at) f cdv A outer s H E).nox (defBody s_m_target_at) (t_m_target_at K C) := by
  have nd := sc_m_target_at.nd
  exact (pss_one (ps_ret (pe_ix ix_list (pe_fld (pv 0) rfl) (pe_fn F_place_of (hr.mono (by decide)) rfl (pa_cons (pv 1) (pa_cons (pe_mt0 (pv 0) T.cl M_domain_sizes (hr.mono (by decide))) pa_nil))) (fun _ _ => rfl))))
theorem ok_m_target_at (T : Tx K C) (G : Bt mg) (Z : Cs K mg pw rd wl nc) (F_place_of : Fn P w K mg base 1 "place_of" ["numbers", "sizes"] (sp_f_place_of K C)) (M_domain_sizes : Mt P w K mg base C 1 "domain_sizes" ["self"] (sp_m_domain_sizes K C)) {f : Addr} {fd : FuncData} (F : Fun K "target_at" "Instance.target_at" s_m_target_at f fd) : FnOk P w K mg base CX0 2 f fd ["self", "profile"] (sp_m_target_at K C) :=
  fn_okX F sc_m_target_at len_m_target_at (x_m_target_at T) (fun cdv A outer s H E hr => d_m_target_at T G Z F_place_of M_domain_sizes cdv A outer s H E hr)
theorem d_m_preference_of (T : Tx K C) (G : Bt mg) (Z : Cs K mg pw rd wl nc)  {f : Addr} (cdv : Value) (A : Around) (outer : List Env) (s : Shared) (H : Hp) (E : XK) (hr : Room 0 (A.deeper (envOfC "Instance.preference_of" (defScope s_m_preference_of) s.heap.objs.size f cdv))) :
    PSs (cxOf CX0 P w K mg base N_m_preference_of "Instance.preference_of" (defScope s_m_preference_of) f cdv A outer s H E).nox (defBody s_m_preference_of) (t_m_preference_of K C) := by
  have nd := sc_m_preference_of.nd
  exact (pss_one (ps_ret (pe_ix ix_list (pe_ix ix_list (pe_fld (pv 0) rfl) (pv 1) (fun _ _ => rfl)) (pe_ix ix_list (pv 2) (pv 1) (fun _ _ => rfl)) (fun _ _ => rfl))))
theorem ok_m_preference_of (T : Tx K C) (G : Bt mg) (Z : Cs K mg pw rd wl nc)  {f : Addr} {fd : FuncData} (F : Fun K "preference_of" "Instance.preference_of" s_m_preference_of f fd) : FnOk P w K mg base CX0 1 f fd ["self", "agent", "profile"] (sp_m_preference_of K C) :=
  fn_okX F sc_m_preference_of len_m_preference_of (x_m_preference_of T) (fun cdv A outer s H E hr => d_m_preference_of T G Z  cdv A outer s H E hr)
theorem d_m_is_ready (T : Tx K C) (G : Bt mg) (Z : Cs K mg pw rd wl nc) (M_domain_sizes : Mt P w K mg base C 1 "domain_sizes" ["self"] (sp_m_domain_sizes K C)) {f : Addr} (cdv : Value) (A : Around) (outer : List Env) (s : Shared) (H : Hp) (E : XK) (hr : Room 1 (A.deeper (envOfC "Instance.is_ready" (defScope s_m_is_ready) s.heap.objs.size f cdv))) :
    PSs (cxOf CX0 P w K mg base N_m_is_ready "Instance.is_ready" (defScope s_m_is_ready) f cdv A outer s H E).nox (defBody s_m_is_ready) (t_m_is_ready K C) := by
  have nd := sc_m_is_ready.nd
  exact (pss_one (ps_ret (pe_cmpR op_notIn_seq pe_int (pe_mt0 (pv 0) T.cl M_domain_sizes (hr.mono (by decide))) (by with_unfolding_all rfl))))
theorem ok_m_is_ready (T : Tx K C) (G : Bt mg) (Z : Cs K mg pw rd wl nc) (M_domain_sizes : Mt P w K mg base C 1 "domain_sizes" ["self"] (sp_m_domain_sizes K C)) {f : Addr} {fd : FuncData} (F : Fun K "is_ready" "Instance.is_ready" s_m_is_ready f fd) : FnOk P w K mg base CX0 2 f fd ["self"] (sp_m_is_ready K C) :=
  fn_okX F sc_m_is_ready len_m_is_ready (x_m_is_ready T) (fun cdv A outer s H E hr => d_m_is_ready T G Z M_domain_sizes cdv A outer s H E hr)
theorem d_f_outcome_row (T : Tx K C) (G : Bt mg) (Z : Cs K mg pw rd wl nc) (F_with_number : Fn P w K mg base 1 "with_number" ["numbers", "at", "number"] (sp_f_with_number K C)) (M_outcome_of : Mt P w K mg base C 2 "outcome_of" ["self", "messages"] (sp_m_outcome_of K C)) {f : Addr} (cdv : Value) (A : Around) (outer : List Env) (s : Shared) (H : Hp) (E : XK) (hr : Room 2 (A.deeper (envOfC "outcome_row" (defScope s_f_outcome_row) s.heap.objs.size f cdv))) :
    PSs (cxOf CX0 P w K mg base N_f_outcome_row "outcome_row" (defScope s_f_outcome_row) f cdv A outer s H E).nox (defBody s_f_outcome_row) (t_f_outcome_row K C) := by
  have nd := sc_f_outcome_row.nd
  exact (pss_one (ps_ret (pe_lc (own := [("row", 4)]) (g := (gName 4)) (tt := tYes) rfl nd (pi_list (pv 3)) (blkOk_by (N := N_f_outcome_row) (sc := defScope s_f_outcome_row) (by decide +kernel)) (fun _ _ _ _ _ => (pg_name (i := 4) nd rfl (Or.inl rfl))) (fun _ _ _ _ _ => pts_nil) (fun _ _ _ _ _ => (pe_mt (pv 0) T.cl M_outcome_of (hr.mono (by decide)) (pa_cons (pe_fn F_with_number (hr.mono (by decide)) rfl (pa_cons (pv 4) (pa_cons (pv 1) (pa_cons (pv 2) pa_nil)))) pa_nil))))))
theorem ok_f_outcome_row (T : Tx K C) (G : Bt mg) (Z : Cs K mg pw rd wl nc) (F_with_number : Fn P w K mg base 1 "with_number" ["numbers", "at", "number"] (sp_f_with_number K C)) (M_outcome_of : Mt P w K mg base C 2 "outcome_of" ["self", "messages"] (sp_m_outcome_of K C)) {f : Addr} {fd : FuncData} (F : Fun K "outcome_row" "outcome_row" s_f_outcome_row f fd) : FnOk P w K mg base CX0 3 f fd ["instance", "agent", "own", "rows"] (sp_f_outcome_row K C) :=
  fn_okX F sc_f_outcome_row len_f_outcome_row (x_f_outcome_row T) (fun cdv A outer s H E hr => d_f_outcome_row T G Z F_with_number M_outcome_of cdv A outer s H E hr)
theorem d_f_outcome_rows (T : Tx K C) (G : Bt mg) (Z : Cs K mg pw rd wl nc) (F_outcome_row : Fn P w K mg base 3 "outcome_row" ["instance", "agent", "own", "rows"] (sp_f_outcome_row K C)) (M_message_profiles : Mt P w K mg base C 3 "message_profiles" ["self"] (sp_m_message_profiles K C)) {f : Addr} (cdv : Value) (A : Around) (outer : List Env) (s : Shared) (H : Hp) (E : XK) (hr : Room 3 (A.deeper (envOfC "outcome_rows" (defScope s_f_outcome_rows) s.heap.objs.size f cdv))) :
    PSs (cxOf CX0 P w K mg base N_f_outcome_rows "outcome_rows" (defScope s_f_outcome_rows) f cdv A outer s H E).nox (defBody s_f_outcome_rows) (t_f_outcome_rows K C) := by
  have nd := sc_f_outcome_rows.nd
  exact (pss_cons (ps_set (i := 2) nd rfl (Or.inr rfl) (pe_lc (own := [("row", 3)]) (g := (gName 3)) (tt := (tTest (tOp rEq (tOp (rIxL K) (tVar 3) (tVar 1)) (tC (.int 0))))) rfl nd (pi_list (pe_mt0 (pv 0) T.cl M_message_profiles (hr.mono (by decide)))) (blkOk_by (N := N_f_outcome_rows) (sc := defScope s_f_outcome_rows) (by decide +kernel)) (fun _ _ _ _ _ => (pg_name (i := 3) nd rfl (Or.inl rfl))) (fun _ _ _ _ _ => (pts_one (pt_cmpR op_eq (pe_ix ix_list (pv 3) (pv 1) (fun _ _ => rfl)) pe_int (nomark _)))) (fun _ _ _ _ _ => (pv 3))))
    (pss_one (ps_ret (pe_lc (own := [("own", 4)]) (g := (gName 4)) (tt := tYes) rfl nd (pi_range1 (by rfl) G.range (pa_cons (pe_ix ix_list (pe_fld (pv 0) rfl) (pv 1) (fun _ _ => rfl)) pa_nil)) (blkOk_by (N := N_f_outcome_rows) (sc := defScope s_f_outcome_rows) (by decide +kernel)) (fun _ _ _ _ _ => (pg_name (i := 4) nd rfl (Or.inl rfl))) (fun _ _ _ _ _ => pts_nil) (fun _ _ _ _ _ => (pe_fn F_outcome_row (hr.mono (by decide)) rfl (pa_cons (pv 0) (pa_cons (pv 1) (pa_cons (pv 4) (pa_cons (pv 2) pa_nil))))))))))
theorem ok_f_outcome_rows (T : Tx K C) (G : Bt mg) (Z : Cs K mg pw rd wl nc) (F_outcome_row : Fn P w K mg base 3 "outcome_row" ["instance", "agent", "own", "rows"] (sp_f_outcome_row K C)) (M_message_profiles : Mt P w K mg base C 3 "message_profiles" ["self"] (sp_m_message_profiles K C)) {f : Addr} {fd : FuncData} (F : Fun K "outcome_rows" "outcome_rows" s_f_outcome_rows f fd) : FnOk P w K mg base CX0 4 f fd ["instance", "agent"] (sp_f_outcome_rows K C) :=
  fn_okX F sc_f_outcome_rows len_f_outcome_rows (x_f_outcome_rows T) (fun cdv A outer s H E hr => d_f_outcome_rows T G Z F_outcome_row M_message_profiles cdv A outer s H E hr)
theorem d_f_is_never_better (T : Tx K C) (G : Bt mg) (Z : Cs K mg pw rd wl nc) (F_prefers : Fn P w K mg base 1 "prefers" ["ranking", "one", "other"] (sp_f_prefers K C)) {f : Addr} (cdv : Value) (A : Around) (outer : List Env) (s : Shared) (H : Hp) (E : XK) (hr : Room 1 (A.deeper (envOfC "is_never_better" (defScope s_f_is_never_better) s.heap.objs.size f cdv))) :
    PSs (cxOf CX0 P w K mg base N_f_is_never_better "is_never_better" (defScope s_f_is_never_better) f cdv A outer s H E).nox (defBody s_f_is_never_better) (t_f_is_never_better K C) := by
  have nd := sc_f_is_never_better.nd
  exact (pss_one (ps_ret (pe_not (pe_callB (cr_any rfl) (by rfl) G.any (by decide +kernel) (pa_cons (pe_lc (own := [("here", 3), ("there", 4)]) (g := (gTup K 2 (gCons (gName 3) (gCons (gName 4) gNil)))) (tt := tYes) rfl nd (pi_zip (by rfl) G.zip (pa_cons (pv 1) (pa_cons (pv 2) pa_nil))) (blkOk_by (N := N_f_is_never_better) (sc := defScope s_f_is_never_better) (by decide +kernel)) (fun _ _ _ _ _ => (pg_tup rfl (pgs_cons (pg_name (i := 3) nd rfl (Or.inl rfl)) (pgs_cons (pg_name (i := 4) nd rfl (Or.inl rfl)) pgs_nil)))) (fun _ _ _ _ _ => pts_nil) (fun _ _ _ _ _ => (pe_fn F_prefers (hr.mono (by decide)) rfl (pa_cons (pv 0) (pa_cons (pv 3) (pa_cons (pv 4) pa_nil)))))) pa_nil)))))
theorem ok_f_is_never_better (T : Tx K C) (G : Bt mg) (Z : Cs K mg pw rd wl nc) (F_prefers : Fn P w K mg base 1 "prefers" ["ranking", "one", "other"] (sp_f_prefers K C)) {f : Addr} {fd : FuncData} (F : Fun K "is_never_better" "is_never_better" s_f_is_never_better f fd) : FnOk P w K mg base CX0 2 f fd ["ranking", "row", "other"] (sp_f_is_never_better K C) :=
  fn_okX F sc_f_is_never_better len_f_is_never_better (x_f_is_never_better T) (fun cdv A outer s H E hr => d_f_is_never_better T G Z F_prefers cdv A outer s H E hr)
theorem d_f_is_dominant (T : Tx K C) (G : Bt mg) (Z : Cs K mg pw rd wl nc) (F_is_never_better : Fn P w K mg base 2 "is_never_better" ["ranking", "row", "other"] (sp_f_is_never_better K C)) {f : Addr} (cdv : Value) (A : Around) (outer : List Env) (s : Shared) (H : Hp) (E : XK) (hr : Room 2 (A.deeper (envOfC "is_dominant" (defScope s_f_is_dominant) s.heap.objs.size f cdv))) :
    PSs (cxOf CX0 P w K mg base N_f_is_dominant "is_dominant" (defScope s_f_is_dominant) f cdv A outer s H E).nox (defBody s_f_is_dominant) (t_f_is_dominant K C) := by
  have nd := sc_f_is_dominant.nd
  exact (pss_one (ps_ret (pe_callB (cr_all rfl) (by rfl) G.all (by decide +kernel) (pa_cons (pe_lc (own := [("other", 3)]) (g := (gName 3)) (tt := tYes) rfl nd (pi_list (pv 2)) (blkOk_by (N := N_f_is_dominant) (sc := defScope s_f_is_dominant) (by decide +kernel)) (fun _ _ _ _ _ => (pg_name (i := 3) nd rfl (Or.inl rfl))) (fun _ _ _ _ _ => pts_nil) (fun _ _ _ _ _ => (pe_fn F_is_never_better (hr.mono (by decide)) rfl (pa_cons (pv 0) (pa_cons (pv 3) (pa_cons (pv 1) pa_nil)))))) pa_nil))))
theorem ok_f_is_dominant (T : Tx K C) (G : Bt mg) (Z : Cs K mg pw rd wl nc) (F_is_never_better : Fn P w K mg base 2 "is_never_better" ["ranking", "row", "other"] (sp_f_is_never_better K C)) {f : Addr} {fd : FuncData} (F : Fun K "is_dominant" "is_dominant" s_f_is_dominant f fd) : FnOk P w K mg base CX0 3 f fd ["ranking", "row", "rows"] (sp_f_is_dominant K C) :=
  fn_okX F sc_f_is_dominant len_f_is_dominant (x_f_is_dominant T) (fun cdv A outer s H E hr => d_f_is_dominant T G Z F_is_never_better cdv A outer s H E hr)
theorem d_f_does_dominate (T : Tx K C) (G : Bt mg) (Z : Cs K mg pw rd wl nc) (F_is_never_better : Fn P w K mg base 2 "is_never_better" ["ranking", "row", "other"] (sp_f_is_never_better K C)) {f : Addr} (cdv : Value) (A : Around) (outer : List Env) (s : Shared) (H : Hp) (E : XK) (hr : Room 2 (A.deeper (envOfC "does_dominate" (defScope s_f_does_dominate) s.heap.objs.size f cdv))) :
    PSs (cxOf CX0 P w K mg base N_f_does_dominate "does_dominate" (defScope s_f_does_dominate) f cdv A outer s H E).nox (defBody s_f_does_dominate) (t_f_does_dominate K C) := by
  have nd := sc_f_does_dominate.nd
  exact (pss_one (ps_ret (pe_and (pe_fn F_is_never_better (hr.mono (by decide)) rfl (pa_cons (pv 0) (pa_cons (pv 2) (pa_cons (pv 1) pa_nil)))) (pe_one (pe_not (pe_fn F_is_never_better (hr.mono (by decide)) rfl (pa_cons (pv 0) (pa_cons (pv 1) (pa_cons (pv 2) pa_nil)))))))))
theorem ok_f_does_dominate (T : Tx K C) (G : Bt mg) (Z : Cs K mg pw rd wl nc) (F_is_never_better : Fn P w K mg base 2 "is_never_better" ["ranking", "row", "other"] (sp_f_is_never_better K C)) {f : Addr} {fd : FuncData} (F : Fun K "does_dominate" "does_dominate" s_f_does_dominate f fd) : FnOk P w K mg base CX0 3 f fd ["ranking", "row", "other"] (sp_f_does_dominate K C) :=
  fn_okX F sc_f_does_dominate len_f_does_dominate (x_f_does_dominate T) (fun cdv A outer s H E hr => d_f_does_dominate T G Z F_is_never_better cdv A outer s H E hr)
theorem d_f_is_dominated (T : Tx K C) (G : Bt mg) (Z : Cs K mg pw rd wl nc) (F_does_dominate : Fn P w K mg base 3 "does_dominate" ["ranking", "row", "other"] (sp_f_does_dominate K C)) {f : Addr} (cdv : Value) (A : Around) (outer : List Env) (s : Shared) (H : Hp) (E : XK) (hr : Room 3 (A.deeper (envOfC "is_dominated" (defScope s_f_is_dominated) s.heap.objs.size f cdv))) :
    PSs (cxOf CX0 P w K mg base N_f_is_dominated "is_dominated" (defScope s_f_is_dominated) f cdv A outer s H E).nox (defBody s_f_is_dominated) (t_f_is_dominated K C) := by
  have nd := sc_f_is_dominated.nd
  exact (pss_one (ps_ret (pe_callB (cr_any rfl) (by rfl) G.any (by decide +kernel) (pa_cons (pe_lc (own := [("other", 3)]) (g := (gName 3)) (tt := tYes) rfl nd (pi_list (pv 2)) (blkOk_by (N := N_f_is_dominated) (sc := defScope s_f_is_dominated) (by decide +kernel)) (fun _ _ _ _ _ => (pg_name (i := 3) nd rfl (Or.inl rfl))) (fun _ _ _ _ _ => pts_nil) (fun _ _ _ _ _ => (pe_fn F_does_dominate (hr.mono (by decide)) rfl (pa_cons (pv 0) (pa_cons (pv 3) (pa_cons (pv 1) pa_nil)))))) pa_nil))))
theorem ok_f_is_dominated (T : Tx K C) (G : Bt mg) (Z : Cs K mg pw rd wl nc) (F_does_dominate : Fn P w K mg base 3 "does_dominate" ["ranking", "row", "other"] (sp_f_does_dominate K C)) {f : Addr} {fd : FuncData} (F : Fun K "is_dominated" "is_dominated" s_f_is_dominated f fd) : FnOk P w K mg base CX0 4 f fd ["ranking", "row", "rows"] (sp_f_is_dominated K C) :=
  fn_okX F sc_f_is_dominated len_f_is_dominated (x_f_is_dominated T) (fun cdv A outer s H E hr => d_f_is_dominated T G Z F_does_dominate cdv A outer s H E hr)
theorem d_f_dominant_flags (T : Tx K C) (G : Bt mg) (Z : Cs K mg pw rd wl nc) (F_outcome_rows : Fn P w K mg base 4 "outcome_rows" ["instance", "agent"] (sp_f_outcome_rows K C)) (F_is_dominant : Fn P w K mg base 3 "is_dominant" ["ranking", "row", "rows"] (sp_f_is_dominant K C)) {f : Addr} (cdv : Value) (A : Around) (outer : List Env) (s : Shared) (H : Hp) (E : XK) (hr : Room 4 (A.deeper (envOfC "dominant_flags" (defScope s_f_dominant_flags) s.heap.objs.size f cdv))) :
    PSs (cxOf CX0 P w K mg base N_f_dominant_flags "dominant_flags" (defScope s_f_dominant_flags) f cdv A outer s H E).nox (defBody s_f_dominant_flags) (t_f_dominant_flags K C) := by
  have nd := sc_f_dominant_flags.nd
  exact (pss_cons (ps_set (i := 3) nd rfl (Or.inr rfl) (pe_fn F_outcome_rows (hr.mono (by decide)) rfl (pa_cons (pv 0) (pa_cons (pv 1) pa_nil))))
    (pss_one (ps_ret (pe_lc (own := [("row", 4)]) (g := (gName 4)) (tt := tYes) rfl nd (pi_list (pv 3)) (blkOk_by (N := N_f_dominant_flags) (sc := defScope s_f_dominant_flags) (by decide +kernel)) (fun _ _ _ _ _ => (pg_name (i := 4) nd rfl (Or.inl rfl))) (fun _ _ _ _ _ => pts_nil) (fun _ _ _ _ _ => (pe_fn F_is_dominant (hr.mono (by decide)) rfl (pa_cons (pv 2) (pa_cons (pv 4) (pa_cons (pv 3) pa_nil)))))))))
theorem ok_f_dominant_flags (T : Tx K C) (G : Bt mg) (Z : Cs K mg pw rd wl nc) (F_outcome_rows : Fn P w K mg base 4 "outcome_rows" ["instance", "agent"] (sp_f_outcome_rows K C)) (F_is_dominant : Fn P w K mg base 3 "is_dominant" ["ranking", "row", "rows"] (sp_f_is_dominant K C)) {f : Addr} {fd : FuncData} (F : Fun K "dominant_flags" "dominant_flags" s_f_dominant_flags f fd) : FnOk P w K mg base CX0 5 f fd ["instance", "agent", "ranking"] (sp_f_dominant_flags K C) :=
  fn_okX F sc_f_dominant_flags len_f_dominant_flags (x_f_dominant_flags T) (fun cdv A outer s H E hr => d_f_dominant_flags T G Z F_outcome_rows F_is_dominant cdv A outer s H E hr)
theorem d_f_dominated_flags (T : Tx K C) (G : Bt mg) (Z : Cs K mg pw rd wl nc) (F_outcome_rows : Fn P w K mg base 4 "outcome_rows" ["instance", "agent"] (sp_f_outcome_rows K C)) (F_is_dominated : Fn P w K mg base 4 "is_dominated" ["ranking", "row", "rows"] (sp_f_is_dominated K C)) {f : Addr} (cdv : Value) (A : Around) (outer : List Env) (s : Shared) (H : Hp) (E : XK) (hr : Room 4 (A.deeper (envOfC "dominated_flags" (defScope s_f_dominated_flags) s.heap.objs.size f cdv))) :
    PSs (cxOf CX0 P w K mg base N_f_dominated_flags "dominated_flags" (defScope s_f_dominated_flags) f cdv A outer s H E).nox (defBody s_f_dominated_flags) (t_f_dominated_flags K C) := by
  have nd := sc_f_dominated_flags.nd
  exact (pss_cons (ps_set (i := 3) nd rfl (Or.inr rfl) (pe_fn F_outcome_rows (hr.mono (by decide)) rfl (pa_cons (pv 0) (pa_cons (pv 1) pa_nil))))
    (pss_one (ps_ret (pe_lc (own := [("row", 4)]) (g := (gName 4)) (tt := tYes) rfl nd (pi_list (pv 3)) (blkOk_by (N := N_f_dominated_flags) (sc := defScope s_f_dominated_flags) (by decide +kernel)) (fun _ _ _ _ _ => (pg_name (i := 4) nd rfl (Or.inl rfl))) (fun _ _ _ _ _ => pts_nil) (fun _ _ _ _ _ => (pe_fn F_is_dominated (hr.mono (by decide)) rfl (pa_cons (pv 2) (pa_cons (pv 4) (pa_cons (pv 3) pa_nil)))))))))
theorem ok_f_dominated_flags (T : Tx K C) (G : Bt mg) (Z : Cs K mg pw rd wl nc) (F_outcome_rows : Fn P w K mg base 4 "outcome_rows" ["instance", "agent"] (sp_f_outcome_rows K C)) (F_is_dominated : Fn P w K mg base 4 "is_dominated" ["ranking", "row", "rows"] (sp_f_is_dominated K C)) {f : Addr} {fd : FuncData} (F : Fun K "dominated_flags" "dominated_flags" s_f_dominated_flags f fd) : FnOk P w K mg base CX0 5 f fd ["instance", "agent", "ranking"] (sp_f_dominated_flags K C) :=
  fn_okX F sc_f_dominated_flags len_f_dominated_flags (x_f_dominated_flags T) (fun cdv A outer s H E hr => d_f_dominated_flags T G Z F_outcome_rows F_is_dominated cdv A outer s H E hr)
theorem d_f_dominant_table (T : Tx K C) (G : Bt mg) (Z : Cs K mg pw rd wl nc) (F_dominant_flags : Fn P w K mg base 5 "dominant_flags" ["instance", "agent", "ranking"] (sp_f_dominant_flags K C)) {f : Addr} (cdv : Value) (A : Around) (outer : List Env) (s : Shared) (H : Hp) (E : XK) (hr : Room 5 (A.deeper (envOfC "dominant_table" (defScope s_f_dominant_table) s.heap.objs.size f cdv))) :
    PSs (cxOf CX0 P w K mg base N_f_dominant_table "dominant_table" (defScope s_f_dominant_table) f cdv A outer s H E).nox (defBody s_f_dominant_table) (t_f_dominant_table K C) := by
  have nd := sc_f_dominant_table.nd
  exact (pss_one (ps_ret (pe_lc (own := [("ranking", 2)]) (g := (gName 2)) (tt := tYes) rfl nd (pi_list (pe_ix ix_list (pe_fld (pv 0) rfl) (pv 1) (fun _ _ => rfl))) (blkOk_by (N := N_f_dominant_table) (sc := defScope s_f_dominant_table) (by decide +kernel)) (fun _ _ _ _ _ => (pg_name (i := 2) nd rfl (Or.inl rfl))) (fun _ _ _ _ _ => pts_nil) (fun _ _ _ _ _ => (pe_fn F_dominant_flags (hr.mono (by decide)) rfl (pa_cons (pv 0) (pa_cons (pv 1) (pa_cons (pv 2) pa_nil))))))))
theorem ok_f_dominant_table (T : Tx K C) (G : Bt mg) (Z : Cs K mg pw rd wl nc) (F_dominant_flags : Fn P w K mg base 5 "dominant_flags" ["instance", "agent", "ranking"] (sp_f_dominant_flags K C)) {f : Addr} {fd : FuncData} (F : Fun K "dominant_table" "dominant_table" s_f_dominant_table f fd) : FnOk P w K mg base CX0 6 f fd ["instance", "agent"] (sp_f_dominant_table K C) :=
  fn_okX F sc_f_dominant_table len_f_dominant_table (x_f_dominant_table T) (fun cdv A outer s H E hr => d_f_dominant_table T G Z F_dominant_flags cdv A outer s H E hr)
theorem d_f_are_all_dominant (T : Tx K C) (G : Bt mg) (Z : Cs K mg pw rd wl nc)  {f : Addr} (cdv : Value) (A : Around) (outer : List Env) (s : Shared) (H : Hp) (E : XK) (hr : Room 0 (A.deeper (envOfC "are_all_dominant" (defScope s_f_are_all_dominant) s.heap.objs.size f cdv))) :
    PSs (cxOf CX0 P w K mg base N_f_are_all_dominant "are_all_dominant" (defScope s_f_are_all_dominant) f cdv A outer s H E).nox (defBody s_f_are_all_dominant) (t_f_are_all_dominant K C) := by
  have nd := sc_f_are_all_dominant.nd
  exact (pss_one (ps_ret (pe_callB (cr_all rfl) (by rfl) G.all (by decide +kernel) (pa_cons (pe_lc (own := [("row", 2), ("message", 3)]) (g := (gTup K 2 (gCons (gName 2) (gCons (gName 3) gNil)))) (tt := tYes) rfl nd (pi_zip (by rfl) G.zip (pa_cons (pv 0) (pa_cons (pv 1) pa_nil))) (blkOk_by (N := N_f_are_all_dominant) (sc := defScope s_f_are_all_dominant) (by decide +kernel)) (fun _ _ _ _ _ => (pg_tup rfl (pgs_cons (pg_name (i := 2) nd rfl (Or.inl rfl)) (pgs_cons (pg_name (i := 3) nd rfl (Or.inl rfl)) pgs_nil)))) (fun _ _ _ _ _ => pts_nil) (fun _ _ _ _ _ => (pe_ix ix_list (pv 2) (pv 3) (fun _ _ => rfl)))) pa_nil))))
theorem ok_f_are_all_dominant (T : Tx K C) (G : Bt mg) (Z : Cs K mg pw rd wl nc)  {f : Addr} {fd : FuncData} (F : Fun K "are_all_dominant" "are_all_dominant" s_f_are_all_dominant f fd) : FnOk P w K mg base CX0 1 f fd ["flags", "messages"] (sp_f_are_all_dominant K C) :=
  fn_okX F sc_f_are_all_dominant len_f_are_all_dominant (x_f_are_all_dominant T) (fun cdv A outer s H E hr => d_f_are_all_dominant T G Z  cdv A outer s H E hr)
theorem d_f_is_implemented (T : Tx K C) (G : Bt mg) (Z : Cs K mg pw rd wl nc) (F_are_all_dominant : Fn P w K mg base 1 "are_all_dominant" ["flags", "messages"] (sp_f_are_all_dominant K C)) (M_message_profiles : Mt P w K mg base C 3 "message_profiles" ["self"] (sp_m_message_profiles K C)) (M_outcome_of : Mt P w K mg base C 2 "outcome_of" ["self", "messages"] (sp_m_outcome_of K C)) {f : Addr} (cdv : Value) (A : Around) (outer : List Env) (s : Shared) (H : Hp) (E : XK) (hr : Room 3 (A.deeper (envOfC "is_implemented" (defScope s_f_is_implemented) s.heap.objs.size f cdv))) :
    PSs (cxOf CX0 P w K mg base N_f_is_implemented "is_implemented" (defScope s_f_is_implemented) f cdv A outer s H E).nox (defBody s_f_is_implemented) (t_f_is_implemented K C) := by
  have nd := sc_f_is_implemented.nd
  exact (pss_cons (ps_if (pt_not (pt_val (pe_callB (cr_all rfl) (by rfl) G.all (by decide +kernel) (pa_cons (pe_lc (own := [("row", 4)]) (g := (gName 4)) (tt := tYes) rfl nd (pi_list (pv 1)) (blkOk_by (N := N_f_is_implemented) (sc := defScope s_f_is_implemented) (by decide +kernel)) (fun _ _ _ _ _ => (pg_name (i := 4) nd rfl (Or.inl rfl))) (fun _ _ _ _ _ => pts_nil) (fun _ _ _ _ _ => (pe_cmpR op_in_seq pe_bl (pv 4) (by with_unfolding_all rfl)))) pa_nil)))) (pss_one (ps_ret pe_bl)) pss_nil)
    (pss_cons (ps_for PassesOwn.never rfl (pi_list (pe_mt0 (pv 0) T.cl M_message_profiles (hr.mono (by decide)))) (pg_name (i := 3) nd rfl (Or.inl rfl)) (pss_one (ps_if (PW.pt (pw_and (pt_val (pe_fn F_are_all_dominant (hr.mono (by decide)) rfl (pa_cons (pv 1) (pa_cons (pv 3) pa_nil)))) (pw_and1 (pt_cmpR op_ne (pe_mt (pv 0) T.cl M_outcome_of (hr.mono (by decide)) (pa_cons (pv 3) pa_nil)) (pv 2) (nomark _))))) (pss_one (ps_ret pe_bl)) pss_nil)))
    (pss_one (ps_ret pe_bl))))
theorem ok_f_is_implemented (T : Tx K C) (G : Bt mg) (Z : Cs K mg pw rd wl nc) (F_are_all_dominant : Fn P w K mg base 1 "are_all_dominant" ["flags", "messages"] (sp_f_are_all_dominant K C)) (M_message_profiles : Mt P w K mg base C 3 "message_profiles" ["self"] (sp_m_message_profiles K C)) (M_outcome_of : Mt P w K mg base C 2 "outcome_of" ["self", "messages"] (sp_m_outcome_of K C)) {f : Addr} {fd : FuncData} (F : Fun K "is_implemented" "is_implemented" s_f_is_implemented f fd) : FnOk P w K mg base CX0 4 f fd ["instance", "flags", "wanted"] (sp_f_is_implemented K C) :=
  fn_okX F sc_f_is_implemented len_f_is_implemented (x_f_is_implemented T) (fun cdv A outer s H E hr => d_f_is_implemented T G Z F_are_all_dominant M_message_profiles M_outcome_of cdv A outer s H E hr)
theorem d_f_first_failure_of_dominance (T : Tx K C) (G : Bt mg) (Z : Cs K mg pw rd wl nc) (F_dominant_table : Fn P w K mg base 6 "dominant_table" ["instance", "agent"] (sp_f_dominant_table K C)) (F_is_implemented : Fn P w K mg base 4 "is_implemented" ["instance", "flags", "wanted"] (sp_f_is_implemented K C)) (M_profiles : Mt P w K mg base C 3 "profiles" ["self"] (sp_m_profiles K C)) (M_agents : Mt P w K mg base C 1 "agents" ["self"] (sp_m_agents K C)) (M_target_at : Mt P w K mg base C 2 "target_at" ["self", "profile"] (sp_m_target_at K C)) {f : Addr} (cdv : Value) (A : Around) (outer : List Env) (s : Shared) (H : Hp) (E : XK) (hr : Room 6 (A.deeper (envOfC "first_failure_of_dominance" (defScope s_f_first_failure_of_dominance) s.heap.objs.size f cdv))) :
    PSs (cxOf CX0 P w K mg base N_f_first_failure_of_dominance "first_failure_of_dominance" (defScope s_f_first_failure_of_dominance) f cdv A outer s H E).nox (defBody s_f_first_failure_of_dominance) (t_f_first_failure_of_dominance K C) := by
  have nd := sc_f_first_failure_of_dominance.nd
  exact (pss_cons (ps_setLc (i := 1) (own := [("agent", 4)]) (g := (gName 4)) (tt := tYes) rfl nd rfl rfl (sw_true rfl rfl rfl (by decide +kernel)) (pi_list (pe_mt0 (pv 0) T.cl M_agents (hr.mono (by decide)))) (blkOk_by (N := N_f_first_failure_of_dominance) (sc := defScope s_f_first_failure_of_dominance) (by decide +kernel)) (fun _ _ _ _ _ => (pg_name (i := 4) nd rfl (Or.inl rfl))) (fun _ _ _ _ _ => pts_nil) (fun _ _ _ _ _ => (pe_fn F_dominant_table (hr.mono (by decide)) rfl (pa_cons (pv 0) (pa_cons (pv 4) pa_nil)))))
    (pss_cons (ps_for PassesOwn.never rfl (pi_list (pe_mt0 (pv 0) T.cl M_profiles (hr.mono (by decide)))) (pg_name (i := 2) nd rfl (Or.inl rfl)) (pss_cons (ps_setLc (i := 3) (own := [("table", 5), ("report", 6)]) (g := (gTup K 2 (gCons (gName 5) (gCons (gName 6) gNil)))) (tt := tYes) rfl nd rfl rfl (sw_true rfl rfl rfl (by decide +kernel)) (pi_zip (by rfl) G.zip (pa_cons (pv 1) (pa_cons (pv 2) pa_nil))) (blkOk_by (N := N_f_first_failure_of_dominance) (sc := defScope s_f_first_failure_of_dominance) (by decide +kernel)) (fun _ _ _ _ _ => (pg_tup rfl (pgs_cons (pg_name (i := 5) nd rfl (Or.inl rfl)) (pgs_cons (pg_name (i := 6) nd rfl (Or.inl rfl)) pgs_nil)))) (fun _ _ _ _ _ => pts_nil) (fun _ _ _ _ _ => (pe_ix ix_list (pv 5) (pv 6) (fun _ _ => rfl))))
    (pss_one (ps_if (pt_not (pt_val (pe_fn F_is_implemented (hr.mono (by decide)) rfl (pa_cons (pv 0) (pa_cons (pv 3) (pa_cons (pe_mt (pv 0) T.cl M_target_at (hr.mono (by decide)) (pa_cons (pv 2) pa_nil)) pa_nil)))))) (pss_one (ps_ret (pv 2))) pss_nil))))
    (pss_one (ps_ret pe_non))))
theorem ok_f_first_failure_of_dominance (T : Tx K C) (G : Bt mg) (Z : Cs K mg pw rd wl nc) (F_dominant_table : Fn P w K mg base 6 "dominant_table" ["instance", "agent"] (sp_f_dominant_table K C)) (F_is_implemented : Fn P w K mg base 4 "is_implemented" ["instance", "flags", "wanted"] (sp_f_is_implemented K C)) (M_profiles : Mt P w K mg base C 3 "profiles" ["self"] (sp_m_profiles K C)) (M_agents : Mt P w K mg base C 1 "agents" ["self"] (sp_m_agents K C)) (M_target_at : Mt P w K mg base C 2 "target_at" ["self", "profile"] (sp_m_target_at K C)) {f : Addr} {fd : FuncData} (F : Fun K "first_failure_of_dominance" "first_failure_of_dominance" s_f_first_failure_of_dominance f fd) : FnOk P w K mg base CX0 7 f fd ["instance"] (sp_f_first_failure_of_dominance K C) :=
  fn_okX F sc_f_first_failure_of_dominance len_f_first_failure_of_dominance (x_f_first_failure_of_dominance T) (fun cdv A outer s H E hr => d_f_first_failure_of_dominance T G Z F_dominant_table F_is_implemented M_profiles M_agents M_target_at cdv A outer s H E hr)
end
end Gx
namespace Gx
open PySem PySem.Spec PyProof.Rows L2
/-! # Equilibria and best responses -/
def choices (m : Mc) (s : List Nat) (i : Nat) : List Nat := (List.range (m.messageCounts.getD i 0)).map fun own => out m (s.set i own)
def content (m : Mc) (s : List Nat) (i : Nat) (r : List Nat) : Bool := !(choices m s i).any fun x => Su193.prefers r x (out m s)
def isEq (m : Mc) (s p : List Nat) : Bool := (List.range m.target.agentCount).all fun i => content m s i (prf m i p)
def equil (m : Mc) (p : List Nat) : List (List Nat) := (allLists m.messageCounts).filter fun s => isEq m s p
def cRow (m : Mc) (i : Nat) (r : List Nat) : List Bool := (allLists m.messageCounts).map fun s => content m s i r
def cRows (m : Mc) (i : Nat) : List (List Bool) := (domM m i).map (cRow m i)
def atAll (rows : List (List Bool)) (k : Nat) : Bool := rows.all fun row => row.getD k false
def attS (rows : List (List Bool)) (wanted : Nat) (found : Bool) (q : Nat × Nat) : Bool ⊕ PyData :=
  if atAll rows q.2 = true then (if (q.1 != wanted) = true then .inr (.bool false) else .inl true) else .inl found
def att (m : Mc) (rows : List (List Bool)) (wanted : Nat) : Bool := (m.outcomes.zipIdx.any fun q => atAll rows q.2) && m.outcomes.zipIdx.all fun q => !atAll rows q.2 || q.1 == wanted
def rowsAt (m : Mc) (p : List Nat) : List (List Bool) := (((List.range m.target.agentCount).map (cRows m)).zip p).map fun q => q.1.getD q.2 []
def failN (m : Mc) : Option (List Nat) := (allLists (sizesM m)).find? fun p => !att m (rowsAt m p) (tgt m p)
def optN : Option Nat → PyData
  | none => .none
  | some n => nI n
def resp (m : Mc) (s : List Nat) (i : Nat) (r : List Nat) : Option Nat := if Su193.prefers r (bestOf r (choices m s i)) (out m s) = true then some ((choices m s i).idxOf (bestOf r (choices m s i))) else none
def after (m : Mc) (s p : List Nat) : Option (List Nat) := (List.range m.target.agentCount).findSome? fun i => (resp m s i (prf m i p)).map fun w => s.set i w
def dynS (m : Mc) (p : List Nat) (s : List Nat) (k : Nat) : List Nat ⊕ PyData := match after m s p with
  | none => .inr (nL (k :: s))
  | some l => .inl l
def dynD (m : Mc) (p s : List Nat) : PyData := match forE (dynS m p) s (List.range 100) with
  | .inr d => d
  | .inl h => if isEq m h p = true then nL (100 :: h) else .none
def P_f_choices_of : List Sl → PyData → Prop := fun xs d => ∃ (m : Mc) (s : List Nat) (i : Nat), xs = [.ins m, .dat (nL s), .dat (nI i)] ∧ (Wf m ∧ within s m.messageCounts = true ∧ i < m.target.agentCount) ∧ d = nL (choices m s i)
def P_f_is_content : List Sl → PyData → Prop := fun xs d => ∃ (m : Mc) (s : List Nat) (i : Nat) (r : List Nat), xs = [.ins m, .dat (nL s), .dat (nI i), .dat (nL r)] ∧ (Wf m ∧ within s m.messageCounts = true ∧ i < m.target.agentCount ∧ RkOk m.target.alternativeCount r) ∧ d = .bool (content m s i r)
def P_f_is_equilibrium : List Sl → PyData → Prop := fun xs d => ∃ (m : Mc) (s p : List Nat), xs = [.ins m, .dat (nL s), .dat (nL p)] ∧ (Wf m ∧ within s m.messageCounts = true ∧ within p (sizesM m) = true) ∧ d = .bool (isEq m s p)
def P_f_equilibria : List Sl → PyData → Prop := fun xs d => ∃ (m : Mc) (p : List Nat), xs = [.ins m, .dat (nL p)] ∧ (Wf m ∧ within p (sizesM m) = true) ∧ d = nLL (equil m p)
def P_f_content_row : List Sl → PyData → Prop := fun xs d => ∃ (m : Mc) (i : Nat) (r : List Nat), xs = [.ins m, .dat (nI i), .dat (nL r)] ∧ (Wf m ∧ i < m.target.agentCount ∧ RkOk m.target.alternativeCount r) ∧ d = bL (cRow m i r)
def P_f_content_rows : List Sl → PyData → Prop := fun xs d => ∃ (m : Mc) (i : Nat), xs = [.ins m, .dat (nI i)] ∧ (Wf m ∧ i < m.target.agentCount) ∧ d = bLL (cRows m i)
def P_f_is_attained : List Sl → PyData → Prop := fun xs d => ∃ (m : Mc) (rows : List (List Bool)) (wanted : Nat), xs = [.ins m, .dat (bLL rows), .dat (nI wanted)] ∧ (Wf m ∧ rows.length ≤ 1000 ∧ ∀ row ∈ rows, row.length = m.outcomes.length) ∧ d = .bool (att m rows wanted)
def P_f_first_failure : List Sl → PyData → Prop := fun xs d => ∃ m : Mc, xs = [.ins m] ∧ Wf m ∧ d = optL (failN m)
def P_f_response_of : List Sl → PyData → Prop := fun xs d => ∃ (m : Mc) (s : List Nat) (i : Nat) (r : List Nat), xs = [.ins m, .dat (nL s), .dat (nI i), .dat (nL r)] ∧ (Wf m ∧ within s m.messageCounts = true ∧ i < m.target.agentCount ∧ RkOk m.target.alternativeCount r) ∧ d = optN (resp m s i r)
def P_f_after_step : List Sl → PyData → Prop := fun xs d => ∃ (m : Mc) (s p : List Nat), xs = [.ins m, .dat (nL s), .dat (nL p)] ∧ (Wf m ∧ within s m.messageCounts = true ∧ within p (sizesM m) = true) ∧ d = optL (after m s p)
def P_f_dynamics : List Sl → PyData → Prop := fun xs d => ∃ (m : Mc) (p s : List Nat), xs = [.ins m, .dat (nL p), .dat (nL s)] ∧ (Wf m ∧ within p (sizesM m) = true ∧ within s m.messageCounts = true) ∧ d = dynD m p s
abbrev sp_f_choices_of (K : PySem.W.Frag) (C : Addr) : Sp := spF K C P_f_choices_of
theorem len_f_choices_of : ∀ xs d, P_f_choices_of xs d → xs.length = 3 := fun xs d ⟨_, _, _, e, _⟩ => by rw [e] <;> rfl
abbrev sp_f_is_content (K : PySem.W.Frag) (C : Addr) : Sp := spF K C P_f_is_content
theorem len_f_is_content : ∀ xs d, P_f_is_content xs d → xs.length = 4 := fun xs d ⟨_, _, _, _, e, _⟩ => by rw [e] <;> rfl
abbrev sp_f_is_equilibrium (K : PySem.W.Frag) (C : Addr) : Sp := spF K C P_f_is_equilibrium
theorem len_f_is_equilibrium : ∀ xs d, P_f_is_equilibrium xs d → xs.length = 3 := fun xs d ⟨_, _, _, e, _⟩ => by rw [e] <;> rfl
abbrev sp_f_equilibria (K : PySem.W.Frag) (C : Addr) : Sp := spF K C P_f_equilibria
theorem len_f_equilibria : ∀ xs d, P_f_equilibria xs d → xs.length = 2 := fun xs d ⟨_, _, e, _⟩ => by rw [e] <;> rfl
abbrev sp_f_content_row (K : PySem.W.Frag) (C : Addr) : Sp := spF K C P_f_content_row
theorem len_f_content_row : ∀ xs d, P_f_content_row xs d → xs.length = 3 := fun xs d ⟨_, _, _, e, _⟩ => by rw [e] <;> rfl
abbrev sp_f_content_rows (K : PySem.W.Frag) (C : Addr) : Sp := spF K C P_f_content_rows
theorem len_f_content_rows : ∀ xs d, P_f_content_rows xs d → xs.length = 2 := fun xs d ⟨_, _, e, _⟩ => by rw [e] <;> rfl
abbrev sp_f_is_attained (K : PySem.W.Frag) (C : Addr) : Sp := spF K C P_f_is_attained
theorem len_f_is_attained : ∀ xs d, P_f_is_attained xs d → xs.length = 3 := fun xs d ⟨_, _, _, e, _⟩ => by rw [e] <;> rfl
abbrev sp_f_first_failure (K : PySem.W.Frag) (C : Addr) : Sp := spF K C P_f_first_failure
theorem len_f_first_failure : ∀ xs d, P_f_first_failure xs d → xs.length = 1 := fun xs d ⟨_, e, _⟩ => by rw [e] <;> rfl
abbrev sp_f_response_of (K : PySem.W.Frag) (C : Addr) : Sp := spF K C P_f_response_of
theorem len_f_response_of : ∀ xs d, P_f_response_of xs d → xs.length = 4 := fun xs d ⟨_, _, _, _, e, _⟩ => by rw [e] <;> rfl
abbrev sp_f_after_step (K : PySem.W.Frag) (C : Addr) : Sp := spF K C P_f_after_step
theorem len_f_after_step : ∀ xs d, P_f_after_step xs d → xs.length = 3 := fun xs d ⟨_, _, _, e, _⟩ => by rw [e] <;> rfl
abbrev sp_f_dynamics (K : PySem.W.Frag) (C : Addr) : Sp := spF K C P_f_dynamics
theorem len_f_dynamics : ∀ xs d, P_f_dynamics xs d → xs.length = 3 := fun xs d ⟨_, _, _, e, _⟩ => by rw [e] <;> rfl
/-! ### readings (printed by gen.py) -/
/-- 0 instance, 1 messages, 2 agent, 3 count, 4 own -/
def t_f_choices_of (K : PySem.W.Frag) (C : Addr) : TS :=
    (tSeq (tAsg (tOp (rIxL K) (tFld K (tVar 0) "message_counts") (tVar 2)) (gName 3))
    (tRet (tLc (iRng1 (tCons (tVar 3) tNil)) (gName 4) tYes (tMeth C "outcome_of" (sp_m_outcome_of K C) [] E0 (tVar 0) (tCons (tCall (sp_f_with_number K C) [] E0 (tCons (tVar 1) (tCons (tVar 2) (tCons (tVar 4) tNil)))) tNil)) [4])))
/-- 0 instance, 1 messages, 2 agent, 3 ranking, 4 here, 5 there -/
def t_f_is_content (K : PySem.W.Frag) (C : Addr) : TS :=
    (tSeq (tAsg (tMeth C "outcome_of" (sp_m_outcome_of K C) [] E0 (tVar 0) (tCons (tVar 1) tNil)) (gName 4))
    (tRet (tNotV (tCB (rAny K) (tCons (tLc (iList K (tCall (sp_f_choices_of K C) [] E0 (tCons (tVar 0) (tCons (tVar 1) (tCons (tVar 2) tNil))))) (gName 5) tYes (tCall (sp_f_prefers K C) [] E0 (tCons (tVar 3) (tCons (tVar 5) (tCons (tVar 4) tNil)))) [5]) tNil)))))
/-- 0 instance, 1 messages, 2 profile, 3 agent -/
def t_f_is_equilibrium (K : PySem.W.Frag) (C : Addr) : TS :=
    (tSeq (tFor (iList K (tMeth C "agents" (sp_m_agents K C) [] E0 (tVar 0) tNil)) (gName 3) (tIfS (tNot (tB (tCall (sp_f_is_content K C) [] E0 (tCons (tVar 0) (tCons (tVar 1) (tCons (tVar 3) (tCons (tMeth C "preference_of" (sp_m_preference_of K C) [] E0 (tVar 0) (tCons (tVar 3) (tCons (tVar 2) tNil))) tNil))))))) (tRet (tC (.bl false))) tNext))
    (tRet (tC (.bl true))))
/-- 0 instance, 1 profile, 2 messages -/
def t_f_equilibria (K : PySem.W.Frag) (C : Addr) : TS :=
    (tRet (tLc (iList K (tMeth C "message_profiles" (sp_m_message_profiles K C) [] E0 (tVar 0) tNil)) (gName 2) (tB (tCall (sp_f_is_equilibrium K C) [] E0 (tCons (tVar 0) (tCons (tVar 2) (tCons (tVar 1) tNil))))) (tVar 2) [2]))
/-- 0 instance, 1 agent, 2 ranking, 3 messages -/
def t_f_content_row (K : PySem.W.Frag) (C : Addr) : TS :=
    (tRet (tLc (iList K (tMeth C "message_profiles" (sp_m_message_profiles K C) [] E0 (tVar 0) tNil)) (gName 3) tYes (tCall (sp_f_is_content K C) [] E0 (tCons (tVar 0) (tCons (tVar 3) (tCons (tVar 1) (tCons (tVar 2) tNil))))) [3]))
/-- 0 instance, 1 agent, 2 ranking -/
def t_f_content_rows (K : PySem.W.Frag) (C : Addr) : TS :=
    (tRet (tLc (iList K (tOp (rIxL K) (tFld K (tVar 0) "domains") (tVar 1))) (gName 2) tYes (tCall (sp_f_content_row K C) [] E0 (tCons (tVar 0) (tCons (tVar 1) (tCons (tVar 2) tNil)))) [2]))
/-- 0 instance, 1 rows, 2 wanted, 3 found, 4 place, 5 outcome, 6 row -/
def t_f_is_attained (K : PySem.W.Frag) (C : Addr) : TS :=
    (tSeq (tAsg (tC (.bl false)) (gName 3))
    (tSeq (tFor (iEnum K (tCons (tFld K (tVar 0) "mechanism") tNil)) (gTup K 2 (gCons (gName 4) (gCons (gName 5) gNil))) (tIfS (tB (tCB (rAll K) (tCons (tLc (iList K (tVar 1)) (gName 6) tYes (tOp (rIxL K) (tVar 6) (tVar 4)) [6]) tNil))) (tSeq (tIfS (tTest (tOp rNe (tVar 5) (tVar 2))) (tRet (tC (.bl false))) tNext)
    (tAsg (tC (.bl true)) (gName 3))) tNext))
    (tRet (tVar 3))))
/-- 0 instance, 1 tables, 2 profile, 3 rows, 4 agent, 5 table, 6 report -/
def t_f_first_failure (K : PySem.W.Frag) (C : Addr) : TS :=
    (tSeq (tAsg (tLc (iList K (tMeth C "agents" (sp_m_agents K C) [] E0 (tVar 0) tNil)) (gName 4) tYes (tCall (sp_f_content_rows K C) [] E0 (tCons (tVar 0) (tCons (tVar 4) tNil))) [4]) (gName 1))
    (tSeq (tFor (iList K (tMeth C "profiles" (sp_m_profiles K C) [] E0 (tVar 0) tNil)) (gName 2) (tSeq (tAsg (tLc (iZip K (tCons (tVar 1) (tCons (tVar 2) tNil))) (gTup K 2 (gCons (gName 5) (gCons (gName 6) gNil))) tYes (tOp (rIxL K) (tVar 5) (tVar 6)) [5, 6]) (gName 3))
    (tIfS (tNot (tB (tCall (sp_f_is_attained K C) [] E0 (tCons (tVar 0) (tCons (tVar 3) (tCons (tMeth C "target_at" (sp_m_target_at K C) [] E0 (tVar 0) (tCons (tVar 2) tNil)) tNil)))))) (tRet (tVar 2)) tNext)))
    (tRet (tC .non))))
/-- 0 instance, 1 messages, 2 agent, 3 ranking, 4 outcomes, 5 best -/
def t_f_response_of (K : PySem.W.Frag) (C : Addr) : TS :=
    (tSeq (tAsg (tCall (sp_f_choices_of K C) [] E0 (tCons (tVar 0) (tCons (tVar 1) (tCons (tVar 2) tNil)))) (gName 4))
    (tSeq (tAsg (tCall (sp_f_best_of K C) [] E0 (tCons (tVar 3) (tCons (tVar 4) tNil))) (gName 5))
    (tSeq (tIfS (tB (tCall (sp_f_prefers K C) [] E0 (tCons (tVar 3) (tCons (tVar 5) (tCons (tMeth C "outcome_of" (sp_m_outcome_of K C) [] E0 (tVar 0) (tCons (tVar 1) tNil)) tNil))))) (tRet (tBM K "list" (rIndex K) (tVar 4) (tCons (tVar 5) tNil))) tNext)
    (tRet (tC .non)))))
/-- 0 instance, 1 messages, 2 profile, 3 agent, 4 response -/
def t_f_after_step (K : PySem.W.Frag) (C : Addr) : TS :=
    (tSeq (tFor (iList K (tMeth C "agents" (sp_m_agents K C) [] E0 (tVar 0) tNil)) (gName 3) (tSeq (tAsg (tCall (sp_f_response_of K C) [] E0 (tCons (tVar 0) (tCons (tVar 1) (tCons (tVar 3) (tCons (tMeth C "preference_of" (sp_m_preference_of K C) [] E0 (tVar 0) (tCons (tVar 3) (tCons (tVar 2) tNil))) tNil))))) (gName 4))
    (tIfS (tTest (tOp rNoN (tVar 4) (tC .non))) (tRet (tCall (sp_f_with_number K C) [] E0 (tCons (tVar 1) (tCons (tVar 3) (tCons (tVar 4) tNil))))) tNext)))
    (tRet (tC .non)))
/-- 0 instance, 1 profile, 2 messages, 3 here, 4 count, 5 later -/
def t_f_dynamics (K : PySem.W.Frag) (C : Addr) : TS :=
    (tSeq (tAsg (tCB (rListS K) (tCons (tVar 2) tNil)) (gName 3))
    (tSeq (tFor (iRng1 (tCons (tC (.int (100))) tNil)) (gName 4) (tSeq (tAsg (tCall (sp_f_after_step K C) [] E0 (tCons (tVar 0) (tCons (tVar 3) (tCons (tVar 1) tNil)))) (gName 5))
    (tSeq (tIfS (tTest (tOp rIsN (tVar 5) (tC .non))) (tRet (tOp rCat (tLst (tCons (tVar 4) tNil)) (tVar 3))) tNext)
    (tAsg (tVar 5) (gName 3)))))
    (tSeq (tIfS (tB (tCall (sp_f_is_equilibrium K C) [] E0 (tCons (tVar 0) (tCons (tVar 3) (tCons (tVar 1) tNil))))) (tRet (tOp rCat (tLst (tCons (tC (.int (100))) tNil)) (tVar 3))) tNext)
    (tRet (tC .non)))))
theorem choices_lt {m : Mc} (W : Wf m) {s : List Nat} (h : within s m.messageCounts = true) {i : Nat} : ∀ x ∈ choices m s i, x < m.target.alternativeCount := fun x hx => by
  obtain ⟨own, ho, rfl⟩ := List.mem_map.mp hx
  exact W.out_lt (wn_set h (List.mem_range.mp ho))
theorem choices_len {m : Mc} (s : List Nat) (i : Nat) : (choices m s i).length = m.messageCounts.getD i 0 := by
  unfold choices
  rw [List.length_map, List.length_range]
/-- some preferred alternative is a choice -/
theorem best_some {m : Mc} (W : Wf m) {s : List Nat} (h : within s m.messageCounts = true) {i : Nat} (hi : i < m.target.agentCount) {r : List Nat} (hr : RkOk m.target.alternativeCount r) : ∃ x ∈ r, x ∈ choices m s i := by
  have h1 : 0 < m.messageCounts.getD i 0 := by
    have := (W.m6 _ (getD_mem (d := 0) (show i < m.messageCounts.length by rw [W.ml]; exact hi))).1
    omega
  have h2 : out m (s.set i 0) ∈ choices m s i := List.mem_map.mpr ⟨0, List.mem_range.mpr h1, rfl⟩
  exact ⟨_, rk_mem hr (choices_lt W h _ h2), h2⟩
theorem bestOf_mem {r as : List Nat} (h : ∃ x ∈ r, x ∈ as) : bestOf r as ∈ r ∧ bestOf r as ∈ as := by
  obtain ⟨x, hx, hy⟩ := h
  have hm : x ∈ r.filter fun x => as.contains x := List.mem_filter.mpr ⟨hx, by simpa using hy⟩
  unfold bestOf
  cases e : r.filter fun x => as.contains x with
  | nil => rw [e] at hm; cases hm
  | cons z zs =>
    have hz : z ∈ r.filter fun x => as.contains x := by rw [e]; exact List.mem_cons_self
    have := List.mem_filter.mp hz
    exact ⟨this.1, by simpa using this.2⟩
theorem resp_lt {m : Mc} (W : Wf m) {s : List Nat} (h : within s m.messageCounts = true) {i : Nat} (hi : i < m.target.agentCount) {r : List Nat} (hr : RkOk m.target.alternativeCount r) {w : Nat} (e : resp m s i r = some w) : w < m.messageCounts.getD i 0 := by
  unfold resp at e
  split at e
  · cases e
    rw [← choices_len s i]
    exact List.idxOf_lt_length_of_mem (bestOf_mem (best_some W h hi hr)).2
  · cases e
theorem after_wn {m : Mc} (W : Wf m) {s p : List Nat} (h : within s m.messageCounts = true) (hp : within p (sizesM m) = true) {l : List Nat} (e : after m s p = some l) : within l m.messageCounts = true := by
  unfold after at e
  obtain ⟨i, hi, e2⟩ := List.exists_of_findSome?_eq_some e
  obtain ⟨w, e3, rfl⟩ := Option.map_eq_some_iff.mp e2
  exact wn_set h (resp_lt W h (List.mem_range.mp hi) (W.prf_rk (List.mem_range.mp hi) hp) e3)
theorem forE_inv {α γ : Type} {step : γ → α → γ ⊕ PyData} (J : γ → Prop) (hJ : ∀ s a s', J s → step s a = .inl s' → J s') : ∀ (l : List α) (s s' : γ), J s → forE step s l = .inl s' → J s'
  | [], s, s', h, e => by
    rw [forE] at e
    cases e
    exact h
  | a :: r, s, s', h, e => by
    rw [forE] at e
    cases e2 : step s a with
    | inl s1 =>
      rw [e2] at e
      exact forE_inv J hJ r s1 s' (hJ s a s1 h e2) e
    | inr d => rw [e2] at e; cases e
theorem att_fold (rows : List (List Bool)) (wanted : Nat) : ∀ (l : List (Nat × Nat)) (found : Bool), (match forE (attS rows wanted) found l with | .inl b => PyData.bool b | .inr d => d) = .bool ((found || l.any fun q => atAll rows q.2) && l.all fun q => !atAll rows q.2 || q.1 == wanted)
  | [], found => by simp [forE]
  | q :: r, found => by
    rw [forE, List.any_cons, List.all_cons]
    unfold attS
    by_cases h1 : atAll rows q.2 = true
    · rw [if_pos h1, h1]
      by_cases h2 : (q.1 != wanted) = true
      · rw [if_pos h2]
        have h3 : (q.1 == wanted) = false := by simpa using h2
        rw [h3]
        simp
      · rw [if_neg h2]
        have h3 : (q.1 == wanted) = true := by simpa using h2
        have ih := att_fold rows wanted r true
        unfold attS at ih
        rw [h3]
        simpa using ih
    · rw [if_neg h1]
      have h4 : atAll rows q.2 = false := by simpa using h1
      have ih := att_fold rows wanted r found
      unfold attS at ih
      rw [h4]
      simpa using ih
section
variable {K : PySem.W.Frag} {C : Addr}
theorem x_f_choices_of (T : Tx K C) : ∀ xs d, P_f_choices_of xs d → X K C (t_f_choices_of K C) (xs ++ List.replicate (N_f_choices_of.length - 3) .any) (.rt d) := by
  rintro xs d ⟨m, s, i, rfl, ⟨W, h, hi⟩, rfl⟩
  obtain ⟨h3, h4⟩ := W.mci hi
  refine x_seq (x_asgE (e_ixM (e_fM T (e_var rfl)) (e_var rfl) h3)) (x_ret (e_is (e_new (en_lc0 (js := [4]) (xs := List.range (m.messageCounts.getD i 0)) (enc := nI) (f := fun own => nI (out m (s.set i own))) (ei_range (e_var rfl) (by omega)) (by rw [List.length_range]; omega) (fun _ h => h) fun own ho => ⟨_, ga_name, ?_⟩)) ?_))
  · exact e_meth (fun _ _ _ _ => fl_no (by decide +kernel)) (e_var rfl) (ea_one (e_call (ea_cons (e_var rfl) (ea_cons (e_var rfl) (ea_one (e_var rfl)))) ⟨_, _, _, rfl, by rw [wn_len h, W.ml]; exact hi, rfl⟩)) ⟨_, _, rfl, ⟨W, wn_set h (List.mem_range.mp ho)⟩, rfl⟩
  · show PyData.list _ = PyData.list (((List.range (m.messageCounts.getD i 0)).map _).map nI)
    rw [List.map_map]
    rfl
theorem x_f_is_content (T : Tx K C) : ∀ xs d, P_f_is_content xs d → X K C (t_f_is_content K C) (xs ++ List.replicate (N_f_is_content.length - 4) .any) (.rt d) := by
  rintro xs d ⟨m, s, i, r, rfl, ⟨W, h, hi, hr⟩, rfl⟩
  have h4 := (W.mci hi).2
  refine x_seq (x_asgE (e_meth (fun _ _ _ _ => fl_no (by decide +kernel)) (e_var rfl) (ea_one (e_var rfl)) ⟨_, _, rfl, ⟨W, h⟩, rfl⟩)) (x_ret (e_notV (e_anyM (f := fun x => Su193.prefers r x (out m s)) (e_new (en_lc0 (js := [5]) (ei_list (e_call (ea_cons (e_var rfl) (ea_cons (e_var rfl) (ea_one (e_var rfl)))) ⟨_, _, _, rfl, ⟨W, h, hi⟩, rfl⟩)) (by rw [choices_len]; omega) (fun _ h => h) fun x hx => ⟨_, ga_name, ?_⟩)))))
  exact e_call (ea_cons (e_var rfl) (ea_cons (e_var rfl) (ea_one (e_var rfl)))) ⟨_, _, _, rfl, ⟨rk_mem hr (choices_lt W h x hx), rk_mem hr (W.out_lt h)⟩, rfl⟩
theorem x_f_is_equilibrium (T : Tx K C) : ∀ xs d, P_f_is_equilibrium xs d → X K C (t_f_is_equilibrium K C) (xs ++ List.replicate (N_f_is_equilibrium.length - 3) .any) (.rt d) := by
  rintro xs d ⟨m, s, p, rfl, ⟨W, h, hp⟩, rfl⟩
  have ha := W.a3
  refine x_is (x_findM (xs := List.range m.target.agentCount) (enc := nI) [.ins m, .dat (nL s), .dat (nL p), .any] (fun i => if (!content m s i (prf m i p)) = true then some (.bool false) else none) (ei_list (e_meth (fun _ _ _ _ => fl_no (by decide +kernel)) (e_var rfl) ea_nil ⟨_, rfl, by omega, rfl⟩)) (by walk_at "wk") (fun i hi => ?_) (fun _ => x_ret e_cB)) ?_
  · have hi' := List.mem_range.mp hi
    exact ⟨_, _, ga_name, b_if (et_not (et_B (e_call (ea_cons (e_var rfl) (ea_cons (e_var rfl) (ea_cons (e_var rfl) (ea_one (e_meth (fun _ _ _ _ => fl_no (by decide +kernel)) (e_var rfl) (ea_cons (e_var rfl) (ea_one (e_var rfl))) ⟨_, _, _, rfl, ⟨W, hi', hp⟩, rfl⟩))))) ⟨_, _, _, _, rfl, ⟨W, h, hi', W.prf_rk hi' hp⟩, rfl⟩))) (fun _ => x_ret e_cB) (by walk_at "wk")⟩
  · rw [all_find]
    unfold isEq
    simp
theorem x_f_equilibria (T : Tx K C) : ∀ xs d, P_f_equilibria xs d → X K C (t_f_equilibria K C) (xs ++ List.replicate (N_f_equilibria.length - 2) .any) (.rt d) := by
  rintro xs d ⟨m, p, rfl, ⟨W, hp⟩, rfl⟩
  exact x_ret (e_new (en_lc (js := [2]) (xs := allLists m.messageCounts) (enc := nL) (p := fun s => isEq m s p) (f := nL) (ei_list (e_meth (fun _ _ _ _ => fl_no (by decide +kernel)) (e_var rfl) ea_nil ⟨_, rfl, W, rfl⟩)) (by have := W.mp_len; omega) (fun _ h => h)
    fun s hs => ⟨_, ga_name, et_B (e_call (ea_cons (e_var rfl) (ea_cons (e_var rfl) (ea_one (e_var rfl)))) ⟨_, _, _, rfl, ⟨W, mem_all.mp hs, hp⟩, rfl⟩), fun _ => e_var rfl⟩))
theorem x_f_content_row (T : Tx K C) : ∀ xs d, P_f_content_row xs d → X K C (t_f_content_row K C) (xs ++ List.replicate (N_f_content_row.length - 3) .any) (.rt d) := by
  rintro xs d ⟨m, i, r, rfl, ⟨W, hi, hr⟩, rfl⟩
  refine x_ret (e_is (e_new (en_lc0 (js := [3]) (xs := allLists m.messageCounts) (enc := nL) (f := fun s => .bool (content m s i r)) (ei_list (e_meth (fun _ _ _ _ => fl_no (by decide +kernel)) (e_var rfl) ea_nil ⟨_, rfl, W, rfl⟩)) (by have := W.mp_len; omega) (fun _ h => h)
    fun s hs => ⟨_, ga_name, e_call (ea_cons (e_var rfl) (ea_cons (e_var rfl) (ea_cons (e_var rfl) (ea_one (e_var rfl))))) ⟨_, _, _, _, rfl, ⟨W, mem_all.mp hs, hi, hr⟩, rfl⟩⟩)) ?_)
  show PyData.list _ = PyData.list (((allLists m.messageCounts).map _).map PyData.bool)
  rw [List.map_map]
  rfl
theorem x_f_content_rows (T : Tx K C) : ∀ xs d, P_f_content_rows xs d → X K C (t_f_content_rows K C) (xs ++ List.replicate (N_f_content_rows.length - 2) .any) (.rt d) := by
  rintro xs d ⟨m, i, rfl, ⟨W, hi⟩, rfl⟩
  have hl : (domM m i).length ≤ 6 := W.d6 _ (W.dom_mem hi)
  refine x_ret (e_is (e_new (en_lc0 (js := [2]) (xs := domM m i) (enc := nL) (f := fun r => bL (cRow m i r)) (ei_list (e_dom T (e_var rfl) (e_var rfl) (W.dom_at hi))) (by omega) (fun _ h => h)
    fun r hr => ⟨_, ga_name, e_call (ea_cons (e_var rfl) (ea_cons (e_var rfl) (ea_one (e_var rfl)))) ⟨_, _, _, rfl, ⟨W, hi, W.dom_rk hi hr⟩, rfl⟩⟩)) ?_)
  show PyData.list _ = PyData.list (((domM m i).map (cRow m i)).map bL)
  rw [List.map_map]
  rfl
theorem x_f_is_attained (T : Tx K C) : ∀ xs d, P_f_is_attained xs d → X K C (t_f_is_attained K C) (xs ++ List.replicate (N_f_is_attained.length - 3) .any) (.rt d) := by
  rintro xs d ⟨m, rows, wanted, rfl, ⟨W, hl, hr⟩, rfl⟩
  have h := x_for (K := K) (C := C) (ρ := [.ins m, .dat (bLL rows), .dat (nI wanted), .dat (.bool false), .any, .any, .any]) (wi := iEnum K (tCons (tFld K (tVar 0) "mechanism") tNil)) (g := gTup K 2 (gCons (gName 4) (gCons (gName 5) gNil))) (tb := tIfS (tB (tCB (rAll K) (tCons (tLc (iList K (tVar 1)) (gName 6) tYes (tOp (rIxL K) (tVar 6) (tVar 4)) [6]) tNil))) (tSeq (tIfS (tTest (tOp rNe (tVar 5) (tVar 2))) (tRet (tC (.bl false))) tNext) (tAsg (tC (.bl true)) (gName 3))) tNext)
    (xs := m.outcomes.zipIdx) (enc := fun q => .tuple [nI q.2, nI q.1]) (fun b => [.ins m, .dat (bLL rows), .dat (nI wanted), .dat (.bool b), .any, .any, .any]) (attS rows wanted) false (ei_enum (f := nI) (e_fK T (e_var rfl))) (Wk.refl _) (fun pre q post b e hs => ?_)
  · refine x_seq (x_asgE e_cB) ?_
    have h2 := att_fold rows wanted m.outcomes.zipIdx false
    rw [Bool.false_or] at h2
    cases e : forE (attS rows wanted) false m.outcomes.zipIdx with
    | inl b =>
      rw [e] at h h2
      exact x_is (x_seq h (x_ret (e_var rfl))) h2
    | inr d =>
      rw [e] at h h2
      exact x_is (x_seqR h) h2
  · have hq : q ∈ m.outcomes.zipIdx := mem_mid e
    obtain ⟨j, hj, e2⟩ := List.mem_iff_getElem.mp hq
    have h5 := zipIdx_at (show m.outcomes.zipIdx[j]? = some q by rw [List.getElem?_eq_getElem hj, e2])
    have hj2 : q.2 < m.outcomes.length := by
      rw [h5.2]
      exact (List.getElem?_eq_some_iff.mp h5.1).1
    refine ⟨_, _, ga_2, ?_⟩
    have ht : ET K C (tB (tCB (rAll K) (tCons (tLc (iList K (tVar 1)) (gName 6) tYes (tOp (rIxL K) (tVar 6) (tVar 4)) [6]) tNil))) [.ins m, .dat (bLL rows), .dat (nI wanted), .dat (.bool b), .dat (nI q.2), .dat (nI q.1), .any] (atAll rows q.2) :=
      et_B (e_allM (f := fun row : List Bool => row.getD q.2 false) (e_new (en_lc0 (js := [6]) (enc := bL) (ei_list (e_var rfl)) (by omega) (fun _ h => h) fun row hrow => ⟨_, ga_name, e_ixM (e_var rfl) (e_var rfl) (getD_at (by rw [hr row hrow]; exact hj2))⟩)))
    unfold attS
    by_cases h1 : atAll rows q.2 = true
    · rw [if_pos h1]
      rw [h1] at ht
      by_cases h2 : (q.1 != wanted) = true
      · rw [if_pos h2]
        exact x_if ht (fun _ => x_seqR (x_if (et_test (e_ne (e_var rfl) (e_var rfl))) (fun _ => x_ret e_cB) (fun z => by rw [h2] at z; cases z))) fun z => by cases z
      · rw [if_neg h2]
        exact ⟨_, x_if ht (fun _ => x_seq (x_if (et_test (e_ne (e_var rfl) (e_var rfl))) (fun z => absurd z h2) fun _ => x_next) (x_asgE e_cB)) (fun z => by cases z), by walk_at "wk"⟩
    · rw [if_neg h1]
      have h4 : atAll rows q.2 = false := by simpa using h1
      rw [h4] at ht
      exact ⟨_, x_if ht (fun z => by cases z) (fun _ => x_next), by walk_at "wk"⟩
theorem rowsAt_ok {m : Mc} (W : Wf m) {p : List Nat} (h : within p (sizesM m) = true) : (rowsAt m p).length = m.target.agentCount ∧ ∀ row ∈ rowsAt m p, row.length = m.outcomes.length := by
  have hp : p.length = m.target.agentCount := by rw [wn_len h, W.szl]
  unfold rowsAt
  rw [tables_at _ hp]
  refine ⟨by rw [List.length_map, List.length_map, List.length_zipIdx, hp], fun row hrow => ?_⟩
  rw [List.map_map] at hrow
  obtain ⟨z, hz, rfl⟩ := List.mem_map.mp hrow
  obtain ⟨j, hj, e⟩ := List.mem_iff_getElem.mp hz
  have h5 := zipIdx_at (show p.zipIdx[j]? = some z by rw [List.getElem?_eq_getElem hj, e])
  have hj2 : j < m.target.agentCount := by rw [List.length_zipIdx] at hj; omega
  have h3 := wn_at j h (by rw [W.szl]; exact hj2)
  rw [W.sz_at hj2, List.getD_eq_getElem?_getD, h5.1] at h3
  have h3' : z.1 < (domM m j).length := h3
  show ((cRows m z.2).getD z.1 []).length = _
  have h4 : (cRows m z.2).getD z.1 [] ∈ cRows m z.2 := getD_mem (by rw [h5.2]; unfold cRows; rw [List.length_map]; exact h3')
  obtain ⟨r, _, hr⟩ := List.mem_map.mp h4
  rw [← hr, W.ol]
  unfold cRow
  rw [List.length_map, allLists_eq, enum_len]
theorem x_f_first_failure (T : Tx K C) : ∀ xs d, P_f_first_failure xs d → X K C (t_f_first_failure K C) (xs ++ List.replicate (N_f_first_failure.length - 1) .any) (.rt d) := by
  rintro xs d ⟨m, rfl, W, rfl⟩
  have ha : m.target.agentCount ≤ 3 := W.a3
  have hT := en_lc0 (K := K) (C := C) (ρ := [.ins m, .any, .any, .any, .any, .any, .any]) (wi := iList K (tMeth C "agents" (sp_m_agents K C) [] E0 (tVar 0) tNil)) (g := gName 4) (te := tCall (sp_f_content_rows K C) [] E0 (tCons (tVar 0) (tCons (tVar 4) tNil))) (js := [4]) (vs := [4]) (xs := List.range m.target.agentCount) (enc := nI) (f := fun i => bLL (cRows m i))
    (ei_list (e_meth (fun _ _ _ _ => fl_no (by decide +kernel)) (e_var rfl) ea_nil ⟨_, rfl, by omega, rfl⟩)) (by rw [List.length_range]; omega) (fun _ h => h)
    fun i hi => ⟨_, ga_name, e_call (ea_cons (e_var rfl) (ea_one (e_var rfl))) ⟨_, _, rfl, ⟨W, List.mem_range.mp hi⟩, rfl⟩⟩
  have hT2 : ((List.range m.target.agentCount).map fun i => bLL (cRows m i)) = ((List.range m.target.agentCount).map (cRows m)).map bLL := by
    rw [List.map_map]
    rfl
  rw [hT2] at hT
  refine x_seq (x_asgE (e_new hT)) ?_
  have h := x_findM (K := K) (C := C) (ρ := [.ins m, .dat (.list (((List.range m.target.agentCount).map (cRows m)).map bLL)), .any, .any, .any, .any, .any]) (wi := iList K (tMeth C "profiles" (sp_m_profiles K C) [] E0 (tVar 0) tNil)) (g := gName 2)
    (tb := tSeq (tAsg (tLc (iZip K (tCons (tVar 1) (tCons (tVar 2) tNil))) (gTup K 2 (gCons (gName 5) (gCons (gName 6) gNil))) tYes (tOp (rIxL K) (tVar 5) (tVar 6)) [5, 6]) (gName 3)) (tIfS (tNot (tB (tCall (sp_f_is_attained K C) [] E0 (tCons (tVar 0) (tCons (tVar 3) (tCons (tMeth C "target_at" (sp_m_target_at K C) [] E0 (tVar 0) (tCons (tVar 2) tNil)) tNil)))))) (tRet (tVar 2)) tNext))
    (u := tRet (tC .non)) (xs := allLists (sizesM m)) (enc := nL) (d' := .none) [.ins m, .dat (.list (((List.range m.target.agentCount).map (cRows m)).map bLL)), .any, .any, .any, .any, .any]
    (fun p => if (!att m (rowsAt m p) (tgt m p)) = true then some (nL p) else none) (ei_list (e_meth (fun _ _ _ _ => fl_no (by decide +kernel)) (e_var rfl) ea_nil ⟨_, rfl, W, rfl⟩)) (Wk.refl _) (fun p hp => ?_) (fun _ => x_ret e_cZ)
  · rw [find_opt] at h
    exact h
  · have hw := mem_all.mp hp
    have hpl : p.length = m.target.agentCount := by rw [wn_len hw, W.szl]
    obtain ⟨k1, k2⟩ := rowsAt_ok W hw
    have hF := en_lc0 (K := K) (C := C) (ρ := [.ins m, .dat (.list (((List.range m.target.agentCount).map (cRows m)).map bLL)), .dat (nL p), .any, .any, .any, .any]) (wi := iZip K (tCons (tVar 1) (tCons (tVar 2) tNil))) (g := gTup K 2 (gCons (gName 5) (gCons (gName 6) gNil))) (te := tOp (rIxL K) (tVar 5) (tVar 6)) (js := [5, 6]) (vs := [5, 6])
      (xs := ((List.range m.target.agentCount).map (cRows m)).zip p) (enc := fun q => .tuple [bLL q.1, nI q.2]) (f := fun q => bL (q.1.getD q.2 [])) (ei_zip (f := bLL) (g := nI) (e_var rfl) (e_var rfl)) (by rw [List.length_zip]; omega) (fun _ h => h)
      fun q hq => ⟨_, ga_2, e_ixM (e_var rfl) (e_var rfl) (getD_at ?_)⟩
    · have hF2 : ((((List.range m.target.agentCount).map (cRows m)).zip p).map fun q => bL (q.1.getD q.2 [])) = (rowsAt m p).map bL := by
        unfold rowsAt
        rw [List.map_map]
        rfl
      rw [hF2] at hF
      have hS := x_asgE (i := 3) (e_new hF)
      have hB := b_if (K := K) (C := C) (ρ := [.ins m, .dat (.list (((List.range m.target.agentCount).map (cRows m)).map bLL)), .dat (nL p), .dat (.list ((rowsAt m p).map bL)), .any, .any, .any]) (c := tNot (tB (tCall (sp_f_is_attained K C) [] E0 (tCons (tVar 0) (tCons (tVar 3) (tCons (tMeth C "target_at" (sp_m_target_at K C) [] E0 (tVar 0) (tCons (tVar 2) tNil)) tNil)))))) (t := tRet (tVar 2)) (d := nL p)
        (ρ0 := [.ins m, .dat (.list (((List.range m.target.agentCount).map (cRows m)).map bLL)), .any, .any, .any, .any, .any])
        (et_not (et_B (e_call (ea_cons (e_var rfl) (ea_cons (e_var rfl) (ea_one (e_meth (fun _ _ _ _ => fl_no (by decide +kernel)) (e_var rfl) (ea_one (e_var rfl)) ⟨_, _, rfl, ⟨W, hw⟩, rfl⟩)))) ⟨_, _, _, rfl, ⟨W, by omega, k2⟩, rfl⟩))) (fun _ => x_ret (e_var rfl)) (by walk_at "wk")
      refine ⟨_, _, ga_name, ?_⟩
      cases e : (!att m (rowsAt m p) (tgt m p)) with
      | true =>
        rw [e] at hB
        exact x_seq hS hB
      | false =>
        rw [e] at hB
        obtain ⟨ρ2, k1, k2⟩ := hB
        exact ⟨ρ2, x_seq hS k1, k2⟩
    · rw [tables_at _ hpl] at hq
      obtain ⟨z, hz, rfl⟩ := List.mem_map.mp hq
      obtain ⟨j, hj, e⟩ := List.mem_iff_getElem.mp hz
      have h5 := zipIdx_at (show p.zipIdx[j]? = some z by rw [List.getElem?_eq_getElem hj, e])
      have hj2 : j < m.target.agentCount := by rw [List.length_zipIdx] at hj; omega
      have h3 := wn_at j hw (by rw [W.szl]; exact hj2)
      rw [W.sz_at hj2, List.getD_eq_getElem?_getD, h5.1] at h3
      show z.1 < (cRows m z.2).length
      rw [h5.2]
      unfold cRows
      rw [List.length_map]
      exact h3
theorem x_f_response_of (T : Tx K C) : ∀ xs d, P_f_response_of xs d → X K C (t_f_response_of K C) (xs ++ List.replicate (N_f_response_of.length - 4) .any) (.rt d) := by
  rintro xs d ⟨m, s, i, r, rfl, ⟨W, h, hi, hr⟩, rfl⟩
  have hb := best_some W h hi hr
  obtain ⟨b1, b2⟩ := bestOf_mem hb
  have hv := W.v4
  refine x_seq (x_asgE (e_call (ea_cons (e_var rfl) (ea_cons (e_var rfl) (ea_one (e_var rfl)))) ⟨_, _, _, rfl, ⟨W, h, hi⟩, rfl⟩)) (x_seq (x_asgE (e_call (ea_cons (e_var rfl) (ea_one (e_var rfl))) ⟨_, _, rfl, ⟨by rw [hr.1]; omega, hb⟩, rfl⟩)) ?_)
  refine x_ifR (b := Su193.prefers r (bestOf r (choices m s i)) (out m s)) (et_B (e_call (ea_cons (e_var rfl) (ea_cons (e_var rfl) (ea_one (e_meth (fun _ _ _ _ => fl_no (by decide +kernel)) (e_var rfl) (ea_one (e_var rfl)) ⟨_, _, rfl, ⟨W, h⟩, rfl⟩)))) ⟨_, _, _, rfl, ⟨b1, rk_mem hr (W.out_lt h)⟩, rfl⟩)) (fun q => ?_) fun q => ?_
  · refine x_is (x_ret (e_index (e_var rfl) (e_var rfl) b2)) ?_
    unfold resp
    rw [if_pos q]
    rfl
  · refine x_is (x_ret e_cZ) ?_
    unfold resp
    rw [if_neg (by rw [q]; exact Bool.false_ne_true)]
    rfl
theorem opt_map (o : List Nat → Option Nat) : True := trivial
theorem after_find (f : Nat → Option (List Nat)) (xs : List Nat) : (xs.findSome? fun i => (f i).map nL).getD .none = optL (xs.findSome? f) := by
  induction xs with
  | nil => rfl
  | cons a r ih =>
    rw [List.findSome?_cons, List.findSome?_cons]
    cases f a with
    | none => exact ih
    | some l => rfl
theorem x_f_after_step (T : Tx K C) : ∀ xs d, P_f_after_step xs d → X K C (t_f_after_step K C) (xs ++ List.replicate (N_f_after_step.length - 3) .any) (.rt d) := by
  rintro xs d ⟨m, s, p, rfl, ⟨W, h, hp⟩, rfl⟩
  have ha := W.a3
  refine x_is (x_findM (xs := List.range m.target.agentCount) (enc := nI) [.ins m, .dat (nL s), .dat (nL p), .any, .any] (fun i => ((resp m s i (prf m i p)).map fun w => s.set i w).map nL) (ei_list (e_meth (fun _ _ _ _ => fl_no (by decide +kernel)) (e_var rfl) ea_nil ⟨_, rfl, by omega, rfl⟩)) (by walk_at "wk") (fun i hi => ?_) (fun _ => x_ret e_cZ)) (after_find _ _)
  have hi' := List.mem_range.mp hi
  have hr := W.prf_rk hi' hp
  refine ⟨_, _, ga_name, ?_⟩
  have hS : X K C (tAsg (tCall (sp_f_response_of K C) [] E0 (tCons (tVar 0) (tCons (tVar 1) (tCons (tVar 3) (tCons (tMeth C "preference_of" (sp_m_preference_of K C) [] E0 (tVar 0) (tCons (tVar 3) (tCons (tVar 2) tNil))) tNil))))) (gName 4)) [.ins m, .dat (nL s), .dat (nL p), .dat (nI i), .any] (.nx [.ins m, .dat (nL s), .dat (nL p), .dat (nI i), .dat (optN (resp m s i (prf m i p)))]) :=
    x_asgE (e_call (ea_cons (e_var rfl) (ea_cons (e_var rfl) (ea_cons (e_var rfl) (ea_one (e_meth (fun _ _ _ _ => fl_no (by decide +kernel)) (e_var rfl) (ea_cons (e_var rfl) (ea_one (e_var rfl))) ⟨_, _, _, rfl, ⟨W, hi', hp⟩, rfl⟩))))) ⟨_, _, _, _, rfl, ⟨W, h, hi', hr⟩, rfl⟩)
  cases e : resp m s i (prf m i p) with
  | none =>
    rw [e] at hS
    exact ⟨_, x_seq hS (x_if (et_test (e_noN (d := .none) (e_var rfl) e_cZ)) (fun z => by cases z) fun _ => x_next), by walk_at "wk"⟩
  | some w =>
    rw [e] at hS
    exact x_seq hS (x_if (et_test (e_noN (d := nI w) (e_var rfl) e_cZ)) (fun _ => x_ret (e_call (ea_cons (e_var rfl) (ea_cons (e_var rfl) (ea_one (e_var (x := .dat (nI w)) rfl)))) ⟨_, _, _, rfl, by rw [wn_len h, W.ml]; exact hi', rfl⟩)) fun z => by cases z)
theorem x_f_dynamics (T : Tx K C) : ∀ xs d, P_f_dynamics xs d → X K C (t_f_dynamics K C) (xs ++ List.replicate (N_f_dynamics.length - 3) .any) (.rt d) := by
  rintro xs d ⟨m, p, s, rfl, ⟨W, hp, h⟩, rfl⟩
  have hlen : ∀ l : List Nat, within l m.messageCounts = true → l.length ≤ 3 := fun l hl => by
    rw [wn_len hl, W.ml]
    exact W.a3
  refine x_seq (x_asgE (e_new (en_list (e_var rfl)))) ?_
  have hf := x_for (K := K) (C := C) (ρ := [.ins m, .dat (nL p), .dat (nL s), .dat (nL s), .any, .any]) (wi := iRng1 (tCons (tC (.int (100))) tNil)) (g := gName 4) (tb := tSeq (tAsg (tCall (sp_f_after_step K C) [] E0 (tCons (tVar 0) (tCons (tVar 3) (tCons (tVar 1) tNil)))) (gName 5)) (tSeq (tIfS (tTest (tOp rIsN (tVar 5) (tC .non))) (tRet (tOp rCat (tLst (tCons (tVar 4) tNil)) (tVar 3))) tNext) (tAsg (tVar 5) (gName 3))))
    (xs := List.range 100) (enc := nI) (fun l => [.ins m, .dat (nL p), .dat (nL s), .dat (nL l), .any, .any]) (dynS m p) s (ei_range (e_cN 100) (by omega)) (by walk_at "wk") (fun pre k post l e hs => ?_)
  · unfold dynD
    cases e : forE (dynS m p) s (List.range 100) with
    | inr d =>
      rw [e] at hf
      exact x_seqR hf
    | inl l =>
      rw [e] at hf
      have hl : within l m.messageCounts = true := forE_inv (fun l => within l m.messageCounts = true) (fun s a s' hJ e2 => by
        unfold dynS at e2
        cases e3 : after m s p with
        | none => rw [e3] at e2; cases e2
        | some q =>
          rw [e3] at e2
          cases e2
          exact after_wn W hJ hp e3) _ _ _ h e
      refine x_seq hf ?_
      refine x_ifR (b := isEq m l p) (et_B (e_call (ea_cons (e_var rfl) (ea_cons (e_var rfl) (ea_one (e_var rfl)))) ⟨_, _, _, rfl, ⟨W, hl, hp⟩, rfl⟩)) (fun q => ?_) fun q => ?_
      · refine x_is (x_ret (e_new (en_cat (e_new (en_lst (ds := [nI 100]) (ea_one (e_cN 100)) (by show 1 ≤ 10000000; omega))) (e_var rfl) (by rw [List.length_map]; have := hlen l hl; show 1 + l.length ≤ 10000000; omega)))) ?_
        show _ = if isEq m l p = true then nL (100 :: l) else .none
        rw [if_pos q]
        rfl
      · refine x_is (x_ret e_cZ) ?_
        show _ = if isEq m l p = true then nL (100 :: l) else .none
        rw [if_neg (by rw [q]; exact Bool.false_ne_true)]
  · have hl : within l m.messageCounts = true := forE_inv (fun l => within l m.messageCounts = true) (fun s a s' hJ e2 => by
      unfold dynS at e2
      cases e3 : after m s p with
      | none => rw [e3] at e2; cases e2
      | some q =>
        rw [e3] at e2
        cases e2
        exact after_wn W hJ hp e3) _ _ _ h hs
    refine ⟨_, _, ga_name, ?_⟩
    have hS : X K C (tAsg (tCall (sp_f_after_step K C) [] E0 (tCons (tVar 0) (tCons (tVar 3) (tCons (tVar 1) tNil)))) (gName 5)) [.ins m, .dat (nL p), .dat (nL s), .dat (nL l), .dat (nI k), .any] (.nx [.ins m, .dat (nL p), .dat (nL s), .dat (nL l), .dat (nI k), .dat (optL (after m l p))]) :=
      x_asgE (e_call (ea_cons (e_var rfl) (ea_cons (e_var rfl) (ea_one (e_var rfl)))) ⟨_, _, _, rfl, ⟨W, hl, hp⟩, rfl⟩)
    unfold dynS
    cases e3 : after m l p with
    | none =>
      rw [e3] at hS
      refine x_seq hS (x_seqR (x_if (et_test (e_isN (d := .none) (e_var rfl) e_cZ)) (fun _ => x_is (x_ret (e_new (en_cat (e_new (en_lst (ds := [nI k]) (ea_one (e_var rfl)) (by show 1 ≤ 10000000; omega))) (e_var rfl) (by rw [List.length_map]; have := hlen l hl; show 1 + l.length ≤ 10000000; omega)))) rfl) fun z => by cases z))
    | some q =>
      rw [e3] at hS
      exact ⟨_, x_seq hS (x_seq (x_if (et_test (e_isN (d := nL q) (e_var rfl) e_cZ)) (fun z => by cases z) fun _ => x_next) (x_asgE (e_var (x := .dat (nL q)) rfl))), by walk_at "wk"⟩
end
end Gx
namespace Gx
open PySem PySem.Spec PyProof.Rows L2
section
variable {P : Program} {w : World} {K : PySem.W.Frag} {mg : Str → Option Value} {base : Heap} {C pw rd wl nc : Addr}
theorem d_f_choices_of (T : Tx K C) (G : Bt mg) (Z : Cs K mg pw rd wl nc) (F_with_number : Fn P w K mg base 1 "with_number" ["numbers", "at", "number"] (sp_f_with_number K C)) (M_outcome_of : Mt P w K mg base C 2 "outcome_of" ["self", "messages"] (sp_m_outcome_of K C)) {f : Addr} (cdv : Value) (A : Around) (outer : List Env) (s : Shared) (H : Hp) (E : XK) (hr : Room 2 (A.deeper (envOfC "choices_of" (defScope s_f_choices_of) s.heap.objs.size f cdv))) :
    PSs (cxOf CX0 P w K mg base N_f_choices_of "choices_of" (defScope s_f_choices_of) f cdv A outer s H E).nox (defBody s_f_choices_of) (t_f_choices_of K C) := by
  have nd := sc_f_choices_of.nd
  exact (pss_cons (ps_set (i := 3) nd rfl (Or.inl rfl) (pe_ix ix_list (pe_fld (pv 0) rfl) (pv 2) (fun _ _ => rfl)))
    (pss_one (ps_ret (pe_lc (own := [("own", 4)]) (g := (gName 4)) (tt := tYes) rfl nd (pi_range1 (by rfl) G.range (pa_cons (pv 3) pa_nil)) (blkOk_by (N := N_f_choices_of) (sc := defScope s_f_choices_of) (by decide +kernel)) (fun _ _ _ _ _ => (pg_name (i := 4) nd rfl (Or.inl rfl))) (fun _ _ _ _ _ => pts_nil) (fun _ _ _ _ _ => (pe_mt (pv 0) T.cl M_outcome_of (hr.mono (by decide)) (pa_cons (pe_fn F_with_number (hr.mono (by decide)) rfl (pa_cons (pv 1) (pa_cons (pv 2) (pa_cons (pv 4) pa_nil)))) pa_nil)))))))
theorem ok_f_choices_of (T : Tx K C) (G : Bt mg) (Z : Cs K mg pw rd wl nc) (F_with_number : Fn P w K mg base 1 "with_number" ["numbers", "at", "number"] (sp_f_with_number K C)) (M_outcome_of : Mt P w K mg base C 2 "outcome_of" ["self", "messages"] (sp_m_outcome_of K C)) {f : Addr} {fd : FuncData} (F : Fun K "choices_of" "choices_of" s_f_choices_of f fd) : FnOk P w K mg base CX0 3 f fd ["instance", "messages", "agent"] (sp_f_choices_of K C) :=
  fn_okX F sc_f_choices_of len_f_choices_of (x_f_choices_of T) (fun cdv A outer s H E hr => d_f_choices_of T G Z F_with_number M_outcome_of cdv A outer s H E hr)
theorem d_f_is_content (T : Tx K C) (G : Bt mg) (Z : Cs K mg pw rd wl nc) (F_prefers : Fn P w K mg base 1 "prefers" ["ranking", "one", "other"] (sp_f_prefers K C)) (F_choices_of : Fn P w K mg base 3 "choices_of" ["instance", "messages", "agent"] (sp_f_choices_of K C)) (M_outcome_of : Mt P w K mg base C 2 "outcome_of" ["self", "messages"] (sp_m_outcome_of K C)) {f : Addr} (cdv : Value) (A : Around) (outer : List Env) (s : Shared) (H : Hp) (E : XK) (hr : Room 3 (A.deeper (envOfC "is_content" (defScope s_f_is_content) s.heap.objs.size f cdv))) :
    PSs (cxOf CX0 P w K mg base N_f_is_content "is_content" (defScope s_f_is_content) f cdv A outer s H E).nox (defBody s_f_is_content) (t_f_is_content K C) := by
  have nd := sc_f_is_content.nd
  exact (pss_cons (ps_set (i := 4) nd rfl (Or.inr rfl) (pe_mt (pv 0) T.cl M_outcome_of (hr.mono (by decide)) (pa_cons (pv 1) pa_nil)))
    (pss_one (ps_ret (pe_not (pe_callB (cr_any rfl) (by rfl) G.any (by decide +kernel) (pa_cons (pe_lc (own := [("there", 5)]) (g := (gName 5)) (tt := tYes) rfl nd (pi_list (pe_fn F_choices_of (hr.mono (by decide)) rfl (pa_cons (pv 0) (pa_cons (pv 1) (pa_cons (pv 2) pa_nil))))) (blkOk_by (N := N_f_is_content) (sc := defScope s_f_is_content) (by decide +kernel)) (fun _ _ _ _ _ => (pg_name (i := 5) nd rfl (Or.inl rfl))) (fun _ _ _ _ _ => pts_nil) (fun _ _ _ _ _ => (pe_fn F_prefers (hr.mono (by decide)) rfl (pa_cons (pv 3) (pa_cons (pv 5) (pa_cons (pv 4) pa_nil)))))) pa_nil))))))
theorem ok_f_is_content (T : Tx K C) (G : Bt mg) (Z : Cs K mg pw rd wl nc) (F_prefers : Fn P w K mg base 1 "prefers" ["ranking", "one", "other"] (sp_f_prefers K C)) (F_choices_of : Fn P w K mg base 3 "choices_of" ["instance", "messages", "agent"] (sp_f_choices_of K C)) (M_outcome_of : Mt P w K mg base C 2 "outcome_of" ["self", "messages"] (sp_m_outcome_of K C)) {f : Addr} {fd : FuncData} (F : Fun K "is_content" "is_content" s_f_is_content f fd) : FnOk P w K mg base CX0 4 f fd ["instance", "messages", "agent", "ranking"] (sp_f_is_content K C) :=
  fn_okX F sc_f_is_content len_f_is_content (x_f_is_content T) (fun cdv A outer s H E hr => d_f_is_content T G Z F_prefers F_choices_of M_outcome_of cdv A outer s H E hr)
theorem d_f_is_equilibrium (T : Tx K C) (G : Bt mg) (Z : Cs K mg pw rd wl nc) (F_is_content : Fn P w K mg base 4 "is_content" ["instance", "messages", "agent", "ranking"] (sp_f_is_content K C)) (M_agents : Mt P w K mg base C 1 "agents" ["self"] (sp_m_agents K C)) (M_preference_of : Mt P w K mg base C 1 "preference_of" ["self", "agent", "profile"] (sp_m_preference_of K C)) {f : Addr} (cdv : Value) (A : Around) (outer : List Env) (s : Shared) (H : Hp) (E : XK) (hr : Room 4 (A.deeper (envOfC "is_equilibrium" (defScope s_f_is_equilibrium) s.heap.objs.size f cdv))) :
    PSs (cxOf CX0 P w K mg base N_f_is_equilibrium "is_equilibrium" (defScope s_f_is_equilibrium) f cdv A outer s H E).nox (defBody s_f_is_equilibrium) (t_f_is_equilibrium K C) := by
  have nd := sc_f_is_equilibrium.nd
  exact (pss_cons (ps_for PassesOwn.never rfl (pi_list (pe_mt0 (pv 0) T.cl M_agents (hr.mono (by decide)))) (pg_name (i := 3) nd rfl (Or.inl rfl)) (pss_one (ps_if (pt_not (pt_val (pe_fn F_is_content (hr.mono (by decide)) rfl (pa_cons (pv 0) (pa_cons (pv 1) (pa_cons (pv 3) (pa_cons (pe_mt (pv 0) T.cl M_preference_of (hr.mono (by decide)) (pa_cons (pv 3) (pa_cons (pv 2) pa_nil))) pa_nil))))))) (pss_one (ps_ret pe_bl)) pss_nil)))
    (pss_one (ps_ret pe_bl)))
theorem ok_f_is_equilibrium (T : Tx K C) (G : Bt mg) (Z : Cs K mg pw rd wl nc) (F_is_content : Fn P w K mg base 4 "is_content" ["instance", "messages", "agent", "ranking"] (sp_f_is_content K C)) (M_agents : Mt P w K mg base C 1 "agents" ["self"] (sp_m_agents K C)) (M_preference_of : Mt P w K mg base C 1 "preference_of" ["self", "agent", "profile"] (sp_m_preference_of K C)) {f : Addr} {fd : FuncData} (F : Fun K "is_equilibrium" "is_equilibrium" s_f_is_equilibrium f fd) : FnOk P w K mg base CX0 5 f fd ["instance", "messages", "profile"] (sp_f_is_equilibrium K C) :=
  fn_okX F sc_f_is_equilibrium len_f_is_equilibrium (x_f_is_equilibrium T) (fun cdv A outer s H E hr => d_f_is_equilibrium T G Z F_is_content M_agents M_preference_of cdv A outer s H E hr)
theorem d_f_equilibria (T : Tx K C) (G : Bt mg) (Z : Cs K mg pw rd wl nc) (F_is_equilibrium : Fn P w K mg base 5 "is_equilibrium" ["instance", "messages", "profile"] (sp_f_is_equilibrium K C)) (M_message_profiles : Mt P w K mg base C 3 "message_profiles" ["self"] (sp_m_message_profiles K C)) {f : Addr} (cdv : Value) (A : Around) (outer : List Env) (s : Shared) (H : Hp) (E : XK) (hr : Room 5 (A.deeper (envOfC "equilibria" (defScope s_f_equilibria) s.heap.objs.size f cdv))) :
    PSs (cxOf CX0 P w K mg base N_f_equilibria "equilibria" (defScope s_f_equilibria) f cdv A outer s H E).nox (defBody s_f_equilibria) (t_f_equilibria K C) := by
  have nd := sc_f_equilibria.nd
  exact (pss_one (ps_ret (pe_lc (own := [("messages", 2)]) (g := (gName 2)) (tt := (tB (tCall (sp_f_is_equilibrium K C) [] E0 (tCons (tVar 0) (tCons (tVar 2) (tCons (tVar 1) tNil)))))) rfl nd (pi_list (pe_mt0 (pv 0) T.cl M_message_profiles (hr.mono (by decide)))) (blkOk_by (N := N_f_equilibria) (sc := defScope s_f_equilibria) (by decide +kernel)) (fun _ _ _ _ _ => (pg_name (i := 2) nd rfl (Or.inl rfl))) (fun _ _ _ _ _ => (pts_one (pt_val (pe_fn F_is_equilibrium (hr.mono (by decide)) rfl (pa_cons (pv 0) (pa_cons (pv 2) (pa_cons (pv 1) pa_nil))))))) (fun _ _ _ _ _ => (pv 2)))))
theorem ok_f_equilibria (T : Tx K C) (G : Bt mg) (Z : Cs K mg pw rd wl nc) (F_is_equilibrium : Fn P w K mg base 5 "is_equilibrium" ["instance", "messages", "profile"] (sp_f_is_equilibrium K C)) (M_message_profiles : Mt P w K mg base C 3 "message_profiles" ["self"] (sp_m_message_profiles K C)) {f : Addr} {fd : FuncData} (F : Fun K "equilibria" "equilibria" s_f_equilibria f fd) : FnOk P w K mg base CX0 6 f fd ["instance", "profile"] (sp_f_equilibria K C) :=
  fn_okX F sc_f_equilibria len_f_equilibria (x_f_equilibria T) (fun cdv A outer s H E hr => d_f_equilibria T G Z F_is_equilibrium M_message_profiles cdv A outer s H E hr)
theorem d_f_content_row (T : Tx K C) (G : Bt mg) (Z : Cs K mg pw rd wl nc) (F_is_content : Fn P w K mg base 4 "is_content" ["instance", "messages", "agent", "ranking"] (sp_f_is_content K C)) (M_message_profiles : Mt P w K mg base C 3 "message_profiles" ["self"] (sp_m_message_profiles K C)) {f : Addr} (cdv : Value) (A : Around) (outer : List Env) (s : Shared) (H : Hp) (E : XK) (hr : Room 4 (A.deeper (envOfC "content_row" (defScope s_f_content_row) s.heap.objs.size f cdv))) :
    PSs (cxOf CX0 P w K mg base N_f_content_row "content_row" (defScope s_f_content_row) f cdv A outer s H E).nox (defBody s_f_content_row) (t_f_content_row K C) := by
  have nd := sc_f_content_row.nd
  exact (pss_one (ps_ret (pe_lc (own := [("messages", 3)]) (g := (gName 3)) (tt := tYes) rfl nd (pi_list (pe_mt0 (pv 0) T.cl M_message_profiles (hr.mono (by decide)))) (blkOk_by (N := N_f_content_row) (sc := defScope s_f_content_row) (by decide +kernel)) (fun _ _ _ _ _ => (pg_name (i := 3) nd rfl (Or.inl rfl))) (fun _ _ _ _ _ => pts_nil) (fun _ _ _ _ _ => (pe_fn F_is_content (hr.mono (by decide)) rfl (pa_cons (pv 0) (pa_cons (pv 3) (pa_cons (pv 1) (pa_cons (pv 2) pa_nil)))))))))
theorem ok_f_content_row (T : Tx K C) (G : Bt mg) (Z : Cs K mg pw rd wl nc) (F_is_content : Fn P w K mg base 4 "is_content" ["instance", "messages", "agent", "ranking"] (sp_f_is_content K C)) (M_message_profiles : Mt P w K mg base C 3 "message_profiles" ["self"] (sp_m_message_profiles K C)) {f : Addr} {fd : FuncData} (F : Fun K "content_row" "content_row" s_f_content_row f fd) : FnOk P w K mg base CX0 5 f fd ["instance", "agent", "ranking"] (sp_f_content_row K C) :=
  fn_okX F sc_f_content_row len_f_content_row (x_f_content_row T) (fun cdv A outer s H E hr => d_f_content_row T G Z F_is_content M_message_profiles cdv A outer s H E hr)
theorem d_f_content_rows (T : Tx K C) (G : Bt mg) (Z : Cs K mg pw rd wl nc) (F_content_row : Fn P w K mg base 5 "content_row" ["instance", "agent", "ranking"] (sp_f_content_row K C)) {f : Addr} (cdv : Value) (A : Around) (outer : List Env) (s : Shared) (H : Hp) (E : XK) (hr : Room 5 (A.deeper (envOfC "content_rows" (defScope s_f_content_rows) s.heap.objs.size f cdv))) :
    PSs (cxOf CX0 P w K mg base N_f_content_rows "content_rows" (defScope s_f_content_rows) f cdv A outer s H E).nox (defBody s_f_content_rows) (t_f_content_rows K C) := by
  have nd := sc_f_content_rows.nd
  exact (pss_one (ps_ret (pe_lc (own := [("ranking", 2)]) (g := (gName 2)) (tt := tYes) rfl nd (pi_list (pe_ix ix_list (pe_fld (pv 0) rfl) (pv 1) (fun _ _ => rfl))) (blkOk_by (N := N_f_content_rows) (sc := defScope s_f_content_rows) (by decide +kernel)) (fun _ _ _ _ _ => (pg_name (i := 2) nd rfl (Or.inl rfl))) (fun _ _ _ _ _ => pts_nil) (fun _ _ _ _ _ => (pe_fn F_content_row (hr.mono (by decide)) rfl (pa_cons (pv 0) (pa_cons (pv 1) (pa_cons (pv 2) pa_nil))))))))
theorem ok_f_content_rows (T : Tx K C) (G : Bt mg) (Z : Cs K mg pw rd wl nc) (F_content_row : Fn P w K mg base 5 "content_row" ["instance", "agent", "ranking"] (sp_f_content_row K C)) {f : Addr} {fd : FuncData} (F : Fun K "content_rows" "content_rows" s_f_content_rows f fd) : FnOk P w K mg base CX0 6 f fd ["instance", "agent"] (sp_f_content_rows K C) :=
  fn_okX F sc_f_content_rows len_f_content_rows (x_f_content_rows T) (fun cdv A outer s H E hr => d_f_content_rows T G Z F_content_row cdv A outer s H E hr)
theorem d_f_is_attained (T : Tx K C) (G : Bt mg) (Z : Cs K mg pw rd wl nc)  {f : Addr} (cdv : Value) (A : Around) (outer : List Env) (s : Shared) (H : Hp) (E : XK) (hr : Room 0 (A.deeper (envOfC "is_attained" (defScope s_f_is_attained) s.heap.objs.size f cdv))) :
    PSs (cxOf CX0 P w K mg base N_f_is_attained "is_attained" (defScope s_f_is_attained) f cdv A outer s H E).nox (defBody s_f_is_attained) (t_f_is_attained K C) := by
  have nd := sc_f_is_attained.nd
  exact (pss_cons (ps_set (i := 3) nd rfl (Or.inl rfl) pe_bl)
    (pss_cons (ps_for PassesOwn.never rfl (pi_enum (by rfl) G.enumerate (pa_cons (pe_fld (pv 0) rfl) pa_nil)) (pg_tup rfl (pgs_cons (pg_name (i := 4) nd rfl (Or.inr rfl)) (pgs_cons (pg_name (i := 5) nd rfl (Or.inl rfl)) pgs_nil))) (pss_one (ps_if (pt_val (pe_callB (cr_all rfl) (by rfl) G.all (by decide +kernel) (pa_cons (pe_lc (own := [("row", 6)]) (g := (gName 6)) (tt := tYes) rfl nd (pi_list (pv 1)) (blkOk_by (N := N_f_is_attained) (sc := defScope s_f_is_attained) (by decide +kernel)) (fun _ _ _ _ _ => (pg_name (i := 6) nd rfl (Or.inl rfl))) (fun _ _ _ _ _ => pts_nil) (fun _ _ _ _ _ => (pe_ix ix_list (pv 6) (pv 4) (fun _ _ => rfl)))) pa_nil))) (pss_cons (ps_if (pt_cmpR op_ne (pv 5) (pv 2) (nomark _)) (pss_one (ps_ret pe_bl)) pss_nil)
    (pss_one (ps_set (i := 3) nd rfl (Or.inl rfl) pe_bl))) pss_nil)))
    (pss_one (ps_ret (pv 3)))))
theorem ok_f_is_attained (T : Tx K C) (G : Bt mg) (Z : Cs K mg pw rd wl nc)  {f : Addr} {fd : FuncData} (F : Fun K "is_attained" "is_attained" s_f_is_attained f fd) : FnOk P w K mg base CX0 1 f fd ["instance", "rows", "wanted"] (sp_f_is_attained K C) :=
  fn_okX F sc_f_is_attained len_f_is_attained (x_f_is_attained T) (fun cdv A outer s H E hr => d_f_is_attained T G Z  cdv A outer s H E hr)
theorem d_f_first_failure (T : Tx K C) (G : Bt mg) (Z : Cs K mg pw rd wl nc) (F_content_rows : Fn P w K mg base 6 "content_rows" ["instance", "agent"] (sp_f_content_rows K C)) (F_is_attained : Fn P w K mg base 1 "is_attained" ["instance", "rows", "wanted"] (sp_f_is_attained K C)) (M_profiles : Mt P w K mg base C 3 "profiles" ["self"] (sp_m_profiles K C)) (M_agents : Mt P w K mg base C 1 "agents" ["self"] (sp_m_agents K C)) (M_target_at : Mt P w K mg base C 2 "target_at" ["self", "profile"] (sp_m_target_at K C)) {f : Addr} (cdv : Value) (A : Around) (outer : List Env) (s : Shared) (H : Hp) (E : XK) (hr : Room 6 (A.deeper (envOfC "first_failure" (defScope s_f_first_failure) s.heap.objs.size f cdv))) :
    PSs (cxOf CX0 P w K mg base N_f_first_failure "first_failure" (defScope s_f_first_failure) f cdv A outer s H E).nox (defBody s_f_first_failure) (t_f_first_failure K C) := by
  have nd := sc_f_first_failure.nd
  exact (pss_cons (ps_setLc (i := 1) (own := [("agent", 4)]) (g := (gName 4)) (tt := tYes) rfl nd rfl rfl (sw_true rfl rfl rfl (by decide +kernel)) (pi_list (pe_mt0 (pv 0) T.cl M_agents (hr.mono (by decide)))) (blkOk_by (N := N_f_first_failure) (sc := defScope s_f_first_failure) (by decide +kernel)) (fun _ _ _ _ _ => (pg_name (i := 4) nd rfl (Or.inl rfl))) (fun _ _ _ _ _ => pts_nil) (fun _ _ _ _ _ => (pe_fn F_content_rows (hr.mono (by decide)) rfl (pa_cons (pv 0) (pa_cons (pv 4) pa_nil)))))
    (pss_cons (ps_for PassesOwn.never rfl (pi_list (pe_mt0 (pv 0) T.cl M_profiles (hr.mono (by decide)))) (pg_name (i := 2) nd rfl (Or.inl rfl)) (pss_cons (ps_setLc (i := 3) (own := [("table", 5), ("report", 6)]) (g := (gTup K 2 (gCons (gName 5) (gCons (gName 6) gNil)))) (tt := tYes) rfl nd rfl rfl (sw_true rfl rfl rfl (by decide +kernel)) (pi_zip (by rfl) G.zip (pa_cons (pv 1) (pa_cons (pv 2) pa_nil))) (blkOk_by (N := N_f_first_failure) (sc := defScope s_f_first_failure) (by decide +kernel)) (fun _ _ _ _ _ => (pg_tup rfl (pgs_cons (pg_name (i := 5) nd rfl (Or.inl rfl)) (pgs_cons (pg_name (i := 6) nd rfl (Or.inl rfl)) pgs_nil)))) (fun _ _ _ _ _ => pts_nil) (fun _ _ _ _ _ => (pe_ix ix_list (pv 5) (pv 6) (fun _ _ => rfl))))
    (pss_one (ps_if (pt_not (pt_val (pe_fn F_is_attained (hr.mono (by decide)) rfl (pa_cons (pv 0) (pa_cons (pv 3) (pa_cons (pe_mt (pv 0) T.cl M_target_at (hr.mono (by decide)) (pa_cons (pv 2) pa_nil)) pa_nil)))))) (pss_one (ps_ret (pv 2))) pss_nil))))
    (pss_one (ps_ret pe_non))))
theorem ok_f_first_failure (T : Tx K C) (G : Bt mg) (Z : Cs K mg pw rd wl nc) (F_content_rows : Fn P w K mg base 6 "content_rows" ["instance", "agent"] (sp_f_content_rows K C)) (F_is_attained : Fn P w K mg base 1 "is_attained" ["instance", "rows", "wanted"] (sp_f_is_attained K C)) (M_profiles : Mt P w K mg base C 3 "profiles" ["self"] (sp_m_profiles K C)) (M_agents : Mt P w K mg base C 1 "agents" ["self"] (sp_m_agents K C)) (M_target_at : Mt P w K mg base C 2 "target_at" ["self", "profile"] (sp_m_target_at K C)) {f : Addr} {fd : FuncData} (F : Fun K "first_failure" "first_failure" s_f_first_failure f fd) : FnOk P w K mg base CX0 7 f fd ["instance"] (sp_f_first_failure K C) :=
  fn_okX F sc_f_first_failure len_f_first_failure (x_f_first_failure T) (fun cdv A outer s H E hr => d_f_first_failure T G Z F_content_rows F_is_attained M_profiles M_agents M_target_at cdv A outer s H E hr)
theorem d_f_response_of (T : Tx K C) (G : Bt mg) (Z : Cs K mg pw rd wl nc) (F_choices_of : Fn P w K mg base 3 "choices_of" ["instance", "messages", "agent"] (sp_f_choices_of K C)) (F_best_of : Fn P w K mg base 1 "best_of" ["ranking", "alternatives"] (sp_f_best_of K C)) (F_prefers : Fn P w K mg base 1 "prefers" ["ranking", "one", "other"] (sp_f_prefers K C)) (M_outcome_of : Mt P w K mg base C 2 "outcome_of" ["self", "messages"] (sp_m_outcome_of K C)) {f : Addr} (cdv : Value) (A : Around) (outer : List Env) (s : Shared) (H : Hp) (E : XK) (hr : Room 3 (A.deeper (envOfC "response_of" (defScope s_f_response_of) s.heap.objs.size f cdv))) :
    PSs (cxOf CX0 P w K mg base N_f_response_of "response_of" (defScope s_f_response_of) f cdv A outer s H E).nox (defBody s_f_response_of) (t_f_response_of K C) := by
  have nd := sc_f_response_of.nd
  exact (pss_cons (ps_set (i := 4) nd rfl (Or.inl rfl) (pe_fn F_choices_of (hr.mono (by decide)) rfl (pa_cons (pv 0) (pa_cons (pv 1) (pa_cons (pv 2) pa_nil)))))
    (pss_cons (ps_set (i := 5) nd rfl (Or.inl rfl) (pe_fn F_best_of (hr.mono (by decide)) rfl (pa_cons (pv 3) (pa_cons (pv 4) pa_nil))))
    (pss_cons (ps_if (pt_val (pe_fn F_prefers (hr.mono (by decide)) rfl (pa_cons (pv 3) (pa_cons (pv 5) (pa_cons (pe_mt (pv 0) T.cl M_outcome_of (hr.mono (by decide)) (pa_cons (pv 1) pa_nil)) pa_nil))))) (pss_one (ps_ret (pe_bm PySem.F.plainAttrs_list PySem.F.slot_list_index PySem.F.type_list_index mt_index (pv 4) (pa_cons (pv 5) pa_nil)))) pss_nil)
    (pss_one (ps_ret pe_non)))))
theorem ok_f_response_of (T : Tx K C) (G : Bt mg) (Z : Cs K mg pw rd wl nc) (F_choices_of : Fn P w K mg base 3 "choices_of" ["instance", "messages", "agent"] (sp_f_choices_of K C)) (F_best_of : Fn P w K mg base 1 "best_of" ["ranking", "alternatives"] (sp_f_best_of K C)) (F_prefers : Fn P w K mg base 1 "prefers" ["ranking", "one", "other"] (sp_f_prefers K C)) (M_outcome_of : Mt P w K mg base C 2 "outcome_of" ["self", "messages"] (sp_m_outcome_of K C)) {f : Addr} {fd : FuncData} (F : Fun K "response_of" "response_of" s_f_response_of f fd) : FnOk P w K mg base CX0 4 f fd ["instance", "messages", "agent", "ranking"] (sp_f_response_of K C) :=
  fn_okX F sc_f_response_of len_f_response_of (x_f_response_of T) (fun cdv A outer s H E hr => d_f_response_of T G Z F_choices_of F_best_of F_prefers M_outcome_of cdv A outer s H E hr)
theorem d_f_after_step (T : Tx K C) (G : Bt mg) (Z : Cs K mg pw rd wl nc) (F_response_of : Fn P w K mg base 4 "response_of" ["instance", "messages", "agent", "ranking"] (sp_f_response_of K C)) (F_with_number : Fn P w K mg base 1 "with_number" ["numbers", "at", "number"] (sp_f_with_number K C)) (M_agents : Mt P w K mg base C 1 "agents" ["self"] (sp_m_agents K C)) (M_preference_of : Mt P w K mg base C 1 "preference_of" ["self", "agent", "profile"] (sp_m_preference_of K C)) {f : Addr} (cdv : Value) (A : Around) (outer : List Env) (s : Shared) (H : Hp) (E : XK) (hr : Room 4 (A.deeper (envOfC "after_step" (defScope s_f_after_step) s.heap.objs.size f cdv))) :
    PSs (cxOf CX0 P w K mg base N_f_after_step "after_step" (defScope s_f_after_step) f cdv A outer s H E).nox (defBody s_f_after_step) (t_f_after_step K C) := by
  have nd := sc_f_after_step.nd
  exact (pss_cons (ps_for PassesOwn.never rfl (pi_list (pe_mt0 (pv 0) T.cl M_agents (hr.mono (by decide)))) (pg_name (i := 3) nd rfl (Or.inl rfl)) (pss_cons (ps_set (i := 4) nd rfl (Or.inl rfl) (pe_fn F_response_of (hr.mono (by decide)) rfl (pa_cons (pv 0) (pa_cons (pv 1) (pa_cons (pv 3) (pa_cons (pe_mt (pv 0) T.cl M_preference_of (hr.mono (by decide)) (pa_cons (pv 3) (pa_cons (pv 2) pa_nil))) pa_nil))))))
    (pss_one (ps_if (pt_cmpR op_notN (pv 4) pe_non (nomark _)) (pss_one (ps_ret (pe_fn F_with_number (hr.mono (by decide)) rfl (pa_cons (pv 1) (pa_cons (pv 3) (pa_cons (pv 4) pa_nil)))))) pss_nil))))
    (pss_one (ps_ret pe_non)))
theorem ok_f_after_step (T : Tx K C) (G : Bt mg) (Z : Cs K mg pw rd wl nc) (F_response_of : Fn P w K mg base 4 "response_of" ["instance", "messages", "agent", "ranking"] (sp_f_response_of K C)) (F_with_number : Fn P w K mg base 1 "with_number" ["numbers", "at", "number"] (sp_f_with_number K C)) (M_agents : Mt P w K mg base C 1 "agents" ["self"] (sp_m_agents K C)) (M_preference_of : Mt P w K mg base C 1 "preference_of" ["self", "agent", "profile"] (sp_m_preference_of K C)) {f : Addr} {fd : FuncData} (F : Fun K "after_step" "after_step" s_f_after_step f fd) : FnOk P w K mg base CX0 5 f fd ["instance", "messages", "profile"] (sp_f_after_step K C) :=
  fn_okX F sc_f_after_step len_f_after_step (x_f_after_step T) (fun cdv A outer s H E hr => d_f_after_step T G Z F_response_of F_with_number M_agents M_preference_of cdv A outer s H E hr)
theorem d_f_dynamics (T : Tx K C) (G : Bt mg) (Z : Cs K mg pw rd wl nc) (F_is_equilibrium : Fn P w K mg base 5 "is_equilibrium" ["instance", "messages", "profile"] (sp_f_is_equilibrium K C)) (F_after_step : Fn P w K mg base 5 "after_step" ["instance", "messages", "profile"] (sp_f_after_step K C)) {f : Addr} (cdv : Value) (A : Around) (outer : List Env) (s : Shared) (H : Hp) (E : XK) (hr : Room 5 (A.deeper (envOfC "dynamics" (defScope s_f_dynamics) s.heap.objs.size f cdv))) :
    PSs (cxOf CX0 P w K mg base N_f_dynamics "dynamics" (defScope s_f_dynamics) f cdv A outer s H E).nox (defBody s_f_dynamics) (t_f_dynamics K C) := by
  have nd := sc_f_dynamics.nd
  exact (pss_cons (ps_set (i := 3) nd rfl (Or.inl rfl) (pe_callTy call_list_of (by rfl) G.list (by decide +kernel) (pa_cons (pv 2) pa_nil)))
    (pss_cons (ps_for PassesOwn.never rfl (pi_range1 (by rfl) G.range (pa_cons (pe_gI Z.i_MOST_STEPS) pa_nil)) (pg_name (i := 4) nd rfl (Or.inl rfl)) (pss_cons (ps_set (i := 5) nd rfl (Or.inl rfl) (pe_fn F_after_step (hr.mono (by decide)) rfl (pa_cons (pv 0) (pa_cons (pv 3) (pa_cons (pv 1) pa_nil)))))
    (pss_cons (ps_if (pt_cmpR op_isN (pv 5) pe_non (nomark _)) (pss_one (ps_ret (pe_op op_cat (pe_lst (pa_cons (pv 4) pa_nil)) (pv 3)))) pss_nil)
    (pss_one (ps_set (i := 3) nd rfl (Or.inl rfl) (pv 5))))))
    (pss_cons (ps_if (pt_val (pe_fn F_is_equilibrium (hr.mono (by decide)) rfl (pa_cons (pv 0) (pa_cons (pv 3) (pa_cons (pv 1) pa_nil))))) (pss_one (ps_ret (pe_op op_cat (pe_lst (pa_cons (pe_gI Z.i_MOST_STEPS) pa_nil)) (pv 3)))) pss_nil)
    (pss_one (ps_ret pe_non)))))
theorem ok_f_dynamics (T : Tx K C) (G : Bt mg) (Z : Cs K mg pw rd wl nc) (F_is_equilibrium : Fn P w K mg base 5 "is_equilibrium" ["instance", "messages", "profile"] (sp_f_is_equilibrium K C)) (F_after_step : Fn P w K mg base 5 "after_step" ["instance", "messages", "profile"] (sp_f_after_step K C)) {f : Addr} {fd : FuncData} (F : Fun K "dynamics" "dynamics" s_f_dynamics f fd) : FnOk P w K mg base CX0 6 f fd ["instance", "profile", "messages"] (sp_f_dynamics K C) :=
  fn_okX F sc_f_dynamics len_f_dynamics (x_f_dynamics T) (fun cdv A outer s H E hr => d_f_dynamics T G Z F_is_equilibrium F_after_step cdv A outer s H E hr)
end
end Gx
namespace Gx
open PySem PySem.Spec PyProof.Rows L2
/-! # The target: rules, manipulations, violations -/
def addScore (c : Nat) (sc : List Nat) (q : Nat × Nat) : List Nat := sc.set q.1 (sc.getD q.1 0 + c - 1 - q.2)
def scores (m : Mc) (p : List Nat) : List Nat := (List.range m.target.agentCount).foldl (fun sc i => (prf m i p).zipIdx.foldl (addScore m.target.alternativeCount) sc) (List.replicate m.target.alternativeCount 0)
def bordaW (m : Mc) (p : List Nat) : Nat := (scores m p).idxOf (maxL (scores m p))
def bordaL (m : Mc) : List Nat := (allLists (sizesM m)).map (bordaW m)
def dictL (m : Mc) (i : Nat) : List Nat := (allLists (sizesM m)).map fun p => (prf m i p).getD 0 0
def gain (m : Mc) (p : List Nat) (i k : Nat) : Bool := Su193.prefers (prf m i p) (tgt m (p.set i k)) (tgt m p)
def manip (m : Mc) (p : List Nat) : Option (List Nat) := (List.range m.target.agentCount).findSome? fun i => (List.range (domM m i).length).findSome? fun k => if gain m p i k = true then some [i, k] else none
def manip1 (m : Mc) : Option (List Nat) := (allLists (sizesM m)).findSome? fun p => (manip m p).map fun l => l ++ p
def keep (r : List Nat) (x : Nat) (o : List Nat) : Bool := !(r.drop (r.idxOf x)).any fun y => Su193.prefers o y x
def keepL (m : Mc) (p : List Nat) (i : Nat) : List Bool := (domM m i).map fun o => keep (prf m i p) (tgt m p) o
def kept (m : Mc) (p : List Nat) : List (List Bool) := (List.range m.target.agentCount).map (keepL m p)
def violQ (m : Mc) (p : List Nat) (q : List Nat × Nat) : Bool := (m.target.outcomes.getD q.2 0 != tgt m p) && ((kept m p).zip q.1).all fun z => z.1.getD z.2 false
def viol (m : Mc) (p : List Nat) : Option (List Nat) := (allLists (sizesM m)).zipIdx.findSome? fun q => if violQ m p q = true then some q.1 else none
def viol1 (m : Mc) : Option (List Nat) := (allLists (sizesM m)).findSome? fun p => (viol m p).map fun q => p ++ q
def orNone : Option (List Nat) → List Int
  | none => [-33]
  | some l => l.map fun n : Nat => (n : Int)
def resultOf : Option (List Nat) → List Int
  | none => [1]
  | some l => 0 :: l.map fun n : Nat => (n : Int)
def P_f_dictatorship : List Sl → PyData → Prop := fun xs d => ∃ (m : Mc) (i : Nat), xs = [.ins m, .dat (nI i)] ∧ (Wf m ∧ i < m.target.agentCount) ∧ d = nL (dictL m i)
def P_f_borda_scores : List Sl → PyData → Prop := fun xs d => ∃ (m : Mc) (p : List Nat), xs = [.ins m, .dat (nL p)] ∧ (Wf m ∧ within p (sizesM m) = true) ∧ d = nL (scores m p)
def P_f_borda_winner : List Sl → PyData → Prop := fun xs d => ∃ (m : Mc) (p : List Nat), xs = [.ins m, .dat (nL p)] ∧ (Wf m ∧ within p (sizesM m) = true) ∧ d = nI (bordaW m p)
def P_f_borda : List Sl → PyData → Prop := fun xs d => ∃ m : Mc, xs = [.ins m] ∧ Wf m ∧ d = nL (bordaL m)
def P_f_does_gain : List Sl → PyData → Prop := fun xs d => ∃ (m : Mc) (p : List Nat) (i k : Nat), xs = [.ins m, .dat (nL p), .dat (nI i), .dat (nI k)] ∧ (Wf m ∧ within p (sizesM m) = true ∧ i < m.target.agentCount ∧ k < (domM m i).length) ∧ d = .bool (gain m p i k)
def P_f_manipulation_at : List Sl → PyData → Prop := fun xs d => ∃ (m : Mc) (p : List Nat), xs = [.ins m, .dat (nL p)] ∧ (Wf m ∧ within p (sizesM m) = true) ∧ d = optL (manip m p)
def P_f_first_manipulation : List Sl → PyData → Prop := fun xs d => ∃ m : Mc, xs = [.ins m] ∧ Wf m ∧ d = optL (manip1 m)
def P_f_does_keep : List Sl → PyData → Prop := fun xs d => ∃ (r : List Nat) (x : Nat) (o : List Nat), xs = [.dat (nL r), .dat (nI x), .dat (nL o)] ∧ (x ∈ r ∧ (∀ y ∈ r, y ∈ o) ∧ r.length ≤ 1000) ∧ d = .bool (keep r x o)
def P_f_keeping : List Sl → PyData → Prop := fun xs d => ∃ (m : Mc) (p : List Nat) (i : Nat), xs = [.ins m, .dat (nL p), .dat (nI i)] ∧ (Wf m ∧ within p (sizesM m) = true ∧ i < m.target.agentCount) ∧ d = bL (keepL m p i)
def P_f_violation_from : List Sl → PyData → Prop := fun xs d => ∃ (m : Mc) (p : List Nat), xs = [.ins m, .dat (nL p), .dat (nLL (allLists (sizesM m)))] ∧ (Wf m ∧ within p (sizesM m) = true) ∧ d = optL (viol m p)
def P_f_first_violation : List Sl → PyData → Prop := fun xs d => ∃ m : Mc, xs = [.ins m] ∧ Wf m ∧ d = optL (viol1 m)
def P_f_or_none : List Sl → PyData → Prop := fun xs d => ∃ o : Option (List Nat), xs = [.dat (optL o)] ∧ (True ∧ True) ∧ d = iL (orNone o)
def P_f_result_of : List Sl → PyData → Prop := fun xs d => ∃ o : Option (List Nat), xs = [.dat (optL o)] ∧ (∀ l, o = some l → l.length ≤ 1000) ∧ d = iL (resultOf o)
def P_f_has_preference : List Sl → PyData → Prop := fun xs d => ∃ (m : Mc) (i k : Nat), xs = [.ins m, .dat (nI i), .dat (nI k)] ∧ Wf m ∧ d = .bool (decide (i < m.target.agentCount) && decide (k < (domM m i).length))
def P_f_are_sets : List Sl → PyData → Prop := fun xs d => ∃ (m : Mc) (c a : Nat), xs = [.ins m, .dat (nI c), .dat (nI a)] ∧ Wf m ∧ d = .bool (decide (c < 2 ^ m.target.agentCount) && decide (a < 2 ^ m.target.alternativeCount))
def part (s : List Nat) (c : Nat) (b : Bool) : List Nat := (s.zipIdx.filter fun q => hasB c q.2 == b).map fun q => q.1
def P_f_part_of : List Sl → PyData → Prop := fun xs d => ∃ (s : List Nat) (c : Nat) (b : Bool), xs = [.dat (nL s), .dat (nI c), .dat (.bool b)] ∧ s.length ≤ 6 ∧ d = .tuple ((part s c b).map nI)
abbrev sp_f_dictatorship (K : PySem.W.Frag) (C : Addr) : Sp := spF K C P_f_dictatorship
theorem len_f_dictatorship : ∀ xs d, P_f_dictatorship xs d → xs.length = 2 := fun xs d ⟨_, _, e, _⟩ => by rw [e] <;> rfl
abbrev sp_f_borda_scores (K : PySem.W.Frag) (C : Addr) : Sp := spF K C P_f_borda_scores
theorem len_f_borda_scores : ∀ xs d, P_f_borda_scores xs d → xs.length = 2 := fun xs d ⟨_, _, e, _⟩ => by rw [e] <;> rfl
abbrev sp_f_borda_winner (K : PySem.W.Frag) (C : Addr) : Sp := spF K C P_f_borda_winner
theorem len_f_borda_winner : ∀ xs d, P_f_borda_winner xs d → xs.length = 2 := fun xs d ⟨_, _, e, _⟩ => by rw [e] <;> rfl
abbrev sp_f_borda (K : PySem.W.Frag) (C : Addr) : Sp := spF K C P_f_borda
theorem len_f_borda : ∀ xs d, P_f_borda xs d → xs.length = 1 := fun xs d ⟨_, e, _⟩ => by rw [e] <;> rfl
abbrev sp_f_does_gain (K : PySem.W.Frag) (C : Addr) : Sp := spF K C P_f_does_gain
theorem len_f_does_gain : ∀ xs d, P_f_does_gain xs d → xs.length = 4 := fun xs d ⟨_, _, _, _, e, _⟩ => by rw [e] <;> rfl
abbrev sp_f_manipulation_at (K : PySem.W.Frag) (C : Addr) : Sp := spF K C P_f_manipulation_at
theorem len_f_manipulation_at : ∀ xs d, P_f_manipulation_at xs d → xs.length = 2 := fun xs d ⟨_, _, e, _⟩ => by rw [e] <;> rfl
abbrev sp_f_first_manipulation (K : PySem.W.Frag) (C : Addr) : Sp := spF K C P_f_first_manipulation
theorem len_f_first_manipulation : ∀ xs d, P_f_first_manipulation xs d → xs.length = 1 := fun xs d ⟨_, e, _⟩ => by rw [e] <;> rfl
abbrev sp_f_does_keep (K : PySem.W.Frag) (C : Addr) : Sp := spF K C P_f_does_keep
theorem len_f_does_keep : ∀ xs d, P_f_does_keep xs d → xs.length = 3 := fun xs d ⟨_, _, _, e, _⟩ => by rw [e] <;> rfl
abbrev sp_f_keeping (K : PySem.W.Frag) (C : Addr) : Sp := spF K C P_f_keeping
theorem len_f_keeping : ∀ xs d, P_f_keeping xs d → xs.length = 3 := fun xs d ⟨_, _, _, e, _⟩ => by rw [e] <;> rfl
abbrev sp_f_violation_from (K : PySem.W.Frag) (C : Addr) : Sp := spF K C P_f_violation_from
theorem len_f_violation_from : ∀ xs d, P_f_violation_from xs d → xs.length = 3 := fun xs d ⟨_, _, e, _⟩ => by rw [e] <;> rfl
abbrev sp_f_first_violation (K : PySem.W.Frag) (C : Addr) : Sp := spF K C P_f_first_violation
theorem len_f_first_violation : ∀ xs d, P_f_first_violation xs d → xs.length = 1 := fun xs d ⟨_, e, _⟩ => by rw [e] <;> rfl
abbrev sp_f_or_none (K : PySem.W.Frag) (C : Addr) : Sp := spF K C P_f_or_none
theorem len_f_or_none : ∀ xs d, P_f_or_none xs d → xs.length = 1 := fun xs d ⟨_, e, _⟩ => by rw [e] <;> rfl
abbrev sp_f_result_of (K : PySem.W.Frag) (C : Addr) : Sp := spF K C P_f_result_of
theorem len_f_result_of : ∀ xs d, P_f_result_of xs d → xs.length = 1 := fun xs d ⟨_, e, _⟩ => by rw [e] <;> rfl
abbrev sp_f_has_preference (K : PySem.W.Frag) (C : Addr) : Sp := spF K C P_f_has_preference
theorem len_f_has_preference : ∀ xs d, P_f_has_preference xs d → xs.length = 3 := fun xs d ⟨_, _, _, e, _⟩ => by rw [e] <;> rfl
abbrev sp_f_are_sets (K : PySem.W.Frag) (C : Addr) : Sp := spF K C P_f_are_sets
theorem len_f_are_sets : ∀ xs d, P_f_are_sets xs d → xs.length = 3 := fun xs d ⟨_, _, _, e, _⟩ => by rw [e] <;> rfl
abbrev sp_f_part_of (K : PySem.W.Frag) (C : Addr) : Sp := spF K C P_f_part_of
theorem len_f_part_of : ∀ xs d, P_f_part_of xs d → xs.length = 3 := fun xs d ⟨_, _, _, e, _⟩ => by rw [e] <;> rfl
/-! ### readings (printed by gen.py) -/
/-- 0 instance, 1 agent, 2 profile -/
def t_f_dictatorship (K : PySem.W.Frag) (C : Addr) : TS :=
    (tRet (tLc (iList K (tMeth C "profiles" (sp_m_profiles K C) [] E0 (tVar 0) tNil)) (gName 2) tYes (tOp (rIxL K) (tMeth C "preference_of" (sp_m_preference_of K C) [] E0 (tVar 0) (tCons (tVar 1) (tCons (tVar 2) tNil))) (tC (.int 0))) [2]))
/-- 0 instance, 1 profile, 2 scores, 3 agent, 4 index, 5 alternative -/
def t_f_borda_scores (K : PySem.W.Frag) (C : Addr) : TS :=
    (tSeq (tAsg (tOp rRep (tLst (tCons (tC (.int 0)) tNil)) (tFld K (tVar 0) "alternative_count")) (gName 2))
    (tSeq (tFor (iList K (tMeth C "agents" (sp_m_agents K C) [] E0 (tVar 0) tNil)) (gName 3) (tFor (iEnum K (tCons (tMeth C "preference_of" (sp_m_preference_of K C) [] E0 (tVar 0) (tCons (tVar 3) (tCons (tVar 1) tNil))) tNil)) (gTup K 2 (gCons (gName 4) (gCons (gName 5) gNil))) (tAsg (tOp rSubI (tOp rSubI (tOp rAddI (tOp (rIxL K) (tVar 2) (tVar 5)) (tFld K (tVar 0) "alternative_count")) (tC (.int 1))) (tVar 4)) (gSub (tVar 2) (tVar 5) rSetL))))
    (tRet (tVar 2))))
/-- 0 instance, 1 profile, 2 scores -/
def t_f_borda_winner (K : PySem.W.Frag) (C : Addr) : TS :=
    (tSeq (tAsg (tCall (sp_f_borda_scores K C) [] E0 (tCons (tVar 0) (tCons (tVar 1) tNil))) (gName 2))
    (tRet (tBM K "list" (rIndex K) (tVar 2) (tCons (tCB (rMax K) (tCons (tVar 2) tNil)) tNil))))
/-- 0 instance, 1 profile -/
def t_f_borda (K : PySem.W.Frag) (C : Addr) : TS :=
    (tRet (tLc (iList K (tMeth C "profiles" (sp_m_profiles K C) [] E0 (tVar 0) tNil)) (gName 1) tYes (tCall (sp_f_borda_winner K C) [] E0 (tCons (tVar 0) (tCons (tVar 1) tNil))) [1]))
/-- 0 instance, 1 profile, 2 agent, 3 other, 4 there -/
def t_f_does_gain (K : PySem.W.Frag) (C : Addr) : TS :=
    (tSeq (tAsg (tMeth C "target_at" (sp_m_target_at K C) [] E0 (tVar 0) (tCons (tCall (sp_f_with_number K C) [] E0 (tCons (tVar 1) (tCons (tVar 2) (tCons (tVar 3) tNil)))) tNil)) (gName 4))
    (tRet (tCall (sp_f_prefers K C) [] E0 (tCons (tMeth C "preference_of" (sp_m_preference_of K C) [] E0 (tVar 0) (tCons (tVar 2) (tCons (tVar 1) tNil))) (tCons (tVar 4) (tCons (tMeth C "target_at" (sp_m_target_at K C) [] E0 (tVar 0) (tCons (tVar 1) tNil)) tNil))))))
/-- 0 instance, 1 profile, 2 agent, 3 other -/
def t_f_manipulation_at (K : PySem.W.Frag) (C : Addr) : TS :=
    (tSeq (tFor (iList K (tMeth C "agents" (sp_m_agents K C) [] E0 (tVar 0) tNil)) (gName 2) (tFor (iRng1 (tCons (tCB (rLenS K) (tCons (tOp (rIxL K) (tFld K (tVar 0) "domains") (tVar 2)) tNil)) tNil)) (gName 3) (tIfS (tB (tCall (sp_f_does_gain K C) [] E0 (tCons (tVar 0) (tCons (tVar 1) (tCons (tVar 2) (tCons (tVar 3) tNil)))))) (tRet (tLst (tCons (tVar 2) (tCons (tVar 3) tNil)))) tNext)))
    (tRet (tC .non)))
/-- 0 instance, 1 profile, 2 found -/
def t_f_first_manipulation (K : PySem.W.Frag) (C : Addr) : TS :=
    (tSeq (tFor (iList K (tMeth C "profiles" (sp_m_profiles K C) [] E0 (tVar 0) tNil)) (gName 1) (tSeq (tAsg (tCall (sp_f_manipulation_at K C) [] E0 (tCons (tVar 0) (tCons (tVar 1) tNil))) (gName 2))
    (tIfS (tTest (tOp rNoN (tVar 2) (tC .non))) (tRet (tOp rCat (tVar 2) (tVar 1))) tNext)))
    (tRet (tC .non)))
/-- 0 ranking, 1 outcome, 2 other, 3 below -/
def t_f_does_keep (K : PySem.W.Frag) (C : Addr) : TS :=
    (tRet (tNotV (tCB (rAny K) (tCons (tLc (iList K (tCall (sp_f_not_preferred K C) [] E0 (tCons (tVar 0) (tCons (tVar 1) tNil)))) (gName 3) tYes (tCall (sp_f_prefers K C) [] E0 (tCons (tVar 2) (tCons (tVar 3) (tCons (tVar 1) tNil)))) [3]) tNil))))
/-- 0 instance, 1 profile, 2 agent, 3 ranking, 4 outcome, 5 other -/
def t_f_keeping (K : PySem.W.Frag) (C : Addr) : TS :=
    (tSeq (tAsg (tTup (tCons (tMeth C "preference_of" (sp_m_preference_of K C) [] E0 (tVar 0) (tCons (tVar 2) (tCons (tVar 1) tNil))) (tCons (tMeth C "target_at" (sp_m_target_at K C) [] E0 (tVar 0) (tCons (tVar 1) tNil)) tNil))) (gTup K 2 (gCons (gName 3) (gCons (gName 4) gNil))))
    (tRet (tLc (iList K (tOp (rIxL K) (tFld K (tVar 0) "domains") (tVar 2))) (gName 5) tYes (tCall (sp_f_does_keep K C) [] E0 (tCons (tVar 3) (tCons (tVar 4) (tCons (tVar 5) tNil)))) [5])))
/-- 0 instance, 1 profile, 2 profiles, 3 outcome, 4 kept, 5 place, 6 other, 7 agent, 8 row, 9 report -/
def t_f_violation_from (K : PySem.W.Frag) (C : Addr) : TS :=
    (tSeq (tAsg (tMeth C "target_at" (sp_m_target_at K C) [] E0 (tVar 0) (tCons (tVar 1) tNil)) (gName 3))
    (tSeq (tAsg (tLc (iList K (tMeth C "agents" (sp_m_agents K C) [] E0 (tVar 0) tNil)) (gName 7) tYes (tCall (sp_f_keeping K C) [] E0 (tCons (tVar 0) (tCons (tVar 1) (tCons (tVar 7) tNil)))) [7]) (gName 4))
    (tSeq (tFor (iEnum K (tCons (tVar 2) tNil)) (gTup K 2 (gCons (gName 5) (gCons (gName 6) gNil))) (tIfS (tAnd (tTest (tOp rNe (tOp (rIxL K) (tFld K (tVar 0) "target") (tVar 5)) (tVar 3))) (tB (tCB (rAll K) (tCons (tLc (iZip K (tCons (tVar 4) (tCons (tVar 6) tNil))) (gTup K 2 (gCons (gName 8) (gCons (gName 9) gNil))) tYes (tOp (rIxL K) (tVar 8) (tVar 9)) [8, 9]) tNil)))) (tRet (tVar 6)) tNext))
    (tRet (tC .non)))))
/-- 0 instance, 1 profiles, 2 profile, 3 found -/
def t_f_first_violation (K : PySem.W.Frag) (C : Addr) : TS :=
    (tSeq (tAsg (tMeth C "profiles" (sp_m_profiles K C) [] E0 (tVar 0) tNil) (gName 1))
    (tSeq (tFor (iList K (tVar 1)) (gName 2) (tSeq (tAsg (tCall (sp_f_violation_from K C) [] E0 (tCons (tVar 0) (tCons (tVar 2) (tCons (tVar 1) tNil)))) (gName 3))
    (tIfS (tTest (tOp rNoN (tVar 3) (tC .non))) (tRet (tOp rCat (tVar 2) (tVar 3))) tNext)))
    (tRet (tC .non))))
/-- 0 found -/
def t_f_or_none (K : PySem.W.Frag) (C : Addr) : TS :=
    (tRet (tIf (tTest (tOp rIsN (tVar 0) (tC .non))) (tLst (tCons (tC (.int (-33))) tNil)) (tVar 0)))
/-- 0 failure -/
def t_f_result_of (K : PySem.W.Frag) (C : Addr) : TS :=
    (tRet (tIf (tTest (tOp rIsN (tVar 0) (tC .non))) (tLst (tCons (tC (.int 1)) tNil)) (tOp rCat (tLst (tCons (tC (.int 0)) tNil)) (tVar 0))))
/-- 0 instance, 1 agent, 2 preference -/
def t_f_has_preference (K : PySem.W.Frag) (C : Addr) : TS :=
    (tRet (tAndV (tOp rLtI (tVar 1) (tFld K (tVar 0) "agent_count")) (tOp rLtI (tVar 2) (tCB (rLenS K) (tCons (tOp (rIxL K) (tFld K (tVar 0) "domains") (tVar 1)) tNil)))))
/-- 0 instance, 1 coalition, 2 alternatives -/
def t_f_are_sets (K : PySem.W.Frag) (C pw : Addr) : TS :=
    (tRet (tAndV (tOp rLtI (tVar 1) (tOp (rIxT K) (tC (.ref pw)) (tFld K (tVar 0) "agent_count"))) (tOp rLtI (tVar 2) (tOp (rIxT K) (tC (.ref pw)) (tFld K (tVar 0) "alternative_count")))))
/-- 0 messages, 1 coalition, 2 is_inside, 3 agent, 4 message -/
def t_f_part_of (K : PySem.W.Frag) (C : Addr) : TS :=
    (tRet (tCB (rTupS K) (tCons (tLc (iEnum K (tCons (tVar 0) tNil)) (gTup K 2 (gCons (gName 3) (gCons (gName 4) gNil))) (tTest (tOp rEq (tCall (sp_f_has K C) [] E0 (tCons (tVar 1) (tCons (tVar 3) tNil))) (tVar 2))) (tVar 4) [3, 4]) tNil)))
theorem nats_iL (l : List Nat) : nL l = iL (l.map fun n : Nat => (n : Int)) := by
  show PyData.list (l.map nI) = PyData.list ((l.map fun n : Nat => (n : Int)).map PyData.int)
  rw [nats_int]
theorem add_len (c : Nat) : ∀ (l : List (Nat × Nat)) (sc : List Nat), (l.foldl (addScore c) sc).length = sc.length
  | [], _ => rfl
  | q :: r, sc => by
    rw [List.foldl_cons, add_len c r]
    unfold addScore
    rw [List.length_set]
theorem sco_len (m : Mc) (p : List Nat) : ∀ (l : List Nat) (sc : List Nat), (l.foldl (fun sc i => (prf m i p).zipIdx.foldl (addScore m.target.alternativeCount) sc) sc).length = sc.length
  | [], _ => rfl
  | i :: r, sc => by rw [List.foldl_cons, sco_len m p r, add_len]
theorem scores_len (m : Mc) (p : List Nat) : (scores m p).length = m.target.alternativeCount := by
  unfold scores
  rw [sco_len, List.length_replicate]
theorem max_in {ns : List Nat} (h : ns ≠ []) : maxL ns ∈ ns := by
  rcases max_mem ns 0 with q | q
  · cases ns with
    | nil => exact absurd rfl h
    | cons a r =>
      have h1 := (max_le (a :: r) 0).2 a List.mem_cons_self
      unfold maxL
      rw [q] at h1 ⊢
      have : a = 0 := Nat.le_zero.mp h1
      rw [this]
      exact List.mem_cons_self
  · exact q
theorem find_map {α : Type} (f : α → Option (List Nat)) (xs : List α) : (xs.findSome? fun i => (f i).map nL).getD .none = optL (xs.findSome? f) := by
  induction xs with
  | nil => rfl
  | cons a r ih =>
    rw [List.findSome?_cons, List.findSome?_cons]
    cases f a with
    | none => exact ih
    | some l => rfl
section
variable {K : PySem.W.Frag} {C : Addr}
theorem x_f_dictatorship (T : Tx K C) : ∀ xs d, P_f_dictatorship xs d → X K C (t_f_dictatorship K C) (xs ++ List.replicate (N_f_dictatorship.length - 2) .any) (.rt d) := by
  rintro xs d ⟨m, i, rfl, ⟨W, hi⟩, rfl⟩
  have hv := W.v2
  refine x_ret (e_is (e_new (en_lc0 (js := [2]) (xs := allLists (sizesM m)) (enc := nL) (f := fun p => nI ((prf m i p).getD 0 0)) (ei_list (e_meth (fun _ _ _ _ => fl_no (by decide +kernel)) (e_var rfl) ea_nil ⟨_, rfl, W, rfl⟩)) (by have := W.pr_len; omega) (fun _ h => h) fun p hp => ⟨_, ga_name, ?_⟩)) ?_)
  · have hr := W.prf_rk hi (mem_all.mp hp)
    exact e_ixM (e_meth (fun _ _ _ _ => fl_no (by decide +kernel)) (e_var rfl) (ea_cons (e_var rfl) (ea_one (e_var rfl))) ⟨_, _, _, rfl, ⟨W, hi, mem_all.mp hp⟩, rfl⟩) (e_cN 0) (getD_at (by rw [hr.1]; omega))
  · show PyData.list _ = PyData.list (((allLists (sizesM m)).map _).map nI)
    rw [List.map_map]
    rfl
theorem x_f_borda_scores (T : Tx K C) : ∀ xs d, P_f_borda_scores xs d → X K C (t_f_borda_scores K C) (xs ++ List.replicate (N_f_borda_scores.length - 2) .any) (.rt d) := by
  rintro xs d ⟨m, p, rfl, ⟨W, hp⟩, rfl⟩
  have ha := W.a3
  have hv2 := W.v2
  have hv4 := W.v4
  have h := x_forF (K := K) (C := C) (ρ := [.ins m, .dat (nL p), .ol ((List.replicate m.target.alternativeCount 0).map nI), .any, .any, .any]) (wi := iList K (tMeth C "agents" (sp_m_agents K C) [] E0 (tVar 0) tNil)) (g := gName 3)
    (tb := tFor (iEnum K (tCons (tMeth C "preference_of" (sp_m_preference_of K C) [] E0 (tVar 0) (tCons (tVar 3) (tCons (tVar 1) tNil))) tNil)) (gTup K 2 (gCons (gName 4) (gCons (gName 5) gNil))) (tAsg (tOp rSubI (tOp rSubI (tOp rAddI (tOp (rIxL K) (tVar 2) (tVar 5)) (tFld K (tVar 0) "alternative_count")) (tC (.int 1))) (tVar 4)) (gSub (tVar 2) (tVar 5) rSetL)))
    (xs := List.range m.target.agentCount) (enc := nI) (fun sc => [.ins m, .dat (nL p), .ol (sc.map nI), .any, .any, .any]) (fun sc i => (prf m i p).zipIdx.foldl (addScore m.target.alternativeCount) sc) (List.replicate m.target.alternativeCount 0)
    (ei_list (e_meth (fun _ _ _ _ => fl_no (by decide +kernel)) (e_var rfl) ea_nil ⟨_, rfl, by omega, rfl⟩)) (Wk.refl _) (fun pre i post e => ?_)
  · refine x_seq (x_asgN (en_is (en_rep (e_new (en_lst (ds := [nI 0]) (ea_one (e_cN 0)) (by show 1 ≤ 10000000; omega))) (e_fV T (e_var rfl)) (by omega)) (by rw [List.map_replicate]))) (x_seq h (x_retO rfl))
  · have hi := List.mem_range.mp (mem_mid e)
    have hr := W.prf_rk hi hp
    refine ⟨_, _, ga_name, _, x_forF (fun sc => [.ins m, .dat (nL p), .ol (sc.map nI), .dat (nI i), .any, .any]) (addScore m.target.alternativeCount) (pre.foldl (fun sc i => (prf m i p).zipIdx.foldl (addScore m.target.alternativeCount) sc) (List.replicate m.target.alternativeCount 0)) (ei_enum (f := nI) (e_meth (fun _ _ _ _ => fl_no (by decide +kernel)) (e_var rfl) (ea_cons (e_var rfl) (ea_one (e_var rfl))) ⟨_, _, _, rfl, ⟨W, hi, hp⟩, rfl⟩)) (by walk_at "wk") (fun pre2 q post2 e2 => ?_), by walk_at "wk"⟩
    have hq : q ∈ (prf m i p).zipIdx := mem_mid e2
    obtain ⟨j, hj, e3⟩ := List.mem_iff_getElem.mp hq
    have h5 := zipIdx_at (show (prf m i p).zipIdx[j]? = some q by rw [List.getElem?_eq_getElem hj, e3])
    have h6 : q.1 < m.target.alternativeCount := hr.2.2 _ (List.mem_of_getElem? h5.1)
    have h7 : q.2 < m.target.alternativeCount := by
      rw [h5.2, ← hr.1]
      exact (List.getElem?_eq_some_iff.mp h5.1).1
    have hl : (pre2.foldl (addScore m.target.alternativeCount) (pre.foldl (fun sc i => (prf m i p).zipIdx.foldl (addScore m.target.alternativeCount) sc) (List.replicate m.target.alternativeCount 0))).length = m.target.alternativeCount := by
      rw [add_len, sco_len, List.length_replicate]
    generalize pre2.foldl (addScore m.target.alternativeCount) (pre.foldl (fun sc i => (prf m i p).zipIdx.foldl (addScore m.target.alternativeCount) sc) (List.replicate m.target.alternativeCount 0)) = sc at hl ⊢
    refine ⟨_, _, ga_2, _, x_setO (n := q.1) (e_sub (e_sub (e_add (e_ixO (n := q.1) (d := nI (sc.getD q.1 0)) rfl (e_var rfl) ?_) (e_fV T (e_var rfl))) (e_cN 1) ?_) (e_var rfl) ?_) rfl (e_var rfl) (by rw [List.length_map, hl]; exact h6), ?_⟩
    · rw [List.getElem?_map, getD_at (d := 0) (by rw [hl]; exact h6)]
      rfl
    · omega
    · omega
    · refine ⟨.inl rfl, .inl rfl, .inl ?_, .inl rfl, .inr rfl, .inr rfl, trivial⟩
      show Sl.ol _ = Sl.ol _
      unfold addScore
      rw [List.map_set]
theorem x_f_borda_winner (T : Tx K C) : ∀ xs d, P_f_borda_winner xs d → X K C (t_f_borda_winner K C) (xs ++ List.replicate (N_f_borda_winner.length - 2) .any) (.rt d) := by
  rintro xs d ⟨m, p, rfl, ⟨W, hp⟩, rfl⟩
  have hne : scores m p ≠ [] := fun e => by
    have := scores_len m p
    rw [e] at this
    have := W.v2
    simp at *
    omega
  exact x_seq (x_asgE (e_call (ea_cons (e_var rfl) (ea_one (e_var rfl))) ⟨_, _, rfl, ⟨W, hp⟩, rfl⟩)) (x_ret (e_index (e_var rfl) (e_max (e_var rfl) hne) (max_in hne)))
theorem x_f_borda (T : Tx K C) : ∀ xs d, P_f_borda xs d → X K C (t_f_borda K C) (xs ++ List.replicate (N_f_borda.length - 1) .any) (.rt d) := by
  rintro xs d ⟨m, rfl, W, rfl⟩
  refine x_ret (e_is (e_new (en_lc0 (js := [1]) (xs := allLists (sizesM m)) (enc := nL) (f := fun p => nI (bordaW m p)) (ei_list (e_meth (fun _ _ _ _ => fl_no (by decide +kernel)) (e_var rfl) ea_nil ⟨_, rfl, W, rfl⟩)) (by have := W.pr_len; omega) (fun _ h => h)
    fun p hp => ⟨_, ga_name, e_call (ea_cons (e_var rfl) (ea_one (e_var rfl))) ⟨_, _, rfl, ⟨W, mem_all.mp hp⟩, rfl⟩⟩)) ?_)
  show PyData.list _ = PyData.list (((allLists (sizesM m)).map _).map nI)
  rw [List.map_map]
  rfl
theorem x_f_does_gain (T : Tx K C) : ∀ xs d, P_f_does_gain xs d → X K C (t_f_does_gain K C) (xs ++ List.replicate (N_f_does_gain.length - 4) .any) (.rt d) := by
  rintro xs d ⟨m, p, i, k, rfl, ⟨W, hp, hi, hk⟩, rfl⟩
  have h1 : i < p.length := by rw [wn_len hp, W.szl]; exact hi
  have h2 : within (p.set i k) (sizesM m) = true := wn_set hp (by rw [W.sz_at hi]; exact hk)
  have hr := W.prf_rk hi hp
  exact x_seq (x_asgE (e_meth (fun _ _ _ _ => fl_no (by decide +kernel)) (e_var rfl) (ea_one (e_call (ea_cons (e_var rfl) (ea_cons (e_var rfl) (ea_one (e_var rfl)))) ⟨_, _, _, rfl, h1, rfl⟩)) ⟨_, _, rfl, ⟨W, h2⟩, rfl⟩))
    (x_ret (e_call (ea_cons (e_meth (fun _ _ _ _ => fl_no (by decide +kernel)) (e_var rfl) (ea_cons (e_var rfl) (ea_one (e_var rfl))) ⟨_, _, _, rfl, ⟨W, hi, hp⟩, rfl⟩) (ea_cons (e_var rfl) (ea_one (e_meth (fun _ _ _ _ => fl_no (by decide +kernel)) (e_var rfl) (ea_one (e_var rfl)) ⟨_, _, rfl, ⟨W, hp⟩, rfl⟩)))) ⟨_, _, _, rfl, ⟨rk_mem hr (W.tgt_lt h2), rk_mem hr (W.tgt_lt hp)⟩, rfl⟩))
theorem find_in {β : Type} (f : β → Bool) (g : β → List Nat) (xs : List β) : (xs.findSome? fun k => if f k = true then some (nL (g k)) else none) = (xs.findSome? fun k => if f k = true then some (g k) else none).map nL := by
  induction xs with
  | nil => rfl
  | cons a r ih =>
    rw [List.findSome?_cons, List.findSome?_cons]
    cases f a with
    | true => rfl
    | false => exact ih
theorem x_f_manipulation_at (T : Tx K C) : ∀ xs d, P_f_manipulation_at xs d → X K C (t_f_manipulation_at K C) (xs ++ List.replicate (N_f_manipulation_at.length - 2) .any) (.rt d) := by
  rintro xs d ⟨m, p, rfl, ⟨W, hp⟩, rfl⟩
  have ha := W.a3
  refine x_is (x_findM (xs := List.range m.target.agentCount) (enc := nI) [.ins m, .dat (nL p), .any, .any] (fun i => ((List.range (domM m i).length).findSome? fun k => if gain m p i k = true then some [i, k] else none).map nL) (ei_list (e_meth (fun _ _ _ _ => fl_no (by decide +kernel)) (e_var rfl) ea_nil ⟨_, rfl, by omega, rfl⟩)) (by walk_at "wk") (fun i hi => ?_) (fun _ => x_ret e_cZ)) (find_map _ _)
  have hi' := List.mem_range.mp hi
  have hl : (domM m i).length ≤ 6 := W.d6 _ (W.dom_mem hi')
  refine ⟨_, _, ga_name, ?_⟩
  have h := x_find0 (K := K) (C := C) (ρ := [.ins m, .dat (nL p), .dat (nI i), .any]) (wi := iRng1 (tCons (tCB (rLenS K) (tCons (tOp (rIxL K) (tFld K (tVar 0) "domains") (tVar 2)) tNil)) tNil)) (g := gName 3) (tb := tIfS (tB (tCall (sp_f_does_gain K C) [] E0 (tCons (tVar 0) (tCons (tVar 1) (tCons (tVar 2) (tCons (tVar 3) tNil)))))) (tRet (tLst (tCons (tVar 2) (tCons (tVar 3) tNil)))) tNext) (xs := List.range (domM m i).length) (enc := nI)
    [.ins m, .dat (nL p), .dat (nI i), .any] (fun k => if gain m p i k = true then some (nL [i, k]) else none) (ei_range (e_is (e_len (e_dom T (e_var rfl) (e_var rfl) (W.dom_at hi'))) (by rw [List.length_map])) (by omega)) (Wk.refl _) (fun k hk => ⟨_, _, ga_name, b_if (et_B (e_call (ea_cons (e_var rfl) (ea_cons (e_var rfl) (ea_cons (e_var rfl) (ea_one (e_var rfl))))) ⟨_, _, _, _, rfl, ⟨W, hp, hi', List.mem_range.mp hk⟩, rfl⟩)) (fun _ => x_ret (e_new (en_lst (ds := [nI i, nI k]) (ea_cons (e_var rfl) (ea_one (e_var rfl))) (by show 2 ≤ 10000000; omega)))) (by walk_at "wk")⟩)
  rw [find_in (fun k => gain m p i k) (fun k => [i, k])] at h
  cases e : (List.range (domM m i).length).findSome? fun k => if gain m p i k = true then some [i, k] else none with
  | none =>
    rw [e] at h
    exact ⟨_, h, by walk_at "wk"⟩
  | some l =>
    rw [e] at h
    exact h
theorem manip_len {m : Mc} {p l : List Nat} (e : manip m p = some l) : l.length = 2 := by
  unfold manip at e
  obtain ⟨i, _, e2⟩ := List.exists_of_findSome?_eq_some e
  obtain ⟨k, _, e3⟩ := List.exists_of_findSome?_eq_some e2
  split at e3
  · cases e3; rfl
  · cases e3
theorem x_f_first_manipulation (T : Tx K C) : ∀ xs d, P_f_first_manipulation xs d → X K C (t_f_first_manipulation K C) (xs ++ List.replicate (N_f_first_manipulation.length - 1) .any) (.rt d) := by
  rintro xs d ⟨m, rfl, W, rfl⟩
  have ha := W.a3
  refine x_is (x_findM (xs := allLists (sizesM m)) (enc := nL) [.ins m, .any, .any] (fun p => ((manip m p).map fun l => l ++ p).map nL) (ei_list (e_meth (fun _ _ _ _ => fl_no (by decide +kernel)) (e_var rfl) ea_nil ⟨_, rfl, W, rfl⟩)) (by walk_at "wk") (fun p hp => ?_) (fun _ => x_ret e_cZ)) (find_map _ _)
  have hw := mem_all.mp hp
  have hpl : p.length ≤ 3 := by rw [wn_len hw, W.szl]; exact ha
  refine ⟨_, _, ga_name, ?_⟩
  have hS : X K C (tAsg (tCall (sp_f_manipulation_at K C) [] E0 (tCons (tVar 0) (tCons (tVar 1) tNil))) (gName 2)) [.ins m, .dat (nL p), .any] (.nx [.ins m, .dat (nL p), .dat (optL (manip m p))]) := x_asgE (e_call (ea_cons (e_var rfl) (ea_one (e_var rfl))) ⟨_, _, rfl, ⟨W, hw⟩, rfl⟩)
  cases e : manip m p with
  | none =>
    rw [e] at hS
    exact ⟨_, x_seq hS (x_if (et_test (e_noN (d := .none) (e_var rfl) e_cZ)) (fun z => by cases z) fun _ => x_next), by walk_at "wk"⟩
  | some l =>
    rw [e] at hS
    refine x_seq hS (x_if (et_test (e_noN (d := nL l) (e_var rfl) e_cZ)) (fun _ => x_is (x_ret (e_new (en_cat (e_var (x := .dat (nL l)) rfl) (e_var rfl) ?_))) ?_) fun z => by cases z)
    · rw [List.length_map, List.length_map, manip_len e]; omega
    · show PyData.list _ = PyData.list ((l ++ p).map nI)
      rw [List.map_append]
theorem x_f_does_keep (T : Tx K C) : ∀ xs d, P_f_does_keep xs d → X K C (t_f_does_keep K C) (xs ++ List.replicate (N_f_does_keep.length - 3) .any) (.rt d) := by
  rintro xs d ⟨r, x, o, rfl, ⟨h1, h2, h3⟩, rfl⟩
  refine x_ret (e_notV (e_anyM (f := fun y => Su193.prefers o y x) (e_new (en_lc0 (js := [3]) (ei_list (e_call (ea_cons (e_var rfl) (ea_one (e_var rfl))) ⟨_, _, rfl, h1, rfl⟩)) (by rw [List.length_drop]; omega) (fun _ h => h) fun y hy => ⟨_, ga_name, ?_⟩))))
  exact e_call (ea_cons (e_var rfl) (ea_cons (e_var rfl) (ea_one (e_var rfl)))) ⟨_, _, _, rfl, ⟨h2 y (List.mem_of_mem_drop hy), h2 x h1⟩, rfl⟩
theorem x_f_keeping (T : Tx K C) : ∀ xs d, P_f_keeping xs d → X K C (t_f_keeping K C) (xs ++ List.replicate (N_f_keeping.length - 3) .any) (.rt d) := by
  rintro xs d ⟨m, p, i, rfl, ⟨W, hp, hi⟩, rfl⟩
  have hl : (domM m i).length ≤ 6 := W.d6 _ (W.dom_mem hi)
  have hr := W.prf_rk hi hp
  have hv := W.v4
  refine x_seq (x_asg (e_tup (ds := [nL (prf m i p), nI (tgt m p)]) (ea_cons (e_meth (fun _ _ _ _ => fl_no (by decide +kernel)) (e_var rfl) (ea_cons (e_var rfl) (ea_one (e_var rfl))) ⟨_, _, _, rfl, ⟨W, hi, hp⟩, rfl⟩) (ea_one (e_meth (fun _ _ _ _ => fl_no (by decide +kernel)) (e_var rfl) (ea_one (e_var rfl)) ⟨_, _, rfl, ⟨W, hp⟩, rfl⟩))) (by show 2 ≤ 1000; omega)) ga_2) ?_
  refine x_ret (e_is (e_new (en_lc0 (js := [5]) (xs := domM m i) (enc := nL) (f := fun o => .bool (keep (prf m i p) (tgt m p) o)) (ei_list (e_dom T (e_var rfl) (e_var rfl) (W.dom_at hi))) (by omega) (fun _ h => h) fun o ho => ⟨_, ga_name, ?_⟩)) ?_)
  · exact e_call (ea_cons (e_var rfl) (ea_cons (e_var rfl) (ea_one (e_var rfl)))) ⟨_, _, _, rfl, ⟨rk_mem hr (W.tgt_lt hp), fun y hy => rk_mem (W.dom_rk hi ho) (hr.2.2 y hy), by rw [hr.1]; omega⟩, rfl⟩
  · show PyData.list _ = PyData.list (((domM m i).map _).map PyData.bool)
    rw [List.map_map]
    rfl
theorem x_f_violation_from (T : Tx K C) : ∀ xs d, P_f_violation_from xs d → X K C (t_f_violation_from K C) (xs ++ List.replicate (N_f_violation_from.length - 3) .any) (.rt d) := by
  rintro xs d ⟨m, p, rfl, ⟨W, hp⟩, rfl⟩
  have ha : m.target.agentCount ≤ 3 := W.a3
  have hT := en_lc0 (K := K) (C := C) (ρ := [.ins m, .dat (nL p), .dat (nLL (allLists (sizesM m))), .dat (nI (tgt m p)), .any, .any, .any, .any, .any, .any]) (wi := iList K (tMeth C "agents" (sp_m_agents K C) [] E0 (tVar 0) tNil)) (g := gName 7) (te := tCall (sp_f_keeping K C) [] E0 (tCons (tVar 0) (tCons (tVar 1) (tCons (tVar 7) tNil)))) (js := [7]) (vs := [7]) (xs := List.range m.target.agentCount) (enc := nI) (f := fun i => bL (keepL m p i))
    (ei_list (e_meth (fun _ _ _ _ => fl_no (by decide +kernel)) (e_var rfl) ea_nil ⟨_, rfl, by omega, rfl⟩)) (by rw [List.length_range]; omega) (fun _ h => h)
    fun i hi => ⟨_, ga_name, e_call (ea_cons (e_var rfl) (ea_cons (e_var rfl) (ea_one (e_var rfl)))) ⟨_, _, _, rfl, ⟨W, hp, List.mem_range.mp hi⟩, rfl⟩⟩
  have hT2 : ((List.range m.target.agentCount).map fun i => bL (keepL m p i)) = (kept m p).map bL := by
    unfold kept
    rw [List.map_map]
    rfl
  rw [hT2] at hT
  refine x_seq (x_asgE (e_meth (fun _ _ _ _ => fl_no (by decide +kernel)) (e_var rfl) (ea_one (e_var rfl)) ⟨_, _, rfl, ⟨W, hp⟩, rfl⟩)) (x_seq (x_asgE (e_new hT)) ?_)
  refine x_is (x_findM (xs := (allLists (sizesM m)).zipIdx) (enc := fun q => .tuple [nI q.2, nL q.1]) [.ins m, .dat (nL p), .dat (nLL (allLists (sizesM m))), .dat (nI (tgt m p)), .dat (bLL (kept m p)), .any, .any, .any, .any, .any] (fun q => if violQ m p q = true then some (nL q.1) else none) (ei_enum (f := nL) (e_var rfl)) (by walk_at "wk") (fun q hq => ?_) (fun _ => x_ret e_cZ)) ?_
  · obtain ⟨j, hj, e⟩ := List.mem_iff_getElem.mp hq
    have h5 := zipIdx_at (show (allLists (sizesM m)).zipIdx[j]? = some q by rw [List.getElem?_eq_getElem hj, e])
    have hw : within q.1 (sizesM m) = true := mem_all.mp (List.mem_of_getElem? h5.1)
    have hql : q.1.length = m.target.agentCount := by rw [wn_len hw, W.szl]
    have hj2 : q.2 < m.target.outcomes.length := by
      rw [h5.2, W.tl, ← enum_len, ← allLists_eq]
      exact (List.getElem?_eq_some_iff.mp h5.1).1
    refine ⟨_, _, ga_2, b_if (et_and (et_test (e_ne (e_ixM (e_fT T (e_var rfl)) (e_var rfl) (getD_at (d := 0) hj2)) (e_var rfl))) fun _ => et_B (e_allM (f := fun z : List Bool × Nat => z.1.getD z.2 false) (e_new (en_lc0 (js := [8, 9]) (ei_zip (f := bL) (g := nI) (e_var rfl) (e_var rfl)) (by rw [List.length_zip]; omega) (fun _ h => h) fun z hz => ⟨_, ga_2, e_ixM (e_var rfl) (e_var rfl) (getD_at ?_)⟩)))) (fun _ => x_ret (e_var rfl)) (by walk_at "wk")⟩
    unfold kept at hz
    rw [tables_at _ hql] at hz
    obtain ⟨y, hy, rfl⟩ := List.mem_map.mp hz
    obtain ⟨k, hk, e6⟩ := List.mem_iff_getElem.mp hy
    have h7 := zipIdx_at (show q.1.zipIdx[k]? = some y by rw [List.getElem?_eq_getElem hk, e6])
    have hk2 : k < m.target.agentCount := by rw [List.length_zipIdx] at hk; omega
    have h3 := wn_at k hw (by rw [W.szl]; exact hk2)
    rw [W.sz_at hk2, List.getD_eq_getElem?_getD, h7.1] at h3
    show y.1 < (keepL m p y.2).length
    rw [h7.2]
    unfold keepL
    rw [List.length_map]
    exact h3
  · rw [find_in (violQ m p) (fun q => q.1)]
    unfold viol
    cases (allLists (sizesM m)).zipIdx.findSome? (fun q => if violQ m p q = true then some q.1 else none) with
    | none => rfl
    | some l => rfl
theorem viol_wn {m : Mc} {p l : List Nat} (e : viol m p = some l) : within l (sizesM m) = true := by
  unfold viol at e
  obtain ⟨q, hq, e2⟩ := List.exists_of_findSome?_eq_some e
  split at e2
  · cases e2
    obtain ⟨j, hj, e⟩ := List.mem_iff_getElem.mp hq
    have h5 := zipIdx_at (show (allLists (sizesM m)).zipIdx[j]? = some q by rw [List.getElem?_eq_getElem hj, e])
    exact mem_all.mp (List.mem_of_getElem? h5.1)
  · cases e2
theorem x_f_first_violation (T : Tx K C) : ∀ xs d, P_f_first_violation xs d → X K C (t_f_first_violation K C) (xs ++ List.replicate (N_f_first_violation.length - 1) .any) (.rt d) := by
  rintro xs d ⟨m, rfl, W, rfl⟩
  have ha := W.a3
  refine x_seq (x_asgE (e_meth (fun _ _ _ _ => fl_no (by decide +kernel)) (e_var rfl) ea_nil ⟨_, rfl, W, rfl⟩)) ?_
  refine x_is (x_findM (xs := allLists (sizesM m)) (enc := nL) [.ins m, .dat (nLL (allLists (sizesM m))), .any, .any] (fun p => ((viol m p).map fun q => p ++ q).map nL) (ei_list (e_var rfl)) (by walk_at "wk") (fun p hp => ?_) (fun _ => x_ret e_cZ)) (find_map _ _)
  have hw := mem_all.mp hp
  have hpl : p.length ≤ 3 := by rw [wn_len hw, W.szl]; exact ha
  refine ⟨_, _, ga_name, ?_⟩
  have hS : X K C (tAsg (tCall (sp_f_violation_from K C) [] E0 (tCons (tVar 0) (tCons (tVar 2) (tCons (tVar 1) tNil)))) (gName 3)) [.ins m, .dat (nLL (allLists (sizesM m))), .dat (nL p), .any] (.nx [.ins m, .dat (nLL (allLists (sizesM m))), .dat (nL p), .dat (optL (viol m p))]) :=
    x_asgE (e_call (ea_cons (e_var rfl) (ea_cons (e_var rfl) (ea_one (e_var rfl)))) ⟨_, _, rfl, ⟨W, hw⟩, rfl⟩)
  cases e : viol m p with
  | none =>
    rw [e] at hS
    exact ⟨_, x_seq hS (x_if (et_test (e_noN (d := .none) (e_var rfl) e_cZ)) (fun z => by cases z) fun _ => x_next), by walk_at "wk"⟩
  | some l =>
    rw [e] at hS
    refine x_seq hS (x_if (et_test (e_noN (d := nL l) (e_var rfl) e_cZ)) (fun _ => x_is (x_ret (e_new (en_cat (e_var rfl) (e_var (x := .dat (nL l)) rfl) ?_))) ?_) fun z => by cases z)
    · rw [List.length_map, List.length_map, wn_len (viol_wn e), W.szl]; omega
    · show PyData.list _ = PyData.list ((p ++ l).map nI)
      rw [List.map_append]
theorem x_f_or_none (T : Tx K C) : ∀ xs d, P_f_or_none xs d → X K C (t_f_or_none K C) (xs ++ List.replicate (N_f_or_none.length - 1) .any) (.rt d) := by
  rintro xs d ⟨o, rfl, _, rfl⟩
  cases o with
  | none => exact x_ret (e_if (et_test (e_isN (d := .none) (e_var rfl) e_cZ)) (fun _ => e_new (en_lst (ds := [.int (-33)]) (ea_one e_cI) (by show 1 ≤ 10000000; omega))) fun z => by cases z)
  | some l => exact x_ret (e_is (e_if (et_test (e_isN (d := nL l) (e_var rfl) e_cZ)) (fun z => by cases z) fun _ => e_var (x := .dat (nL l)) rfl) (nats_iL l))
theorem x_f_result_of (T : Tx K C) : ∀ xs d, P_f_result_of xs d → X K C (t_f_result_of K C) (xs ++ List.replicate (N_f_result_of.length - 1) .any) (.rt d) := by
  rintro xs d ⟨o, rfl, hl, rfl⟩
  cases o with
  | none => exact x_ret (e_if (et_test (e_isN (d := .none) (e_var rfl) e_cZ)) (fun _ => e_new (en_lst (ds := [.int 1]) (ea_one e_cI) (by show 1 ≤ 10000000; omega))) fun z => by cases z)
  | some l =>
    refine x_ret (e_is (e_if (et_test (e_isN (d := nL l) (e_var rfl) e_cZ)) (fun z => by cases z) fun _ => e_new (en_cat (e_new (en_lst (ds := [.int 0]) (ea_one e_cI) (by show 1 ≤ 10000000; omega))) (e_var (x := .dat (nL l)) rfl) (by rw [List.length_map]; have := hl l rfl; show 1 + l.length ≤ 10000000; omega))) ?_)
    show PyData.list (PyData.int 0 :: l.map nI) = PyData.list (PyData.int 0 :: (l.map fun n : Nat => (n : Int)).map PyData.int)
    rw [nats_int]
theorem x_f_has_preference (T : Tx K C) : ∀ xs d, P_f_has_preference xs d → X K C (t_f_has_preference K C) (xs ++ List.replicate (N_f_has_preference.length - 3) .any) (.rt d) := by
  rintro xs d ⟨m, i, k, rfl, W, rfl⟩
  exact x_ret (e_andV (e_lt (e_var rfl) (e_fA T (e_var rfl))) fun hb => e_lt (e_var rfl) (e_is (e_len (e_dom T (e_var rfl) (e_var rfl) (W.dom_at (of_decide_eq_true hb)))) (by rw [List.length_map])))
theorem pow_at {n : Nat} (h : n < 6) : ([1, 2, 4, 8, 16, 32] : List Int)[n]? = some ((2 ^ n : Nat) : Int) := by
  match n, h with
  | 0, _ => rfl
  | 1, _ => rfl
  | 2, _ => rfl
  | 3, _ => rfl
  | 4, _ => rfl
  | 5, _ => rfl
theorem x_f_are_sets {mg : Str → Option Value} {pw rd wl nc : Addr} (T : Tx K C) (Z : Cs K mg pw rd wl nc) : ∀ xs d, P_f_are_sets xs d → X K C (t_f_are_sets K C pw) (xs ++ List.replicate (N_f_are_sets.length - 3) .any) (.rt d) := by
  rintro xs d ⟨m, c, a, rfl, W, rfl⟩
  have h1 := W.a3
  have h2 := W.v4
  exact x_ret (e_andV (e_lt (e_var rfl) (e_ixC Z.pwT (e_fA T (e_var rfl)) (pow_at (by omega)))) fun _ => e_lt (e_var rfl) (e_ixC Z.pwT (e_fV T (e_var rfl)) (pow_at (by omega))))
theorem x_f_part_of (T : Tx K C) : ∀ xs d, P_f_part_of xs d → X K C (t_f_part_of K C) (xs ++ List.replicate (N_f_part_of.length - 3) .any) (.rt d) := by
  rintro xs d ⟨s, c, b, rfl, hl, rfl⟩
  have h := en_lc (K := K) (C := C) (ρ := [.dat (nL s), .dat (nI c), .dat (.bool b), .any, .any]) (wi := iEnum K (tCons (tVar 0) tNil)) (g := gTup K 2 (gCons (gName 3) (gCons (gName 4) gNil))) (tt := tTest (tOp rEq (tCall (sp_f_has K C) [] E0 (tCons (tVar 1) (tCons (tVar 3) tNil))) (tVar 2))) (te := tVar 4) (js := [3, 4]) (vs := [3, 4]) (xs := s.zipIdx) (enc := fun q => .tuple [nI q.2, nI q.1]) (p := fun q => hasB c q.2 == b) (f := fun q => nI q.1) (ei_enum (f := nI) (e_var rfl)) (by rw [List.length_zipIdx]; omega) (fun _ h => h)
    fun q hq => ⟨_, ga_2, et_test (e_eqB (e_call (ea_cons (e_var rfl) (ea_one (e_var rfl))) ⟨_, _, rfl, ?_, rfl⟩) (e_var rfl)), fun _ => e_var rfl⟩
  · refine x_ret (e_is (e_tupS (e_new h)) ?_)
    show PyData.tuple _ = PyData.tuple (((s.zipIdx.filter _).map _).map nI)
    rw [List.map_map]
    rfl
  · obtain ⟨j, hj, e⟩ := List.mem_iff_getElem.mp hq
    have h5 := zipIdx_at (show s.zipIdx[j]? = some q by rw [List.getElem?_eq_getElem hj, e])
    rw [h5.2]
    have := (List.getElem?_eq_some_iff.mp h5.1).1
    omega
end
end Gx
namespace Gx
open PySem PySem.Spec PyProof.Rows L2
section
variable {P : Program} {w : World} {K : PySem.W.Frag} {mg : Str → Option Value} {base : Heap} {C pw rd wl nc : Addr}
theorem d_f_dictatorship (T : Tx K C) (G : Bt mg) (Z : Cs K mg pw rd wl nc) (M_preference_of : Mt P w K mg base C 1 "preference_of" ["self", "agent", "profile"] (sp_m_preference_of K C)) (M_profiles : Mt P w K mg base C 3 "profiles" ["self"] (sp_m_profiles K C)) {f : Addr} (cdv : Value) (A : Around) (outer : List Env) (s : Shared) (H : Hp) (E : XK) (hr : Room 3 (A.deeper (envOfC "dictatorship" (defScope s_f_dictatorship) s.heap.objs.size f cdv))) :
    PSs (cxOf CX0 P w K mg base N_f_dictatorship "dictatorship" (defScope s_f_dictatorship) f cdv A outer s H E).nox (defBody s_f_dictatorship) (t_f_dictatorship K C) := by
  have nd := sc_f_dictatorship.nd
  exact (pss_one (ps_ret (pe_lc (own := [("profile", 2)]) (g := (gName 2)) (tt := tYes) rfl nd (pi_list (pe_mt0 (pv 0) T.cl M_profiles (hr.mono (by decide)))) (blkOk_by (N := N_f_dictatorship) (sc := defScope s_f_dictatorship) (by decide +kernel)) (fun _ _ _ _ _ => (pg_name (i := 2) nd rfl (Or.inl rfl))) (fun _ _ _ _ _ => pts_nil) (fun _ _ _ _ _ => (pe_ix ix_list (pe_mt (pv 0) T.cl M_preference_of (hr.mono (by decide)) (pa_cons (pv 1) (pa_cons (pv 2) pa_nil))) pe_int (fun _ _ => rfl))))))
theorem ok_f_dictatorship (T : Tx K C) (G : Bt mg) (Z : Cs K mg pw rd wl nc) (M_preference_of : Mt P w K mg base C 1 "preference_of" ["self", "agent", "profile"] (sp_m_preference_of K C)) (M_profiles : Mt P w K mg base C 3 "profiles" ["self"] (sp_m_profiles K C)) {f : Addr} {fd : FuncData} (F : Fun K "dictatorship" "dictatorship" s_f_dictatorship f fd) : FnOk P w K mg base CX0 4 f fd ["instance", "agent"] (sp_f_dictatorship K C) :=
  fn_okX F sc_f_dictatorship len_f_dictatorship (x_f_dictatorship T) (fun cdv A outer s H E hr => d_f_dictatorship T G Z M_preference_of M_profiles cdv A outer s H E hr)
theorem d_f_borda_scores (T : Tx K C) (G : Bt mg) (Z : Cs K mg pw rd wl nc) (M_agents : Mt P w K mg base C 1 "agents" ["self"] (sp_m_agents K C)) (M_preference_of : Mt P w K mg base C 1 "preference_of" ["self", "agent", "profile"] (sp_m_preference_of K C)) {f : Addr} (cdv : Value) (A : Around) (outer : List Env) (s : Shared) (H : Hp) (E : XK) (hr : Room 1 (A.deeper (envOfC "borda_scores" (defScope s_f_borda_scores) s.heap.objs.size f cdv))) :
    PSs (cxOf CX0 P w K mg base N_f_borda_scores "borda_scores" (defScope s_f_borda_scores) f cdv A outer s H E).nox (defBody s_f_borda_scores) (t_f_borda_scores K C) := by
  have nd := sc_f_borda_scores.nd
  exact (pss_cons (ps_set (i := 2) nd rfl (Or.inl rfl) (pe_op op_rep (pe_lst (pa_cons pe_int pa_nil)) (pe_fld (pv 0) rfl)))
    (pss_cons (ps_for PassesOwn.never rfl (pi_list (pe_mt0 (pv 0) T.cl M_agents (hr.mono (by decide)))) (pg_name (i := 3) nd rfl (Or.inl rfl)) (pss_one (ps_for PassesOwn.never rfl (pi_enum (by rfl) G.enumerate (pa_cons (pe_mt (pv 0) T.cl M_preference_of (hr.mono (by decide)) (pa_cons (pv 3) (pa_cons (pv 1) pa_nil))) pa_nil)) (pg_tup rfl (pgs_cons (pg_name (i := 4) nd rfl (Or.inl rfl)) (pgs_cons (pg_name (i := 5) nd rfl (Or.inl rfl)) pgs_nil))) (pss_one (ps_asg (pe_op op_sub (pe_op op_sub (pe_op op_add (pe_ix ix_list (pv 2) (pv 5) (fun _ _ => rfl)) (pe_fld (pv 0) rfl)) pe_int) (pv 4)) (pg_sub (pv 2) (pv 5) set_list))))))
    (pss_one (ps_ret (pv 2)))))
theorem ok_f_borda_scores (T : Tx K C) (G : Bt mg) (Z : Cs K mg pw rd wl nc) (M_agents : Mt P w K mg base C 1 "agents" ["self"] (sp_m_agents K C)) (M_preference_of : Mt P w K mg base C 1 "preference_of" ["self", "agent", "profile"] (sp_m_preference_of K C)) {f : Addr} {fd : FuncData} (F : Fun K "borda_scores" "borda_scores" s_f_borda_scores f fd) : FnOk P w K mg base CX0 2 f fd ["instance", "profile"] (sp_f_borda_scores K C) :=
  fn_okX F sc_f_borda_scores len_f_borda_scores (x_f_borda_scores T) (fun cdv A outer s H E hr => d_f_borda_scores T G Z M_agents M_preference_of cdv A outer s H E hr)
theorem d_f_borda_winner (T : Tx K C) (G : Bt mg) (Z : Cs K mg pw rd wl nc) (F_borda_scores : Fn P w K mg base 2 "borda_scores" ["instance", "profile"] (sp_f_borda_scores K C)) {f : Addr} (cdv : Value) (A : Around) (outer : List Env) (s : Shared) (H : Hp) (E : XK) (hr : Room 2 (A.deeper (envOfC "borda_winner" (defScope s_f_borda_winner) s.heap.objs.size f cdv))) :
    PSs (cxOf CX0 P w K mg base N_f_borda_winner "borda_winner" (defScope s_f_borda_winner) f cdv A outer s H E).nox (defBody s_f_borda_winner) (t_f_borda_winner K C) := by
  have nd := sc_f_borda_winner.nd
  exact (pss_cons (ps_set (i := 2) nd rfl (Or.inl rfl) (pe_fn F_borda_scores (hr.mono (by decide)) rfl (pa_cons (pv 0) (pa_cons (pv 1) pa_nil))))
    (pss_one (ps_ret (pe_bm PySem.F.plainAttrs_list PySem.F.slot_list_index PySem.F.type_list_index mt_index (pv 2) (pa_cons (pe_callB (cr_max rfl) (by rfl) G.max (by decide +kernel) (pa_cons (pv 2) pa_nil)) pa_nil)))))
theorem ok_f_borda_winner (T : Tx K C) (G : Bt mg) (Z : Cs K mg pw rd wl nc) (F_borda_scores : Fn P w K mg base 2 "borda_scores" ["instance", "profile"] (sp_f_borda_scores K C)) {f : Addr} {fd : FuncData} (F : Fun K "borda_winner" "borda_winner" s_f_borda_winner f fd) : FnOk P w K mg base CX0 3 f fd ["instance", "profile"] (sp_f_borda_winner K C) :=
  fn_okX F sc_f_borda_winner len_f_borda_winner (x_f_borda_winner T) (fun cdv A outer s H E hr => d_f_borda_winner T G Z F_borda_scores cdv A outer s H E hr)
theorem d_f_borda (T : Tx K C) (G : Bt mg) (Z : Cs K mg pw rd wl nc) (F_borda_winner : Fn P w K mg base 3 "borda_winner" ["instance", "profile"] (sp_f_borda_winner K C)) (M_profiles : Mt P w K mg base C 3 "profiles" ["self"] (sp_m_profiles K C)) {f : Addr} (cdv : Value) (A : Around) (outer : List Env) (s : Shared) (H : Hp) (E : XK) (hr : Room 3 (A.deeper (envOfC "borda" (defScope s_f_borda) s.heap.objs.size f cdv))) :
    PSs (cxOf CX0 P w K mg base N_f_borda "borda" (defScope s_f_borda) f cdv A outer s H E).nox (defBody s_f_borda) (t_f_borda K C) := by
  have nd := sc_f_borda.nd
  exact (pss_one (ps_ret (pe_lc (own := [("profile", 1)]) (g := (gName 1)) (tt := tYes) rfl nd (pi_list (pe_mt0 (pv 0) T.cl M_profiles (hr.mono (by decide)))) (blkOk_by (N := N_f_borda) (sc := defScope s_f_borda) (by decide +kernel)) (fun _ _ _ _ _ => (pg_name (i := 1) nd rfl (Or.inl rfl))) (fun _ _ _ _ _ => pts_nil) (fun _ _ _ _ _ => (pe_fn F_borda_winner (hr.mono (by decide)) rfl (pa_cons (pv 0) (pa_cons (pv 1) pa_nil)))))))
theorem ok_f_borda (T : Tx K C) (G : Bt mg) (Z : Cs K mg pw rd wl nc) (F_borda_winner : Fn P w K mg base 3 "borda_winner" ["instance", "profile"] (sp_f_borda_winner K C)) (M_profiles : Mt P w K mg base C 3 "profiles" ["self"] (sp_m_profiles K C)) {f : Addr} {fd : FuncData} (F : Fun K "borda" "borda" s_f_borda f fd) : FnOk P w K mg base CX0 4 f fd ["instance"] (sp_f_borda K C) :=
  fn_okX F sc_f_borda len_f_borda (x_f_borda T) (fun cdv A outer s H E hr => d_f_borda T G Z F_borda_winner M_profiles cdv A outer s H E hr)
theorem d_f_does_gain (T : Tx K C) (G : Bt mg) (Z : Cs K mg pw rd wl nc) (F_prefers : Fn P w K mg base 1 "prefers" ["ranking", "one", "other"] (sp_f_prefers K C)) (F_with_number : Fn P w K mg base 1 "with_number" ["numbers", "at", "number"] (sp_f_with_number K C)) (M_target_at : Mt P w K mg base C 2 "target_at" ["self", "profile"] (sp_m_target_at K C)) (M_preference_of : Mt P w K mg base C 1 "preference_of" ["self", "agent", "profile"] (sp_m_preference_of K C)) {f : Addr} (cdv : Value) (A : Around) (outer : List Env) (s : Shared) (H : Hp) (E : XK) (hr : Room 2 (A.deeper (envOfC "does_gain" (defScope s_f_does_gain) s.heap.objs.size f cdv))) :
    PSs (cxOf CX0 P w K mg base N_f_does_gain "does_gain" (defScope s_f_does_gain) f cdv A outer s H E).nox (defBody s_f_does_gain) (t_f_does_gain K C) := by
  have nd := sc_f_does_gain.nd
  exact (pss_cons (ps_set (i := 4) nd rfl (Or.inl rfl) (pe_mt (pv 0) T.cl M_target_at (hr.mono (by decide)) (pa_cons (pe_fn F_with_number (hr.mono (by decide)) rfl (pa_cons (pv 1) (pa_cons (pv 2) (pa_cons (pv 3) pa_nil)))) pa_nil)))
    (pss_one (ps_ret (pe_fn F_prefers (hr.mono (by decide)) rfl (pa_cons (pe_mt (pv 0) T.cl M_preference_of (hr.mono (by decide)) (pa_cons (pv 2) (pa_cons (pv 1) pa_nil))) (pa_cons (pv 4) (pa_cons (pe_mt (pv 0) T.cl M_target_at (hr.mono (by decide)) (pa_cons (pv 1) pa_nil)) pa_nil)))))))
theorem ok_f_does_gain (T : Tx K C) (G : Bt mg) (Z : Cs K mg pw rd wl nc) (F_prefers : Fn P w K mg base 1 "prefers" ["ranking", "one", "other"] (sp_f_prefers K C)) (F_with_number : Fn P w K mg base 1 "with_number" ["numbers", "at", "number"] (sp_f_with_number K C)) (M_target_at : Mt P w K mg base C 2 "target_at" ["self", "profile"] (sp_m_target_at K C)) (M_preference_of : Mt P w K mg base C 1 "preference_of" ["self", "agent", "profile"] (sp_m_preference_of K C)) {f : Addr} {fd : FuncData} (F : Fun K "does_gain" "does_gain" s_f_does_gain f fd) : FnOk P w K mg base CX0 3 f fd ["instance", "profile", "agent", "other"] (sp_f_does_gain K C) :=
  fn_okX F sc_f_does_gain len_f_does_gain (x_f_does_gain T) (fun cdv A outer s H E hr => d_f_does_gain T G Z F_prefers F_with_number M_target_at M_preference_of cdv A outer s H E hr)
theorem d_f_manipulation_at (T : Tx K C) (G : Bt mg) (Z : Cs K mg pw rd wl nc) (F_does_gain : Fn P w K mg base 3 "does_gain" ["instance", "profile", "agent", "other"] (sp_f_does_gain K C)) (M_agents : Mt P w K mg base C 1 "agents" ["self"] (sp_m_agents K C)) {f : Addr} (cdv : Value) (A : Around) (outer : List Env) (s : Shared) (H : Hp) (E : XK) (hr : Room 3 (A.deeper (envOfC "manipulation_at" (defScope s_f_manipulation_at) s.heap.objs.size f cdv))) :
    PSs (cxOf CX0 P w K mg base N_f_manipulation_at "manipulation_at" (defScope s_f_manipulation_at) f cdv A outer s H E).nox (defBody s_f_manipulation_at) (t_f_manipulation_at K C) := by
  have nd := sc_f_manipulation_at.nd
  exact (pss_cons (ps_for PassesOwn.never rfl (pi_list (pe_mt0 (pv 0) T.cl M_agents (hr.mono (by decide)))) (pg_name (i := 2) nd rfl (Or.inl rfl)) (pss_one (ps_for PassesOwn.never rfl (pi_range1 (by rfl) G.range (pa_cons (pe_callB call_len_seq (by rfl) G.len (by decide +kernel) (pa_cons (pe_ix ix_list (pe_fld (pv 0) rfl) (pv 2) (fun _ _ => rfl)) pa_nil)) pa_nil)) (pg_name (i := 3) nd rfl (Or.inl rfl)) (pss_one (ps_if (pt_val (pe_fn F_does_gain (hr.mono (by decide)) rfl (pa_cons (pv 0) (pa_cons (pv 1) (pa_cons (pv 2) (pa_cons (pv 3) pa_nil)))))) (pss_one (ps_ret (pe_lst (pa_cons (pv 2) (pa_cons (pv 3) pa_nil))))) pss_nil)))))
    (pss_one (ps_ret pe_non)))
theorem ok_f_manipulation_at (T : Tx K C) (G : Bt mg) (Z : Cs K mg pw rd wl nc) (F_does_gain : Fn P w K mg base 3 "does_gain" ["instance", "profile", "agent", "other"] (sp_f_does_gain K C)) (M_agents : Mt P w K mg base C 1 "agents" ["self"] (sp_m_agents K C)) {f : Addr} {fd : FuncData} (F : Fun K "manipulation_at" "manipulation_at" s_f_manipulation_at f fd) : FnOk P w K mg base CX0 4 f fd ["instance", "profile"] (sp_f_manipulation_at K C) :=
  fn_okX F sc_f_manipulation_at len_f_manipulation_at (x_f_manipulation_at T) (fun cdv A outer s H E hr => d_f_manipulation_at T G Z F_does_gain M_agents cdv A outer s H E hr)
theorem d_f_first_manipulation (T : Tx K C) (G : Bt mg) (Z : Cs K mg pw rd wl nc) (F_manipulation_at : Fn P w K mg base 4 "manipulation_at" ["instance", "profile"] (sp_f_manipulation_at K C)) (M_profiles : Mt P w K mg base C 3 "profiles" ["self"] (sp_m_profiles K C)) {f : Addr} (cdv : Value) (A : Around) (outer : List Env) (s : Shared) (H : Hp) (E : XK) (hr : Room 4 (A.deeper (envOfC "first_manipulation" (defScope s_f_first_manipulation) s.heap.objs.size f cdv))) :
    PSs (cxOf CX0 P w K mg base N_f_first_manipulation "first_manipulation" (defScope s_f_first_manipulation) f cdv A outer s H E).nox (defBody s_f_first_manipulation) (t_f_first_manipulation K C) := by
  have nd := sc_f_first_manipulation.nd
  exact (pss_cons (ps_for PassesOwn.never rfl (pi_list (pe_mt0 (pv 0) T.cl M_profiles (hr.mono (by decide)))) (pg_name (i := 1) nd rfl (Or.inl rfl)) (pss_cons (ps_set (i := 2) nd rfl (Or.inl rfl) (pe_fn F_manipulation_at (hr.mono (by decide)) rfl (pa_cons (pv 0) (pa_cons (pv 1) pa_nil))))
    (pss_one (ps_if (pt_cmpR op_notN (pv 2) pe_non (nomark _)) (pss_one (ps_ret (pe_op op_cat (pv 2) (pv 1)))) pss_nil))))
    (pss_one (ps_ret pe_non)))
theorem ok_f_first_manipulation (T : Tx K C) (G : Bt mg) (Z : Cs K mg pw rd wl nc) (F_manipulation_at : Fn P w K mg base 4 "manipulation_at" ["instance", "profile"] (sp_f_manipulation_at K C)) (M_profiles : Mt P w K mg base C 3 "profiles" ["self"] (sp_m_profiles K C)) {f : Addr} {fd : FuncData} (F : Fun K "first_manipulation" "first_manipulation" s_f_first_manipulation f fd) : FnOk P w K mg base CX0 5 f fd ["instance"] (sp_f_first_manipulation K C) :=
  fn_okX F sc_f_first_manipulation len_f_first_manipulation (x_f_first_manipulation T) (fun cdv A outer s H E hr => d_f_first_manipulation T G Z F_manipulation_at M_profiles cdv A outer s H E hr)
theorem d_f_does_keep (T : Tx K C) (G : Bt mg) (Z : Cs K mg pw rd wl nc) (F_prefers : Fn P w K mg base 1 "prefers" ["ranking", "one", "other"] (sp_f_prefers K C)) (F_not_preferred : Fn P w K mg base 1 "not_preferred" ["ranking", "alternative"] (sp_f_not_preferred K C)) {f : Addr} (cdv : Value) (A : Around) (outer : List Env) (s : Shared) (H : Hp) (E : XK) (hr : Room 1 (A.deeper (envOfC "does_keep" (defScope s_f_does_keep) s.heap.objs.size f cdv))) :
    PSs (cxOf CX0 P w K mg base N_f_does_keep "does_keep" (defScope s_f_does_keep) f cdv A outer s H E).nox (defBody s_f_does_keep) (t_f_does_keep K C) := by
  have nd := sc_f_does_keep.nd
  exact (pss_one (ps_ret (pe_not (pe_callB (cr_any rfl) (by rfl) G.any (by decide +kernel) (pa_cons (pe_lc (own := [("below", 3)]) (g := (gName 3)) (tt := tYes) rfl nd (pi_list (pe_fn F_not_preferred (hr.mono (by decide)) rfl (pa_cons (pv 0) (pa_cons (pv 1) pa_nil)))) (blkOk_by (N := N_f_does_keep) (sc := defScope s_f_does_keep) (by decide +kernel)) (fun _ _ _ _ _ => (pg_name (i := 3) nd rfl (Or.inl rfl))) (fun _ _ _ _ _ => pts_nil) (fun _ _ _ _ _ => (pe_fn F_prefers (hr.mono (by decide)) rfl (pa_cons (pv 2) (pa_cons (pv 3) (pa_cons (pv 1) pa_nil)))))) pa_nil)))))
theorem ok_f_does_keep (T : Tx K C) (G : Bt mg) (Z : Cs K mg pw rd wl nc) (F_prefers : Fn P w K mg base 1 "prefers" ["ranking", "one", "other"] (sp_f_prefers K C)) (F_not_preferred : Fn P w K mg base 1 "not_preferred" ["ranking", "alternative"] (sp_f_not_preferred K C)) {f : Addr} {fd : FuncData} (F : Fun K "does_keep" "does_keep" s_f_does_keep f fd) : FnOk P w K mg base CX0 2 f fd ["ranking", "outcome", "other"] (sp_f_does_keep K C) :=
  fn_okX F sc_f_does_keep len_f_does_keep (x_f_does_keep T) (fun cdv A outer s H E hr => d_f_does_keep T G Z F_prefers F_not_preferred cdv A outer s H E hr)
theorem d_f_keeping (T : Tx K C) (G : Bt mg) (Z : Cs K mg pw rd wl nc) (F_does_keep : Fn P w K mg base 2 "does_keep" ["ranking", "outcome", "other"] (sp_f_does_keep K C)) (M_preference_of : Mt P w K mg base C 1 "preference_of" ["self", "agent", "profile"] (sp_m_preference_of K C)) (M_target_at : Mt P w K mg base C 2 "target_at" ["self", "profile"] (sp_m_target_at K C)) {f : Addr} (cdv : Value) (A : Around) (outer : List Env) (s : Shared) (H : Hp) (E : XK) (hr : Room 2 (A.deeper (envOfC "keeping" (defScope s_f_keeping) s.heap.objs.size f cdv))) :
    PSs (cxOf CX0 P w K mg base N_f_keeping "keeping" (defScope s_f_keeping) f cdv A outer s H E).nox (defBody s_f_keeping) (t_f_keeping K C) := by
  have nd := sc_f_keeping.nd
  exact (pss_cons (ps_asg (pe_tup (pa_cons (pe_mt (pv 0) T.cl M_preference_of (hr.mono (by decide)) (pa_cons (pv 2) (pa_cons (pv 1) pa_nil))) (pa_cons (pe_mt (pv 0) T.cl M_target_at (hr.mono (by decide)) (pa_cons (pv 1) pa_nil)) pa_nil))) (pg_tup rfl (pgs_cons (pg_name (i := 3) nd rfl (Or.inr rfl)) (pgs_cons (pg_name (i := 4) nd rfl (Or.inr rfl)) pgs_nil))))
    (pss_one (ps_ret (pe_lc (own := [("other", 5)]) (g := (gName 5)) (tt := tYes) rfl nd (pi_list (pe_ix ix_list (pe_fld (pv 0) rfl) (pv 2) (fun _ _ => rfl))) (blkOk_by (N := N_f_keeping) (sc := defScope s_f_keeping) (by decide +kernel)) (fun _ _ _ _ _ => (pg_name (i := 5) nd rfl (Or.inl rfl))) (fun _ _ _ _ _ => pts_nil) (fun _ _ _ _ _ => (pe_fn F_does_keep (hr.mono (by decide)) rfl (pa_cons (pv 3) (pa_cons (pv 4) (pa_cons (pv 5) pa_nil)))))))))
theorem ok_f_keeping (T : Tx K C) (G : Bt mg) (Z : Cs K mg pw rd wl nc) (F_does_keep : Fn P w K mg base 2 "does_keep" ["ranking", "outcome", "other"] (sp_f_does_keep K C)) (M_preference_of : Mt P w K mg base C 1 "preference_of" ["self", "agent", "profile"] (sp_m_preference_of K C)) (M_target_at : Mt P w K mg base C 2 "target_at" ["self", "profile"] (sp_m_target_at K C)) {f : Addr} {fd : FuncData} (F : Fun K "keeping" "keeping" s_f_keeping f fd) : FnOk P w K mg base CX0 3 f fd ["instance", "profile", "agent"] (sp_f_keeping K C) :=
  fn_okX F sc_f_keeping len_f_keeping (x_f_keeping T) (fun cdv A outer s H E hr => d_f_keeping T G Z F_does_keep M_preference_of M_target_at cdv A outer s H E hr)
theorem d_f_violation_from (T : Tx K C) (G : Bt mg) (Z : Cs K mg pw rd wl nc) (F_keeping : Fn P w K mg base 3 "keeping" ["instance", "profile", "agent"] (sp_f_keeping K C)) (M_target_at : Mt P w K mg base C 2 "target_at" ["self", "profile"] (sp_m_target_at K C)) (M_agents : Mt P w K mg base C 1 "agents" ["self"] (sp_m_agents K C)) {f : Addr} (cdv : Value) (A : Around) (outer : List Env) (s : Shared) (H : Hp) (E : XK) (hr : Room 3 (A.deeper (envOfC "violation_from" (defScope s_f_violation_from) s.heap.objs.size f cdv))) :
    PSs (cxOf CX0 P w K mg base N_f_violation_from "violation_from" (defScope s_f_violation_from) f cdv A outer s H E).nox (defBody s_f_violation_from) (t_f_violation_from K C) := by
  have nd := sc_f_violation_from.nd
  exact (pss_cons (ps_set (i := 3) nd rfl (Or.inl rfl) (pe_mt (pv 0) T.cl M_target_at (hr.mono (by decide)) (pa_cons (pv 1) pa_nil)))
    (pss_cons (ps_setLc (i := 4) (own := [("agent", 7)]) (g := (gName 7)) (tt := tYes) rfl nd rfl rfl (sw_true rfl rfl rfl (by decide +kernel)) (pi_list (pe_mt0 (pv 0) T.cl M_agents (hr.mono (by decide)))) (blkOk_by (N := N_f_violation_from) (sc := defScope s_f_violation_from) (by decide +kernel)) (fun _ _ _ _ _ => (pg_name (i := 7) nd rfl (Or.inl rfl))) (fun _ _ _ _ _ => pts_nil) (fun _ _ _ _ _ => (pe_fn F_keeping (hr.mono (by decide)) rfl (pa_cons (pv 0) (pa_cons (pv 1) (pa_cons (pv 7) pa_nil))))))
    (pss_cons (ps_for PassesOwn.never rfl (pi_enum (by rfl) G.enumerate (pa_cons (pv 2) pa_nil)) (pg_tup rfl (pgs_cons (pg_name (i := 5) nd rfl (Or.inl rfl)) (pgs_cons (pg_name (i := 6) nd rfl (Or.inl rfl)) pgs_nil))) (pss_one (ps_if (PW.pt (pw_and (pt_cmpR op_ne (pe_ix ix_list (pe_fld (pv 0) rfl) (pv 5) (fun _ _ => rfl)) (pv 3) (nomark _)) (pw_and1 (pt_val (pe_callB (cr_all rfl) (by rfl) G.all (by decide +kernel) (pa_cons (pe_lc (own := [("row", 8), ("report", 9)]) (g := (gTup K 2 (gCons (gName 8) (gCons (gName 9) gNil)))) (tt := tYes) rfl nd (pi_zip (by rfl) G.zip (pa_cons (pv 4) (pa_cons (pv 6) pa_nil))) (blkOk_by (N := N_f_violation_from) (sc := defScope s_f_violation_from) (by decide +kernel)) (fun _ _ _ _ _ => (pg_tup rfl (pgs_cons (pg_name (i := 8) nd rfl (Or.inl rfl)) (pgs_cons (pg_name (i := 9) nd rfl (Or.inl rfl)) pgs_nil)))) (fun _ _ _ _ _ => pts_nil) (fun _ _ _ _ _ => (pe_ix ix_list (pv 8) (pv 9) (fun _ _ => rfl)))) pa_nil)))))) (pss_one (ps_ret (pv 6))) pss_nil)))
    (pss_one (ps_ret pe_non)))))
theorem ok_f_violation_from (T : Tx K C) (G : Bt mg) (Z : Cs K mg pw rd wl nc) (F_keeping : Fn P w K mg base 3 "keeping" ["instance", "profile", "agent"] (sp_f_keeping K C)) (M_target_at : Mt P w K mg base C 2 "target_at" ["self", "profile"] (sp_m_target_at K C)) (M_agents : Mt P w K mg base C 1 "agents" ["self"] (sp_m_agents K C)) {f : Addr} {fd : FuncData} (F : Fun K "violation_from" "violation_from" s_f_violation_from f fd) : FnOk P w K mg base CX0 4 f fd ["instance", "profile", "profiles"] (sp_f_violation_from K C) :=
  fn_okX F sc_f_violation_from len_f_violation_from (x_f_violation_from T) (fun cdv A outer s H E hr => d_f_violation_from T G Z F_keeping M_target_at M_agents cdv A outer s H E hr)
theorem d_f_first_violation (T : Tx K C) (G : Bt mg) (Z : Cs K mg pw rd wl nc) (F_violation_from : Fn P w K mg base 4 "violation_from" ["instance", "profile", "profiles"] (sp_f_violation_from K C)) (M_profiles : Mt P w K mg base C 3 "profiles" ["self"] (sp_m_profiles K C)) {f : Addr} (cdv : Value) (A : Around) (outer : List Env) (s : Shared) (H : Hp) (E : XK) (hr : Room 4 (A.deeper (envOfC "first_violation" (defScope s_f_first_violation) s.heap.objs.size f cdv))) :
    PSs (cxOf CX0 P w K mg base N_f_first_violation "first_violation" (defScope s_f_first_violation) f cdv A outer s H E).nox (defBody s_f_first_violation) (t_f_first_violation K C) := by
  have nd := sc_f_first_violation.nd
  exact (pss_cons (ps_set (i := 1) nd rfl (Or.inl rfl) (pe_mt0 (pv 0) T.cl M_profiles (hr.mono (by decide))))
    (pss_cons (ps_for PassesOwn.never rfl (pi_list (pv 1)) (pg_name (i := 2) nd rfl (Or.inl rfl)) (pss_cons (ps_set (i := 3) nd rfl (Or.inl rfl) (pe_fn F_violation_from (hr.mono (by decide)) rfl (pa_cons (pv 0) (pa_cons (pv 2) (pa_cons (pv 1) pa_nil)))))
    (pss_one (ps_if (pt_cmpR op_notN (pv 3) pe_non (nomark _)) (pss_one (ps_ret (pe_op op_cat (pv 2) (pv 3)))) pss_nil))))
    (pss_one (ps_ret pe_non))))
theorem ok_f_first_violation (T : Tx K C) (G : Bt mg) (Z : Cs K mg pw rd wl nc) (F_violation_from : Fn P w K mg base 4 "violation_from" ["instance", "profile", "profiles"] (sp_f_violation_from K C)) (M_profiles : Mt P w K mg base C 3 "profiles" ["self"] (sp_m_profiles K C)) {f : Addr} {fd : FuncData} (F : Fun K "first_violation" "first_violation" s_f_first_violation f fd) : FnOk P w K mg base CX0 5 f fd ["instance"] (sp_f_first_violation K C) :=
  fn_okX F sc_f_first_violation len_f_first_violation (x_f_first_violation T) (fun cdv A outer s H E hr => d_f_first_violation T G Z F_violation_from M_profiles cdv A outer s H E hr)
theorem d_f_or_none (T : Tx K C) (G : Bt mg) (Z : Cs K mg pw rd wl nc)  {f : Addr} (cdv : Value) (A : Around) (outer : List Env) (s : Shared) (H : Hp) (E : XK) (hr : Room 0 (A.deeper (envOfC "or_none" (defScope s_f_or_none) s.heap.objs.size f cdv))) :
    PSs (cxOf CX0 P w K mg base N_f_or_none "or_none" (defScope s_f_or_none) f cdv A outer s H E).nox (defBody s_f_or_none) (t_f_or_none K C) := by
  have nd := sc_f_or_none.nd
  exact (pss_one (ps_ret (pe_ifExp (pt_cmpR op_isN (pv 0) pe_non (nomark _)) (pe_lst (pa_cons (pe_gI Z.i_NONE) pa_nil)) (pv 0))))
theorem ok_f_or_none (T : Tx K C) (G : Bt mg) (Z : Cs K mg pw rd wl nc)  {f : Addr} {fd : FuncData} (F : Fun K "or_none" "or_none" s_f_or_none f fd) : FnOk P w K mg base CX0 1 f fd ["found"] (sp_f_or_none K C) :=
  fn_okX F sc_f_or_none len_f_or_none (x_f_or_none T) (fun cdv A outer s H E hr => d_f_or_none T G Z  cdv A outer s H E hr)
theorem d_f_result_of (T : Tx K C) (G : Bt mg) (Z : Cs K mg pw rd wl nc)  {f : Addr} (cdv : Value) (A : Around) (outer : List Env) (s : Shared) (H : Hp) (E : XK) (hr : Room 0 (A.deeper (envOfC "result_of" (defScope s_f_result_of) s.heap.objs.size f cdv))) :
    PSs (cxOf CX0 P w K mg base N_f_result_of "result_of" (defScope s_f_result_of) f cdv A outer s H E).nox (defBody s_f_result_of) (t_f_result_of K C) := by
  have nd := sc_f_result_of.nd
  exact (pss_one (ps_ret (pe_ifExp (pt_cmpR op_isN (pv 0) pe_non (nomark _)) (pe_lst (pa_cons pe_int pa_nil)) (pe_op op_cat (pe_lst (pa_cons pe_int pa_nil)) (pv 0)))))
theorem ok_f_result_of (T : Tx K C) (G : Bt mg) (Z : Cs K mg pw rd wl nc)  {f : Addr} {fd : FuncData} (F : Fun K "result_of" "result_of" s_f_result_of f fd) : FnOk P w K mg base CX0 1 f fd ["failure"] (sp_f_result_of K C) :=
  fn_okX F sc_f_result_of len_f_result_of (x_f_result_of T) (fun cdv A outer s H E hr => d_f_result_of T G Z  cdv A outer s H E hr)
theorem d_f_has_preference (T : Tx K C) (G : Bt mg) (Z : Cs K mg pw rd wl nc)  {f : Addr} (cdv : Value) (A : Around) (outer : List Env) (s : Shared) (H : Hp) (E : XK) (hr : Room 0 (A.deeper (envOfC "has_preference" (defScope s_f_has_preference) s.heap.objs.size f cdv))) :
    PSs (cxOf CX0 P w K mg base N_f_has_preference "has_preference" (defScope s_f_has_preference) f cdv A outer s H E).nox (defBody s_f_has_preference) (t_f_has_preference K C) := by
  have nd := sc_f_has_preference.nd
  exact (pss_one (ps_ret (pe_and (pe_cmpR op_lt (pv 1) (pe_fld (pv 0) rfl) (nomark _)) (pe_one (pe_cmpR op_lt (pv 2) (pe_callB call_len_seq (by rfl) G.len (by decide +kernel) (pa_cons (pe_ix ix_list (pe_fld (pv 0) rfl) (pv 1) (fun _ _ => rfl)) pa_nil)) (nomark _))))))
theorem ok_f_has_preference (T : Tx K C) (G : Bt mg) (Z : Cs K mg pw rd wl nc)  {f : Addr} {fd : FuncData} (F : Fun K "has_preference" "has_preference" s_f_has_preference f fd) : FnOk P w K mg base CX0 1 f fd ["instance", "agent", "preference"] (sp_f_has_preference K C) :=
  fn_okX F sc_f_has_preference len_f_has_preference (x_f_has_preference T) (fun cdv A outer s H E hr => d_f_has_preference T G Z  cdv A outer s H E hr)
theorem d_f_are_sets (T : Tx K C) (G : Bt mg) (Z : Cs K mg pw rd wl nc)  {f : Addr} (cdv : Value) (A : Around) (outer : List Env) (s : Shared) (H : Hp) (E : XK) (hr : Room 0 (A.deeper (envOfC "are_sets" (defScope s_f_are_sets) s.heap.objs.size f cdv))) :
    PSs (cxOf CX0 P w K mg base N_f_are_sets "are_sets" (defScope s_f_are_sets) f cdv A outer s H E).nox (defBody s_f_are_sets) (t_f_are_sets K C pw) := by
  have nd := sc_f_are_sets.nd
  exact (pss_one (ps_ret (pe_and (pe_cmpR op_lt (pv 1) (pe_ix ix_tup (pe_glob rfl Z.pw rfl) (pe_fld (pv 0) rfl) (fun _ _ => rfl)) (nomark _)) (pe_one (pe_cmpR op_lt (pv 2) (pe_ix ix_tup (pe_glob rfl Z.pw rfl) (pe_fld (pv 0) rfl) (fun _ _ => rfl)) (nomark _))))))
theorem ok_f_are_sets (T : Tx K C) (G : Bt mg) (Z : Cs K mg pw rd wl nc)  {f : Addr} {fd : FuncData} (F : Fun K "are_sets" "are_sets" s_f_are_sets f fd) : FnOk P w K mg base CX0 1 f fd ["instance", "coalition", "alternatives"] (sp_f_are_sets K C) :=
  fn_okX F sc_f_are_sets len_f_are_sets (x_f_are_sets T Z) (fun cdv A outer s H E hr => d_f_are_sets T G Z  cdv A outer s H E hr)
theorem d_f_part_of (T : Tx K C) (G : Bt mg) (Z : Cs K mg pw rd wl nc) (F_has : Fn P w K mg base 1 "has" ["mask", "number"] (sp_f_has K C)) {f : Addr} (cdv : Value) (A : Around) (outer : List Env) (s : Shared) (H : Hp) (E : XK) (hr : Room 1 (A.deeper (envOfC "part_of" (defScope s_f_part_of) s.heap.objs.size f cdv))) :
    PSs (cxOf CX0 P w K mg base N_f_part_of "part_of" (defScope s_f_part_of) f cdv A outer s H E).nox (defBody s_f_part_of) (t_f_part_of K C) := by
  have nd := sc_f_part_of.nd
  exact (pss_one (ps_ret (pe_callTy call_tuple_of (by rfl) G.tuple (by decide +kernel) (pa_cons (pe_lc (own := [("agent", 3), ("message", 4)]) (g := (gTup K 2 (gCons (gName 3) (gCons (gName 4) gNil)))) (tt := (tTest (tOp rEq (tCall (sp_f_has K C) [] E0 (tCons (tVar 1) (tCons (tVar 3) tNil))) (tVar 2)))) rfl nd (pi_enum (by rfl) G.enumerate (pa_cons (pv 0) pa_nil)) (blkOk_by (N := N_f_part_of) (sc := defScope s_f_part_of) (by decide +kernel)) (fun _ _ _ _ _ => (pg_tup rfl (pgs_cons (pg_name (i := 3) nd rfl (Or.inl rfl)) (pgs_cons (pg_name (i := 4) nd rfl (Or.inl rfl)) pgs_nil)))) (fun _ _ _ _ _ => (pts_one (pt_cmpR op_eq (pe_fn F_has (hr.mono (by decide)) rfl (pa_cons (pv 1) (pa_cons (pv 3) pa_nil))) (pv 2) (nomark _)))) (fun _ _ _ _ _ => (pv 4))) pa_nil))))
theorem ok_f_part_of (T : Tx K C) (G : Bt mg) (Z : Cs K mg pw rd wl nc) (F_has : Fn P w K mg base 1 "has" ["mask", "number"] (sp_f_has K C)) {f : Addr} {fd : FuncData} (F : Fun K "part_of" "part_of" s_f_part_of f fd) : FnOk P w K mg base CX0 2 f fd ["messages", "coalition", "is_inside"] (sp_f_part_of K C) :=
  fn_okX F sc_f_part_of len_f_part_of (x_f_part_of T) (fun cdv A outer s H E hr => d_f_part_of T G Z F_has cdv A outer s H E hr)
end
end Gx
/-! # d.values() of a dict whose keys are tuples: any, all -/
namespace Gx
open PySem PySem.Spec PyProof.Rows L2
section
variable {prog : Program} {w : World} {A : Around} {E : Value → Shared → Prop} {s : Shared} {d : Addr} {es : Array DictEntry} {ep : Nat}
theorem rv_walks (hh : A.handled = none) (I : Addr) (hne : d ≠ I) : Walks prog w A I [I, d] [I] es.size (fun i v => ∃ e, es[i]? = some e ∧ v = e.val) (fun i h => h.IsValIter I d i es.size ep ∧ DT.Raw h d es ep) :=
  (Walks.rawValues hh I d hne es ep).mono_item fun i v hi ⟨h, e⟩ => ⟨_, Array.getElem?_eq_getElem h, e⟩
end
/-! ### any(d.values()), all(d.values()) as rules -/
def tValsB (f : List Bool → Bool) (td : TE) : TE := fun σ H Q => td σ H fun x H1 => ∃ a kvs bs, x = V.ref a ∧ H1 a = some (.dT kvs) ∧ kvs.map (fun q => q.2) = (bs.map V.bl : List V) ∧ Q (.bl (f bs)) H1
abbrev tValsAny : TE → TE := tValsB fun bs => bs.any id
abbrev tValsAll : TE → TE := tValsB fun bs => bs.all id
theorem paired_at {α β : Type} {F : α → β → Prop} : ∀ {l₁ : List α} {l₂ : List β} {i : Nat} {y : β}, Paired F l₁ l₂ → l₂[i]? = some y → ∃ x, l₁[i]? = some x ∧ F x y
  | _, _, _, _, .nil, e => by simp at e
  | _, _, 0, y, .cons r _, e => by
    have := Option.some.inj (show some _ = some y from e)
    subst this
    exact ⟨_, rfl, r⟩
  | _, _, i + 1, y, .cons _ t, e => by
    obtain ⟨x, h1, h2⟩ := paired_at (i := i) (y := y) t (by simpa using e)
    exact ⟨x, by simpa using h1, h2⟩
/-- what the model's dict holds, by the layer's -/
theorem vals_of {P : Program} {w : World} {H : Hp} {h : Heap} {a : Addr} {kvs : List (List Key × V)} {bs : List Bool} (ok : HOk P w H h) (ha : H a = some (.dT kvs)) (hb : kvs.map (fun q => q.2) = (bs.map V.bl : List V)) :
    ∃ es ep, (a == sysModules) = false ∧ DT.Raw h a es ep ∧ es.size = bs.length ∧ ∀ i e, es[i]? = some e → e.val = Value.bool (bs.getD i false) := by
  obtain ⟨_, hy, xs, r, o, es, ep, h1, h2, h3, h4, _⟩ := (show ObjOk P w H h a (.dT kvs) from ok a _ ha)
  have hl : es.size = bs.length := by
    have e1 := congrArg List.length h4
    have e2 := congrArg List.length hb
    rw [List.length_map] at e1
    rw [List.length_map, List.length_map] at e2
    have e3 := Paired.length r
    rw [← Array.length_toList]
    omega
  refine ⟨es, ep, hy, ⟨o, h1, h2, h3⟩, hl, fun i e he => ?_⟩
  have e1 : es.toList[i]? = some e := by rw [Array.getElem?_toList]; exact he
  rw [h4, List.getElem?_map] at e1
  obtain ⟨x, hx, rfl⟩ := Option.map_eq_some_iff.mp e1
  obtain ⟨p, hp, _, _, hr⟩ := paired_at r hx
  have e2 : (kvs.map fun q => q.2)[i]? = some p.2 := by rw [List.getElem?_map, hp] <;> rfl
  rw [hb, List.getElem?_map] at e2
  obtain ⟨b, hb1, hb2⟩ := Option.map_eq_some_iff.mp e2
  rw [← hb2] at hr
  have e4 : x.2.2 = Value.bool b := hr
  show x.2.2 = _
  rw [e4, List.getD_eq_getElem?_getD, hb1] <;> rfl
section
variable {Y : Cx} {o : Expr} {p pos apos mpos : Pos} {td : TE}
theorem pe_vals_any (hc : Y.calm = true) (hg : Gl Y "any") (hm : Y.mg "any" = none) (hd : PE Y o td) (hbase : attributeBase o "values" Y.env (eval o Y.env) = eval o Y.env := by rfl) (hline : (apos.endLine == mpos.line) = true := by rfl)
    (hse : starEach [Expr.Call (.Attribute o "values" apos) [] [] mpos] Y.env = [(false, eval (Expr.Call (.Attribute o "values" apos) [] [] mpos) Y.env)] := by rfl) :
    PE Y (.Call (.Name "any" p) [.Call (.Attribute o "values" apos) [] [] mpos] [] pos) (tValsAny td) := by
  refine ⟨fun pins s σ H Q I h => wpAny_Call_Name_kw (ld_blt I hg hm (u := .builtin "any") (by first | rfl | decide +kernel) ?_ (by first | decide +kernel | decide) (by first | decide +kernel | decide))⟩
  rw [hse]
  refine PySem.callWith_builtin1 (wpAny_Call_method0_late hbase hline (thn (hd.run pins s σ H _ I h) fun v s1 ⟨x, H1, I1, r1, a, kvs, bs, ex, ha, hv, q⟩ => ?_))
  subst ex
  obtain rfl : v = Value.ref a := r1
  obtain ⟨es, ep, hsys, raw, hsz, hval⟩ := vals_of I1.hok ha hv
  obtain ⟨ob, ho, hx, hdat⟩ := id raw
  refine ⟨"dict", "dict.values", F.plainAttrs_dict, F.slot_dict_values, F.type_dict_values, ⟨ob, ho, hx.1⟩, fun b e => ?_, Calls.callWith_builtin rfl (PySem.evalArgs_none ?_)⟩
  · cases e
    exact ⟨ob, ho, hx.2.1⟩
  refine call_meetsIn F.slot_dict_values ⟨ob, ho, hx.1⟩ F.entry_dict_values (F.args_dict_values_1 _) (meets_dict_values_raw a hsys) ⟨⟨_, _, raw⟩, ?_⟩
  have k1 : ∀ b u, s1.heap.get? b = some u → (s1.heap.push { cls := .type "dict_values", data := .fields #[.ref a] }).get? b = some u := fun b u e => Heap.get?_push_of_some _ e
  have raw1 : DT.Raw (s1.heap.push { cls := .type "dict_values", data := .fields #[.ref a] }) a es ep := raw.at' fun o e => k1 a o e
  have hlt : a < s1.heap.objs.size := Heap.lt_size ho
  have hs1 : (s1.heap.push { cls := .type "dict_values", data := .fields #[.ref a] }).objs.size = s1.heap.objs.size + 1 := Heap.size_push _ _
  refine call_any_walk (wpAny_pyIter_values_raw (v := s1.heap.objs.size) (d := a) ⟨_, Heap.get?_push_size _ rfl, rfl, rfl⟩ raw1 ?_)
  refine ⟨_, _, _, _, _, _, fun i => bs.getD i false, rfl, rv_walks (A := Y.A.in1) (I.ok.hd hc) (s1.heap.push { cls := .type "dict_values", data := .fields #[.ref a] }).objs.size (by rw [hs1]; exact Nat.ne_of_lt (Nat.lt_succ_of_lt hlt)),
    ⟨⟨_, Heap.get?_push_size _ rfl, rfl, rfl⟩, raw1.at' fun o e => Heap.get?_push_of_some _ e⟩, fun i v s Q E ⟨e, he, ev⟩ hQ => ?_, fun h' tk hk => ?_⟩
  · rw [ev, hval i e he]
    exact wpAny_truthy_bool hQ
  · refine ⟨.bl _, H1, I1.kept (t' := tk) fun b u e => hk b u (fun hmem => ?_) (Heap.get?_push_of_some _ (k1 b u e)), ?_, q⟩
    · have e1 : b = (s1.heap.push { cls := .type "dict_values", data := .fields #[.ref a] }).objs.size := List.mem_singleton.mp hmem
      have e2 := Heap.lt_size e
      rw [hs1] at e1
      rw [e1] at e2
      exact absurd e2 (Nat.not_lt.mpr (Nat.le_succ _))
    · show Value.bool _ = Value.bool _
      rw [hsz, L2.any_range]
theorem pe_vals_all (hc : Y.calm = true) (hg : Gl Y "all") (hm : Y.mg "all" = none) (hd : PE Y o td) (hbase : attributeBase o "values" Y.env (eval o Y.env) = eval o Y.env := by rfl) (hline : (apos.endLine == mpos.line) = true := by rfl)
    (hse : starEach [Expr.Call (.Attribute o "values" apos) [] [] mpos] Y.env = [(false, eval (Expr.Call (.Attribute o "values" apos) [] [] mpos) Y.env)] := by rfl) :
    PE Y (.Call (.Name "all" p) [.Call (.Attribute o "values" apos) [] [] mpos] [] pos) (tValsAll td) := by
  refine ⟨fun pins s σ H Q I h => wpAny_Call_Name_kw (ld_blt I hg hm (u := .builtin "all") (by first | rfl | decide +kernel) ?_ (by first | decide +kernel | decide) (by first | decide +kernel | decide))⟩
  rw [hse]
  refine PySem.callWith_builtin1 (wpAny_Call_method0_late hbase hline (thn (hd.run pins s σ H _ I h) fun v s1 ⟨x, H1, I1, r1, a, kvs, bs, ex, ha, hv, q⟩ => ?_))
  subst ex
  obtain rfl : v = Value.ref a := r1
  obtain ⟨es, ep, hsys, raw, hsz, hval⟩ := vals_of I1.hok ha hv
  obtain ⟨ob, ho, hx, hdat⟩ := id raw
  refine ⟨"dict", "dict.values", F.plainAttrs_dict, F.slot_dict_values, F.type_dict_values, ⟨ob, ho, hx.1⟩, fun b e => ?_, Calls.callWith_builtin rfl (PySem.evalArgs_none ?_)⟩
  · cases e
    exact ⟨ob, ho, hx.2.1⟩
  refine call_meetsIn F.slot_dict_values ⟨ob, ho, hx.1⟩ F.entry_dict_values (F.args_dict_values_1 _) (meets_dict_values_raw a hsys) ⟨⟨_, _, raw⟩, ?_⟩
  have k1 : ∀ b u, s1.heap.get? b = some u → (s1.heap.push { cls := .type "dict_values", data := .fields #[.ref a] }).get? b = some u := fun b u e => Heap.get?_push_of_some _ e
  have raw1 : DT.Raw (s1.heap.push { cls := .type "dict_values", data := .fields #[.ref a] }) a es ep := raw.at' fun o e => k1 a o e
  have hlt : a < s1.heap.objs.size := Heap.lt_size ho
  have hs1 : (s1.heap.push { cls := .type "dict_values", data := .fields #[.ref a] }).objs.size = s1.heap.objs.size + 1 := Heap.size_push _ _
  refine call_all_walk (wpAny_pyIter_values_raw (v := s1.heap.objs.size) (d := a) ⟨_, Heap.get?_push_size _ rfl, rfl, rfl⟩ raw1 ?_)
  refine ⟨_, _, _, _, _, _, fun i => bs.getD i false, rfl, rv_walks (A := Y.A.in1) (I.ok.hd hc) (s1.heap.push { cls := .type "dict_values", data := .fields #[.ref a] }).objs.size (by rw [hs1]; exact Nat.ne_of_lt (Nat.lt_succ_of_lt hlt)),
    ⟨⟨_, Heap.get?_push_size _ rfl, rfl, rfl⟩, raw1.at' fun o e => Heap.get?_push_of_some _ e⟩, fun i v s Q E ⟨e, he, ev⟩ hQ => ?_, fun h' tk hk => ?_⟩
  · rw [ev, hval i e he]
    exact wpAny_truthy_bool hQ
  · refine ⟨.bl _, H1, I1.kept (t' := tk) fun b u e => hk b u (fun hmem => ?_) (Heap.get?_push_of_some _ (k1 b u e)), ?_, q⟩
    · have e1 : b = (s1.heap.push { cls := .type "dict_values", data := .fields #[.ref a] }).objs.size := List.mem_singleton.mp hmem
      have e2 := Heap.lt_size e
      rw [hs1] at e1
      rw [e1] at e2
      exact absurd e2 (Nat.not_lt.mpr (Nat.le_succ _))
    · show Value.bool _ = Value.bool _
      rw [hsz, L2.all_range]
end
/-! ### one's own dict -/
section
variable {K : PySem.W.Frag} {C : Addr} {ρ : List Sl}
def lookO (kvs : List (List Nat × Bool)) (k : List Nat) : Option Bool := (kvs.find? fun q => decide (q.1 = k)).map fun q => q.2
def putO (kvs : List (List Nat × Bool)) (k : List Nat) (b : Bool) : List (List Nat × Bool) := if (kvs.any fun q => decide (q.1 = k)) = true then kvs.map (fun q => if q.1 = k then (q.1, b) else q) else kvs ++ [(k, b)]
theorem keyT_inj : ∀ {a b : List Nat}, keyT a = keyT b → a = b
  | [], [], _ => rfl
  | [], _ :: _, h => by cases h
  | _ :: _, [], h => by cases h
  | x :: a, y :: b, h => by
    have h1 := List.cons.inj h
    have h2 : ((x : Nat) : Int) = y := Sum.inl.inj h1.1
    rw [keyT_inj h1.2, Int.ofNat_inj.mp h2]
theorem keyT_dec {a b : List Nat} : decide (keyT a = keyT b) = decide (a = b) := decide_eq_decide.mpr ⟨keyT_inj, fun e => by rw [e]⟩
theorem valV_od (k : List Nat) : ∀ kvs : List (List Nat × Bool), valV (odV kvs) (keyT k) = (lookO kvs k).map V.bl
  | [] => rfl
  | q :: r => by
    have ih := valV_od k r
    unfold valV lookO odV at ih ⊢
    rw [List.map_cons, List.find?_cons, List.find?_cons]
    have e : decide (((keyT q.1, V.bl q.2) : List Key × V).1 = keyT k) = decide (q.1 = k) := keyT_dec
    rw [e]
    cases decide (q.1 = k) with
    | true => rfl
    | false => exact ih
theorem putK_od (k : List Nat) (b : Bool) (kvs : List (List Nat × Bool)) : putK (odV kvs) (keyT k) (V.bl b) = odV (putO kvs k b) := by
  unfold putK putO odV
  have e : ((kvs.map fun p => (keyT p.1, V.bl p.2)).any fun kv => decide (kv.1 = keyT k)) = kvs.any fun q => decide (q.1 = k) := by
    rw [List.any_map]
    exact congrArg (fun f => kvs.any f) (funext fun q => keyT_dec)
  rw [e]
  by_cases h : (kvs.any fun q => decide (q.1 = k)) = true
  · rw [if_pos h, if_pos h, List.map_map, List.map_map]
    refine List.map_congr_left fun q _ => ?_
    show (if keyT q.1 = keyT k then (keyT q.1, V.bl b) else (keyT q.1, V.bl q.2)) = _
    by_cases h2 : q.1 = k
    · rw [if_pos (by rw [h2])]
      show _ = (fun p : List Nat × Bool => (keyT p.1, V.bl p.2)) (if q.1 = k then (q.1, b) else q)
      rw [if_pos h2]
    · rw [if_neg (fun e => h2 (keyT_inj e))]
      show _ = (fun p : List Nat × Bool => (keyT p.1, V.bl p.2)) (if q.1 = k then (q.1, b) else q)
      rw [if_neg h2]
  · rw [if_neg h, if_neg h, List.map_append]
    rfl
theorem Rp.tupN {S : Hp} {v : V} {l : List Nat} (h : Rp S v (.tuple (l.map nI))) : ∃ a, v = .ref a ∧ S a = some (.tup ((keyT l).map kV)) := by
  cases h with
  | tup h1 h2 =>
    rw [nats_int] at h2
    obtain rfl := h2.ints
    refine ⟨_, rfl, ?_⟩
    rw [h1]
    unfold keyT
    rw [List.map_map, List.map_map]
    rfl
theorem x_dnew {i : Nat} : X K C (tAsg tDNewT (gName i)) ρ (.nx (ρ.set i (.od []))) := fun S0 B S I H σ D gr hib en k => by
  intro p hp
  have hs := gr.sub.free hp
  have hI := (hib.trans gr.h)
  exact k _ S _ (Same.refl _) (gr.grow (same_new hp)) ((en.up ((Gr.refl gr.sub).grow (same_new hp)) hI).set i ⟨p, rfl, hs, hI.free hp, gr.h.free hp, upd_same⟩)
/-- d.get(k, b) -/
theorem e_dget {i : Nat} {tk tz : TE} {kvs : List (List Nat × Bool)} {l : List Nat} {b : Bool} (hi : ρ[i]? = some (.od kvs)) (hk : E K C tk ρ (.dat (.tuple (l.map nI)))) (hz : E K C tz ρ (.dat (.bool b))) : E K C (tDGet2 (tVar i) tk tz) ρ (.dat (.bool ((lookO kvs l).getD b))) := fun B S I H σ hs hI en Q q => by
  obtain ⟨v, hv, a, rfl, h2, h3, h4, h5⟩ := en.var hi (by intro z; cases z)
  refine ⟨_, hv, a, rfl, .inr ⟨_, .inl h5⟩, ?_⟩
  refine hk B S I H σ hs hI en _ fun y S1 H1 g1 s1 => hz B S1 I H1 σ g1.sub (hI.trans g1.h) (en.up g1 hI) _ fun z S2 H2 g2 s2 => ?_
  obtain ⟨t, rfl, ht⟩ := Rp.tupN s1
  cases s2
  refine ⟨_, DGet.t ((g1.trans g2).h _ _ h5) (g2.sub _ _ (g2.s _ _ ht)), ?_⟩
  have key : (Option.map V.bl (lookO kvs l)).getD (V.bl b) = V.bl ((lookO kvs l).getD b) := by cases lookO kvs l <;> rfl
  rw [valV_od, key]
  exact q _ S2 H2 (g1.trans g2) (.bl _)
/-- d[k] = b -/
theorem x_dput {i : Nat} {tk tv : TE} {kvs : List (List Nat × Bool)} {l : List Nat} {b : Bool} (hi : ρ[i]? = some (.od kvs)) (hk : E K C tk ρ (.dat (.tuple (l.map nI)))) (hv : E K C tv ρ (.dat (.bool b))) (hl : kvs.length < 10000000) (hn : (ρ.set i .any).all (fun x => !x.isOwn) = true := by rfl) :
    X K C (sDPut (tVar i) tk tv) ρ (.nx (ρ.set i (.od (putO kvs l b)))) := fun S0 B S I H σ D gr hib en k => by
  obtain ⟨v, hvv, a, rfl, h2, h3, h4, h5⟩ := en.var hi (by intro z; cases z)
  have hI := hib.trans gr.h
  refine hv B S I H σ gr.sub hI en _ fun y S1 H1 g1 s1 => ⟨_, hvv, ?_⟩
  refine hk B S1 I H1 σ g1.sub (hI.trans g1.h) (en.up g1 hI) _ fun z S2 H2 g2 s2 => ?_
  obtain ⟨t, rfl, ht⟩ := Rp.tupN s2
  cases s1
  have g12 := g1.trans g2
  have h2' := g12.keepNone h2 (o := .dT (odV kvs)) h5
  refine ⟨a, _, rfl, DPut.t (g12.h _ _ h5) (g2.sub _ _ ht) (by unfold odV; rw [List.length_map]; exact szl hl), ?_⟩
  rw [putK_od]
  exact k σ S2 _ g12.s ((gr.trans g12).wr h2' h4) ((en.up g12 hI).wr hvv ⟨a, rfl, h2', h3, h4, upd_same⟩ hn)
theorem e_vals {f : List Bool → Bool} {i : Nat} {kvs : List (List Nat × Bool)} (hi : ρ[i]? = some (.od kvs)) : E K C (tValsB f (tVar i)) ρ (.dat (.bool (f (kvs.map fun z => z.2)))) := fun B S I H σ hs hI en Q q => by
  obtain ⟨v, hv, a, rfl, h2, h3, h4, h5⟩ := en.var hi (by intro z; cases z)
  refine ⟨_, hv, a, _, kvs.map (fun z : List Nat × Bool => z.2), rfl, h5, ?_, q _ S H (Gr.refl hs) (.bl _)⟩
  unfold odV
  rw [List.map_map, List.map_map]
  rfl
end
end Gx
namespace Gx
open PySem PySem.Spec PyProof.Rows L2
/-! # Effectivity; the operations that change nothing -/
def forceS (m : Mc) (c a : Nat) (kvs : List (List Nat × Bool)) (s : List Nat) : List (List Nat × Bool) := putO kvs (part s c true) ((lookO kvs (part s c true)).getD true && hasB a (out m s))
def forceB (m : Mc) (c a : Nat) : Bool := (((allLists m.messageCounts).foldl (forceS m c a) []).map fun z => z.2).any id
def respS (m : Mc) (c a : Nat) (kvs : List (List Nat × Bool)) (s : List Nat) : List (List Nat × Bool) := putO kvs (part s c false) ((lookO kvs (part s c false)).getD false || hasB a (out m s))
def respB (m : Mc) (c a : Nat) : Bool := (((allLists m.messageCounts).foldl (respS m c a) []).map fun z => z.2).all id
def P_f_can_force : List Sl → PyData → Prop := fun xs d => ∃ (m : Mc) (c a : Nat), xs = [.ins m, .dat (nI c), .dat (nI a)] ∧ Wf m ∧ d = .bool (forceB m c a)
def P_f_can_respond : List Sl → PyData → Prop := fun xs d => ∃ (m : Mc) (c a : Nat), xs = [.ins m, .dat (nI c), .dat (nI a)] ∧ Wf m ∧ d = .bool (respB m c a)
def zN (l : List Nat) : List Int := l.map fun n : Nat => (n : Int)
def a_target_outcome (m : Mc) (_ns r : List Nat) : List Int := if within r (sizesM m) = true then [(tgt m r : Int)] else [-22]
def a_monotonicity_violation (m : Mc) (_ns _r : List Nat) : List Int := match viol1 m with
  | none => [0]
  | some l => 1 :: zN l
def a_find_manipulation (m : Mc) (_ns _r : List Nat) : List Int := orNone (manip1 m)
def a_mechanism_outcome (m : Mc) (_ns r : List Nat) : List Int := if within r m.messageCounts = true then [(out m r : Int)] else [-22]
def a_message_counts (m : Mc) (_ns _r : List Nat) : List Int := zN (m.target.agentCount :: m.messageCounts)
def a_count_equilibria (m : Mc) (_ns r : List Nat) : List Int := if within r (sizesM m) = true then [((equil m r).length : Int)] else [-22]
def a_equilibrium (m : Mc) (ns r : List Nat) : List Int := if within r (sizesM m) = true then (match (equil m r)[ns.headD 0]? with | none => [-33] | some s => zN (m.target.agentCount :: s)) else [-22]
def a_equilibrium_outcomes (m : Mc) (_ns r : List Nat) : List Int := if within r (sizesM m) = true then [(maskOf ((List.range m.target.alternativeCount).map fun x => ((equil m r).map (out m)).contains x) : Int)] else [-22]
def a_implements_in_nash (m : Mc) (_ns _r : List Nat) : List Int := resultOf (failN m)
def dynA (m : Mc) (p s : List Nat) : List Int := match forE (dynS m p) s (List.range 100) with
  | .inr (.list ds) => ds.map fun d => match d with | .int i => i | _ => 0
  | .inr _ => []
  | .inl h => if isEq m h p = true then zN (100 :: h) else [-75]
def a_best_response_dynamics (m : Mc) (_ns r : List Nat) : List Int := if within (r.take m.target.agentCount) (sizesM m) = true ∧ within (r.drop m.target.agentCount) m.messageCounts = true then dynA m (r.take m.target.agentCount) (r.drop m.target.agentCount) else [-22]
def okPref (m : Mc) (i k : Nat) : Bool := decide (i < m.target.agentCount) && decide (k < (domM m i).length)
def a_dominant_messages (m : Mc) (ns _r : List Nat) : List Int := if okPref m (ns.getD 0 0) (ns.getD 1 0) = true then [(maskOf (domF m (ns.getD 0 0) ((domM m (ns.getD 0 0)).getD (ns.getD 1 0) [])) : Int)] else [-2]
def a_dominated_messages (m : Mc) (ns _r : List Nat) : List Int := if okPref m (ns.getD 0 0) (ns.getD 1 0) = true then [(maskOf (domdF m (ns.getD 0 0) ((domM m (ns.getD 0 0)).getD (ns.getD 1 0) [])) : Int)] else [-2]
def a_implements_in_dominant_strategies (m : Mc) (_ns _r : List Nat) : List Int := resultOf (failD m)
def okSets (m : Mc) (c a : Nat) : Bool := decide (c < 2 ^ m.target.agentCount) && decide (a < 2 ^ m.target.alternativeCount)
def a_force (m : Mc) (ns _r : List Nat) : List Int := if okSets m (ns.getD 0 0) (ns.getD 1 0) = true then [((if forceB m (ns.getD 0 0) (ns.getD 1 0) then 1 else 0 : Nat) : Int)] else [-22]
def a_respond (m : Mc) (ns _r : List Nat) : List Int := if okSets m (ns.getD 0 0) (ns.getD 1 0) = true then [((if respB m (ns.getD 0 0) (ns.getD 1 0) then 1 else 0 : Nat) : Int)] else [-22]
def a_describe (m : Mc) (_ns _r : List Nat) : List Int := zN (m.target.agentCount :: m.target.alternativeCount :: sizesM m)
def P_f_target_outcome : List Sl → PyData → Prop := fun xs d => ∃ (m : Mc) (ns r : List Nat), xs = [.ins m, .dat (nL ns), .dat (nL r)] ∧ Wf m ∧ d = iL (a_target_outcome m ns r)
def P_f_monotonicity_violation : List Sl → PyData → Prop := fun xs d => ∃ (m : Mc) (ns r : List Nat), xs = [.ins m, .dat (nL ns), .dat (nL r)] ∧ Wf m ∧ d = iL (a_monotonicity_violation m ns r)
def P_f_find_manipulation : List Sl → PyData → Prop := fun xs d => ∃ (m : Mc) (ns r : List Nat), xs = [.ins m, .dat (nL ns), .dat (nL r)] ∧ Wf m ∧ d = iL (a_find_manipulation m ns r)
def P_f_mechanism_outcome : List Sl → PyData → Prop := fun xs d => ∃ (m : Mc) (ns r : List Nat), xs = [.ins m, .dat (nL ns), .dat (nL r)] ∧ Wf m ∧ d = iL (a_mechanism_outcome m ns r)
def P_f_message_counts : List Sl → PyData → Prop := fun xs d => ∃ (m : Mc) (ns r : List Nat), xs = [.ins m, .dat (nL ns), .dat (nL r)] ∧ Wf m ∧ d = iL (a_message_counts m ns r)
def P_f_count_equilibria : List Sl → PyData → Prop := fun xs d => ∃ (m : Mc) (ns r : List Nat), xs = [.ins m, .dat (nL ns), .dat (nL r)] ∧ Wf m ∧ d = iL (a_count_equilibria m ns r)
def P_f_equilibrium : List Sl → PyData → Prop := fun xs d => ∃ (m : Mc) (ns r : List Nat), xs = [.ins m, .dat (nL ns), .dat (nL r)] ∧ (Wf m ∧ 1 ≤ ns.length) ∧ d = iL (a_equilibrium m ns r)
def P_f_equilibrium_outcomes : List Sl → PyData → Prop := fun xs d => ∃ (m : Mc) (ns r : List Nat), xs = [.ins m, .dat (nL ns), .dat (nL r)] ∧ Wf m ∧ d = iL (a_equilibrium_outcomes m ns r)
def P_f_implements_in_nash : List Sl → PyData → Prop := fun xs d => ∃ (m : Mc) (ns r : List Nat), xs = [.ins m, .dat (nL ns), .dat (nL r)] ∧ Wf m ∧ d = iL (a_implements_in_nash m ns r)
def P_f_best_response_dynamics : List Sl → PyData → Prop := fun xs d => ∃ (m : Mc) (ns r : List Nat), xs = [.ins m, .dat (nL ns), .dat (nL r)] ∧ Wf m ∧ d = iL (a_best_response_dynamics m ns r)
def P_f_dominant_messages : List Sl → PyData → Prop := fun xs d => ∃ (m : Mc) (ns r : List Nat), xs = [.ins m, .dat (nL ns), .dat (nL r)] ∧ (Wf m ∧ ns.length = 2) ∧ d = iL (a_dominant_messages m ns r)
def P_f_dominated_messages : List Sl → PyData → Prop := fun xs d => ∃ (m : Mc) (ns r : List Nat), xs = [.ins m, .dat (nL ns), .dat (nL r)] ∧ (Wf m ∧ ns.length = 2) ∧ d = iL (a_dominated_messages m ns r)
def P_f_implements_in_dominant_strategies : List Sl → PyData → Prop := fun xs d => ∃ (m : Mc) (ns r : List Nat), xs = [.ins m, .dat (nL ns), .dat (nL r)] ∧ Wf m ∧ d = iL (a_implements_in_dominant_strategies m ns r)
def P_f_force : List Sl → PyData → Prop := fun xs d => ∃ (m : Mc) (ns r : List Nat), xs = [.ins m, .dat (nL ns), .dat (nL r)] ∧ (Wf m ∧ ns.length = 2) ∧ d = iL (a_force m ns r)
def P_f_respond : List Sl → PyData → Prop := fun xs d => ∃ (m : Mc) (ns r : List Nat), xs = [.ins m, .dat (nL ns), .dat (nL r)] ∧ (Wf m ∧ ns.length = 2) ∧ d = iL (a_respond m ns r)
def P_f_describe : List Sl → PyData → Prop := fun xs d => ∃ (m : Mc) (ns r : List Nat), xs = [.ins m, .dat (nL ns), .dat (nL r)] ∧ Wf m ∧ d = iL (a_describe m ns r)
abbrev sp_f_can_force (K : PySem.W.Frag) (C : Addr) : Sp := spF K C P_f_can_force
theorem len_f_can_force : ∀ xs d, P_f_can_force xs d → xs.length = 3 := fun xs d ⟨_, _, _, e, _⟩ => by rw [e] <;> rfl
abbrev sp_f_can_respond (K : PySem.W.Frag) (C : Addr) : Sp := spF K C P_f_can_respond
theorem len_f_can_respond : ∀ xs d, P_f_can_respond xs d → xs.length = 3 := fun xs d ⟨_, _, _, e, _⟩ => by rw [e] <;> rfl
abbrev sp_f_target_outcome (K : PySem.W.Frag) (C : Addr) : Sp := spF K C P_f_target_outcome
theorem len_f_target_outcome : ∀ xs d, P_f_target_outcome xs d → xs.length = 3 := fun xs d ⟨_, _, _, e, _⟩ => by rw [e] <;> rfl
abbrev sp_f_monotonicity_violation (K : PySem.W.Frag) (C : Addr) : Sp := spF K C P_f_monotonicity_violation
theorem len_f_monotonicity_violation : ∀ xs d, P_f_monotonicity_violation xs d → xs.length = 3 := fun xs d ⟨_, _, _, e, _⟩ => by rw [e] <;> rfl
abbrev sp_f_find_manipulation (K : PySem.W.Frag) (C : Addr) : Sp := spF K C P_f_find_manipulation
theorem len_f_find_manipulation : ∀ xs d, P_f_find_manipulation xs d → xs.length = 3 := fun xs d ⟨_, _, _, e, _⟩ => by rw [e] <;> rfl
abbrev sp_f_mechanism_outcome (K : PySem.W.Frag) (C : Addr) : Sp := spF K C P_f_mechanism_outcome
theorem len_f_mechanism_outcome : ∀ xs d, P_f_mechanism_outcome xs d → xs.length = 3 := fun xs d ⟨_, _, _, e, _⟩ => by rw [e] <;> rfl
abbrev sp_f_message_counts (K : PySem.W.Frag) (C : Addr) : Sp := spF K C P_f_message_counts
theorem len_f_message_counts : ∀ xs d, P_f_message_counts xs d → xs.length = 3 := fun xs d ⟨_, _, _, e, _⟩ => by rw [e] <;> rfl
abbrev sp_f_count_equilibria (K : PySem.W.Frag) (C : Addr) : Sp := spF K C P_f_count_equilibria
theorem len_f_count_equilibria : ∀ xs d, P_f_count_equilibria xs d → xs.length = 3 := fun xs d ⟨_, _, _, e, _⟩ => by rw [e] <;> rfl
abbrev sp_f_equilibrium (K : PySem.W.Frag) (C : Addr) : Sp := spF K C P_f_equilibrium
theorem len_f_equilibrium : ∀ xs d, P_f_equilibrium xs d → xs.length = 3 := fun xs d ⟨_, _, _, e, _⟩ => by rw [e] <;> rfl
abbrev sp_f_equilibrium_outcomes (K : PySem.W.Frag) (C : Addr) : Sp := spF K C P_f_equilibrium_outcomes
theorem len_f_equilibrium_outcomes : ∀ xs d, P_f_equilibrium_outcomes xs d → xs.length = 3 := fun xs d ⟨_, _, _, e, _⟩ => by rw [e] <;> rfl
abbrev sp_f_implements_in_nash (K : PySem.W.Frag) (C : Addr) : Sp := spF K C P_f_implements_in_nash
theorem len_f_implements_in_nash : ∀ xs d, P_f_implements_in_nash xs d → xs.length = 3 := fun xs d ⟨_, _, _, e, _⟩ => by rw [e] <;> rfl
abbrev sp_f_best_response_dynamics (K : PySem.W.Frag) (C : Addr) : Sp := spF K C P_f_best_response_dynamics
theorem len_f_best_response_dynamics : ∀ xs d, P_f_best_response_dynamics xs d → xs.length = 3 := fun xs d ⟨_, _, _, e, _⟩ => by rw [e] <;> rfl
abbrev sp_f_dominant_messages (K : PySem.W.Frag) (C : Addr) : Sp := spF K C P_f_dominant_messages
theorem len_f_dominant_messages : ∀ xs d, P_f_dominant_messages xs d → xs.length = 3 := fun xs d ⟨_, _, _, e, _⟩ => by rw [e] <;> rfl
abbrev sp_f_dominated_messages (K : PySem.W.Frag) (C : Addr) : Sp := spF K C P_f_dominated_messages
theorem len_f_dominated_messages : ∀ xs d, P_f_dominated_messages xs d → xs.length = 3 := fun xs d ⟨_, _, _, e, _⟩ => by rw [e] <;> rfl
abbrev sp_f_implements_in_dominant_strategies (K : PySem.W.Frag) (C : Addr) : Sp := spF K C P_f_implements_in_dominant_strategies
theorem len_f_implements_in_dominant_strategies : ∀ xs d, P_f_implements_in_dominant_strategies xs d → xs.length = 3 := fun xs d ⟨_, _, _, e, _⟩ => by rw [e] <;> rfl
abbrev sp_f_force (K : PySem.W.Frag) (C : Addr) : Sp := spF K C P_f_force
theorem len_f_force : ∀ xs d, P_f_force xs d → xs.length = 3 := fun xs d ⟨_, _, _, e, _⟩ => by rw [e] <;> rfl
abbrev sp_f_respond (K : PySem.W.Frag) (C : Addr) : Sp := spF K C P_f_respond
theorem len_f_respond : ∀ xs d, P_f_respond xs d → xs.length = 3 := fun xs d ⟨_, _, _, e, _⟩ => by rw [e] <;> rfl
abbrev sp_f_describe (K : PySem.W.Frag) (C : Addr) : Sp := spF K C P_f_describe
theorem len_f_describe : ∀ xs d, P_f_describe xs d → xs.length = 3 := fun xs d ⟨_, _, _, e, _⟩ => by rw [e] <;> rfl
/-! ### readings (printed by gen.py) -/
/-- 0 instance, 1 coalition, 2 alternatives, 3 safe, 4 messages, 5 part -/
def t_f_can_force (K : PySem.W.Frag) (C : Addr) : TS :=
    (tSeq (tAsg tDNewT (gName 3))
    (tSeq (tFor (iList K (tMeth C "message_profiles" (sp_m_message_profiles K C) [] E0 (tVar 0) tNil)) (gName 4) (tSeq (tAsg (tCall (sp_f_part_of K C) [] E0 (tCons (tVar 4) (tCons (tVar 1) (tCons (tC (.bl true)) tNil)))) (gName 5))
    (sDPut (tVar 3) (tVar 5) (tAndV (tDGet2 (tVar 3) (tVar 5) (tC (.bl true))) (tCall (sp_f_has K C) [] E0 (tCons (tVar 2) (tCons (tMeth C "outcome_of" (sp_m_outcome_of K C) [] E0 (tVar 0) (tCons (tVar 4) tNil)) tNil)))))))
    (tRet (tValsAny (tVar 3)))))
/-- 0 instance, 1 coalition, 2 alternatives, 3 met, 4 messages, 5 part -/
def t_f_can_respond (K : PySem.W.Frag) (C : Addr) : TS :=
    (tSeq (tAsg tDNewT (gName 3))
    (tSeq (tFor (iList K (tMeth C "message_profiles" (sp_m_message_profiles K C) [] E0 (tVar 0) tNil)) (gName 4) (tSeq (tAsg (tCall (sp_f_part_of K C) [] E0 (tCons (tVar 4) (tCons (tVar 1) (tCons (tC (.bl false)) tNil)))) (gName 5))
    (sDPut (tVar 3) (tVar 5) (tOrV (tDGet2 (tVar 3) (tVar 5) (tC (.bl false))) (tCall (sp_f_has K C) [] E0 (tCons (tVar 2) (tCons (tMeth C "outcome_of" (sp_m_outcome_of K C) [] E0 (tVar 0) (tCons (tVar 4) tNil)) tNil)))))))
    (tRet (tValsAll (tVar 3)))))
/-- 0 instance, 1 numbers, 2 row -/
def t_f_target_outcome (K : PySem.W.Frag) (C : Addr) : TS :=
    (tSeq (tIfS (tNot (tB (tCall (sp_f_is_within K C) [] E0 (tCons (tVar 2) (tCons (tMeth C "domain_sizes" (sp_m_domain_sizes K C) [] E0 (tVar 0) tNil) tNil))))) (tRet (tLst (tCons (tC (.int (-22))) tNil))) tNext)
    (tRet (tLst (tCons (tMeth C "target_at" (sp_m_target_at K C) [] E0 (tVar 0) (tCons (tVar 2) tNil)) tNil))))
/-- 0 instance, 1 numbers, 2 row, 3 found -/
def t_f_monotonicity_violation (K : PySem.W.Frag) (C : Addr) : TS :=
    (tSeq (tAsg (tCall (sp_f_first_violation K C) [] E0 (tCons (tVar 0) tNil)) (gName 3))
    (tRet (tIf (tTest (tOp rIsN (tVar 3) (tC .non))) (tLst (tCons (tC (.int 0)) tNil)) (tOp rCat (tLst (tCons (tC (.int 1)) tNil)) (tVar 3)))))
/-- 0 instance, 1 numbers, 2 row -/
def t_f_find_manipulation (K : PySem.W.Frag) (C : Addr) : TS :=
    (tRet (tCall (sp_f_or_none K C) [] E0 (tCons (tCall (sp_f_first_manipulation K C) [] E0 (tCons (tVar 0) tNil)) tNil)))
/-- 0 instance, 1 numbers, 2 row -/
def t_f_mechanism_outcome (K : PySem.W.Frag) (C : Addr) : TS :=
    (tSeq (tIfS (tNot (tB (tCall (sp_f_is_within K C) [] E0 (tCons (tVar 2) (tCons (tFld K (tVar 0) "message_counts") tNil))))) (tRet (tLst (tCons (tC (.int (-22))) tNil))) tNext)
    (tRet (tLst (tCons (tMeth C "outcome_of" (sp_m_outcome_of K C) [] E0 (tVar 0) (tCons (tVar 2) tNil)) tNil))))
/-- 0 instance, 1 numbers, 2 row -/
def t_f_message_counts (K : PySem.W.Frag) (C : Addr) : TS :=
    (tRet (tOp rCat (tLst (tCons (tFld K (tVar 0) "agent_count") tNil)) (tFld K (tVar 0) "message_counts")))
/-- 0 instance, 1 numbers, 2 row -/
def t_f_count_equilibria (K : PySem.W.Frag) (C : Addr) : TS :=
    (tSeq (tIfS (tNot (tB (tCall (sp_f_is_within K C) [] E0 (tCons (tVar 2) (tCons (tMeth C "domain_sizes" (sp_m_domain_sizes K C) [] E0 (tVar 0) tNil) tNil))))) (tRet (tLst (tCons (tC (.int (-22))) tNil))) tNext)
    (tRet (tLst (tCons (tCB (rLenS K) (tCons (tCall (sp_f_equilibria K C) [] E0 (tCons (tVar 0) (tCons (tVar 2) tNil))) tNil)) tNil))))
/-- 0 instance, 1 numbers, 2 row, 3 found -/
def t_f_equilibrium (K : PySem.W.Frag) (C : Addr) : TS :=
    (tSeq (tIfS (tNot (tB (tCall (sp_f_is_within K C) [] E0 (tCons (tVar 2) (tCons (tMeth C "domain_sizes" (sp_m_domain_sizes K C) [] E0 (tVar 0) tNil) tNil))))) (tRet (tLst (tCons (tC (.int (-22))) tNil))) tNext)
    (tSeq (tAsg (tCall (sp_f_equilibria K C) [] E0 (tCons (tVar 0) (tCons (tVar 2) tNil))) (gName 3))
    (tSeq (tIfS (tTest (tOp rGeI (tOp (rIxL K) (tVar 1) (tC (.int 0))) (tCB (rLenS K) (tCons (tVar 3) tNil)))) (tRet (tLst (tCons (tC (.int (-33))) tNil))) tNext)
    (tRet (tOp rCat (tLst (tCons (tFld K (tVar 0) "agent_count") tNil)) (tOp (rIxL K) (tVar 3) (tOp (rIxL K) (tVar 1) (tC (.int 0)))))))))
/-- 0 instance, 1 numbers, 2 row, 3 outcomes, 4 messages, 5 alternative -/
def t_f_equilibrium_outcomes (K : PySem.W.Frag) (C : Addr) : TS :=
    (tSeq (tIfS (tNot (tB (tCall (sp_f_is_within K C) [] E0 (tCons (tVar 2) (tCons (tMeth C "domain_sizes" (sp_m_domain_sizes K C) [] E0 (tVar 0) tNil) tNil))))) (tRet (tLst (tCons (tC (.int (-22))) tNil))) tNext)
    (tSeq (tAsg (tLc (iList K (tCall (sp_f_equilibria K C) [] E0 (tCons (tVar 0) (tCons (tVar 2) tNil)))) (gName 4) tYes (tMeth C "outcome_of" (sp_m_outcome_of K C) [] E0 (tVar 0) (tCons (tVar 4) tNil)) [4]) (gName 3))
    (tRet (tLst (tCons (tCall (sp_f_mask_of K C) [] E0 (tCons (tLc (iRng1 (tCons (tFld K (tVar 0) "alternative_count") tNil)) (gName 5) tYes (tOp (rIn K false) (tVar 5) (tVar 3)) [5]) tNil)) tNil)))))
/-- 0 instance, 1 numbers, 2 row -/
def t_f_implements_in_nash (K : PySem.W.Frag) (C : Addr) : TS :=
    (tRet (tCall (sp_f_result_of K C) [] E0 (tCons (tCall (sp_f_first_failure K C) [] E0 (tCons (tVar 0) tNil)) tNil)))
/-- 0 instance, 1 numbers, 2 row, 3 found, 4 profile, 5 messages -/
def t_f_best_response_dynamics (K : PySem.W.Frag) (C : Addr) : TS :=
    (tSeq (tPar 4 5 (tCons (tSl (rSlL K) (tVar 2) tNoPart (tPart (tFld K (tVar 0) "agent_count"))) (tCons (tSl (rSlL K) (tVar 2) (tPart (tFld K (tVar 0) "agent_count")) tNoPart) tNil)))
    (tSeq (tIfS (tOr (tNot (tB (tCall (sp_f_is_within K C) [] E0 (tCons (tVar 4) (tCons (tMeth C "domain_sizes" (sp_m_domain_sizes K C) [] E0 (tVar 0) tNil) tNil))))) (tNot (tB (tCall (sp_f_is_within K C) [] E0 (tCons (tVar 5) (tCons (tFld K (tVar 0) "message_counts") tNil)))))) (tRet (tLst (tCons (tC (.int (-22))) tNil))) tNext)
    (tSeq (tAsg (tCall (sp_f_dynamics K C) [] E0 (tCons (tVar 0) (tCons (tVar 4) (tCons (tVar 5) tNil)))) (gName 3))
    (tRet (tIf (tTest (tOp rIsN (tVar 3) (tC .non))) (tLst (tCons (tC (.int (-75))) tNil)) (tVar 3))))))
/-- 0 instance, 1 numbers, 2 row, 3 agent, 4 preference -/
def t_f_dominant_messages (K : PySem.W.Frag) (C : Addr) : TS :=
    (tSeq (tAsg (tVar 1) (gUnl K 2 (gCons (gName 3) (gCons (gName 4) gNil))))
    (tSeq (tIfS (tNot (tB (tCall (sp_f_has_preference K C) [] E0 (tCons (tVar 0) (tCons (tVar 3) (tCons (tVar 4) tNil)))))) (tRet (tLst (tCons (tC (.int (-2))) tNil))) tNext)
    (tRet (tLst (tCons (tCall (sp_f_mask_of K C) [] E0 (tCons (tCall (sp_f_dominant_flags K C) [] E0 (tCons (tVar 0) (tCons (tVar 3) (tCons (tOp (rIxL K) (tOp (rIxL K) (tFld K (tVar 0) "domains") (tVar 3)) (tVar 4)) tNil)))) tNil)) tNil)))))
/-- 0 instance, 1 numbers, 2 row, 3 agent, 4 preference -/
def t_f_dominated_messages (K : PySem.W.Frag) (C : Addr) : TS :=
    (tSeq (tAsg (tVar 1) (gUnl K 2 (gCons (gName 3) (gCons (gName 4) gNil))))
    (tSeq (tIfS (tNot (tB (tCall (sp_f_has_preference K C) [] E0 (tCons (tVar 0) (tCons (tVar 3) (tCons (tVar 4) tNil)))))) (tRet (tLst (tCons (tC (.int (-2))) tNil))) tNext)
    (tRet (tLst (tCons (tCall (sp_f_mask_of K C) [] E0 (tCons (tCall (sp_f_dominated_flags K C) [] E0 (tCons (tVar 0) (tCons (tVar 3) (tCons (tOp (rIxL K) (tOp (rIxL K) (tFld K (tVar 0) "domains") (tVar 3)) (tVar 4)) tNil)))) tNil)) tNil)))))
/-- 0 instance, 1 numbers, 2 row -/
def t_f_implements_in_dominant_strategies (K : PySem.W.Frag) (C : Addr) : TS :=
    (tRet (tCall (sp_f_result_of K C) [] E0 (tCons (tCall (sp_f_first_failure_of_dominance K C) [] E0 (tCons (tVar 0) tNil)) tNil)))
/-- 0 instance, 1 numbers, 2 row, 3 coalition, 4 alternatives -/
def t_f_force (K : PySem.W.Frag) (C : Addr) : TS :=
    (tSeq (tAsg (tVar 1) (gUnl K 2 (gCons (gName 3) (gCons (gName 4) gNil))))
    (tSeq (tIfS (tNot (tB (tCall (sp_f_are_sets K C) [] E0 (tCons (tVar 0) (tCons (tVar 3) (tCons (tVar 4) tNil)))))) (tRet (tLst (tCons (tC (.int (-22))) tNil))) tNext)
    (tRet (tLst (tCons (tCB rInt1 (tCons (tCall (sp_f_can_force K C) [] E0 (tCons (tVar 0) (tCons (tVar 3) (tCons (tVar 4) tNil)))) tNil)) tNil)))))
/-- 0 instance, 1 numbers, 2 row, 3 coalition, 4 alternatives -/
def t_f_respond (K : PySem.W.Frag) (C : Addr) : TS :=
    (tSeq (tAsg (tVar 1) (gUnl K 2 (gCons (gName 3) (gCons (gName 4) gNil))))
    (tSeq (tIfS (tNot (tB (tCall (sp_f_are_sets K C) [] E0 (tCons (tVar 0) (tCons (tVar 3) (tCons (tVar 4) tNil)))))) (tRet (tLst (tCons (tC (.int (-22))) tNil))) tNext)
    (tRet (tLst (tCons (tCB rInt1 (tCons (tCall (sp_f_can_respond K C) [] E0 (tCons (tVar 0) (tCons (tVar 3) (tCons (tVar 4) tNil)))) tNil)) tNil)))))
/-- 0 instance, 1 numbers, 2 row -/
def t_f_describe (K : PySem.W.Frag) (C : Addr) : TS :=
    (tRet (tOp rCat (tLst (tCons (tFld K (tVar 0) "agent_count") (tCons (tFld K (tVar 0) "alternative_count") tNil))) (tMeth C "domain_sizes" (sp_m_domain_sizes K C) [] E0 (tVar 0) tNil)))
theorem putO_len (kvs : List (List Nat × Bool)) (k : List Nat) (b : Bool) : (putO kvs k b).length ≤ kvs.length + 1 := by
  unfold putO
  split
  · rw [List.length_map]; omega
  · rw [List.length_append]; exact Nat.le_refl _
theorem fold_put {f : List (List Nat × Bool) → List Nat → List (List Nat × Bool)} (h : ∀ kvs s, (f kvs s).length ≤ kvs.length + 1) : ∀ (l : List (List Nat)) (kvs : List (List Nat × Bool)), (l.foldl f kvs).length ≤ kvs.length + l.length
  | [], kvs => Nat.le_refl _
  | s :: r, kvs => by
    have h1 := fold_put h r (f kvs s)
    have h2 := h kvs s
    rw [List.foldl_cons, List.length_cons]
    omega
theorem two_of {l : List Nat} (h : l.length = 2) : ∃ a b, l = [a, b] := by
  match l, h with
  | [a, b], _ => exact ⟨a, b, rfl⟩
section
variable {K : PySem.W.Frag} {C : Addr}
theorem x_f_can_force (T : Tx K C) : ∀ xs d, P_f_can_force xs d → X K C (t_f_can_force K C) (xs ++ List.replicate (N_f_can_force.length - 3) .any) (.rt d) := by
  rintro xs d ⟨m, c, a, rfl, W, rfl⟩
  have ha := W.a3
  have hv := W.v4
  refine x_seq x_dnew (x_seq (x_forF (xs := allLists m.messageCounts) (enc := nL) (fun kvs => [.ins m, .dat (nI c), .dat (nI a), .od kvs, .any, .any]) (forceS m c a) [] (ei_list (e_meth (fun _ _ _ _ => fl_no (by decide +kernel)) (e_var rfl) ea_nil ⟨_, rfl, W, rfl⟩)) (by walk_at "wk") (fun pre s post e => ?_)) (x_ret (e_vals rfl)))
  have hw := mem_all.mp (mem_mid e)
  have h1 := fold_put (f := forceS m c a) (fun kvs s => putO_len _ _ _) pre []
  have h2 := congrArg List.length e
  have h3 := W.mp_len
  rw [List.length_append, List.length_cons] at h2
  refine ⟨_, _, ga_name, _, x_seq (x_asgE (e_call (ea_cons (e_var rfl) (ea_cons (e_var rfl) (ea_one e_cB))) ⟨_, _, _, rfl, by rw [wn_len hw, W.ml]; omega, rfl⟩)) (x_dput rfl (e_var rfl) (e_andV (e_dget rfl (e_var rfl) e_cB) fun _ => e_call (ea_cons (e_var rfl) (ea_one (e_meth (fun _ _ _ _ => fl_no (by decide +kernel)) (e_var rfl) (ea_one (e_var rfl)) ⟨_, _, rfl, ⟨W, hw⟩, rfl⟩))) ⟨_, _, rfl, by have := W.out_lt hw; omega, rfl⟩) ?_), by walk_at "wk"⟩
  have h4 : ([] : List (List Nat × Bool)).length = 0 := rfl
  omega
theorem x_f_can_respond (T : Tx K C) : ∀ xs d, P_f_can_respond xs d → X K C (t_f_can_respond K C) (xs ++ List.replicate (N_f_can_respond.length - 3) .any) (.rt d) := by
  rintro xs d ⟨m, c, a, rfl, W, rfl⟩
  have ha := W.a3
  have hv := W.v4
  refine x_seq x_dnew (x_seq (x_forF (xs := allLists m.messageCounts) (enc := nL) (fun kvs => [.ins m, .dat (nI c), .dat (nI a), .od kvs, .any, .any]) (respS m c a) [] (ei_list (e_meth (fun _ _ _ _ => fl_no (by decide +kernel)) (e_var rfl) ea_nil ⟨_, rfl, W, rfl⟩)) (by walk_at "wk") (fun pre s post e => ?_)) (x_ret (e_vals rfl)))
  have hw := mem_all.mp (mem_mid e)
  have h1 := fold_put (f := respS m c a) (fun kvs s => putO_len _ _ _) pre []
  have h2 := congrArg List.length e
  have h3 := W.mp_len
  rw [List.length_append, List.length_cons] at h2
  refine ⟨_, _, ga_name, _, x_seq (x_asgE (e_call (ea_cons (e_var rfl) (ea_cons (e_var rfl) (ea_one e_cB))) ⟨_, _, _, rfl, by rw [wn_len hw, W.ml]; omega, rfl⟩)) (x_dput rfl (e_var rfl) (e_orV (e_dget rfl (e_var rfl) e_cB) fun _ => e_call (ea_cons (e_var rfl) (ea_one (e_meth (fun _ _ _ _ => fl_no (by decide +kernel)) (e_var rfl) (ea_one (e_var rfl)) ⟨_, _, rfl, ⟨W, hw⟩, rfl⟩))) ⟨_, _, rfl, by have := W.out_lt hw; omega, rfl⟩) ?_), by walk_at "wk"⟩
  have h4 : ([] : List (List Nat × Bool)).length = 0 := rfl
  omega
/-- [z], a constant -/
theorem e_l1 {ρ : List Sl} {te : TE} {z : Int} (h : E K C te ρ (.dat (.int z))) : E K C (tLst (tCons te tNil)) ρ (.dat (iL [z])) := e_new (en_lst (ds := [.int z]) (ea_one h) (by show 1 ≤ 10000000; omega))
theorem e_wnS {ρ : List Sl} {te tm : TE} {m : Mc} {r : List Nat} (W : Wf m) (h : E K C te ρ (.dat (nL r))) (hm : E K C tm ρ (.ins m)) : E K C (tCall (sp_f_is_within K C) [] E0 (tCons te (tCons (tMeth C "domain_sizes" (sp_m_domain_sizes K C) [] E0 tm tNil) tNil))) ρ (.dat (.bool (within r (sizesM m)))) :=
  e_call (ea_cons h (ea_one (e_meth (fun _ _ _ _ => fl_no (by decide +kernel)) hm ea_nil ⟨_, rfl, by rw [W.dl]; have := W.a3; omega, rfl⟩))) ⟨_, _, rfl, by rw [W.szl]; have := W.a3; omega, rfl⟩
theorem e_wnM {ρ : List Sl} {te tm : TE} {m : Mc} {r : List Nat} (T : Tx K C) (W : Wf m) (h : E K C te ρ (.dat (nL r))) (hm : E K C tm ρ (.ins m)) : E K C (tCall (sp_f_is_within K C) [] E0 (tCons te (tCons (tFld K tm "message_counts") tNil))) ρ (.dat (.bool (within r m.messageCounts))) :=
  e_call (ea_cons h (ea_one (e_fM T hm))) ⟨_, _, rfl, by rw [W.ml]; have := W.a3; omega, rfl⟩
theorem x_f_target_outcome (T : Tx K C) : ∀ xs d, P_f_target_outcome xs d → X K C (t_f_target_outcome K C) (xs ++ List.replicate (N_f_target_outcome.length - 3) .any) (.rt d) := by
  rintro xs d ⟨m, ns, r, rfl, W, rfl⟩
  refine x_ifR (et_not (et_B (e_wnS W (e_var rfl) (e_var rfl)))) (fun hb => ?_) fun hb => ?_
  · refine x_is (x_ret (e_l1 e_cI)) ?_
    have : within r (sizesM m) = false := by simpa using hb
    unfold a_target_outcome
    rw [this, if_neg Bool.false_ne_true]
  · have hw : within r (sizesM m) = true := by simpa using hb
    refine x_is (x_ret (e_l1 (e_meth (fun _ _ _ _ => fl_no (by decide +kernel)) (e_var rfl) (ea_one (e_var rfl)) ⟨_, _, rfl, ⟨W, hw⟩, rfl⟩))) ?_
    unfold a_target_outcome
    rw [if_pos hw]
theorem x_f_monotonicity_violation (T : Tx K C) : ∀ xs d, P_f_monotonicity_violation xs d → X K C (t_f_monotonicity_violation K C) (xs ++ List.replicate (N_f_monotonicity_violation.length - 3) .any) (.rt d) := by
  rintro xs d ⟨m, ns, r, rfl, W, rfl⟩
  have hS := x_asgE (K := K) (C := C) (ρ := [.ins m, .dat (nL ns), .dat (nL r), .any]) (i := 3) (te := tCall (sp_f_first_violation K C) [] E0 (tCons (tVar 0) tNil)) (d := optL (viol1 m)) (e_call (ea_one (e_var rfl)) ⟨_, rfl, W, rfl⟩)
  unfold a_monotonicity_violation
  cases e : viol1 m with
  | none =>
    rw [e] at hS
    exact x_seq hS (x_ret (e_if (et_test (e_isN (d := .none) (e_var rfl) e_cZ)) (fun _ => e_l1 e_cI) fun z => by cases z))
  | some l =>
    rw [e] at hS
    have hl : l.length ≤ 6 := by
      unfold viol1 at e
      obtain ⟨p, hp, e2⟩ := List.exists_of_findSome?_eq_some e
      obtain ⟨q, e3, rfl⟩ := Option.map_eq_some_iff.mp e2
      have h1 := wn_len (mem_all.mp hp)
      have h2 := wn_len (viol_wn e3)
      rw [W.szl] at h1 h2
      have := W.a3
      rw [List.length_append]
      omega
    refine x_seq hS (x_is (x_ret (e_if (et_test (e_isN (d := nL l) (e_var rfl) e_cZ)) (fun z => by cases z) fun _ => e_new (en_cat (e_l1 e_cI) (e_var (x := .dat (nL l)) rfl) (by rw [List.length_map, List.length_map]; show 1 + l.length ≤ 10000000; omega)))) ?_)
    show PyData.list (PyData.int 1 :: l.map nI) = PyData.list (PyData.int 1 :: (zN l).map PyData.int)
    unfold zN
    rw [nats_int]
theorem x_f_find_manipulation (T : Tx K C) : ∀ xs d, P_f_find_manipulation xs d → X K C (t_f_find_manipulation K C) (xs ++ List.replicate (N_f_find_manipulation.length - 3) .any) (.rt d) := by
  rintro xs d ⟨m, ns, r, rfl, W, rfl⟩
  exact x_ret (e_call (ea_one (e_call (ea_one (e_var rfl)) ⟨_, rfl, W, rfl⟩)) ⟨_, rfl, ⟨trivial, trivial⟩, rfl⟩)
theorem x_f_mechanism_outcome (T : Tx K C) : ∀ xs d, P_f_mechanism_outcome xs d → X K C (t_f_mechanism_outcome K C) (xs ++ List.replicate (N_f_mechanism_outcome.length - 3) .any) (.rt d) := by
  rintro xs d ⟨m, ns, r, rfl, W, rfl⟩
  refine x_ifR (et_not (et_B (e_wnM T W (e_var rfl) (e_var rfl)))) (fun hb => ?_) fun hb => ?_
  · refine x_is (x_ret (e_l1 e_cI)) ?_
    have : within r m.messageCounts = false := by simpa using hb
    unfold a_mechanism_outcome
    rw [this, if_neg Bool.false_ne_true]
  · have hw : within r m.messageCounts = true := by simpa using hb
    refine x_is (x_ret (e_l1 (e_meth (fun _ _ _ _ => fl_no (by decide +kernel)) (e_var rfl) (ea_one (e_var rfl)) ⟨_, _, rfl, ⟨W, hw⟩, rfl⟩))) ?_
    unfold a_mechanism_outcome
    rw [if_pos hw]
theorem x_f_message_counts (T : Tx K C) : ∀ xs d, P_f_message_counts xs d → X K C (t_f_message_counts K C) (xs ++ List.replicate (N_f_message_counts.length - 3) .any) (.rt d) := by
  rintro xs d ⟨m, ns, r, rfl, W, rfl⟩
  have ha := W.a3
  refine x_is (x_ret (e_new (en_cat (e_l1 (e_fA T (e_var rfl))) (e_fM T (e_var rfl)) (by rw [List.length_map, List.length_map, W.ml]; show 1 + m.target.agentCount ≤ 10000000; omega)))) ?_
  show PyData.list ((m.target.agentCount :: m.messageCounts).map nI) = _
  exact nats_iL _
theorem x_f_count_equilibria (T : Tx K C) : ∀ xs d, P_f_count_equilibria xs d → X K C (t_f_count_equilibria K C) (xs ++ List.replicate (N_f_count_equilibria.length - 3) .any) (.rt d) := by
  rintro xs d ⟨m, ns, r, rfl, W, rfl⟩
  refine x_ifR (et_not (et_B (e_wnS W (e_var rfl) (e_var rfl)))) (fun hb => ?_) fun hb => ?_
  · refine x_is (x_ret (e_l1 e_cI)) ?_
    have : within r (sizesM m) = false := by simpa using hb
    unfold a_count_equilibria
    rw [this, if_neg Bool.false_ne_true]
  · have hw : within r (sizesM m) = true := by simpa using hb
    refine x_is (x_ret (e_l1 (e_is (e_len (e_call (ea_cons (e_var rfl) (ea_one (e_var rfl))) ⟨_, _, rfl, ⟨W, hw⟩, rfl⟩)) (by rw [List.length_map])))) ?_
    unfold a_count_equilibria
    rw [if_pos hw]
theorem x_f_equilibrium (T : Tx K C) : ∀ xs d, P_f_equilibrium xs d → X K C (t_f_equilibrium K C) (xs ++ List.replicate (N_f_equilibrium.length - 3) .any) (.rt d) := by
  rintro xs d ⟨m, ns, r, rfl, ⟨W, hn⟩, rfl⟩
  have ha := W.a3
  obtain ⟨n, ns', rfl⟩ : ∃ n l, ns = n :: l := by
    cases ns with
    | nil => simp at hn
    | cons n l => exact ⟨n, l, rfl⟩
  refine x_ifR (et_not (et_B (e_wnS W (e_var rfl) (e_var rfl)))) (fun hb => ?_) fun hb => ?_
  · refine x_is (x_ret (e_l1 e_cI)) ?_
    have : within r (sizesM m) = false := by simpa using hb
    unfold a_equilibrium
    rw [this, if_neg Bool.false_ne_true]
  · have hw : within r (sizesM m) = true := by simpa using hb
    refine x_seq (x_asgE (e_call (ea_cons (e_var rfl) (ea_one (e_var rfl))) ⟨_, _, rfl, ⟨W, hw⟩, rfl⟩)) ?_
    refine x_ifR (b := decide ((equil m r).length ≤ n)) (et_test (e_ge (e_ixM (f := nI) (xs := n :: ns') (x := n) (e_var rfl) (e_cN 0) rfl) (e_is (e_len (e_var rfl)) (by rw [List.length_map])))) (fun hc => ?_) fun hc => ?_
    · refine x_is (x_ret (e_l1 e_cI)) ?_
      unfold a_equilibrium
      rw [if_pos hw, List.headD_cons, List.getElem?_eq_none (of_decide_eq_true hc)]
    · have hc' : n < (equil m r).length := by
        have := of_decide_eq_false hc
        omega
      have hs : (equil m r)[n]? = some (equil m r)[n] := List.getElem?_eq_getElem hc'
      have hl : ((equil m r)[n]).length ≤ 3 := by
        have h1 := mem_all.mp (List.mem_filter.mp (List.getElem_mem hc')).1
        rw [wn_len h1, W.ml]
        exact ha
      refine x_is (x_ret (e_new (en_cat (e_l1 (e_fA T (e_var rfl))) (e_ixM (f := nL) (e_var rfl) (e_ixM (f := nI) (xs := n :: ns') (x := n) (e_var rfl) (e_cN 0) rfl) hs) (by rw [List.length_map, List.length_map]; show 1 + ((equil m r)[n]).length ≤ 10000000; omega)))) ?_
      unfold a_equilibrium
      rw [if_pos hw, List.headD_cons, hs]
      show PyData.list ((m.target.agentCount :: (equil m r)[n]).map nI) = _
      exact nats_iL _
theorem x_f_equilibrium_outcomes (T : Tx K C) : ∀ xs d, P_f_equilibrium_outcomes xs d → X K C (t_f_equilibrium_outcomes K C) (xs ++ List.replicate (N_f_equilibrium_outcomes.length - 3) .any) (.rt d) := by
  rintro xs d ⟨m, ns, r, rfl, W, rfl⟩
  have hv := W.v4
  refine x_ifR (et_not (et_B (e_wnS W (e_var rfl) (e_var rfl)))) (fun hb => ?_) fun hb => ?_
  · refine x_is (x_ret (e_l1 e_cI)) ?_
    have : within r (sizesM m) = false := by simpa using hb
    unfold a_equilibrium_outcomes
    rw [this, if_neg Bool.false_ne_true]
  · have hw : within r (sizesM m) = true := by simpa using hb
    have hel : (equil m r).length ≤ 1296 := Nat.le_trans (List.length_filter_le ..) W.mp_len
    have h1 := en_lc0 (K := K) (C := C) (ρ := [.ins m, .dat (nL ns), .dat (nL r), .any, .any, .any]) (wi := iList K (tCall (sp_f_equilibria K C) [] E0 (tCons (tVar 0) (tCons (tVar 2) tNil)))) (g := gName 4) (te := tMeth C "outcome_of" (sp_m_outcome_of K C) [] E0 (tVar 0) (tCons (tVar 4) tNil)) (js := [4]) (vs := [4]) (xs := equil m r) (enc := nL) (f := fun s => nI (out m s)) (ei_list (e_call (ea_cons (e_var rfl) (ea_one (e_var rfl))) ⟨_, _, rfl, ⟨W, hw⟩, rfl⟩)) (by omega) (fun _ h => h)
      fun s hs => ⟨_, ga_name, e_meth (fun _ _ _ _ => fl_no (by decide +kernel)) (e_var rfl) (ea_one (e_var rfl)) ⟨_, _, rfl, ⟨W, mem_all.mp (List.mem_filter.mp hs).1⟩, rfl⟩⟩
    have h2 : ((equil m r).map fun s => nI (out m s)) = ((equil m r).map (out m)).map nI := by
      rw [List.map_map]
      rfl
    rw [h2] at h1
    have h3 := en_lc0 (K := K) (C := C) (ρ := [.ins m, .dat (nL ns), .dat (nL r), .dat (nL ((equil m r).map (out m))), .any, .any]) (wi := iRng1 (tCons (tFld K (tVar 0) "alternative_count") tNil)) (g := gName 5) (te := tOp (rIn K false) (tVar 5) (tVar 3)) (js := [5]) (vs := [5]) (xs := List.range m.target.alternativeCount) (enc := nI) (f := fun x => .bool (((equil m r).map (out m)).contains x)) (ei_range (e_fV T (e_var rfl)) (by omega)) (by rw [List.length_range]; omega) (fun _ h => h)
      fun x hx => ⟨_, ga_name, e_inN (e_var rfl) (e_var rfl)⟩
    have h4 : ((List.range m.target.alternativeCount).map fun x => PyData.bool (((equil m r).map (out m)).contains x)) = ((List.range m.target.alternativeCount).map fun x => ((equil m r).map (out m)).contains x).map PyData.bool := by
      rw [List.map_map]
      rfl
    rw [h4] at h3
    refine x_seq (x_asgE (e_new h1)) (x_is (x_ret (e_l1 (e_call (ea_one (e_new h3)) ⟨_, rfl, rfl⟩))) ?_)
    unfold a_equilibrium_outcomes
    rw [if_pos hw]
theorem x_f_implements_in_nash (T : Tx K C) : ∀ xs d, P_f_implements_in_nash xs d → X K C (t_f_implements_in_nash K C) (xs ++ List.replicate (N_f_implements_in_nash.length - 3) .any) (.rt d) := by
  rintro xs d ⟨m, ns, r, rfl, W, rfl⟩
  refine x_ret (e_call (ea_one (e_call (ea_one (e_var rfl)) ⟨_, rfl, W, rfl⟩)) ⟨_, rfl, fun l hl => ?_, rfl⟩)
  have h1 := wn_len (mem_all.mp (List.mem_of_find?_eq_some hl))
  rw [W.szl] at h1
  have := W.a3
  omega
theorem x_f_implements_in_dominant_strategies (T : Tx K C) : ∀ xs d, P_f_implements_in_dominant_strategies xs d → X K C (t_f_implements_in_dominant_strategies K C) (xs ++ List.replicate (N_f_implements_in_dominant_strategies.length - 3) .any) (.rt d) := by
  rintro xs d ⟨m, ns, r, rfl, W, rfl⟩
  refine x_ret (e_call (ea_one (e_call (ea_one (e_var rfl)) ⟨_, rfl, W, rfl⟩)) ⟨_, rfl, fun l hl => ?_, rfl⟩)
  have h1 := wn_len (mem_all.mp (List.mem_of_find?_eq_some hl))
  rw [W.szl] at h1
  have := W.a3
  omega
theorem ints_back (l : List Int) : (l.map PyData.int).map (fun d => match d with | .int i => i | _ => 0) = l := by
  induction l with
  | nil => rfl
  | cons a r ih => rw [List.map_cons, List.map_cons, ih]
theorem dyn_inr {m : Mc} {p : List Nat} : ∀ (l : List Nat) (s : List Nat) (d : PyData), forE (dynS m p) s l = .inr d → ∃ z, d = nL z
  | [], s, d, e => by rw [forE] at e; cases e
  | k :: r, s, d, e => by
    rw [forE] at e
    cases e2 : after m s p with
    | none =>
      unfold dynS at e
      rw [e2] at e
      cases e
      exact ⟨_, rfl⟩
    | some l =>
      have e3 : dynS m p s k = .inl l := by
        unfold dynS
        rw [e2]
      rw [e3] at e
      exact dyn_inr r l d e
theorem x_f_best_response_dynamics (T : Tx K C) : ∀ xs d, P_f_best_response_dynamics xs d → X K C (t_f_best_response_dynamics K C) (xs ++ List.replicate (N_f_best_response_dynamics.length - 3) .any) (.rt d) := by
  rintro xs d ⟨m, ns, r, rfl, W, rfl⟩
  have ha := W.a3
  have h1 : cutD (r.map nI) none (some ((m.target.agentCount : Nat) : Int)) = (r.take m.target.agentCount).map nI := by
    unfold cutD
    rw [HT.sIx_nat, HT.sIx_none, List.drop_zero, Nat.sub_zero, List.length_map, List.map_take]
    rcases Nat.le_total m.target.agentCount r.length with h | h
    · rw [Nat.min_eq_left h]
    · rw [Nat.min_eq_right h, List.take_of_length_le (by rw [List.length_map]; exact Nat.le_refl _), List.take_of_length_le (by rw [List.length_map]; exact h)]
  have h2 : cutD (r.map nI) (some ((m.target.agentCount : Nat) : Int)) none = (r.drop m.target.agentCount).map nI := by
    unfold cutD
    rw [HT.sIx_nat, HT.sIx_none, List.length_map, List.map_drop]
    rcases Nat.le_total m.target.agentCount r.length with h | h
    · rw [Nat.min_eq_left h, List.take_of_length_le (by rw [List.length_drop, List.length_map]; exact Nat.le_refl _)]
    · rw [Nat.min_eq_right h, List.drop_of_length_le (l := r.map nI) (by rw [List.length_map]; exact Nat.le_refl _), List.drop_of_length_le (l := r.map nI) (by rw [List.length_map]; exact h), List.take_nil]
  have hA : E K C (tSl (rSlL K) (tVar 2) tNoPart (tPart (tFld K (tVar 0) "agent_count"))) [.ins m, .dat (nL ns), .dat (nL r), .any, .any, .any] (.dat (nL (r.take m.target.agentCount))) := e_is (e_new (en_sl (e_var rfl) eo_none (eo_some (e_fA T (e_var rfl))))) (congrArg PyData.list h1)
  have hB : E K C (tSl (rSlL K) (tVar 2) (tPart (tFld K (tVar 0) "agent_count")) tNoPart) [.ins m, .dat (nL ns), .dat (nL r), .any, .any, .any] (.dat (nL (r.drop m.target.agentCount))) := e_is (e_new (en_sl (e_var rfl) (eo_some (e_fA T (e_var rfl))) eo_none)) (congrArg PyData.list h2)
  refine x_seq (x_par (ea_cons hA (ea_one hB))) ?_
  refine x_ifR (et_or (et_not (et_B (e_wnS W (e_var rfl) (e_var rfl)))) fun _ => et_not (et_B (e_wnM T W (e_var rfl) (e_var rfl)))) (fun hb => ?_) fun hb => ?_
  · refine x_is (x_ret (e_l1 e_cI)) ?_
    unfold a_best_response_dynamics
    rw [if_neg]
    rintro ⟨q1, q2⟩
    rw [q1, q2] at hb
    cases hb
  · have hw : within (r.take m.target.agentCount) (sizesM m) = true ∧ within (r.drop m.target.agentCount) m.messageCounts = true := by simpa using hb
    have hS := x_asgE (K := K) (C := C) (ρ := [.ins m, .dat (nL ns), .dat (nL r), .any, .dat (nL (r.take m.target.agentCount)), .dat (nL (r.drop m.target.agentCount))]) (i := 3) (te := tCall (sp_f_dynamics K C) [] E0 (tCons (tVar 0) (tCons (tVar 4) (tCons (tVar 5) tNil)))) (d := dynD m (r.take m.target.agentCount) (r.drop m.target.agentCount)) (e_call (ea_cons (e_var rfl) (ea_cons (e_var rfl) (ea_one (e_var rfl)))) ⟨_, _, _, rfl, ⟨W, hw.1, hw.2⟩, rfl⟩)
    unfold a_best_response_dynamics
    rw [if_pos hw]
    unfold dynA
    unfold dynD at hS
    cases e : forE (dynS m (r.take m.target.agentCount)) (r.drop m.target.agentCount) (List.range 100) with
    | inr d =>
      obtain ⟨z, rfl⟩ := dyn_inr _ _ _ e
      rw [e] at hS
      refine x_seq hS (x_is (x_ret (e_if (et_test (e_isN (d := nL z) (e_var rfl) e_cZ)) (fun q => by cases q) fun _ => e_var (x := .dat (nL z)) rfl)) ?_)
      show PyData.list (z.map nI) = PyData.list (((z.map nI).map (fun d => match d with | .int i => i | _ => 0)).map PyData.int)
      rw [nats_int, ints_back]
    | inl h =>
      rw [e] at hS
      by_cases q : isEq m h (r.take m.target.agentCount) = true
      · replace hS : X K C (tAsg (tCall (sp_f_dynamics K C) [] E0 (tCons (tVar 0) (tCons (tVar 4) (tCons (tVar 5) tNil)))) (gName 3)) [.ins m, .dat (nL ns), .dat (nL r), .any, .dat (nL (r.take m.target.agentCount)), .dat (nL (r.drop m.target.agentCount))] (.nx [.ins m, .dat (nL ns), .dat (nL r), .dat (nL (100 :: h)), .dat (nL (r.take m.target.agentCount)), .dat (nL (r.drop m.target.agentCount))]) := by
          have e5 : (if isEq m h (r.take m.target.agentCount) = true then nL (100 :: h) else .none) = nL (100 :: h) := if_pos q
          have := hS
          simp only [e5] at this
          exact this
        show X K C _ _ (.rt (iL (if isEq m h (r.take m.target.agentCount) = true then zN (100 :: h) else [-75])))
        rw [if_pos q]
        exact x_seq hS (x_is (x_ret (e_if (et_test (e_isN (d := nL (100 :: h)) (e_var rfl) e_cZ)) (fun q => by cases q) fun _ => e_var (x := .dat (nL (100 :: h))) rfl)) (nats_iL _))
      · replace hS : X K C (tAsg (tCall (sp_f_dynamics K C) [] E0 (tCons (tVar 0) (tCons (tVar 4) (tCons (tVar 5) tNil)))) (gName 3)) [.ins m, .dat (nL ns), .dat (nL r), .any, .dat (nL (r.take m.target.agentCount)), .dat (nL (r.drop m.target.agentCount))] (.nx [.ins m, .dat (nL ns), .dat (nL r), .dat .none, .dat (nL (r.take m.target.agentCount)), .dat (nL (r.drop m.target.agentCount))]) := by
          have e5 : (if isEq m h (r.take m.target.agentCount) = true then nL (100 :: h) else .none) = .none := if_neg q
          have := hS
          simp only [e5] at this
          exact this
        show X K C _ _ (.rt (iL (if isEq m h (r.take m.target.agentCount) = true then zN (100 :: h) else [-75])))
        rw [if_neg q]
        exact x_seq hS (x_ret (e_if (et_test (e_isN (d := .none) (e_var rfl) e_cZ)) (fun _ => e_l1 e_cI) fun q => by cases q))
theorem x_f_dominant_messages (T : Tx K C) : ∀ xs d, P_f_dominant_messages xs d → X K C (t_f_dominant_messages K C) (xs ++ List.replicate (N_f_dominant_messages.length - 3) .any) (.rt d) := by
  rintro xs d ⟨m, ns, r, rfl, ⟨W, hn⟩, rfl⟩
  obtain ⟨i, k, rfl⟩ := two_of hn
  refine x_seq (x_asg (d := .list [nI i, nI k]) (e_var rfl) ga_u2) ?_
  refine x_ifR (b := !okPref m i k) (et_not (et_B (e_call (ea_cons (e_var rfl) (ea_cons (e_var rfl) (ea_one (e_var rfl)))) ⟨_, _, _, rfl, W, rfl⟩))) (fun hb => ?_) fun hb => ?_
  · refine x_is (x_ret (e_l1 e_cI)) ?_
    have : okPref m i k = false := by simpa using hb
    unfold a_dominant_messages
    show _ = iL (if okPref m i k = true then _ else _)
    rw [this, if_neg Bool.false_ne_true]
  · have hw : okPref m i k = true := by simpa using hb
    have hw2 := hw
    unfold okPref at hw2
    rw [Bool.and_eq_true, decide_eq_true_iff, decide_eq_true_iff] at hw2
    refine x_is (x_ret (e_l1 (e_call (ea_one (e_call (ea_cons (e_var rfl) (ea_cons (e_var rfl) (ea_one (e_ixM (e_dom T (e_var rfl) (e_var rfl) (W.dom_at hw2.1)) (e_var rfl) (getD_at (d := []) hw2.2))))) ⟨_, _, _, rfl, ⟨W, hw2.1, W.dom_rk hw2.1 (getD_mem hw2.2)⟩, rfl⟩)) ⟨_, rfl, rfl⟩))) ?_
    unfold a_dominant_messages
    show _ = iL (if okPref m i k = true then _ else _)
    rw [if_pos hw]
    rfl
theorem x_f_dominated_messages (T : Tx K C) : ∀ xs d, P_f_dominated_messages xs d → X K C (t_f_dominated_messages K C) (xs ++ List.replicate (N_f_dominated_messages.length - 3) .any) (.rt d) := by
  rintro xs d ⟨m, ns, r, rfl, ⟨W, hn⟩, rfl⟩
  obtain ⟨i, k, rfl⟩ := two_of hn
  refine x_seq (x_asg (d := .list [nI i, nI k]) (e_var rfl) ga_u2) ?_
  refine x_ifR (b := !okPref m i k) (et_not (et_B (e_call (ea_cons (e_var rfl) (ea_cons (e_var rfl) (ea_one (e_var rfl)))) ⟨_, _, _, rfl, W, rfl⟩))) (fun hb => ?_) fun hb => ?_
  · refine x_is (x_ret (e_l1 e_cI)) ?_
    have : okPref m i k = false := by simpa using hb
    unfold a_dominated_messages
    show _ = iL (if okPref m i k = true then _ else _)
    rw [this, if_neg Bool.false_ne_true]
  · have hw : okPref m i k = true := by simpa using hb
    have hw2 := hw
    unfold okPref at hw2
    rw [Bool.and_eq_true, decide_eq_true_iff, decide_eq_true_iff] at hw2
    refine x_is (x_ret (e_l1 (e_call (ea_one (e_call (ea_cons (e_var rfl) (ea_cons (e_var rfl) (ea_one (e_ixM (e_dom T (e_var rfl) (e_var rfl) (W.dom_at hw2.1)) (e_var rfl) (getD_at (d := []) hw2.2))))) ⟨_, _, _, rfl, ⟨W, hw2.1, W.dom_rk hw2.1 (getD_mem hw2.2)⟩, rfl⟩)) ⟨_, rfl, rfl⟩))) ?_
    unfold a_dominated_messages
    show _ = iL (if okPref m i k = true then _ else _)
    rw [if_pos hw]
    rfl
theorem x_f_force (T : Tx K C) : ∀ xs d, P_f_force xs d → X K C (t_f_force K C) (xs ++ List.replicate (N_f_force.length - 3) .any) (.rt d) := by
  rintro xs d ⟨m, ns, r, rfl, ⟨W, hn⟩, rfl⟩
  obtain ⟨i, k, rfl⟩ := two_of hn
  refine x_seq (x_asg (d := .list [nI i, nI k]) (e_var rfl) ga_u2) ?_
  refine x_ifR (b := !okSets m i k) (et_not (et_B (e_call (ea_cons (e_var rfl) (ea_cons (e_var rfl) (ea_one (e_var rfl)))) ⟨_, _, _, rfl, W, rfl⟩))) (fun hb => ?_) fun hb => ?_
  · refine x_is (x_ret (e_l1 e_cI)) ?_
    have : okSets m i k = false := by simpa using hb
    unfold a_force
    show _ = iL (if okSets m i k = true then _ else _)
    rw [this, if_neg Bool.false_ne_true]
  · have hw : okSets m i k = true := by simpa using hb
    refine x_is (x_ret (e_l1 (e_int (e_call (ea_cons (e_var rfl) (ea_cons (e_var rfl) (ea_one (e_var rfl)))) ⟨_, _, _, rfl, W, rfl⟩)))) ?_
    unfold a_force
    show _ = iL (if okSets m i k = true then _ else _)
    rw [if_pos hw]
    rfl
theorem x_f_respond (T : Tx K C) : ∀ xs d, P_f_respond xs d → X K C (t_f_respond K C) (xs ++ List.replicate (N_f_respond.length - 3) .any) (.rt d) := by
  rintro xs d ⟨m, ns, r, rfl, ⟨W, hn⟩, rfl⟩
  obtain ⟨i, k, rfl⟩ := two_of hn
  refine x_seq (x_asg (d := .list [nI i, nI k]) (e_var rfl) ga_u2) ?_
  refine x_ifR (b := !okSets m i k) (et_not (et_B (e_call (ea_cons (e_var rfl) (ea_cons (e_var rfl) (ea_one (e_var rfl)))) ⟨_, _, _, rfl, W, rfl⟩))) (fun hb => ?_) fun hb => ?_
  · refine x_is (x_ret (e_l1 e_cI)) ?_
    have : okSets m i k = false := by simpa using hb
    unfold a_respond
    show _ = iL (if okSets m i k = true then _ else _)
    rw [this, if_neg Bool.false_ne_true]
  · have hw : okSets m i k = true := by simpa using hb
    refine x_is (x_ret (e_l1 (e_int (e_call (ea_cons (e_var rfl) (ea_cons (e_var rfl) (ea_one (e_var rfl)))) ⟨_, _, _, rfl, W, rfl⟩)))) ?_
    unfold a_respond
    show _ = iL (if okSets m i k = true then _ else _)
    rw [if_pos hw]
    rfl
theorem x_f_describe (T : Tx K C) : ∀ xs d, P_f_describe xs d → X K C (t_f_describe K C) (xs ++ List.replicate (N_f_describe.length - 3) .any) (.rt d) := by
  rintro xs d ⟨m, ns, r, rfl, W, rfl⟩
  have ha := W.a3
  refine x_is (x_ret (e_new (en_cat (e_new (en_lst (ds := [nI m.target.agentCount, nI m.target.alternativeCount]) (ea_cons (e_fA T (e_var rfl)) (ea_one (e_fV T (e_var rfl)))) (by show 2 ≤ 10000000; omega))) (e_meth (fun _ _ _ _ => fl_no (by decide +kernel)) (e_var rfl) ea_nil ⟨_, rfl, by rw [W.dl]; omega, rfl⟩) (by rw [List.length_map, W.szl]; show 2 + m.target.agentCount ≤ 10000000; omega)))) ?_
  show PyData.list ((m.target.agentCount :: m.target.alternativeCount :: sizesM m).map nI) = _
  exact nats_iL _
end
end Gx
namespace Gx
open PySem PySem.Spec PyProof.Rows L2
section
variable {P : Program} {w : World} {K : PySem.W.Frag} {mg : Str → Option Value} {base : Heap} {C pw rd wl nc : Addr}
theorem d_f_can_force (T : Tx K C) (G : Bt mg) (Z : Cs K mg pw rd wl nc) (F_part_of : Fn P w K mg base 2 "part_of" ["messages", "coalition", "is_inside"] (sp_f_part_of K C)) (F_has : Fn P w K mg base 1 "has" ["mask", "number"] (sp_f_has K C)) (M_message_profiles : Mt P w K mg base C 3 "message_profiles" ["self"] (sp_m_message_profiles K C)) (M_outcome_of : Mt P w K mg base C 2 "outcome_of" ["self", "messages"] (sp_m_outcome_of K C)) {f : Addr} (cdv : Value) (A : Around) (outer : List Env) (s : Shared) (H : Hp) (E : XK) (hr : Room 3 (A.deeper (envOfC "can_force" (defScope s_f_can_force) s.heap.objs.size f cdv))) :
    PSs (cxOf CX0 P w K mg base N_f_can_force "can_force" (defScope s_f_can_force) f cdv A outer s H E).nox (defBody s_f_can_force) (t_f_can_force K C) := by
  have nd := sc_f_can_force.nd
  exact (pss_cons (ps_set (i := 3) nd rfl (Or.inl rfl) pe_dnewT)
    (pss_cons (ps_for PassesOwn.never rfl (pi_list (pe_mt0 (pv 0) T.cl M_message_profiles (hr.mono (by decide)))) (pg_name (i := 4) nd rfl (Or.inl rfl)) (pss_cons (ps_set (i := 5) nd rfl (Or.inl rfl) (pe_fn F_part_of (hr.mono (by decide)) rfl (pa_cons (pv 4) (pa_cons (pv 1) (pa_cons pe_bl pa_nil)))))
    (pss_one (ps_dput (hu_of hr) (pv 3) (pv 5) (pe_and (pe_dget2 (hu_of hr) (pv 3) (pv 5) pe_bl ⟨rfl, rfl, rfl, rfl⟩) (pe_one (pe_fn F_has (hr.mono (by decide)) rfl (pa_cons (pv 2) (pa_cons (pe_mt (pv 0) T.cl M_outcome_of (hr.mono (by decide)) (pa_cons (pv 4) pa_nil)) pa_nil))))) rfl))))
    (pss_one (ps_ret (pe_vals_any rfl rfl G.any (pv 3))))))
theorem ok_f_can_force (T : Tx K C) (G : Bt mg) (Z : Cs K mg pw rd wl nc) (F_part_of : Fn P w K mg base 2 "part_of" ["messages", "coalition", "is_inside"] (sp_f_part_of K C)) (F_has : Fn P w K mg base 1 "has" ["mask", "number"] (sp_f_has K C)) (M_message_profiles : Mt P w K mg base C 3 "message_profiles" ["self"] (sp_m_message_profiles K C)) (M_outcome_of : Mt P w K mg base C 2 "outcome_of" ["self", "messages"] (sp_m_outcome_of K C)) {f : Addr} {fd : FuncData} (F : Fun K "can_force" "can_force" s_f_can_force f fd) : FnOk P w K mg base CX0 4 f fd ["instance", "coalition", "alternatives"] (sp_f_can_force K C) :=
  fn_okX F sc_f_can_force len_f_can_force (x_f_can_force T) (fun cdv A outer s H E hr => d_f_can_force T G Z F_part_of F_has M_message_profiles M_outcome_of cdv A outer s H E hr)
theorem d_f_can_respond (T : Tx K C) (G : Bt mg) (Z : Cs K mg pw rd wl nc) (F_part_of : Fn P w K mg base 2 "part_of" ["messages", "coalition", "is_inside"] (sp_f_part_of K C)) (F_has : Fn P w K mg base 1 "has" ["mask", "number"] (sp_f_has K C)) (M_message_profiles : Mt P w K mg base C 3 "message_profiles" ["self"] (sp_m_message_profiles K C)) (M_outcome_of : Mt P w K mg base C 2 "outcome_of" ["self", "messages"] (sp_m_outcome_of K C)) {f : Addr} (cdv : Value) (A : Around) (outer : List Env) (s : Shared) (H : Hp) (E : XK) (hr : Room 3 (A.deeper (envOfC "can_respond" (defScope s_f_can_respond) s.heap.objs.size f cdv))) :
    PSs (cxOf CX0 P w K mg base N_f_can_respond "can_respond" (defScope s_f_can_respond) f cdv A outer s H E).nox (defBody s_f_can_respond) (t_f_can_respond K C) := by
  have nd := sc_f_can_respond.nd
  exact (pss_cons (ps_set (i := 3) nd rfl (Or.inl rfl) pe_dnewT)
    (pss_cons (ps_for PassesOwn.never rfl (pi_list (pe_mt0 (pv 0) T.cl M_message_profiles (hr.mono (by decide)))) (pg_name (i := 4) nd rfl (Or.inl rfl)) (pss_cons (ps_set (i := 5) nd rfl (Or.inl rfl) (pe_fn F_part_of (hr.mono (by decide)) rfl (pa_cons (pv 4) (pa_cons (pv 1) (pa_cons pe_bl pa_nil)))))
    (pss_one (ps_dput (hu_of hr) (pv 3) (pv 5) (pe_or (pe_dget2 (hu_of hr) (pv 3) (pv 5) pe_bl ⟨rfl, rfl, rfl, rfl⟩) (pe_one (pe_fn F_has (hr.mono (by decide)) rfl (pa_cons (pv 2) (pa_cons (pe_mt (pv 0) T.cl M_outcome_of (hr.mono (by decide)) (pa_cons (pv 4) pa_nil)) pa_nil))))) rfl))))
    (pss_one (ps_ret (pe_vals_all rfl rfl G.all (pv 3))))))
theorem ok_f_can_respond (T : Tx K C) (G : Bt mg) (Z : Cs K mg pw rd wl nc) (F_part_of : Fn P w K mg base 2 "part_of" ["messages", "coalition", "is_inside"] (sp_f_part_of K C)) (F_has : Fn P w K mg base 1 "has" ["mask", "number"] (sp_f_has K C)) (M_message_profiles : Mt P w K mg base C 3 "message_profiles" ["self"] (sp_m_message_profiles K C)) (M_outcome_of : Mt P w K mg base C 2 "outcome_of" ["self", "messages"] (sp_m_outcome_of K C)) {f : Addr} {fd : FuncData} (F : Fun K "can_respond" "can_respond" s_f_can_respond f fd) : FnOk P w K mg base CX0 4 f fd ["instance", "coalition", "alternatives"] (sp_f_can_respond K C) :=
  fn_okX F sc_f_can_respond len_f_can_respond (x_f_can_respond T) (fun cdv A outer s H E hr => d_f_can_respond T G Z F_part_of F_has M_message_profiles M_outcome_of cdv A outer s H E hr)
theorem d_f_target_outcome (T : Tx K C) (G : Bt mg) (Z : Cs K mg pw rd wl nc) (F_is_within : Fn P w K mg base 1 "is_within" ["numbers", "sizes"] (sp_f_is_within K C)) (M_target_at : Mt P w K mg base C 2 "target_at" ["self", "profile"] (sp_m_target_at K C)) (M_domain_sizes : Mt P w K mg base C 1 "domain_sizes" ["self"] (sp_m_domain_sizes K C)) {f : Addr} (cdv : Value) (A : Around) (outer : List Env) (s : Shared) (H : Hp) (E : XK) (hr : Room 2 (A.deeper (envOfC "target_outcome" (defScope s_f_target_outcome) s.heap.objs.size f cdv))) :
    PSs (cxOf CX0 P w K mg base N_f_target_outcome "target_outcome" (defScope s_f_target_outcome) f cdv A outer s H E).nox (defBody s_f_target_outcome) (t_f_target_outcome K C) := by
  have nd := sc_f_target_outcome.nd
  exact (pss_cons (ps_if (pt_not (pt_val (pe_fn F_is_within (hr.mono (by decide)) rfl (pa_cons (pv 2) (pa_cons (pe_mt0 (pv 0) T.cl M_domain_sizes (hr.mono (by decide))) pa_nil))))) (pss_one (ps_ret (pe_lst (pa_cons (pe_gI Z.i_INVALID) pa_nil)))) pss_nil)
    (pss_one (ps_ret (pe_lst (pa_cons (pe_mt (pv 0) T.cl M_target_at (hr.mono (by decide)) (pa_cons (pv 2) pa_nil)) pa_nil)))))
theorem ok_f_target_outcome (T : Tx K C) (G : Bt mg) (Z : Cs K mg pw rd wl nc) (F_is_within : Fn P w K mg base 1 "is_within" ["numbers", "sizes"] (sp_f_is_within K C)) (M_target_at : Mt P w K mg base C 2 "target_at" ["self", "profile"] (sp_m_target_at K C)) (M_domain_sizes : Mt P w K mg base C 1 "domain_sizes" ["self"] (sp_m_domain_sizes K C)) {f : Addr} {fd : FuncData} (F : Fun K "target_outcome" "target_outcome" s_f_target_outcome f fd) : FnOk P w K mg base CX0 3 f fd ["instance", "numbers", "row"] (sp_f_target_outcome K C) :=
  fn_okX F sc_f_target_outcome len_f_target_outcome (x_f_target_outcome T) (fun cdv A outer s H E hr => d_f_target_outcome T G Z F_is_within M_target_at M_domain_sizes cdv A outer s H E hr)
theorem d_f_monotonicity_violation (T : Tx K C) (G : Bt mg) (Z : Cs K mg pw rd wl nc) (F_first_violation : Fn P w K mg base 5 "first_violation" ["instance"] (sp_f_first_violation K C)) {f : Addr} (cdv : Value) (A : Around) (outer : List Env) (s : Shared) (H : Hp) (E : XK) (hr : Room 5 (A.deeper (envOfC "monotonicity_violation" (defScope s_f_monotonicity_violation) s.heap.objs.size f cdv))) :
    PSs (cxOf CX0 P w K mg base N_f_monotonicity_violation "monotonicity_violation" (defScope s_f_monotonicity_violation) f cdv A outer s H E).nox (defBody s_f_monotonicity_violation) (t_f_monotonicity_violation K C) := by
  have nd := sc_f_monotonicity_violation.nd
  exact (pss_cons (ps_set (i := 3) nd rfl (Or.inl rfl) (pe_fn F_first_violation (hr.mono (by decide)) rfl (pa_cons (pv 0) pa_nil)))
    (pss_one (ps_ret (pe_ifExp (pt_cmpR op_isN (pv 3) pe_non (nomark _)) (pe_lst (pa_cons pe_int pa_nil)) (pe_op op_cat (pe_lst (pa_cons pe_int pa_nil)) (pv 3))))))
theorem ok_f_monotonicity_violation (T : Tx K C) (G : Bt mg) (Z : Cs K mg pw rd wl nc) (F_first_violation : Fn P w K mg base 5 "first_violation" ["instance"] (sp_f_first_violation K C)) {f : Addr} {fd : FuncData} (F : Fun K "monotonicity_violation" "monotonicity_violation" s_f_monotonicity_violation f fd) : FnOk P w K mg base CX0 6 f fd ["instance", "numbers", "row"] (sp_f_monotonicity_violation K C) :=
  fn_okX F sc_f_monotonicity_violation len_f_monotonicity_violation (x_f_monotonicity_violation T) (fun cdv A outer s H E hr => d_f_monotonicity_violation T G Z F_first_violation cdv A outer s H E hr)
theorem d_f_find_manipulation (T : Tx K C) (G : Bt mg) (Z : Cs K mg pw rd wl nc) (F_or_none : Fn P w K mg base 1 "or_none" ["found"] (sp_f_or_none K C)) (F_first_manipulation : Fn P w K mg base 5 "first_manipulation" ["instance"] (sp_f_first_manipulation K C)) {f : Addr} (cdv : Value) (A : Around) (outer : List Env) (s : Shared) (H : Hp) (E : XK) (hr : Room 5 (A.deeper (envOfC "find_manipulation" (defScope s_f_find_manipulation) s.heap.objs.size f cdv))) :
    PSs (cxOf CX0 P w K mg base N_f_find_manipulation "find_manipulation" (defScope s_f_find_manipulation) f cdv A outer s H E).nox (defBody s_f_find_manipulation) (t_f_find_manipulation K C) := by
  have nd := sc_f_find_manipulation.nd
  exact (pss_one (ps_ret (pe_fn F_or_none (hr.mono (by decide)) rfl (pa_cons (pe_fn F_first_manipulation (hr.mono (by decide)) rfl (pa_cons (pv 0) pa_nil)) pa_nil))))
theorem ok_f_find_manipulation (T : Tx K C) (G : Bt mg) (Z : Cs K mg pw rd wl nc) (F_or_none : Fn P w K mg base 1 "or_none" ["found"] (sp_f_or_none K C)) (F_first_manipulation : Fn P w K mg base 5 "first_manipulation" ["instance"] (sp_f_first_manipulation K C)) {f : Addr} {fd : FuncData} (F : Fun K "find_manipulation" "find_manipulation" s_f_find_manipulation f fd) : FnOk P w K mg base CX0 6 f fd ["instance", "numbers", "row"] (sp_f_find_manipulation K C) :=
  fn_okX F sc_f_find_manipulation len_f_find_manipulation (x_f_find_manipulation T) (fun cdv A outer s H E hr => d_f_find_manipulation T G Z F_or_none F_first_manipulation cdv A outer s H E hr)
theorem d_f_mechanism_outcome (T : Tx K C) (G : Bt mg) (Z : Cs K mg pw rd wl nc) (F_is_within : Fn P w K mg base 1 "is_within" ["numbers", "sizes"] (sp_f_is_within K C)) (M_outcome_of : Mt P w K mg base C 2 "outcome_of" ["self", "messages"] (sp_m_outcome_of K C)) {f : Addr} (cdv : Value) (A : Around) (outer : List Env) (s : Shared) (H : Hp) (E : XK) (hr : Room 2 (A.deeper (envOfC "mechanism_outcome" (defScope s_f_mechanism_outcome) s.heap.objs.size f cdv))) :
    PSs (cxOf CX0 P w K mg base N_f_mechanism_outcome "mechanism_outcome" (defScope s_f_mechanism_outcome) f cdv A outer s H E).nox (defBody s_f_mechanism_outcome) (t_f_mechanism_outcome K C) := by
  have nd := sc_f_mechanism_outcome.nd
  exact (pss_cons (ps_if (pt_not (pt_val (pe_fn F_is_within (hr.mono (by decide)) rfl (pa_cons (pv 2) (pa_cons (pe_fld (pv 0) rfl) pa_nil))))) (pss_one (ps_ret (pe_lst (pa_cons (pe_gI Z.i_INVALID) pa_nil)))) pss_nil)
    (pss_one (ps_ret (pe_lst (pa_cons (pe_mt (pv 0) T.cl M_outcome_of (hr.mono (by decide)) (pa_cons (pv 2) pa_nil)) pa_nil)))))
theorem ok_f_mechanism_outcome (T : Tx K C) (G : Bt mg) (Z : Cs K mg pw rd wl nc) (F_is_within : Fn P w K mg base 1 "is_within" ["numbers", "sizes"] (sp_f_is_within K C)) (M_outcome_of : Mt P w K mg base C 2 "outcome_of" ["self", "messages"] (sp_m_outcome_of K C)) {f : Addr} {fd : FuncData} (F : Fun K "mechanism_outcome" "mechanism_outcome" s_f_mechanism_outcome f fd) : FnOk P w K mg base CX0 3 f fd ["instance", "numbers", "row"] (sp_f_mechanism_outcome K C) :=
  fn_okX F sc_f_mechanism_outcome len_f_mechanism_outcome (x_f_mechanism_outcome T) (fun cdv A outer s H E hr => d_f_mechanism_outcome T G Z F_is_within M_outcome_of cdv A outer s H E hr)
theorem d_f_message_counts (T : Tx K C) (G : Bt mg) (Z : Cs K mg pw rd wl nc)  {f : Addr} (cdv : Value) (A : Around) (outer : List Env) (s : Shared) (H : Hp) (E : XK) (hr : Room 0 (A.deeper (envOfC "message_counts" (defScope s_f_message_counts) s.heap.objs.size f cdv))) :
    PSs (cxOf CX0 P w K mg base N_f_message_counts "message_counts" (defScope s_f_message_counts) f cdv A outer s H E).nox (defBody s_f_message_counts) (t_f_message_counts K C) := by
  have nd := sc_f_message_counts.nd
  exact (pss_one (ps_ret (pe_op op_cat (pe_lst (pa_cons (pe_fld (pv 0) rfl) pa_nil)) (pe_fld (pv 0) rfl))))
theorem ok_f_message_counts (T : Tx K C) (G : Bt mg) (Z : Cs K mg pw rd wl nc)  {f : Addr} {fd : FuncData} (F : Fun K "message_counts" "message_counts" s_f_message_counts f fd) : FnOk P w K mg base CX0 1 f fd ["instance", "numbers", "row"] (sp_f_message_counts K C) :=
  fn_okX F sc_f_message_counts len_f_message_counts (x_f_message_counts T) (fun cdv A outer s H E hr => d_f_message_counts T G Z  cdv A outer s H E hr)
theorem d_f_count_equilibria (T : Tx K C) (G : Bt mg) (Z : Cs K mg pw rd wl nc) (F_is_within : Fn P w K mg base 1 "is_within" ["numbers", "sizes"] (sp_f_is_within K C)) (F_equilibria : Fn P w K mg base 6 "equilibria" ["instance", "profile"] (sp_f_equilibria K C)) (M_domain_sizes : Mt P w K mg base C 1 "domain_sizes" ["self"] (sp_m_domain_sizes K C)) {f : Addr} (cdv : Value) (A : Around) (outer : List Env) (s : Shared) (H : Hp) (E : XK) (hr : Room 6 (A.deeper (envOfC "count_equilibria" (defScope s_f_count_equilibria) s.heap.objs.size f cdv))) :
    PSs (cxOf CX0 P w K mg base N_f_count_equilibria "count_equilibria" (defScope s_f_count_equilibria) f cdv A outer s H E).nox (defBody s_f_count_equilibria) (t_f_count_equilibria K C) := by
  have nd := sc_f_count_equilibria.nd
  exact (pss_cons (ps_if (pt_not (pt_val (pe_fn F_is_within (hr.mono (by decide)) rfl (pa_cons (pv 2) (pa_cons (pe_mt0 (pv 0) T.cl M_domain_sizes (hr.mono (by decide))) pa_nil))))) (pss_one (ps_ret (pe_lst (pa_cons (pe_gI Z.i_INVALID) pa_nil)))) pss_nil)
    (pss_one (ps_ret (pe_lst (pa_cons (pe_callB call_len_seq (by rfl) G.len (by decide +kernel) (pa_cons (pe_fn F_equilibria (hr.mono (by decide)) rfl (pa_cons (pv 0) (pa_cons (pv 2) pa_nil))) pa_nil)) pa_nil)))))
theorem ok_f_count_equilibria (T : Tx K C) (G : Bt mg) (Z : Cs K mg pw rd wl nc) (F_is_within : Fn P w K mg base 1 "is_within" ["numbers", "sizes"] (sp_f_is_within K C)) (F_equilibria : Fn P w K mg base 6 "equilibria" ["instance", "profile"] (sp_f_equilibria K C)) (M_domain_sizes : Mt P w K mg base C 1 "domain_sizes" ["self"] (sp_m_domain_sizes K C)) {f : Addr} {fd : FuncData} (F : Fun K "count_equilibria" "count_equilibria" s_f_count_equilibria f fd) : FnOk P w K mg base CX0 7 f fd ["instance", "numbers", "row"] (sp_f_count_equilibria K C) :=
  fn_okX F sc_f_count_equilibria len_f_count_equilibria (x_f_count_equilibria T) (fun cdv A outer s H E hr => d_f_count_equilibria T G Z F_is_within F_equilibria M_domain_sizes cdv A outer s H E hr)
theorem d_f_equilibrium (T : Tx K C) (G : Bt mg) (Z : Cs K mg pw rd wl nc) (F_equilibria : Fn P w K mg base 6 "equilibria" ["instance", "profile"] (sp_f_equilibria K C)) (F_is_within : Fn P w K mg base 1 "is_within" ["numbers", "sizes"] (sp_f_is_within K C)) (M_domain_sizes : Mt P w K mg base C 1 "domain_sizes" ["self"] (sp_m_domain_sizes K C)) {f : Addr} (cdv : Value) (A : Around) (outer : List Env) (s : Shared) (H : Hp) (E : XK) (hr : Room 6 (A.deeper (envOfC "equilibrium" (defScope s_f_equilibrium) s.heap.objs.size f cdv))) :
    PSs (cxOf CX0 P w K mg base N_f_equilibrium "equilibrium" (defScope s_f_equilibrium) f cdv A outer s H E).nox (defBody s_f_equilibrium) (t_f_equilibrium K C) := by
  have nd := sc_f_equilibrium.nd
  exact (pss_cons (ps_if (pt_not (pt_val (pe_fn F_is_within (hr.mono (by decide)) rfl (pa_cons (pv 2) (pa_cons (pe_mt0 (pv 0) T.cl M_domain_sizes (hr.mono (by decide))) pa_nil))))) (pss_one (ps_ret (pe_lst (pa_cons (pe_gI Z.i_INVALID) pa_nil)))) pss_nil)
    (pss_cons (ps_set (i := 3) nd rfl (Or.inl rfl) (pe_fn F_equilibria (hr.mono (by decide)) rfl (pa_cons (pv 0) (pa_cons (pv 2) pa_nil))))
    (pss_cons (ps_if (pt_cmpR op_ge (pe_ix ix_list (pv 1) pe_int (fun _ _ => rfl)) (pe_callB call_len_seq (by rfl) G.len (by decide +kernel) (pa_cons (pv 3) pa_nil)) (nomark _)) (pss_one (ps_ret (pe_lst (pa_cons (pe_gI Z.i_NONE) pa_nil)))) pss_nil)
    (pss_one (ps_ret (pe_op op_cat (pe_lst (pa_cons (pe_fld (pv 0) rfl) pa_nil)) (pe_ix ix_list (pv 3) (pe_ix ix_list (pv 1) pe_int (fun _ _ => rfl)) (fun _ _ => rfl))))))))
theorem ok_f_equilibrium (T : Tx K C) (G : Bt mg) (Z : Cs K mg pw rd wl nc) (F_equilibria : Fn P w K mg base 6 "equilibria" ["instance", "profile"] (sp_f_equilibria K C)) (F_is_within : Fn P w K mg base 1 "is_within" ["numbers", "sizes"] (sp_f_is_within K C)) (M_domain_sizes : Mt P w K mg base C 1 "domain_sizes" ["self"] (sp_m_domain_sizes K C)) {f : Addr} {fd : FuncData} (F : Fun K "equilibrium" "equilibrium" s_f_equilibrium f fd) : FnOk P w K mg base CX0 7 f fd ["instance", "numbers", "row"] (sp_f_equilibrium K C) :=
  fn_okX F sc_f_equilibrium len_f_equilibrium (x_f_equilibrium T) (fun cdv A outer s H E hr => d_f_equilibrium T G Z F_equilibria F_is_within M_domain_sizes cdv A outer s H E hr)
theorem d_f_equilibrium_outcomes (T : Tx K C) (G : Bt mg) (Z : Cs K mg pw rd wl nc) (F_is_within : Fn P w K mg base 1 "is_within" ["numbers", "sizes"] (sp_f_is_within K C)) (F_mask_of : Fn P w K mg base 1 "mask_of" ["flags"] (sp_f_mask_of K C)) (F_equilibria : Fn P w K mg base 6 "equilibria" ["instance", "profile"] (sp_f_equilibria K C)) (M_outcome_of : Mt P w K mg base C 2 "outcome_of" ["self", "messages"] (sp_m_outcome_of K C)) (M_domain_sizes : Mt P w K mg base C 1 "domain_sizes" ["self"] (sp_m_domain_sizes K C)) {f : Addr} (cdv : Value) (A : Around) (outer : List Env) (s : Shared) (H : Hp) (E : XK) (hr : Room 6 (A.deeper (envOfC "equilibrium_outcomes" (defScope s_f_equilibrium_outcomes) s.heap.objs.size f cdv))) :
    PSs (cxOf CX0 P w K mg base N_f_equilibrium_outcomes "equilibrium_outcomes" (defScope s_f_equilibrium_outcomes) f cdv A outer s H E).nox (defBody s_f_equilibrium_outcomes) (t_f_equilibrium_outcomes K C) := by
  have nd := sc_f_equilibrium_outcomes.nd
  exact (pss_cons (ps_if (pt_not (pt_val (pe_fn F_is_within (hr.mono (by decide)) rfl (pa_cons (pv 2) (pa_cons (pe_mt0 (pv 0) T.cl M_domain_sizes (hr.mono (by decide))) pa_nil))))) (pss_one (ps_ret (pe_lst (pa_cons (pe_gI Z.i_INVALID) pa_nil)))) pss_nil)
    (pss_cons (ps_set (i := 3) nd rfl (Or.inr rfl) (pe_lc (own := [("messages", 4)]) (g := (gName 4)) (tt := tYes) rfl nd (pi_list (pe_fn F_equilibria (hr.mono (by decide)) rfl (pa_cons (pv 0) (pa_cons (pv 2) pa_nil)))) (blkOk_by (N := N_f_equilibrium_outcomes) (sc := defScope s_f_equilibrium_outcomes) (by decide +kernel)) (fun _ _ _ _ _ => (pg_name (i := 4) nd rfl (Or.inl rfl))) (fun _ _ _ _ _ => pts_nil) (fun _ _ _ _ _ => (pe_mt (pv 0) T.cl M_outcome_of (hr.mono (by decide)) (pa_cons (pv 4) pa_nil)))))
    (pss_one (ps_ret (pe_lst (pa_cons (pe_fn F_mask_of (hr.mono (by decide)) rfl (pa_cons (pe_lc (own := [("alternative", 5)]) (g := (gName 5)) (tt := tYes) rfl nd (pi_range1 (by rfl) G.range (pa_cons (pe_fld (pv 0) rfl) pa_nil)) (blkOk_by (N := N_f_equilibrium_outcomes) (sc := defScope s_f_equilibrium_outcomes) (by decide +kernel)) (fun _ _ _ _ _ => (pg_name (i := 5) nd rfl (Or.inl rfl))) (fun _ _ _ _ _ => pts_nil) (fun _ _ _ _ _ => (pe_cmpR op_in_seq (pv 5) (pv 3) (by with_unfolding_all rfl)))) pa_nil)) pa_nil))))))
theorem ok_f_equilibrium_outcomes (T : Tx K C) (G : Bt mg) (Z : Cs K mg pw rd wl nc) (F_is_within : Fn P w K mg base 1 "is_within" ["numbers", "sizes"] (sp_f_is_within K C)) (F_mask_of : Fn P w K mg base 1 "mask_of" ["flags"] (sp_f_mask_of K C)) (F_equilibria : Fn P w K mg base 6 "equilibria" ["instance", "profile"] (sp_f_equilibria K C)) (M_outcome_of : Mt P w K mg base C 2 "outcome_of" ["self", "messages"] (sp_m_outcome_of K C)) (M_domain_sizes : Mt P w K mg base C 1 "domain_sizes" ["self"] (sp_m_domain_sizes K C)) {f : Addr} {fd : FuncData} (F : Fun K "equilibrium_outcomes" "equilibrium_outcomes" s_f_equilibrium_outcomes f fd) : FnOk P w K mg base CX0 7 f fd ["instance", "numbers", "row"] (sp_f_equilibrium_outcomes K C) :=
  fn_okX F sc_f_equilibrium_outcomes len_f_equilibrium_outcomes (x_f_equilibrium_outcomes T) (fun cdv A outer s H E hr => d_f_equilibrium_outcomes T G Z F_is_within F_mask_of F_equilibria M_outcome_of M_domain_sizes cdv A outer s H E hr)
theorem d_f_implements_in_nash (T : Tx K C) (G : Bt mg) (Z : Cs K mg pw rd wl nc) (F_result_of : Fn P w K mg base 1 "result_of" ["failure"] (sp_f_result_of K C)) (F_first_failure : Fn P w K mg base 7 "first_failure" ["instance"] (sp_f_first_failure K C)) {f : Addr} (cdv : Value) (A : Around) (outer : List Env) (s : Shared) (H : Hp) (E : XK) (hr : Room 7 (A.deeper (envOfC "implements_in_nash" (defScope s_f_implements_in_nash) s.heap.objs.size f cdv))) :
    PSs (cxOf CX0 P w K mg base N_f_implements_in_nash "implements_in_nash" (defScope s_f_implements_in_nash) f cdv A outer s H E).nox (defBody s_f_implements_in_nash) (t_f_implements_in_nash K C) := by
  have nd := sc_f_implements_in_nash.nd
  exact (pss_one (ps_ret (pe_fn F_result_of (hr.mono (by decide)) rfl (pa_cons (pe_fn F_first_failure (hr.mono (by decide)) rfl (pa_cons (pv 0) pa_nil)) pa_nil))))
theorem ok_f_implements_in_nash (T : Tx K C) (G : Bt mg) (Z : Cs K mg pw rd wl nc) (F_result_of : Fn P w K mg base 1 "result_of" ["failure"] (sp_f_result_of K C)) (F_first_failure : Fn P w K mg base 7 "first_failure" ["instance"] (sp_f_first_failure K C)) {f : Addr} {fd : FuncData} (F : Fun K "implements_in_nash" "implements_in_nash" s_f_implements_in_nash f fd) : FnOk P w K mg base CX0 8 f fd ["instance", "numbers", "row"] (sp_f_implements_in_nash K C) :=
  fn_okX F sc_f_implements_in_nash len_f_implements_in_nash (x_f_implements_in_nash T) (fun cdv A outer s H E hr => d_f_implements_in_nash T G Z F_result_of F_first_failure cdv A outer s H E hr)
theorem d_f_best_response_dynamics (T : Tx K C) (G : Bt mg) (Z : Cs K mg pw rd wl nc) (F_dynamics : Fn P w K mg base 6 "dynamics" ["instance", "profile", "messages"] (sp_f_dynamics K C)) (F_is_within : Fn P w K mg base 1 "is_within" ["numbers", "sizes"] (sp_f_is_within K C)) (M_domain_sizes : Mt P w K mg base C 1 "domain_sizes" ["self"] (sp_m_domain_sizes K C)) {f : Addr} (cdv : Value) (A : Around) (outer : List Env) (s : Shared) (H : Hp) (E : XK) (hr : Room 6 (A.deeper (envOfC "best_response_dynamics" (defScope s_f_best_response_dynamics) s.heap.objs.size f cdv))) :
    PSs (cxOf CX0 P w K mg base N_f_best_response_dynamics "best_response_dynamics" (defScope s_f_best_response_dynamics) f cdv A outer s H E).nox (defBody s_f_best_response_dynamics) (t_f_best_response_dynamics K C) := by
  have nd := sc_f_best_response_dynamics.nd
  exact (pss_cons (ps_par (i := 4) (j := 5) rfl nd rfl rfl (by decide) rfl rfl (pa_cons (pe_slice sl_list (pv 2) po_none (po_some (pe_fld (pv 0) rfl))) (pa_cons (pe_slice sl_list (pv 2) (po_some (pe_fld (pv 0) rfl)) po_none) pa_nil)) (by rfl))
    (pss_cons (ps_if (PW.pt (pw_or (pt_not (pt_val (pe_fn F_is_within (hr.mono (by decide)) rfl (pa_cons (pv 4) (pa_cons (pe_mt0 (pv 0) T.cl M_domain_sizes (hr.mono (by decide))) pa_nil))))) (pw_or1 (pt_not (pt_val (pe_fn F_is_within (hr.mono (by decide)) rfl (pa_cons (pv 5) (pa_cons (pe_fld (pv 0) rfl) pa_nil)))))))) (pss_one (ps_ret (pe_lst (pa_cons (pe_gI Z.i_INVALID) pa_nil)))) pss_nil)
    (pss_cons (ps_set (i := 3) nd rfl (Or.inl rfl) (pe_fn F_dynamics (hr.mono (by decide)) rfl (pa_cons (pv 0) (pa_cons (pv 4) (pa_cons (pv 5) pa_nil)))))
    (pss_one (ps_ret (pe_ifExp (pt_cmpR op_isN (pv 3) pe_non (nomark _)) (pe_lst (pa_cons (pe_gI Z.i_ENDLESS) pa_nil)) (pv 3)))))))
theorem ok_f_best_response_dynamics (T : Tx K C) (G : Bt mg) (Z : Cs K mg pw rd wl nc) (F_dynamics : Fn P w K mg base 6 "dynamics" ["instance", "profile", "messages"] (sp_f_dynamics K C)) (F_is_within : Fn P w K mg base 1 "is_within" ["numbers", "sizes"] (sp_f_is_within K C)) (M_domain_sizes : Mt P w K mg base C 1 "domain_sizes" ["self"] (sp_m_domain_sizes K C)) {f : Addr} {fd : FuncData} (F : Fun K "best_response_dynamics" "best_response_dynamics" s_f_best_response_dynamics f fd) : FnOk P w K mg base CX0 7 f fd ["instance", "numbers", "row"] (sp_f_best_response_dynamics K C) :=
  fn_okX F sc_f_best_response_dynamics len_f_best_response_dynamics (x_f_best_response_dynamics T) (fun cdv A outer s H E hr => d_f_best_response_dynamics T G Z F_dynamics F_is_within M_domain_sizes cdv A outer s H E hr)
theorem d_f_dominant_messages (T : Tx K C) (G : Bt mg) (Z : Cs K mg pw rd wl nc) (F_has_preference : Fn P w K mg base 1 "has_preference" ["instance", "agent", "preference"] (sp_f_has_preference K C)) (F_mask_of : Fn P w K mg base 1 "mask_of" ["flags"] (sp_f_mask_of K C)) (F_dominant_flags : Fn P w K mg base 5 "dominant_flags" ["instance", "agent", "ranking"] (sp_f_dominant_flags K C)) {f : Addr} (cdv : Value) (A : Around) (outer : List Env) (s : Shared) (H : Hp) (E : XK) (hr : Room 5 (A.deeper (envOfC "dominant_messages" (defScope s_f_dominant_messages) s.heap.objs.size f cdv))) :
    PSs (cxOf CX0 P w K mg base N_f_dominant_messages "dominant_messages" (defScope s_f_dominant_messages) f cdv A outer s H E).nox (defBody s_f_dominant_messages) (t_f_dominant_messages K C) := by
  have nd := sc_f_dominant_messages.nd
  exact (pss_cons (ps_asg (pv 1) (pg_unl rfl (pgs_cons (pg_name (i := 3) nd rfl (Or.inl rfl)) (pgs_cons (pg_name (i := 4) nd rfl (Or.inl rfl)) pgs_nil))))
    (pss_cons (ps_if (pt_not (pt_val (pe_fn F_has_preference (hr.mono (by decide)) rfl (pa_cons (pv 0) (pa_cons (pv 3) (pa_cons (pv 4) pa_nil)))))) (pss_one (ps_ret (pe_lst (pa_cons (pe_gI Z.i_UNKNOWN) pa_nil)))) pss_nil)
    (pss_one (ps_ret (pe_lst (pa_cons (pe_fn F_mask_of (hr.mono (by decide)) rfl (pa_cons (pe_fn F_dominant_flags (hr.mono (by decide)) rfl (pa_cons (pv 0) (pa_cons (pv 3) (pa_cons (pe_ix ix_list (pe_ix ix_list (pe_fld (pv 0) rfl) (pv 3) (fun _ _ => rfl)) (pv 4) (fun _ _ => rfl)) pa_nil)))) pa_nil)) pa_nil))))))
theorem ok_f_dominant_messages (T : Tx K C) (G : Bt mg) (Z : Cs K mg pw rd wl nc) (F_has_preference : Fn P w K mg base 1 "has_preference" ["instance", "agent", "preference"] (sp_f_has_preference K C)) (F_mask_of : Fn P w K mg base 1 "mask_of" ["flags"] (sp_f_mask_of K C)) (F_dominant_flags : Fn P w K mg base 5 "dominant_flags" ["instance", "agent", "ranking"] (sp_f_dominant_flags K C)) {f : Addr} {fd : FuncData} (F : Fun K "dominant_messages" "dominant_messages" s_f_dominant_messages f fd) : FnOk P w K mg base CX0 6 f fd ["instance", "numbers", "row"] (sp_f_dominant_messages K C) :=
  fn_okX F sc_f_dominant_messages len_f_dominant_messages (x_f_dominant_messages T) (fun cdv A outer s H E hr => d_f_dominant_messages T G Z F_has_preference F_mask_of F_dominant_flags cdv A outer s H E hr)
theorem d_f_dominated_messages (T : Tx K C) (G : Bt mg) (Z : Cs K mg pw rd wl nc) (F_has_preference : Fn P w K mg base 1 "has_preference" ["instance", "agent", "preference"] (sp_f_has_preference K C)) (F_mask_of : Fn P w K mg base 1 "mask_of" ["flags"] (sp_f_mask_of K C)) (F_dominated_flags : Fn P w K mg base 5 "dominated_flags" ["instance", "agent", "ranking"] (sp_f_dominated_flags K C)) {f : Addr} (cdv : Value) (A : Around) (outer : List Env) (s : Shared) (H : Hp) (E : XK) (hr : Room 5 (A.deeper (envOfC "dominated_messages" (defScope s_f_dominated_messages) s.heap.objs.size f cdv))) :
    PSs (cxOf CX0 P w K mg base N_f_dominated_messages "dominated_messages" (defScope s_f_dominated_messages) f cdv A outer s H E).nox (defBody s_f_dominated_messages) (t_f_dominated_messages K C) := by
  have nd := sc_f_dominated_messages.nd
  exact (pss_cons (ps_asg (pv 1) (pg_unl rfl (pgs_cons (pg_name (i := 3) nd rfl (Or.inl rfl)) (pgs_cons (pg_name (i := 4) nd rfl (Or.inl rfl)) pgs_nil))))
    (pss_cons (ps_if (pt_not (pt_val (pe_fn F_has_preference (hr.mono (by decide)) rfl (pa_cons (pv 0) (pa_cons (pv 3) (pa_cons (pv 4) pa_nil)))))) (pss_one (ps_ret (pe_lst (pa_cons (pe_gI Z.i_UNKNOWN) pa_nil)))) pss_nil)
    (pss_one (ps_ret (pe_lst (pa_cons (pe_fn F_mask_of (hr.mono (by decide)) rfl (pa_cons (pe_fn F_dominated_flags (hr.mono (by decide)) rfl (pa_cons (pv 0) (pa_cons (pv 3) (pa_cons (pe_ix ix_list (pe_ix ix_list (pe_fld (pv 0) rfl) (pv 3) (fun _ _ => rfl)) (pv 4) (fun _ _ => rfl)) pa_nil)))) pa_nil)) pa_nil))))))
theorem ok_f_dominated_messages (T : Tx K C) (G : Bt mg) (Z : Cs K mg pw rd wl nc) (F_has_preference : Fn P w K mg base 1 "has_preference" ["instance", "agent", "preference"] (sp_f_has_preference K C)) (F_mask_of : Fn P w K mg base 1 "mask_of" ["flags"] (sp_f_mask_of K C)) (F_dominated_flags : Fn P w K mg base 5 "dominated_flags" ["instance", "agent", "ranking"] (sp_f_dominated_flags K C)) {f : Addr} {fd : FuncData} (F : Fun K "dominated_messages" "dominated_messages" s_f_dominated_messages f fd) : FnOk P w K mg base CX0 6 f fd ["instance", "numbers", "row"] (sp_f_dominated_messages K C) :=
  fn_okX F sc_f_dominated_messages len_f_dominated_messages (x_f_dominated_messages T) (fun cdv A outer s H E hr => d_f_dominated_messages T G Z F_has_preference F_mask_of F_dominated_flags cdv A outer s H E hr)
theorem d_f_implements_in_dominant_strategies (T : Tx K C) (G : Bt mg) (Z : Cs K mg pw rd wl nc) (F_result_of : Fn P w K mg base 1 "result_of" ["failure"] (sp_f_result_of K C)) (F_first_failure_of_dominance : Fn P w K mg base 7 "first_failure_of_dominance" ["instance"] (sp_f_first_failure_of_dominance K C)) {f : Addr} (cdv : Value) (A : Around) (outer : List Env) (s : Shared) (H : Hp) (E : XK) (hr : Room 7 (A.deeper (envOfC "implements_in_dominant_strategies" (defScope s_f_implements_in_dominant_strategies) s.heap.objs.size f cdv))) :
    PSs (cxOf CX0 P w K mg base N_f_implements_in_dominant_strategies "implements_in_dominant_strategies" (defScope s_f_implements_in_dominant_strategies) f cdv A outer s H E).nox (defBody s_f_implements_in_dominant_strategies) (t_f_implements_in_dominant_strategies K C) := by
  have nd := sc_f_implements_in_dominant_strategies.nd
  exact (pss_one (ps_ret (pe_fn F_result_of (hr.mono (by decide)) rfl (pa_cons (pe_fn F_first_failure_of_dominance (hr.mono (by decide)) rfl (pa_cons (pv 0) pa_nil)) pa_nil))))
theorem ok_f_implements_in_dominant_strategies (T : Tx K C) (G : Bt mg) (Z : Cs K mg pw rd wl nc) (F_result_of : Fn P w K mg base 1 "result_of" ["failure"] (sp_f_result_of K C)) (F_first_failure_of_dominance : Fn P w K mg base 7 "first_failure_of_dominance" ["instance"] (sp_f_first_failure_of_dominance K C)) {f : Addr} {fd : FuncData} (F : Fun K "implements_in_dominant_strategies" "implements_in_dominant_strategies" s_f_implements_in_dominant_strategies f fd) : FnOk P w K mg base CX0 8 f fd ["instance", "numbers", "row"] (sp_f_implements_in_dominant_strategies K C) :=
  fn_okX F sc_f_implements_in_dominant_strategies len_f_implements_in_dominant_strategies (x_f_implements_in_dominant_strategies T) (fun cdv A outer s H E hr => d_f_implements_in_dominant_strategies T G Z F_result_of F_first_failure_of_dominance cdv A outer s H E hr)
theorem d_f_force (T : Tx K C) (G : Bt mg) (Z : Cs K mg pw rd wl nc) (F_are_sets : Fn P w K mg base 1 "are_sets" ["instance", "coalition", "alternatives"] (sp_f_are_sets K C)) (F_can_force : Fn P w K mg base 4 "can_force" ["instance", "coalition", "alternatives"] (sp_f_can_force K C)) {f : Addr} (cdv : Value) (A : Around) (outer : List Env) (s : Shared) (H : Hp) (E : XK) (hr : Room 4 (A.deeper (envOfC "force" (defScope s_f_force) s.heap.objs.size f cdv))) :
    PSs (cxOf CX0 P w K mg base N_f_force "force" (defScope s_f_force) f cdv A outer s H E).nox (defBody s_f_force) (t_f_force K C) := by
  have nd := sc_f_force.nd
  exact (pss_cons (ps_asg (pv 1) (pg_unl rfl (pgs_cons (pg_name (i := 3) nd rfl (Or.inl rfl)) (pgs_cons (pg_name (i := 4) nd rfl (Or.inl rfl)) pgs_nil))))
    (pss_cons (ps_if (pt_not (pt_val (pe_fn F_are_sets (hr.mono (by decide)) rfl (pa_cons (pv 0) (pa_cons (pv 3) (pa_cons (pv 4) pa_nil)))))) (pss_one (ps_ret (pe_lst (pa_cons (pe_gI Z.i_INVALID) pa_nil)))) pss_nil)
    (pss_one (ps_ret (pe_lst (pa_cons (pe_callTy call_int1 (by rfl) G.int (by decide +kernel) (pa_cons (pe_fn F_can_force (hr.mono (by decide)) rfl (pa_cons (pv 0) (pa_cons (pv 3) (pa_cons (pv 4) pa_nil)))) pa_nil)) pa_nil))))))
theorem ok_f_force (T : Tx K C) (G : Bt mg) (Z : Cs K mg pw rd wl nc) (F_are_sets : Fn P w K mg base 1 "are_sets" ["instance", "coalition", "alternatives"] (sp_f_are_sets K C)) (F_can_force : Fn P w K mg base 4 "can_force" ["instance", "coalition", "alternatives"] (sp_f_can_force K C)) {f : Addr} {fd : FuncData} (F : Fun K "force" "force" s_f_force f fd) : FnOk P w K mg base CX0 5 f fd ["instance", "numbers", "row"] (sp_f_force K C) :=
  fn_okX F sc_f_force len_f_force (x_f_force T) (fun cdv A outer s H E hr => d_f_force T G Z F_are_sets F_can_force cdv A outer s H E hr)
theorem d_f_respond (T : Tx K C) (G : Bt mg) (Z : Cs K mg pw rd wl nc) (F_are_sets : Fn P w K mg base 1 "are_sets" ["instance", "coalition", "alternatives"] (sp_f_are_sets K C)) (F_can_respond : Fn P w K mg base 4 "can_respond" ["instance", "coalition", "alternatives"] (sp_f_can_respond K C)) {f : Addr} (cdv : Value) (A : Around) (outer : List Env) (s : Shared) (H : Hp) (E : XK) (hr : Room 4 (A.deeper (envOfC "respond" (defScope s_f_respond) s.heap.objs.size f cdv))) :
    PSs (cxOf CX0 P w K mg base N_f_respond "respond" (defScope s_f_respond) f cdv A outer s H E).nox (defBody s_f_respond) (t_f_respond K C) := by
  have nd := sc_f_respond.nd
  exact (pss_cons (ps_asg (pv 1) (pg_unl rfl (pgs_cons (pg_name (i := 3) nd rfl (Or.inl rfl)) (pgs_cons (pg_name (i := 4) nd rfl (Or.inl rfl)) pgs_nil))))
    (pss_cons (ps_if (pt_not (pt_val (pe_fn F_are_sets (hr.mono (by decide)) rfl (pa_cons (pv 0) (pa_cons (pv 3) (pa_cons (pv 4) pa_nil)))))) (pss_one (ps_ret (pe_lst (pa_cons (pe_gI Z.i_INVALID) pa_nil)))) pss_nil)
    (pss_one (ps_ret (pe_lst (pa_cons (pe_callTy call_int1 (by rfl) G.int (by decide +kernel) (pa_cons (pe_fn F_can_respond (hr.mono (by decide)) rfl (pa_cons (pv 0) (pa_cons (pv 3) (pa_cons (pv 4) pa_nil)))) pa_nil)) pa_nil))))))
theorem ok_f_respond (T : Tx K C) (G : Bt mg) (Z : Cs K mg pw rd wl nc) (F_are_sets : Fn P w K mg base 1 "are_sets" ["instance", "coalition", "alternatives"] (sp_f_are_sets K C)) (F_can_respond : Fn P w K mg base 4 "can_respond" ["instance", "coalition", "alternatives"] (sp_f_can_respond K C)) {f : Addr} {fd : FuncData} (F : Fun K "respond" "respond" s_f_respond f fd) : FnOk P w K mg base CX0 5 f fd ["instance", "numbers", "row"] (sp_f_respond K C) :=
  fn_okX F sc_f_respond len_f_respond (x_f_respond T) (fun cdv A outer s H E hr => d_f_respond T G Z F_are_sets F_can_respond cdv A outer s H E hr)
theorem d_f_describe (T : Tx K C) (G : Bt mg) (Z : Cs K mg pw rd wl nc) (M_domain_sizes : Mt P w K mg base C 1 "domain_sizes" ["self"] (sp_m_domain_sizes K C)) {f : Addr} (cdv : Value) (A : Around) (outer : List Env) (s : Shared) (H : Hp) (E : XK) (hr : Room 1 (A.deeper (envOfC "describe" (defScope s_f_describe) s.heap.objs.size f cdv))) :
    PSs (cxOf CX0 P w K mg base N_f_describe "describe" (defScope s_f_describe) f cdv A outer s H E).nox (defBody s_f_describe) (t_f_describe K C) := by
  have nd := sc_f_describe.nd
  exact (pss_one (ps_ret (pe_op op_cat (pe_lst (pa_cons (pe_fld (pv 0) rfl) (pa_cons (pe_fld (pv 0) rfl) pa_nil))) (pe_mt0 (pv 0) T.cl M_domain_sizes (hr.mono (by decide))))))
theorem ok_f_describe (T : Tx K C) (G : Bt mg) (Z : Cs K mg pw rd wl nc) (M_domain_sizes : Mt P w K mg base C 1 "domain_sizes" ["self"] (sp_m_domain_sizes K C)) {f : Addr} {fd : FuncData} (F : Fun K "describe" "describe" s_f_describe f fd) : FnOk P w K mg base CX0 2 f fd ["instance", "numbers", "row"] (sp_f_describe K C) :=
  fn_okX F sc_f_describe len_f_describe (x_f_describe T) (fun cdv A outer s H E hr => d_f_describe T G Z M_domain_sizes cdv A outer s H E hr)
end
end Gx
/-! # What changes the instance: judgement, rules, the three changing methods -/
namespace Gx
open PySem PySem.Spec PyProof.Rows L2
def plainSl : Sl → Bool
  | .any => true
  | .dat _ => true
  | _ => false
/-- growth beside a change of the instance a and of its list of domains pd -/
structure GrM (S H S' H' : Hp) (a pd : Addr) : Prop where
  s : Same S S'
  sub : Same S' H'
  fr : ∀ b o, S' b = some o → S b = none → H b = none
  keep : ∀ b o, H b = some o → b ≠ a → b ≠ pd → H' b = some o
  there : ∀ b o, H b = some o → ∃ o', H' b = some o'
theorem GrM.of {S H S' H' : Hp} {a pd : Addr} (g : Gr S H S' H') : GrM S H S' H' a pd := ⟨g.s, g.sub, g.fr, fun b o h _ _ => g.h b o h, fun b o h => ⟨o, g.h b o h⟩⟩
theorem GrM.trans {S H S1 H1 S2 H2 : Hp} {a pd : Addr} (x : GrM S H S1 H1 a pd) (y : GrM S1 H1 S2 H2 a pd) : GrM S H S2 H2 a pd := by
  refine ⟨x.s.trans y.s, y.sub, fun b o h1 h2 => ?_, fun b o h n1 n2 => y.keep b o (x.keep b o h n1 n2) n1 n2, fun b o h => ?_⟩
  · cases e : S1 b with
    | some o1 => exact x.fr b o1 e h2
    | none =>
      have h3 := y.fr b o h1 e
      cases e2 : H b with
      | none => rfl
      | some o2 =>
        obtain ⟨o3, h4⟩ := x.there b o2 e2
        rw [h3] at h4
        cases h4
  · obtain ⟨o1, h1⟩ := x.there b o h
    exact y.there b o1 h1
def reg (H : Hp) (a pd : Addr) : Hp := fun b => if b = a ∨ b = pd then H b else none
theorem reg_same (H : Hp) (a pd : Addr) : Same (reg H a pd) H := fun b o h => by
  unfold reg at h
  split at h
  · exact h
  · cases h
theorem reg_only {H : Hp} {a pd : Addr} : ∀ b o, reg H a pd b = some o → b = a ∨ b = pd := fun b o h => by
  unfold reg at h
  split at h
  · assumption
  · cases h
section
variable {C : Addr} {S S' I H H' : Hp} {a dx pd pt pm pk : Addr} {rs : List V} {m : Mc}
theorem InsAt.reg (i : InsAt C S H a m dx pd pt pm pk rs) : InsAt C S (reg H a pd) a m dx pd pt pm pk rs :=
  ⟨(if_pos (.inl rfl)).trans i.at_, i.sa, (if_pos (.inr rfl)).trans i.pd_, i.spd, i.dom, i.tg, i.mc, i.me⟩
theorem InsAt.big (i : InsAt C S I a m dx pd pt pm pk rs) (e : Same I H) : InsAt C S H a m dx pd pt pm pk rs := ⟨e _ _ i.at_, i.sa, e _ _ i.pd_, i.spd, i.dom, i.tg, i.mc, i.me⟩
theorem InsAt.up (i : InsAt C S H a m dx pd pt pm pk rs) (g : Gr S H S' H') : InsAt C S' H' a m dx pd pt pm pk rs :=
  ⟨g.h _ _ i.at_, g.keepNone i.sa i.at_, g.h _ _ i.pd_, g.keepNone i.spd i.pd_, i.dom.up g.s, i.tg.up g.s, i.mc.up g.s, i.me.up g.s⟩
theorem InsAt.ne (i : InsAt C S H a m dx pd pt pm pk rs) : a ≠ pd := ne_of i.at_ i.pd_ fun z => by cases z
end
theorem put_here {f : Str} {v x : V} {r : List (Str × V)} : putF f v ((f, x) :: r) = (f, v) :: r := if_pos rfl
theorem put_past {f g : Str} {v x : V} {r : List (Str × V)} (h : ¬ g = f) : putF f v ((g, x) :: r) = (g, x) :: putF f v r := if_neg h
section
variable {m m' : Mc} {pd pt pm pk p : Addr}
theorem flds_eq (h1 : m'.target.agentCount = m.target.agentCount) (h2 : m'.target.alternativeCount = m.target.alternativeCount) : flds m pd pt pm pk = flds m' pd pt pm pk := by
  unfold flds
  rw [h1, h2]
theorem put_t : putF "target" (.ref p) (flds m pd pt pm pk) = flds m pd p pm pk := by
  unfold flds
  rw [put_past (by decide +kernel), put_past (by decide +kernel), put_past (by decide +kernel), put_here]
theorem put_m : putF "message_counts" (.ref p) (flds m pd pt pm pk) = flds m pd pt p pk := by
  unfold flds
  rw [put_past (by decide +kernel), put_past (by decide +kernel), put_past (by decide +kernel), put_past (by decide +kernel), put_here]
theorem put_k : putF "mechanism" (.ref p) (flds m pd pt pm pk) = flds m pd pt pm p := by
  unfold flds
  rw [put_past (by decide +kernel), put_past (by decide +kernel), put_past (by decide +kernel), put_past (by decide +kernel), put_past (by decide +kernel), put_here]
end
section
variable (K : PySem.W.Frag) (C : Addr)
def XM (ts : TS) (ρ : List Sl) (d : PyData) (m' : Mc) : Prop := ∀ (S0 B S I H : Hp) (σ : L2.St) (D : Ends) (a dx pd pt pm pk : Addr) (rs : List V) (m : Mc), Gr S0 B S H → Same I B → EnvR K C B S I H σ ρ → ρ[0]? = some (.ins m) →
  InsAt C S0 I a m dx pd pt pm pk rs → (∀ b o, I b = some o → b = a ∨ b = pd) → (∀ v S' H' pt' pm' pk' rs', GrM S0 B S' H' a pd → Rp S' v d → InsAt C S' H' a m' dx pd pt' pm' pk' rs' → D.rt v H') → ts D σ H
/-- the promise of a def that changes the instance -/
def spM (R : Mc → List PyData → Mc → Prop) : Sp := fun vs H Q _ => ∃ (S : Hp) (a dx pd pt pm pk : Addr) (rs vs' : List V) (m m1 : Mc) (ds : List PyData), vs = .ref a :: vs' ∧ Same S H ∧ InsAt C S H a m dx pd pt pm pk rs ∧ RpA S vs' ds ∧ R m ds m1 ∧
  ∀ S' H' pt' pm' pk' rs', GrM S H S' H' a pd → InsAt C S' H' a m1 dx pd pt' pm' pk' rs' → Q .non H'
/-- an operation's promise -/
def spD (Pre : Mc → List Nat → List Nat → Prop) (st : Mc → List Nat → List Nat → Mc × List Int) : Sp := fun vs H Q _ => ∃ (S : Hp) (a dx pd pt pm pk : Addr) (rs : List V) (vn vr : V) (m : Mc) (ns r : List Nat), vs = [.ref a, vn, vr] ∧ Same S H ∧ InsAt C S H a m dx pd pt pm pk rs ∧ Rp S vn (nL ns) ∧ Rp S vr (nL r) ∧ Pre m ns r ∧
  ∀ v S' H' pt' pm' pk' rs', GrM S H S' H' a pd → Rp S' v (iL (st m ns r).2) → InsAt C S' H' a (st m ns r).1 dx pd pt' pm' pk' rs' → Q v H'
end
section
variable {K : PySem.W.Frag} {C : Addr} {ρ : List Sl}
/-- slot 0 holds the instance's address -/
theorem slot0 {B S S0 I H : Hp} {σ : L2.St} {m m2 : Mc} {a dx pd pt pm pk : Addr} {rs : List V} (en : EnvR K C B S I H σ ρ) (h0 : ρ[0]? = some (.ins m2)) (i : InsAt C S0 I a m dx pd pt pm pk rs) (only : ∀ b o, I b = some o → b = a ∨ b = pd) : σ[0]? = some (some (.ref a)) := by
  obtain ⟨v, h1, a2, dx2, pd2, pt2, pm2, pk2, rs2, rfl, j⟩ := en.var h0 (by intro z; cases z)
  have e : a2 = a := by
    rcases only a2 _ j.at_ with e | e
    · exact e
    · have h3 := j.at_
      rw [e, i.pd_] at h3
      cases h3
  rw [← e]
  exact h1
theorem xm_seq {t u : TS} {ρ1 : List Sl} {d : PyData} {m m' : Mc} (hρ : ρ[0]? = some (.ins m)) (h1 : X K C t ρ (.nx ρ1)) (h0 : ρ1[0]? = some (.ins m)) (h2 : XM K C u ρ1 d m') : XM K C (tSeq t u) ρ d m' := fun S0 B S I H σ D a dx pd pt pm pk rs m0 g hib en h00 i only k =>
  h1 S0 B S I H σ _ g hib en fun σ' S' H' e g' en' => h2 S0 B S' I H' σ' D a dx pd pt pm pk rs m0 g' hib en' (by rw [h0, ← h00, hρ]) i only k
theorem xm_pure {t : TS} {d : PyData} {m : Mc} (h0 : ρ[0]? = some (.ins m)) (h : X K C t ρ (.rt d)) : XM K C t ρ d m := fun S0 B S I H σ D a dx pd pt pm pk rs m0 g hib en h00 i only k => by
  rw [h0] at h00
  cases h00
  exact h S0 B S I H σ D g hib en fun v S' H' g' r => k v S' H' pt pm pk rs (GrM.of g') r ((i.big hib).up g')
theorem xm_if1 {c : TT} {t u : TS} {d : PyData} {m : Mc} (h0 : ρ[0]? = some (.ins m)) (hc : ET K C c ρ true) (h : X K C t ρ (.rt d)) : XM K C (tSeq (tIfS c t tNext) u) ρ d m := xm_pure h0 (x_ifR hc (fun _ => h) fun q => by cases q)
theorem xm_if0 {c : TT} {t u : TS} {d : PyData} {m m' : Mc} (h0 : ρ[0]? = some (.ins m)) (hc : ET K C c ρ false) (h : XM K C u ρ d m') : XM K C (tSeq (tIfS c t tNext) u) ρ d m' :=
  xm_seq h0 (x_if hc (fun q => by cases q) fun _ => x_next) h0 h
/-- the other slots behind a change of the instance -/
theorem EnvR.changed {B B' S S' I I' H H' : Hp} {σ : L2.St} {x : Sl} {a : Addr} (en : EnvR K C B S I H σ ρ) (hp : (ρ.set 0 .any).all plainSl = true) (e : Same S S') (hσ : σ[0]? = some (some (.ref a))) (h : SlR K C B' S' I' H' (.ref a) x) : EnvR K C B' S' I' H' σ (ρ.set 0 x) := by
  refine ⟨by rw [List.length_set]; exact en.len, fun j y hy => ?_⟩
  by_cases q : 0 = j
  · subst q
    have hl : 0 < ρ.length := by
      have := (List.getElem?_eq_some_iff.mp hy).1
      rwa [List.length_set] at this
    rw [List.getElem?_set_self hl] at hy
    cases hy
    exact .inr ⟨_, hσ, h⟩
  · have hy2 : (ρ.set 0 .any)[j]? = some y := by rw [List.getElem?_set_ne q]; rw [List.getElem?_set_ne q] at hy; exact hy
    have hpl := List.all_eq_true.mp hp y (List.mem_of_getElem? hy2)
    rw [List.getElem?_set_ne q] at hy
    rcases en.at_ j y hy with z | ⟨v, h1, h2⟩
    · exact .inl z
    · cases y with
      | any => exact .inl rfl
      | dat d => exact .inr ⟨v, h1, Rp.up (d := d) e h2⟩
      | sq _ => cases hpl
      | ins _ => cases hpl
      | ol _ => cases hpl
      | od _ => cases hpl
/-- o.change(..); return .. -/
theorem xm_mut {R : Mc → List PyData → Mc → Prop} {nm : Str} {E' : XK} {ta : TA} {te : TE} {ds : List PyData} {d : PyData} {m m1 : Mc} (h0 : ρ[0]? = some (.ins m)) (hk : ∀ pd pt pm pk, (flds m pd pt pm pk).lookup nm = none) (ha : EA K C ta ρ (ds.map Sl.dat)) (hR : R m ds m1) (he : E K C te (ρ.set 0 (.ins m1)) (.dat d)) (hp : (ρ.set 0 .any).all plainSl = true := by rfl) :
    XM K C (tSeq (tDrop (tMeth C nm (spM C R) [] E' (tVar 0) ta)) (tRet te)) ρ d m1 := fun S0 B S I H σ D a dx pd pt pm pk rs m0 g hib en h00 i only k => by
  rw [h0] at h00
  cases h00
  have hσ := slot0 en h0 i only
  have iH := (i.big hib).up g
  refine ⟨_, hσ, a, dx, _, rfl, iH.at_, hk _ _ _ _, ?_⟩
  refine ha B S I H σ g.sub (hib.trans g.h) en _ fun vs S1 H1 g1 s1 => ?_
  show spM C R (V.ref a :: (vs ++ [])) H1 _ _
  rw [List.append_nil]
  have g01 := g.trans g1
  refine ⟨S1, a, dx, pd, pt, pm, pk, rs, vs, m, m1, ds, rfl, g1.sub, (i.big hib).up g01, s1.dats, hR, fun S2 H2 pt' pm' pk' rs' gm j => ?_⟩
  -- the return
  have en2 : EnvR K C H2 S2 (reg H2 a pd) H2 σ (ρ.set 0 (.ins m1)) := (en.up g1 (hib.trans g.h)).changed hp gm.s hσ ⟨a, dx, pd, pt', pm', pk', rs', rfl, j.reg⟩
  refine he H2 S2 (reg H2 a pd) H2 σ gm.sub (reg_same _ _ _) en2 _ fun v S3 H3 g3 s3 => ?_
  exact k v S3 H3 pt' pm' pk' rs' (((GrM.of g01).trans gm).trans (GrM.of g3)) s3 (j.up g3)
/-! ### from a body to an operation's promise -/
theorem deed_pure {P : Program} {w : World} {mg : Str → Option Value} {base : Heap} {k : Nat} {f : Addr} {fd : FuncData} {ps : List Str} {Pr : List Sl → PyData → Prop} {Pre : Mc → List Nat → List Nat → Prop} {st : Mc → List Nat → List Nat → Mc × List Int} (F : FnOk P w K mg base CX0 k f fd ps (spF K C Pr))
    (hP : ∀ m ns r, Pre m ns r → Pr [.ins m, .dat (nL ns), .dat (nL r)] (iL (st m ns r).2)) (hm : ∀ m ns r, Pre m ns r → (st m ns r).1 = m) : FnOk P w K mg base CX0 k f fd ps (spD C Pre st) := by
  refine F.imp fun vs H Q E h => ?_
  obtain ⟨S, a, dx, pd, pt, pm, pk, rs, vn, vr, m, ns, r, rfl, hs, i, h1, h2, hp, k⟩ := h
  refine ⟨S, reg H a pd, [.ins m, .dat (nL ns), .dat (nL r)], _, hs, reg_same _ _ _, .cons ⟨a, dx, pd, pt, pm, pk, rs, rfl, i.reg⟩ (.cons h1 (.cons h2 .nil)), hP m ns r hp, fun v S' H' g rv => ?_⟩
  refine k v S' H' pt pm pk rs (GrM.of g) rv ?_
  rw [hm m ns r hp]
  exact i.up g
theorem deed_mut {P : Program} {w : World} {mg : Str → Option Value} {base : Heap} {k : Nat} {x qual : Str} {sx : Stmt} {f : Addr} {fd : FuncData} {N ps : List Str} {Pre : Mc → List Nat → List Nat → Prop} {st : Mc → List Nat → List Nat → Mc × List Int} {t : TS} (F : Fun K x qual sx f fd) (S : FnScope N ps (defScope sx)) (hps : ps.length = 3)
    (hx : ∀ m ns r, Pre m ns r → XM K C t ([.ins m, .dat (nL ns), .dat (nL r)] ++ List.replicate (N.length - 3) .any) (iL (st m ns r).2) (st m ns r).1)
    (hd : ∀ (cdv : Value) (A : Around) (outer : List Env) (s : Shared) (H : Hp) (E : XK), Room k (A.deeper (envOfC qual (defScope sx) s.heap.objs.size f cdv)) → PSs (cxOf CX0 P w K mg base N qual (defScope sx) f cdv A outer s H E).nox (defBody sx) t) :
    FnOk P w K mg base CX0 (k + 1) f fd ps (spD C Pre st) :=
  F.ok S (fun vs H Q E h => by
    obtain ⟨S, a, dx, pd, pt, pm, pk, rs, vn, vr, m, ns, r, rfl, _⟩ := h
    exact hps.symm) fun cdv A outer s H vs Q E hr h => ⟨t, hd cdv A outer s H E hr, by
    obtain ⟨S, a, dx, pd, pt, pm, pk, rs, vn, vr, m, ns, r, rfl, hs, i, h1, h2, hp, k⟩ := h
    have r3 : SlRs K C H S (reg H a pd) H [.ref a, vn, vr] [.ins m, .dat (nL ns), .dat (nL r)] := .cons ⟨a, dx, pd, pt, pm, pk, rs, rfl, i.reg⟩ (.cons h1 (.cons h2 .nil))
    have en := env_start (N := N) r3 (N.length - 3)
    exact hx m ns r hp S H S (reg H a pd) H _ { nx := fun _ H' => Q .non H', rt := Q } a dx pd pt pm pk rs m (Gr.refl hs) (reg_same _ _ _) en rfl i.reg reg_only fun v S' H' pt' pm' pk' rs' gm rv j => k v S' H' pt' pm' pk' rs' gm rv j⟩
/-! ### the three changing methods -/
def R_change_domain : Mc → List PyData → Mc → Prop := fun m ds m1 => ∃ (i : Nat) (rk : List (List Nat)), ds = [nI i, nLL rk] ∧ (m.target.domains.length ≤ 1000 ∧ i < m.target.domains.length ∧ rk.length ≤ 1000 ∧ (∀ l ∈ m.target.domains.set i rk, l.length ≤ 6) ∧ prodL ((m.target.domains.set i rk).map List.length) ≤ 10000) ∧
  m1 = { m with target := { m.target with domains := m.target.domains.set i rk, outcomes := List.replicate (prodL ((m.target.domains.set i rk).map List.length)) 0 } }
def R_change_target : Mc → List PyData → Mc → Prop := fun m ds m1 => ∃ l : List Nat, ds = [nL l] ∧ m1 = { m with target := { m.target with outcomes := l } }
def R_change_mechanism : Mc → List PyData → Mc → Prop := fun m ds m1 => ∃ l o : List Nat, ds = [nL l, nL o] ∧ m1 = { m with messageCounts := l, outcomes := o }
abbrev sp_m_change_domain (K : PySem.W.Frag) (C : Addr) : Sp := spM C R_change_domain
abbrev sp_m_change_target (K : PySem.W.Frag) (C : Addr) : Sp := spM C R_change_target
abbrev sp_m_change_mechanism (K : PySem.W.Frag) (C : Addr) : Sp := spM C R_change_mechanism
/-- o.f = e: the object behind it -/
theorem fld_store {B S H : Hp} {σ : L2.St} {D : Ends} {a dx pd pt pm pk : Addr} {rs : List V} {m : Mc} {tv : TE} {f : Str} {d : PyData} (T : Tx K C) (hn : NoAttr K C f) (hs : Same S H) (en : EnvR K C B S (reg H a pd) H σ ρ) (hσ : σ[0]? = some (some (.ref a))) (i : InsAt C S H a m dx pd pt pm pk rs) (he : E K C tv ρ (.dat d))
    (k : ∀ v S1 H1, Gr S H S1 H1 → Rp S1 v d → D.nx σ (upd H1 a (.ins C dx (putF f v (flds m pd pt pm pk))))) : sFld K (tVar 0) tv f D σ H :=
  he B S (reg H a pd) H σ hs (reg_same _ _ _) en _ fun v S1 H1 g1 s1 => ⟨_, hσ, a, C, dx, _, rfl, g1.h _ _ i.at_, T.cl, hn, by show 6 < 1000; decide, k v S1 H1 g1 s1⟩
/-- growth up to a store into the instance -/
theorem GrM.store {S H S1 H1 : Hp} {a pd : Addr} {o o' : HO} (g : Gr S H S1 H1) (ha : H a = some o) (hs : S a = none) : GrM S H S1 (upd H1 a o') a pd := by
  have hs1 := g.keepNone hs ha
  refine ⟨g.s, fun b u hb => ?_, g.fr, fun b u hb n1 _ => ?_, fun b u hb => ?_⟩
  · rw [upd_ne (ne_of_none hb hs1)]
    exact g.sub b u hb
  · rw [upd_ne n1]
    exact g.h b u hb
  · by_cases q : b = a
    · rw [q]
      exact ⟨_, upd_same⟩
    · exact ⟨u, by rw [upd_ne q]; exact g.h b u hb⟩
theorem InsAt.stored {S H : Hp} {a dx pd pt pm pk pt' pm' pk' : Addr} {rs : List V} {m m1 : Mc} (i : InsAt C S H a m dx pd pt pm pk rs) (h1 : m1.target.agentCount = m.target.agentCount) (h2 : m1.target.alternativeCount = m.target.alternativeCount) (hd : m1.target.domains = m.target.domains)
    (ht : Rp S (.ref pt') (nL m1.target.outcomes)) (hm : Rp S (.ref pm') (nL m1.messageCounts)) (hk : Rp S (.ref pk') (nL m1.outcomes)) : InsAt C S (upd H a (.ins C dx (flds m pd pt' pm' pk'))) a m1 dx pd pt' pm' pk' rs := by
  refine ⟨?_, i.sa, ?_, i.spd, by rw [hd]; exact i.dom, ht, hm, hk⟩
  · rw [upd_same, flds_eq (m' := m1) h1 h2]
  · rw [upd_ne i.ne.symm]
    exact i.pd_
theorem refOf {S : Hp} {v : V} {ds : List PyData} (h : Rp S v (.list ds)) : ∃ p, v = .ref p := by
  cases h with
  | lst h1 h2 => exact ⟨_, rfl⟩
end
end Gx
namespace Gx
open PySem PySem.Spec PyProof.Rows L2
/-! # The three changing methods -/
theorem Gr.grM_store {S H S1 H1 : Hp} {C a dx pd pt pm pk : Addr} {rs : List V} {m : Mc} {o' : HO} (g : Gr S H S1 H1) (i : InsAt C S H a m dx pd pt pm pk rs) : GrM S H S1 (upd H1 a o') a pd := GrM.store g i.at_ i.sa
theorem ds_one {K : PySem.W.Frag} {C : Addr} {ρ : List Sl} {te : TE} {d : PyData} (h : E K C te ρ (.dat d)) : E K C (tLst (tCons te tNil)) ρ (.dat (.list [d])) := e_new (en_lst (ds := [d]) (ea_one h) (by simp))
theorem RpA.slrs {K : PySem.W.Frag} {C : Addr} {B S I H : Hp} : ∀ {vs : List V} {ds : List PyData}, RpA S vs ds → SlRs K C B S I H vs (ds.map Sl.dat)
  | _, [], h => by cases h; exact .nil
  | _, d :: ds, h => by
    cases h with
    | cons a t => exact .cons a (RpA.slrs t)
theorem GrM.storeD {S H S1 H1 : Hp} {a pd : Addr} {o o' : HO} (g : Gr S H S1 H1) (ha : H pd = some o) (hs : S pd = none) : GrM S H S1 (upd H1 pd o') a pd := by
  have hs1 := g.keepNone hs ha
  refine ⟨g.s, fun b u hb => ?_, g.fr, fun b u hb _ n1 => ?_, fun b u hb => ?_⟩
  · rw [upd_ne (ne_of_none hb hs1)]
    exact g.sub b u hb
  · rw [upd_ne n1]
    exact g.h b u hb
  · by_cases q : b = pd
    · rw [q]
      exact ⟨_, upd_same⟩
    · exact ⟨u, by rw [upd_ne q]; exact g.h b u hb⟩
/-- a body of a changing def -/
def XR (K : PySem.W.Frag) (C : Addr) (n : Nat) (R : Mc → List PyData → Mc → Prop) (t : TS) : Prop := ∀ (S H : Hp) (σ : L2.St) (D : Ends) (a dx pd pt pm pk : Addr) (rs : List V) (m m1 : Mc) (ds : List PyData), Same S H → InsAt C S H a m dx pd pt pm pk rs →
  EnvR K C H S (reg H a pd) H σ (.ins m :: ds.map Sl.dat ++ List.replicate n .any) → σ[0]? = some (some (.ref a)) → R m ds m1 → (∀ σ' S' H' pt' pm' pk' rs', GrM S H S' H' a pd → InsAt C S' H' a m1 dx pd pt' pm' pk' rs' → D.nx σ' H') → t D σ H
theorem mut_ok {P : Program} {w : World} {K : PySem.W.Frag} {mg : Str → Option Value} {base : Heap} {C : Addr} {R : Mc → List PyData → Mc → Prop} {k : Nat} {x qual : Str} {sx : Stmt} {f : Addr} {fd : FuncData} {N ps : List Str} {t : TS} (F : Fun K x qual sx f fd) (S : FnScope N ps (defScope sx))
    (hl : ∀ m ds m1, R m ds m1 → ds.length + 1 = ps.length) (hx : XR K C (N.length - ps.length) R t)
    (hd : ∀ (cdv : Value) (A : Around) (outer : List Env) (s : Shared) (H : Hp) (E : XK), Room k (A.deeper (envOfC qual (defScope sx) s.heap.objs.size f cdv)) → PSs (cxOf CX0 P w K mg base N qual (defScope sx) f cdv A outer s H E).nox (defBody sx) t) :
    FnOk P w K mg base CX0 (k + 1) f fd ps (spM C R) :=
  F.ok S (fun vs H Q E h => by
    obtain ⟨S, a, dx, pd, pt, pm, pk, rs, vs', m, m1, ds, rfl, _, _, r, hR, _⟩ := h
    show vs'.length + 1 = _
    rw [r.len]
    exact hl m ds m1 hR) fun cdv A outer s H vs Q E hr h => ⟨t, hd cdv A outer s H E hr, by
    obtain ⟨S, a, dx, pd, pt, pm, pk, rs, vs', m, m1, ds, rfl, hs, i, r, hR, q⟩ := h
    have r3 : SlRs K C H S (reg H a pd) H (.ref a :: vs') (.ins m :: ds.map Sl.dat) := .cons ⟨a, dx, pd, pt, pm, pk, rs, rfl, i.reg⟩ r.slrs
    have en := env_start (N := N) r3 (N.length - ps.length)
    have hlen : (V.ref a :: vs').length = ps.length := by
      show vs'.length + 1 = _
      rw [r.len]
      exact hl m ds m1 hR
    unfold L2.start
    rw [hlen]
    exact hx S H _ { nx := fun _ H' => Q .non H', rt := Q } a dx pd pt pm pk rs m m1 ds hs i en rfl hR fun σ' S' H' pt' pm' pk' rs' gm j => q S' H' pt' pm' pk' rs' gm j⟩
/-! ### readings (printed by gen.py) -/
/-- 0 self, 1 agent, 2 rankings, 3 ranking -/
def t_m_change_domain (K : PySem.W.Frag) (C : Addr) : TS :=
    (tSeq (tAsg (tLc (iList K (tVar 2)) (gName 3) tYes (tCB (rListS K) (tCons (tVar 3) tNil)) [3]) (gSub (tFld K (tVar 0) "domains") (tVar 1) rSetL))
    (sFld K (tVar 0) (tOp rRep (tLst (tCons (tC (.int 0)) tNil)) (tCall (sp_f_count_of K C) [] E0 (tCons (tMeth C "domain_sizes" (sp_m_domain_sizes K C) [] E0 (tVar 0) tNil) tNil))) "target"))
/-- 0 self, 1 outcomes -/
def t_m_change_target (K : PySem.W.Frag) (C : Addr) : TS :=
    (sFld K (tVar 0) (tCB (rListS K) (tCons (tVar 1) tNil)) "target")
/-- 0 self, 1 message_counts, 2 outcomes -/
def t_m_change_mechanism (K : PySem.W.Frag) (C : Addr) : TS :=
    (tSeq (sFld K (tVar 0) (tCB (rListS K) (tCons (tVar 1) tNil)) "message_counts")
    (sFld K (tVar 0) (tCB (rListS K) (tCons (tVar 2) tNil)) "mechanism"))
section
variable {K : PySem.W.Frag} {C : Addr}
theorem x_m_change_target (T : Tx K C) : XR K C (N_m_change_target.length - 2) R_change_target (t_m_change_target K C) := by
  rintro S H σ D a dx pd pt pm pk rs m m1 ds hs i en hσ ⟨l, rfl, rfl⟩ k
  refine fld_store T T.nT hs en hσ i (d := nL l) (e_new (en_list (e_var rfl))) fun v S1 H1 g1 r1 => ?_
  obtain ⟨p, rfl⟩ := refOf r1
  rw [put_t]
  exact k σ S1 _ p pm pk rs (g1.grM_store i) (InsAt.stored (i.up g1) rfl rfl rfl r1 (i.up g1).mc (i.up g1).me)
theorem x_m_change_mechanism (T : Tx K C) : XR K C (N_m_change_mechanism.length - 3) R_change_mechanism (t_m_change_mechanism K C) := by
  rintro S H σ D a dx pd pt pm pk rs m m1 ds hs i en hσ ⟨l, o, rfl, rfl⟩ k
  refine fld_store T T.nM hs en hσ i (d := nL l) (e_new (en_list (e_var rfl))) fun v S1 H1 g1 r1 => ?_
  obtain ⟨p, rfl⟩ := refOf r1
  rw [put_m]
  have j := InsAt.stored (m1 := { m with messageCounts := l }) (pt' := pt) (pm' := p) (pk' := pk) (i.up g1) rfl rfl rfl (i.up g1).tg r1 (i.up g1).me
  have gm1 := g1.grM_store (o' := .ins C dx (flds m pd pt p pk)) i
  have en2 : EnvR K C (upd H1 a (.ins C dx (flds m pd pt p pk))) S1 (reg (upd H1 a (.ins C dx (flds m pd pt p pk))) a pd) (upd H1 a (.ins C dx (flds m pd pt p pk))) σ ([.ins m, .dat (nL l), .dat (nL o)].set 0 (.ins { m with messageCounts := l })) := (en.up g1 (reg_same _ _ _)).changed rfl (Same.refl S1) hσ ⟨a, dx, pd, pt, p, pk, rs, rfl, j.reg⟩
  refine fld_store T T.nK gm1.sub en2 hσ j (d := nL o) (e_new (en_list (e_var rfl))) fun v2 S2 H2 g2 r2 => ?_
  obtain ⟨p2, rfl⟩ := refOf r2
  rw [put_k]
  exact k σ S2 _ pt p p2 rs (gm1.trans (g2.grM_store j)) (InsAt.stored (j.up g2) rfl rfl rfl (j.up g2).tg (j.up g2).mc r2)
theorem x_m_change_domain (T : Tx K C) : XR K C (N_m_change_domain.length - 3) R_change_domain (t_m_change_domain K C) := by
  rintro S H σ D a dx pd pt pm pk rs m m1 ds hs i en hσ ⟨n, rk, rfl, ⟨hd, hn, hrk, h6, hp⟩, rfl⟩ k
  have h1 := en_lc0 (K := K) (C := C) (ρ := [.ins m, .dat (nI n), .dat (nLL rk), .any]) (wi := iList K (tVar 2)) (g := gName 3) (te := tCB (rListS K) (tCons (tVar 3) tNil)) (js := [3]) (vs := [3]) (xs := rk) (enc := nL) (f := nL) (ei_list (e_var rfl)) (by omega) (fun _ h => h)
    fun l hl => ⟨_, ga_name, e_new (en_list (e_var rfl))⟩
  unfold t_m_change_domain tSeq tAsg
  refine e_new h1 H S (reg H a pd) H σ hs (reg_same _ _ _) en _ fun v S1 H1 g1 r1 => ?_
  have i1 := i.up g1
  obtain ⟨v1, hv1, hv2⟩ := en.var (i := 1) (x := .dat (nI n)) rfl (by intro z; cases z)
  cases hv2
  have hlen : rs.length = m.target.domains.length := by rw [i.dom.len, List.length_map]
  refine ⟨_, hσ, a, C, dx, _, _, rfl, i1.at_, T.cl, T.nD, fl_d, _, hv1, pd, rs, (n : Int), n, rfl, rfl, i1.pd_, ixN_nat (by omega), ?_⟩
  -- the new list of domains stands
  have gm1 := GrM.storeD (a := a) (o' := .lst (rs.set n v)) g1 i.pd_ i.spd
  have j : InsAt C S1 (upd H1 pd (.lst (rs.set n v))) a { m with target := { m.target with domains := m.target.domains.set n rk } } dx pd pt pm pk (rs.set n v) := by
    refine ⟨?_, i1.sa, upd_same, i1.spd, ?_, i1.tg, i1.mc, i1.me⟩
    · rw [upd_ne i.ne]
      exact i1.at_
    · show RpA S1 (rs.set n v) ((m.target.domains.set n rk).map nLL)
      rw [List.map_set]
      exact i1.dom.set n r1
  have en2 : EnvR K C (upd H1 pd (.lst (rs.set n v))) S1 (reg (upd H1 pd (.lst (rs.set n v))) a pd) (upd H1 pd (.lst (rs.set n v))) σ ([.ins m, .dat (nI n), .dat (nLL rk), .any].set 0 (.ins { m with target := { m.target with domains := m.target.domains.set n rk } })) := (en.up g1 (reg_same _ _ _)).changed rfl (Same.refl S1) hσ ⟨a, dx, pd, pt, pm, pk, rs.set n v, rfl, j.reg⟩
  have q1 : (m.target.domains.set n rk).length ≤ 1000 := by rw [List.length_set]; exact hd
  have q2 : ∀ s ∈ (m.target.domains.set n rk).map List.length, s ≤ 6 := fun s hs => by
    obtain ⟨l, hl, rfl⟩ := List.mem_map.mp hs
    exact h6 l hl
  have q3 : prodL ((m.target.domains.set n rk).map List.length) ≤ 10000000 := by omega
  have q4 : PyData.list (List.replicate (prodL ((m.target.domains.set n rk).map List.length)) (nI 0)) = nL (List.replicate (prodL ((m.target.domains.set n rk).map List.length)) 0) := by
    show _ = PyData.list (List.map nI (List.replicate _ 0))
    rw [List.map_replicate]
  refine fld_store T T.nT gm1.sub en2 hσ j (d := nL (List.replicate (prodL ((m.target.domains.set n rk).map List.length)) 0)) (e_is (e_new (en_rep (d := nI 0) (ds_one (e_cN 0)) (e_call (ea_one (e_meth (fun _ _ _ _ => fl_no (by decide +kernel)) (e_var rfl) ea_nil ⟨_, rfl, q1, rfl⟩)) ⟨_, rfl, q2, rfl⟩) q3)) q4) fun v2 S2 H2 g2 r2 => ?_
  obtain ⟨p2, rfl⟩ := refOf r2
  rw [put_t]
  exact k σ S2 _ p2 pm pk _ (gm1.trans (g2.grM_store j)) (InsAt.stored (j.up g2) rfl rfl rfl r2 (j.up g2).mc (j.up g2).me)
end
section
variable {P : Program} {w : World} {K : PySem.W.Frag} {mg : Str → Option Value} {base : Heap} {C pw rd wl nc : Addr}
theorem d_m_change_domain (T : Tx K C) (G : Bt mg) (Z : Cs K mg pw rd wl nc) (F_count_of : Fn P w K mg base 1 "count_of" ["sizes"] (sp_f_count_of K C)) (M_domain_sizes : Mt P w K mg base C 1 "domain_sizes" ["self"] (sp_m_domain_sizes K C)) {f : Addr} (cdv : Value) (A : Around) (outer : List Env) (s : Shared) (H : Hp) (E : XK) (hr : Room 1 (A.deeper (envOfC "Instance.change_domain" (defScope s_m_change_domain) s.heap.objs.size f cdv))) :
    PSs (cxOf CX0 P w K mg base N_m_change_domain "Instance.change_domain" (defScope s_m_change_domain) f cdv A outer s H E).nox (defBody s_m_change_domain) (t_m_change_domain K C) := by
  have nd := sc_m_change_domain.nd
  exact (pss_cons (ps_asg (pe_lc (own := [("ranking", 3)]) (g := (gName 3)) (tt := tYes) rfl nd (pi_list (pv 2)) (blkOk_by (N := N_m_change_domain) (sc := defScope s_m_change_domain) (by decide +kernel)) (fun _ _ _ _ _ => (pg_name (i := 3) nd rfl (Or.inl rfl))) (fun _ _ _ _ _ => pts_nil) (fun _ _ _ _ _ => (pe_callTy call_list_of (by rfl) G.list (by decide +kernel) (pa_cons (pv 3) pa_nil)))) (pg_sub (pe_fld (pv 0) rfl) (pv 1) set_list))
    (pss_one (ps_fld (pv 0) (pe_op op_rep (pe_lst (pa_cons pe_int pa_nil)) (pe_fn F_count_of (hr.mono (by decide)) rfl (pa_cons (pe_mt0 (pv 0) T.cl M_domain_sizes (hr.mono (by decide))) pa_nil))) rfl)))
theorem d_m_change_target (T : Tx K C) (G : Bt mg) (Z : Cs K mg pw rd wl nc)  {f : Addr} (cdv : Value) (A : Around) (outer : List Env) (s : Shared) (H : Hp) (E : XK) (hr : Room 0 (A.deeper (envOfC "Instance.change_target" (defScope s_m_change_target) s.heap.objs.size f cdv))) :
    PSs (cxOf CX0 P w K mg base N_m_change_target "Instance.change_target" (defScope s_m_change_target) f cdv A outer s H E).nox (defBody s_m_change_target) (t_m_change_target K C) := by
  have nd := sc_m_change_target.nd
  exact (pss_one (ps_fld (pv 0) (pe_callTy call_list_of (by rfl) G.list (by decide +kernel) (pa_cons (pv 1) pa_nil)) rfl))
theorem d_m_change_mechanism (T : Tx K C) (G : Bt mg) (Z : Cs K mg pw rd wl nc)  {f : Addr} (cdv : Value) (A : Around) (outer : List Env) (s : Shared) (H : Hp) (E : XK) (hr : Room 0 (A.deeper (envOfC "Instance.change_mechanism" (defScope s_m_change_mechanism) s.heap.objs.size f cdv))) :
    PSs (cxOf CX0 P w K mg base N_m_change_mechanism "Instance.change_mechanism" (defScope s_m_change_mechanism) f cdv A outer s H E).nox (defBody s_m_change_mechanism) (t_m_change_mechanism K C) := by
  have nd := sc_m_change_mechanism.nd
  exact (pss_cons (ps_fld (pv 0) (pe_callTy call_list_of (by rfl) G.list (by decide +kernel) (pa_cons (pv 1) pa_nil)) rfl)
    (pss_one (ps_fld (pv 0) (pe_callTy call_list_of (by rfl) G.list (by decide +kernel) (pa_cons (pv 2) pa_nil)) rfl)))
theorem ok_m_change_target (T : Tx K C) (G : Bt mg) (Z : Cs K mg pw rd wl nc)  {f : Addr} {fd : FuncData} (F : Fun K "change_target" "Instance.change_target" s_m_change_target f fd) : FnOk P w K mg base CX0 1 f fd ["self", "outcomes"] (sp_m_change_target K C) :=
  mut_ok F sc_m_change_target (fun m ds m1 h => by obtain ⟨l, rfl, rfl⟩ := h; rfl) (x_m_change_target T) (fun cdv A outer s H E hr => d_m_change_target T G Z cdv A outer s H E hr)
theorem ok_m_change_mechanism (T : Tx K C) (G : Bt mg) (Z : Cs K mg pw rd wl nc)  {f : Addr} {fd : FuncData} (F : Fun K "change_mechanism" "Instance.change_mechanism" s_m_change_mechanism f fd) : FnOk P w K mg base CX0 1 f fd ["self", "message_counts", "outcomes"] (sp_m_change_mechanism K C) :=
  mut_ok F sc_m_change_mechanism (fun m ds m1 h => by obtain ⟨l, o, rfl, rfl⟩ := h; rfl) (x_m_change_mechanism T) (fun cdv A outer s H E hr => d_m_change_mechanism T G Z cdv A outer s H E hr)
theorem ok_m_change_domain (T : Tx K C) (G : Bt mg) (Z : Cs K mg pw rd wl nc) (F_count_of : Fn P w K mg base 1 "count_of" ["sizes"] (sp_f_count_of K C)) (M_domain_sizes : Mt P w K mg base C 1 "domain_sizes" ["self"] (sp_m_domain_sizes K C)) {f : Addr} {fd : FuncData} (F : Fun K "change_domain" "Instance.change_domain" s_m_change_domain f fd) : FnOk P w K mg base CX0 2 f fd ["self", "agent", "rankings"] (sp_m_change_domain K C) :=
  mut_ok F sc_m_change_domain (fun m ds m1 h => by obtain ⟨i, rk, rfl, _⟩ := h; rfl) (x_m_change_domain T) (fun cdv A outer s H E hr => d_m_change_domain T G Z F_count_of M_domain_sizes cdv A outer s H E hr)
end
end Gx
namespace Gx
open PySem PySem.Spec PyProof.Rows L2
/-! # The operations that change the instance -/
def PreK (k : Nat) : Mc → List Nat → List Nat → Prop := fun m ns r => Wf m ∧ ns.length = k ∧ r.length ≤ 8
def newDom (m : Mc) (i : Nat) (rk : List (List Nat)) : Mc := { m with target := { m.target with domains := m.target.domains.set i rk, outcomes := List.replicate (prodL ((m.target.domains.set i rk).map List.length)) 0 } }
def newTgt (m : Mc) (l : List Nat) : Mc := { m with target := { m.target with outcomes := l } }
def s_add_preference (m : Mc) (ns r : List Nat) : Mc × List Int := if m.target.agentCount ≤ ns.headD 0 then (m, [-2]) else if isRk m.target.alternativeCount r = false then (m, [-22]) else if (domM m (ns.headD 0)).contains r = true then (m, [-17]) else if 6 ≤ (domM m (ns.headD 0)).length then (m, [-28]) else
  (newDom m (ns.headD 0) (domM m (ns.headD 0) ++ [r]), [((domM m (ns.headD 0)).length : Int)])
def s_set_full_domain (m : Mc) (ns _r : List Nat) : Mc × List Int := if m.target.agentCount ≤ ns.headD 0 then (m, [-2]) else if m.target.alternativeCount = 4 then (m, [-28]) else (newDom m (ns.headD 0) (allRk m.target.alternativeCount), [((allRk m.target.alternativeCount).length : Int)])
def s_set_target_outcome (m : Mc) (ns r : List Nat) : Mc × List Int := if m.target.alternativeCount ≤ ns.headD 0 ∨ within r (sizesM m) = false then (m, [-22]) else (newTgt m (m.target.outcomes.set (placeOf r (sizesM m)) (ns.headD 0)), [(tgt m r : Int)])
def s_use_dictatorship (m : Mc) (ns _r : List Nat) : Mc × List Int := if m.target.agentCount ≤ ns.headD 0 then (m, [-2]) else (newTgt m (dictL m (ns.headD 0)), [0])
def s_use_borda (m : Mc) (_ns _r : List Nat) : Mc × List Int := (newTgt m (bordaL m), [0])
def s_set_message_counts (m : Mc) (_ns r : List Nat) : Mc × List Int := if r.length ≠ m.target.agentCount ∨ r.all (fun k => decide (1 ≤ k) && decide (k ≤ 6)) = false then (m, [-22]) else ({ m with messageCounts := r, outcomes := List.replicate (prodL r) 0 }, [(prodL r : Int)])
def s_set_mechanism_outcome (m : Mc) (ns r : List Nat) : Mc × List Int := if m.target.alternativeCount ≤ ns.headD 0 ∨ within r m.messageCounts = false then (m, [-22]) else ({ m with outcomes := m.outcomes.set (placeOf r m.messageCounts) (ns.headD 0) }, [(out m r : Int)])
def s_use_direct_mechanism (m : Mc) (_ns _r : List Nat) : Mc × List Int := ({ m with messageCounts := sizesM m, outcomes := m.target.outcomes }, [(m.target.outcomes.length : Int)])
theorem prod_le {ss : List Nat} (h : ss.length ≤ 4) (h6 : ∀ s ∈ ss, s ≤ 6) : prodL ss ≤ 1296 := by
  rw [← enum_len, ← allLists_eq]
  exact (allLists_len h h6).1
theorem one_of {l : List Nat} (h : l.length = 1) : ∃ a, l = [a] := by
  match l, h with
  | [a], _ => exact ⟨a, rfl⟩
theorem allRk_len : ∀ c : Nat, 2 ≤ c → c ≤ 4 → c ≠ 4 → (allRk c).length ≤ 6 := fun c h1 h2 h3 => by
  match c, h1, h2, h3 with
  | 2, _, _, _ => decide +kernel
  | 3, _, _, _ => decide +kernel
  | n + 4, _, h2, h3 => omega
theorem dom_R {m : Mc} {i : Nat} {rk : List (List Nat)} (W : Wf m) (hi : i < m.target.agentCount) (hl : rk.length ≤ 6) : R_change_domain m [nI i, nLL rk] (newDom m i rk) := by
  have ha := W.a3
  have h6 : ∀ l ∈ m.target.domains.set i rk, l.length ≤ 6 := fun l h => by
    rcases List.mem_or_eq_of_mem_set h with h | rfl
    · exact W.d6 l h
    · exact hl
  refine ⟨i, rk, rfl, ⟨by rw [W.dl]; omega, by rw [W.dl]; exact hi, by omega, h6, ?_⟩, rfl⟩
  refine Nat.le_trans (prod_le ?_ ?_) (by decide)
  · rw [List.length_map, List.length_set, W.dl]; omega
  · intro s hs
    obtain ⟨l, hl, rfl⟩ := List.mem_map.mp hs
    exact h6 l hl
abbrev sp_f_add_preference (K : PySem.W.Frag) (C : Addr) : Sp := spD C (PreK 1) s_add_preference
abbrev sp_f_set_full_domain (K : PySem.W.Frag) (C : Addr) : Sp := spD C (PreK 1) s_set_full_domain
abbrev sp_f_set_target_outcome (K : PySem.W.Frag) (C : Addr) : Sp := spD C (PreK 1) s_set_target_outcome
abbrev sp_f_use_dictatorship (K : PySem.W.Frag) (C : Addr) : Sp := spD C (PreK 1) s_use_dictatorship
abbrev sp_f_use_borda (K : PySem.W.Frag) (C : Addr) : Sp := spD C (PreK 0) s_use_borda
abbrev sp_f_set_message_counts (K : PySem.W.Frag) (C : Addr) : Sp := spD C (PreK 0) s_set_message_counts
abbrev sp_f_set_mechanism_outcome (K : PySem.W.Frag) (C : Addr) : Sp := spD C (PreK 1) s_set_mechanism_outcome
abbrev sp_f_use_direct_mechanism (K : PySem.W.Frag) (C : Addr) : Sp := spD C (PreK 0) s_use_direct_mechanism
/-! ### readings (printed by gen.py) -/
/-- 0 instance, 1 numbers, 2 row, 3 agent, 4 domain, 5 index -/
def t_f_add_preference (K : PySem.W.Frag) (C : Addr) : TS :=
    (tSeq (tAsg (tOp (rIxL K) (tVar 1) (tC (.int 0))) (gName 3))
    (tSeq (tIfS (tTest (tOp rGeI (tVar 3) (tFld K (tVar 0) "agent_count"))) (tRet (tLst (tCons (tC (.int (-2))) tNil))) tNext)
    (tSeq (tIfS (tNot (tB (tCall (sp_f_is_ranking K C) [] E0 (tCons (tVar 2) (tCons (tFld K (tVar 0) "alternative_count") tNil))))) (tRet (tLst (tCons (tC (.int (-22))) tNil))) tNext)
    (tSeq (tAsg (tOp (rIxL K) (tFld K (tVar 0) "domains") (tVar 3)) (gName 4))
    (tSeq (tIfS (tTest (tOp (rInD K) (tVar 2) (tVar 4))) (tRet (tLst (tCons (tC (.int (-17))) tNil))) tNext)
    (tSeq (tIfS (tTest (tOp rGeI (tCB (rLenS K) (tCons (tVar 4) tNil)) (tC (.int (6))))) (tRet (tLst (tCons (tC (.int (-28))) tNil))) tNext)
    (tSeq (tAsg (tCB (rLenS K) (tCons (tVar 4) tNil)) (gName 5))
    (tSeq (tDrop (tMeth C "change_domain" (sp_m_change_domain K C) [] E0 (tVar 0) (tCons (tVar 3) (tCons (tOp rCat (tVar 4) (tLst (tCons (tVar 2) tNil))) tNil))))
    (tRet (tLst (tCons (tVar 5) tNil)))))))))))
/-- 0 instance, 1 numbers, 2 row, 3 agent, 4 rankings -/
def t_f_set_full_domain (K : PySem.W.Frag) (C : Addr) : TS :=
    (tSeq (tAsg (tOp (rIxL K) (tVar 1) (tC (.int 0))) (gName 3))
    (tSeq (tIfS (tTest (tOp rGeI (tVar 3) (tFld K (tVar 0) "agent_count"))) (tRet (tLst (tCons (tC (.int (-2))) tNil))) tNext)
    (tSeq (tIfS (tTest (tOp rEq (tFld K (tVar 0) "alternative_count") (tC (.int 4)))) (tRet (tLst (tCons (tC (.int (-28))) tNil))) tNext)
    (tSeq (tAsg (tCall (sp_f_all_rankings K C) [] E0 (tCons (tFld K (tVar 0) "alternative_count") tNil)) (gName 4))
    (tSeq (tDrop (tMeth C "change_domain" (sp_m_change_domain K C) [] E0 (tVar 0) (tCons (tVar 3) (tCons (tVar 4) tNil))))
    (tRet (tLst (tCons (tCB (rLenS K) (tCons (tVar 4) tNil)) tNil))))))))
/-- 0 instance, 1 numbers, 2 row, 3 previous, 4 alternative, 5 sizes -/
def t_f_set_target_outcome (K : PySem.W.Frag) (C : Addr) : TS :=
    (tSeq (tPar 4 5 (tCons (tOp (rIxL K) (tVar 1) (tC (.int 0))) (tCons (tMeth C "domain_sizes" (sp_m_domain_sizes K C) [] E0 (tVar 0) tNil) tNil)))
    (tSeq (tIfS (tOr (tTest (tOp rGeI (tVar 4) (tFld K (tVar 0) "alternative_count"))) (tNot (tB (tCall (sp_f_is_within K C) [] E0 (tCons (tVar 2) (tCons (tVar 5) tNil)))))) (tRet (tLst (tCons (tC (.int (-22))) tNil))) tNext)
    (tSeq (tAsg (tMeth C "target_at" (sp_m_target_at K C) [] E0 (tVar 0) (tCons (tVar 2) tNil)) (gName 3))
    (tSeq (tDrop (tMeth C "change_target" (sp_m_change_target K C) [] E0 (tVar 0) (tCons (tCall (sp_f_with_number K C) [] E0 (tCons (tFld K (tVar 0) "target") (tCons (tCall (sp_f_place_of K C) [] E0 (tCons (tVar 2) (tCons (tVar 5) tNil))) (tCons (tVar 4) tNil)))) tNil)))
    (tRet (tLst (tCons (tVar 3) tNil)))))))
/-- 0 instance, 1 numbers, 2 row, 3 agent -/
def t_f_use_dictatorship (K : PySem.W.Frag) (C : Addr) : TS :=
    (tSeq (tAsg (tOp (rIxL K) (tVar 1) (tC (.int 0))) (gName 3))
    (tSeq (tIfS (tTest (tOp rGeI (tVar 3) (tFld K (tVar 0) "agent_count"))) (tRet (tLst (tCons (tC (.int (-2))) tNil))) tNext)
    (tSeq (tDrop (tMeth C "change_target" (sp_m_change_target K C) [] E0 (tVar 0) (tCons (tCall (sp_f_dictatorship K C) [] E0 (tCons (tVar 0) (tCons (tVar 3) tNil))) tNil)))
    (tRet (tLst (tCons (tC (.int 0)) tNil))))))
/-- 0 instance, 1 numbers, 2 row -/
def t_f_use_borda (K : PySem.W.Frag) (C : Addr) : TS :=
    (tSeq (tDrop (tMeth C "change_target" (sp_m_change_target K C) [] E0 (tVar 0) (tCons (tCall (sp_f_borda K C) [] E0 (tCons (tVar 0) tNil)) tNil)))
    (tRet (tLst (tCons (tC (.int 0)) tNil))))
/-- 0 instance, 1 numbers, 2 row, 3 count -/
def t_f_set_message_counts (K : PySem.W.Frag) (C : Addr) : TS :=
    (tSeq (tIfS (tOr (tTest (tOp rNe (tCB (rLenS K) (tCons (tVar 2) tNil)) (tFld K (tVar 0) "agent_count"))) (tNot (tB (tCB (rAll K) (tCons (tLc (iList K (tVar 2)) (gName 3) tYes (tChain rLeI rLeI (tC (.int 1)) (tVar 3) (tC (.int (6)))) [3]) tNil))))) (tRet (tLst (tCons (tC (.int (-22))) tNil))) tNext)
    (tSeq (tDrop (tMeth C "change_mechanism" (sp_m_change_mechanism K C) [] E0 (tVar 0) (tCons (tVar 2) (tCons (tOp rRep (tLst (tCons (tC (.int 0)) tNil)) (tCall (sp_f_count_of K C) [] E0 (tCons (tVar 2) tNil))) tNil))))
    (tRet (tLst (tCons (tCall (sp_f_count_of K C) [] E0 (tCons (tVar 2) tNil)) tNil)))))
/-- 0 instance, 1 numbers, 2 row, 3 previous, 4 alternative, 5 sizes -/
def t_f_set_mechanism_outcome (K : PySem.W.Frag) (C : Addr) : TS :=
    (tSeq (tPar 4 5 (tCons (tOp (rIxL K) (tVar 1) (tC (.int 0))) (tCons (tFld K (tVar 0) "message_counts") tNil)))
    (tSeq (tIfS (tOr (tTest (tOp rGeI (tVar 4) (tFld K (tVar 0) "alternative_count"))) (tNot (tB (tCall (sp_f_is_within K C) [] E0 (tCons (tVar 2) (tCons (tVar 5) tNil)))))) (tRet (tLst (tCons (tC (.int (-22))) tNil))) tNext)
    (tSeq (tAsg (tMeth C "outcome_of" (sp_m_outcome_of K C) [] E0 (tVar 0) (tCons (tVar 2) tNil)) (gName 3))
    (tSeq (tDrop (tMeth C "change_mechanism" (sp_m_change_mechanism K C) [] E0 (tVar 0) (tCons (tVar 5) (tCons (tCall (sp_f_with_number K C) [] E0 (tCons (tFld K (tVar 0) "mechanism") (tCons (tCall (sp_f_place_of K C) [] E0 (tCons (tVar 2) (tCons (tVar 5) tNil))) (tCons (tVar 4) tNil)))) tNil))))
    (tRet (tLst (tCons (tVar 3) tNil)))))))
/-- 0 instance, 1 numbers, 2 row -/
def t_f_use_direct_mechanism (K : PySem.W.Frag) (C : Addr) : TS :=
    (tSeq (tDrop (tMeth C "change_mechanism" (sp_m_change_mechanism K C) [] E0 (tVar 0) (tCons (tMeth C "domain_sizes" (sp_m_domain_sizes K C) [] E0 (tVar 0) tNil) (tCons (tFld K (tVar 0) "target") tNil))))
    (tRet (tLst (tCons (tCB (rLenS K) (tCons (tFld K (tVar 0) "target") tNil)) tNil))))
section
variable {K : PySem.W.Frag} {C : Addr}
theorem x_f_add_preference (T : Tx K C) : ∀ m ns r, PreK 1 m ns r → XM K C (t_f_add_preference K C) ([.ins m, .dat (nL ns), .dat (nL r)] ++ List.replicate (N_f_add_preference.length - 3) .any) (iL (s_add_preference m ns r).2) (s_add_preference m ns r).1 := by
  rintro m ns r ⟨W, hn, hr⟩
  obtain ⟨n, rfl⟩ := one_of hn
  have hv := W.v4
  refine xm_seq rfl (x_asgE (e_ixM (f := nI) (xs := [n]) (x := n) (e_var rfl) (e_cN 0) rfl)) rfl ?_
  have c1 := fun (ρ : List Sl) (h : ρ[3]? = some (.dat (nI n))) (h0 : ρ[0]? = some (.ins m)) => et_test (K := K) (C := C) (e_ge (e_var h) (e_fA T (e_var h0)))
  by_cases h1 : m.target.agentCount ≤ n
  · have e : s_add_preference m [n] r = (m, [-2]) := if_pos h1
    rw [e]
    exact xm_if1 rfl (et_is (c1 _ rfl rfl) (decide_eq_true h1)) (x_ret (e_l1 e_cI))
  refine xm_if0 rfl (et_is (c1 _ rfl rfl) (decide_eq_false h1)) ?_
  have c2 := fun (ρ : List Sl) (h : ρ[2]? = some (.dat (nL r))) (h0 : ρ[0]? = some (.ins m)) => et_not (et_B (K := K) (C := C) (e_call (P := P_f_is_ranking) (E' := E0) (ea_cons (e_var h) (ea_one (e_fV T (e_var h0)))) ⟨_, _, rfl, ⟨by omega, by omega⟩, rfl⟩))
  cases h2 : isRk m.target.alternativeCount r with
  | false =>
    have e : s_add_preference m [n] r = (m, [-22]) := (if_neg h1).trans (if_pos h2)
    rw [e]
    exact xm_if1 rfl (et_is (c2 _ rfl rfl) (by rw [h2] <;> rfl)) (x_ret (e_l1 e_cI))
  | true =>
  refine xm_if0 rfl (et_is (c2 _ rfl rfl) (by rw [h2] <;> rfl)) ?_
  have hi : n < m.target.agentCount := by omega
  refine xm_seq rfl (x_asgE (e_dom T (e_var rfl) (e_var rfl) (W.dom_at hi))) rfl ?_
  have h2' : ¬ isRk m.target.alternativeCount r = false := by rw [h2]; simp
  cases h3 : (domM m n).contains r with
  | true =>
    have e : s_add_preference m [n] r = (m, [-17]) := (if_neg h1).trans ((if_neg h2').trans (if_pos h3))
    rw [e]
    exact xm_if1 rfl (et_is (et_test (e_inD (e_var rfl) (e_var rfl))) h3) (x_ret (e_l1 e_cI))
  | false =>
  refine xm_if0 rfl (et_is (et_test (e_inD (e_var rfl) (e_var rfl))) h3) ?_
  have h3' : ¬ (domM m n).contains r = true := by rw [h3]; simp
  have c4 := fun (ρ : List Sl) (h : ρ[4]? = some (.dat (nLL (domM m n)))) => e_is (e_len (K := K) (C := C) (e_var h)) (by rw [List.length_map] : nI ((domM m n).map nL).length = nI (domM m n).length)
  by_cases h4 : 6 ≤ (domM m n).length
  · have e : s_add_preference m [n] r = (m, [-28]) := (if_neg h1).trans ((if_neg h2').trans ((if_neg h3').trans (if_pos h4)))
    rw [e]
    exact xm_if1 rfl (et_is (et_test (e_ge (c4 _ rfl) (e_cN 6))) (decide_eq_true h4)) (x_ret (e_l1 e_cI))
  refine xm_if0 rfl (et_is (et_test (e_ge (c4 _ rfl) (e_cN 6))) (decide_eq_false h4)) ?_
  have e : s_add_preference m [n] r = (newDom m n (domM m n ++ [r]), [((domM m n).length : Int)]) := (if_neg h1).trans ((if_neg h2').trans ((if_neg h3').trans (if_neg h4)))
  rw [e]
  refine xm_seq rfl (x_asgE (c4 _ rfl)) rfl ?_
  refine xm_mut (R := R_change_domain) (ds := [nI n, nLL (domM m n ++ [r])]) rfl (fun _ _ _ _ => fl_no (by decide +kernel)) (ea_cons (e_var rfl) (ea_one (e_is (e_new (en_cat (as := (domM m n).map nL) (bs := [nL r]) (e_var rfl) (ds_one (e_var rfl)) ?_)) ?_))) (dom_R W hi ?_) (e_l1 (e_var rfl))
  · rw [List.length_map]
    show (domM m n).length + 1 ≤ 10000000
    omega
  · show PyData.list _ = PyData.list ((domM m n ++ [r]).map nL)
    rw [List.map_append]
    rfl
  · rw [List.length_append]
    show (domM m n).length + 1 ≤ 6
    omega
theorem x_f_set_full_domain (T : Tx K C) : ∀ m ns r, PreK 1 m ns r → XM K C (t_f_set_full_domain K C) ([.ins m, .dat (nL ns), .dat (nL r)] ++ List.replicate (N_f_set_full_domain.length - 3) .any) (iL (s_set_full_domain m ns r).2) (s_set_full_domain m ns r).1 := by
  rintro m ns r ⟨W, hn, hr⟩
  obtain ⟨n, rfl⟩ := one_of hn
  have hv := W.v4
  have hv2 := W.v2
  refine xm_seq rfl (x_asgE (e_ixM (f := nI) (xs := [n]) (x := n) (e_var rfl) (e_cN 0) rfl)) rfl ?_
  have c1 := fun (ρ : List Sl) (h : ρ[3]? = some (.dat (nI n))) (h0 : ρ[0]? = some (.ins m)) => et_test (K := K) (C := C) (e_ge (e_var h) (e_fA T (e_var h0)))
  by_cases h1 : m.target.agentCount ≤ n
  · have e : s_set_full_domain m [n] r = (m, [-2]) := if_pos h1
    rw [e]
    exact xm_if1 rfl (et_is (c1 _ rfl rfl) (decide_eq_true h1)) (x_ret (e_l1 e_cI))
  refine xm_if0 rfl (et_is (c1 _ rfl rfl) (decide_eq_false h1)) ?_
  have hi : n < m.target.agentCount := by omega
  by_cases h2 : m.target.alternativeCount = 4
  · have e : s_set_full_domain m [n] r = (m, [-28]) := (if_neg h1).trans (if_pos h2)
    rw [e]
    exact xm_if1 rfl (et_is (et_test (e_eq (e_fV T (e_var rfl)) (e_cN 4))) (beq_iff_eq.mpr h2)) (x_ret (e_l1 e_cI))
  refine xm_if0 rfl (et_is (et_test (e_eq (e_fV T (e_var rfl)) (e_cN 4))) (beq_eq_false_iff_ne.mpr h2)) ?_
  have e : s_set_full_domain m [n] r = (newDom m n (allRk m.target.alternativeCount), [((allRk m.target.alternativeCount).length : Int)]) := (if_neg h1).trans (if_neg h2)
  rw [e]
  refine xm_seq rfl (x_asgE (e_call (P := P_f_all_rankings) (ea_one (e_fV T (e_var rfl))) ⟨_, rfl, hv, rfl⟩)) rfl ?_
  exact xm_mut (R := R_change_domain) (ds := [nI n, nLL (allRk m.target.alternativeCount)]) rfl (fun _ _ _ _ => fl_no (by decide +kernel)) (ea_cons (e_var rfl) (ea_one (e_var rfl))) (dom_R W hi (allRk_len _ hv2 hv h2)) (e_l1 (e_is (e_len (e_var rfl)) (by rw [List.length_map])))
theorem x_f_set_target_outcome (T : Tx K C) : ∀ m ns r, PreK 1 m ns r → XM K C (t_f_set_target_outcome K C) ([.ins m, .dat (nL ns), .dat (nL r)] ++ List.replicate (N_f_set_target_outcome.length - 3) .any) (iL (s_set_target_outcome m ns r).2) (s_set_target_outcome m ns r).1 := by
  rintro m ns r ⟨W, hn, hr⟩
  obtain ⟨n, rfl⟩ := one_of hn
  have ha := W.a3
  have hs3 : (sizesM m).length ≤ 1000 := by rw [W.szl]; omega
  refine xm_seq rfl (x_par (ea_cons (e_ixM (f := nI) (xs := [n]) (x := n) (e_var rfl) (e_cN 0) rfl) (ea_one (e_meth (P := P_m_domain_sizes) (fun _ _ _ _ => fl_no (by decide +kernel)) (e_var rfl) ea_nil ⟨_, rfl, by rw [W.dl]; omega, rfl⟩)))) rfl ?_
  have c1 := fun (ρ : List Sl) (h4 : ρ[4]? = some (.dat (nI n))) (h2 : ρ[2]? = some (.dat (nL r))) (h5 : ρ[5]? = some (.dat (nL (sizesM m)))) (h0 : ρ[0]? = some (.ins m)) => et_or (K := K) (C := C) (et_test (e_ge (e_var h4) (e_fV T (e_var h0)))) fun _ => et_not (et_B (e_call (P := P_f_is_within) (E' := E0) (ea_cons (e_var h2) (ea_one (e_var h5))) ⟨_, _, rfl, hs3, rfl⟩))
  by_cases h1 : m.target.alternativeCount ≤ n ∨ within r (sizesM m) = false
  · have e : s_set_target_outcome m [n] r = (m, [-22]) := if_pos h1
    rw [e]
    refine xm_if1 rfl (et_is (c1 _ rfl rfl rfl rfl) ?_) (x_ret (e_l1 e_cI))
    rcases h1 with h1 | h1
    · rw [decide_eq_true h1] <;> rfl
    · rw [h1, Bool.or_comm] <;> rfl
  have h2 : ¬ m.target.alternativeCount ≤ n := fun h => h1 (.inl h)
  have hw : within r (sizesM m) = true := by
    cases h : within r (sizesM m) with
    | true => rfl
    | false => exact absurd (.inr h) h1
  refine xm_if0 rfl (et_is (c1 _ rfl rfl rfl rfl) (by rw [decide_eq_false h2, hw] <;> rfl)) ?_
  have e : s_set_target_outcome m [n] r = (newTgt m (m.target.outcomes.set (placeOf r (sizesM m)) n), [(tgt m r : Int)]) := if_neg h1
  rw [e]
  refine xm_seq rfl (x_asgE (e_meth (P := P_m_target_at) (fun _ _ _ _ => fl_no (by decide +kernel)) (e_var rfl) (ea_one (e_var rfl)) ⟨_, _, rfl, ⟨W, hw⟩, rfl⟩)) rfl ?_
  exact xm_mut (R := R_change_target) (ds := [nL (m.target.outcomes.set (placeOf r (sizesM m)) n)]) rfl (fun _ _ _ _ => fl_no (by decide +kernel)) (ea_one (e_call (P := P_f_with_number) (ea_cons (e_fT T (e_var rfl)) (ea_cons (e_call (P := P_f_place_of) (ea_cons (e_var rfl) (ea_one (e_var rfl))) ⟨_, _, rfl, W.sz6, rfl⟩) (ea_one (e_var rfl)))) ⟨_, _, _, rfl, by rw [W.tl]; exact place_ok hw, rfl⟩)) ⟨_, rfl, rfl⟩ (e_l1 (e_var rfl))
theorem x_f_use_dictatorship (T : Tx K C) : ∀ m ns r, PreK 1 m ns r → XM K C (t_f_use_dictatorship K C) ([.ins m, .dat (nL ns), .dat (nL r)] ++ List.replicate (N_f_use_dictatorship.length - 3) .any) (iL (s_use_dictatorship m ns r).2) (s_use_dictatorship m ns r).1 := by
  rintro m ns r ⟨W, hn, hr⟩
  obtain ⟨n, rfl⟩ := one_of hn
  refine xm_seq rfl (x_asgE (e_ixM (f := nI) (xs := [n]) (x := n) (e_var rfl) (e_cN 0) rfl)) rfl ?_
  have c1 := fun (ρ : List Sl) (h : ρ[3]? = some (.dat (nI n))) (h0 : ρ[0]? = some (.ins m)) => et_test (K := K) (C := C) (e_ge (e_var h) (e_fA T (e_var h0)))
  by_cases h1 : m.target.agentCount ≤ n
  · have e : s_use_dictatorship m [n] r = (m, [-2]) := if_pos h1
    rw [e]
    exact xm_if1 rfl (et_is (c1 _ rfl rfl) (decide_eq_true h1)) (x_ret (e_l1 e_cI))
  refine xm_if0 rfl (et_is (c1 _ rfl rfl) (decide_eq_false h1)) ?_
  have hi : n < m.target.agentCount := by omega
  have e : s_use_dictatorship m [n] r = (newTgt m (dictL m n), [0]) := if_neg h1
  rw [e]
  exact xm_mut (R := R_change_target) (ds := [nL (dictL m n)]) rfl (fun _ _ _ _ => fl_no (by decide +kernel)) (ea_one (e_call (P := P_f_dictatorship) (ea_cons (e_var rfl) (ea_one (e_var rfl))) ⟨_, _, rfl, ⟨W, hi⟩, rfl⟩)) ⟨_, rfl, rfl⟩ (e_l1 e_cI)
theorem x_f_use_borda (T : Tx K C) : ∀ m ns r, PreK 0 m ns r → XM K C (t_f_use_borda K C) ([.ins m, .dat (nL ns), .dat (nL r)] ++ List.replicate (N_f_use_borda.length - 3) .any) (iL (s_use_borda m ns r).2) (s_use_borda m ns r).1 := by
  rintro m ns r ⟨W, hn, hr⟩
  exact xm_mut (R := R_change_target) (ds := [nL (bordaL m)]) rfl (fun _ _ _ _ => fl_no (by decide +kernel)) (ea_one (e_call (P := P_f_borda) (ea_one (e_var rfl)) ⟨_, rfl, W, rfl⟩)) ⟨_, rfl, rfl⟩ (e_l1 e_cI)
theorem x_f_set_message_counts (T : Tx K C) : ∀ m ns r, PreK 0 m ns r → XM K C (t_f_set_message_counts K C) ([.ins m, .dat (nL ns), .dat (nL r)] ++ List.replicate (N_f_set_message_counts.length - 3) .any) (iL (s_set_message_counts m ns r).2) (s_set_message_counts m ns r).1 := by
  rintro m ns r ⟨W, hn, hr⟩
  have c0 : EN K C (tLc (iList K (tVar 2)) (gName 3) tYes (tChain rLeI rLeI (tC (.int 1)) (tVar 3) (tC (.int (6)))) [3]) [.ins m, .dat (nL ns), .dat (nL r), .any] (r.map fun k => .bool (decide (1 ≤ k) && decide (k ≤ 6))) :=
    en_lc0 (js := [3]) (enc := nI) (f := fun k => .bool (decide (1 ≤ k) && decide (k ≤ 6))) (ei_list (e_var (i := 2) rfl)) (by omega) (fun _ h => h) fun k hk => ⟨_, ga_name, e_chLL (e_cN 1) (e_var (i := 3) rfl) (e_cN 6)⟩
  have c1 := et_or (et_test (e_ne (e_is (e_len (K := K) (C := C) (ρ := [.ins m, .dat (nL ns), .dat (nL r), .any]) (e_var (i := 2) rfl)) (by rw [List.length_map] : nI (r.map nI).length = nI r.length)) (e_fA T (e_var (i := 0) rfl)))) fun _ => et_not (et_B (e_allM (e_new c0)))
  by_cases h1 : r.length ≠ m.target.agentCount ∨ r.all (fun k => decide (1 ≤ k) && decide (k ≤ 6)) = false
  · have e : s_set_message_counts m ns r = (m, [-22]) := if_pos h1
    rw [e]
    refine xm_if1 rfl (et_is c1 ?_) (x_ret (e_l1 e_cI))
    rcases h1 with h1 | h1
    · rw [bne_iff_ne.mpr h1] <;> rfl
    · rw [h1, Bool.or_comm] <;> rfl
  have h2 : r.length = m.target.agentCount := Classical.not_not.mp fun h => h1 (.inl h)
  have hw : r.all (fun k => decide (1 ≤ k) && decide (k ≤ 6)) = true := by
    cases h : r.all (fun k => decide (1 ≤ k) && decide (k ≤ 6)) with
    | true => rfl
    | false => exact absurd (.inr h) h1
  have h6 : ∀ k ∈ r, k ≤ 6 := fun k hk => by
    have := List.all_eq_true.mp hw k hk
    rw [Bool.and_eq_true, decide_eq_true_iff, decide_eq_true_iff] at this
    exact this.2
  have e0 : (r.length != m.target.agentCount) = false := by rw [h2]; exact bne_self_eq_false _
  refine xm_if0 rfl (et_is c1 (by rw [e0, hw] <;> rfl)) ?_
  have e : s_set_message_counts m ns r = ({ m with messageCounts := r, outcomes := List.replicate (prodL r) 0 }, [(prodL r : Int)]) := if_neg h1
  rw [e]
  have hp : prodL r ≤ 1296 := prod_le (by have := W.a3; omega) h6
  refine xm_mut (R := R_change_mechanism) (ds := [nL r, nL (List.replicate (prodL r) 0)]) rfl (fun _ _ _ _ => fl_no (by decide +kernel)) (ea_cons (e_var rfl) (ea_one (e_is (e_new (en_rep (d := nI 0) (n := prodL r) (e_l1 (e_cN 0)) (e_call (P := P_f_count_of) (ea_one (e_var rfl)) ⟨_, rfl, h6, rfl⟩) (by omega))) ?_))) ⟨_, _, rfl, rfl⟩ (e_l1 (e_call (P := P_f_count_of) (ea_one (e_var rfl)) ⟨_, rfl, h6, rfl⟩))
  show _ = PyData.list ((List.replicate (prodL r) 0).map nI)
  rw [List.map_replicate]
theorem x_f_set_mechanism_outcome (T : Tx K C) : ∀ m ns r, PreK 1 m ns r → XM K C (t_f_set_mechanism_outcome K C) ([.ins m, .dat (nL ns), .dat (nL r)] ++ List.replicate (N_f_set_mechanism_outcome.length - 3) .any) (iL (s_set_mechanism_outcome m ns r).2) (s_set_mechanism_outcome m ns r).1 := by
  rintro m ns r ⟨W, hn, hr⟩
  obtain ⟨n, rfl⟩ := one_of hn
  have ha := W.a3
  have hs3 : m.messageCounts.length ≤ 1000 := by rw [W.ml]; omega
  refine xm_seq rfl (x_par (ea_cons (e_ixM (f := nI) (xs := [n]) (x := n) (e_var rfl) (e_cN 0) rfl) (ea_one (e_fM T (e_var rfl))))) rfl ?_
  have c1 := fun (ρ : List Sl) (h4 : ρ[4]? = some (.dat (nI n))) (h2 : ρ[2]? = some (.dat (nL r))) (h5 : ρ[5]? = some (.dat (nL m.messageCounts))) (h0 : ρ[0]? = some (.ins m)) => et_or (K := K) (C := C) (et_test (e_ge (e_var h4) (e_fV T (e_var h0)))) fun _ => et_not (et_B (e_call (P := P_f_is_within) (E' := E0) (ea_cons (e_var h2) (ea_one (e_var h5))) ⟨_, _, rfl, hs3, rfl⟩))
  by_cases h1 : m.target.alternativeCount ≤ n ∨ within r m.messageCounts = false
  · have e : s_set_mechanism_outcome m [n] r = (m, [-22]) := if_pos h1
    rw [e]
    refine xm_if1 rfl (et_is (c1 _ rfl rfl rfl rfl) ?_) (x_ret (e_l1 e_cI))
    rcases h1 with h1 | h1
    · rw [decide_eq_true h1] <;> rfl
    · rw [h1, Bool.or_comm] <;> rfl
  have h2 : ¬ m.target.alternativeCount ≤ n := fun h => h1 (.inl h)
  have hw : within r m.messageCounts = true := by
    cases h : within r m.messageCounts with
    | true => rfl
    | false => exact absurd (.inr h) h1
  refine xm_if0 rfl (et_is (c1 _ rfl rfl rfl rfl) (by rw [decide_eq_false h2, hw] <;> rfl)) ?_
  have e : s_set_mechanism_outcome m [n] r = ({ m with outcomes := m.outcomes.set (placeOf r m.messageCounts) n }, [(out m r : Int)]) := if_neg h1
  rw [e]
  refine xm_seq rfl (x_asgE (e_meth (P := P_m_outcome_of) (fun _ _ _ _ => fl_no (by decide +kernel)) (e_var rfl) (ea_one (e_var rfl)) ⟨_, _, rfl, ⟨W, hw⟩, rfl⟩)) rfl ?_
  exact xm_mut (R := R_change_mechanism) (ds := [nL m.messageCounts, nL (m.outcomes.set (placeOf r m.messageCounts) n)]) rfl (fun _ _ _ _ => fl_no (by decide +kernel)) (ea_cons (e_var rfl) (ea_one (e_call (P := P_f_with_number) (ea_cons (e_fK T (e_var rfl)) (ea_cons (e_call (P := P_f_place_of) (ea_cons (e_var rfl) (ea_one (e_var rfl))) ⟨_, _, rfl, W.mc6, rfl⟩) (ea_one (e_var rfl)))) ⟨_, _, _, rfl, by rw [W.ol]; exact place_ok hw, rfl⟩))) ⟨_, _, rfl, rfl⟩ (e_l1 (e_var rfl))
theorem x_f_use_direct_mechanism (T : Tx K C) : ∀ m ns r, PreK 0 m ns r → XM K C (t_f_use_direct_mechanism K C) ([.ins m, .dat (nL ns), .dat (nL r)] ++ List.replicate (N_f_use_direct_mechanism.length - 3) .any) (iL (s_use_direct_mechanism m ns r).2) (s_use_direct_mechanism m ns r).1 := by
  rintro m ns r ⟨W, hn, hr⟩
  have ha := W.a3
  exact xm_mut (R := R_change_mechanism) (ds := [nL (sizesM m), nL m.target.outcomes]) rfl (fun _ _ _ _ => fl_no (by decide +kernel)) (ea_cons (e_meth (P := P_m_domain_sizes) (fun _ _ _ _ => fl_no (by decide +kernel)) (e_var rfl) ea_nil ⟨_, rfl, by rw [W.dl]; omega, rfl⟩) (ea_one (e_fT T (e_var rfl)))) ⟨_, _, rfl, rfl⟩ (e_l1 (e_is (e_len (e_fT T (e_var rfl))) (by rw [List.length_map]; rfl)))
end
section
variable {P : Program} {w : World} {K : PySem.W.Frag} {mg : Str → Option Value} {base : Heap} {C pw rd wl nc : Addr}
theorem d_f_add_preference (T : Tx K C) (G : Bt mg) (Z : Cs K mg pw rd wl nc) (F_is_ranking : Fn P w K mg base 1 "is_ranking" ["row", "count"] (sp_f_is_ranking K C)) (M_change_domain : Mt P w K mg base C 2 "change_domain" ["self", "agent", "rankings"] (sp_m_change_domain K C)) {f : Addr} (cdv : Value) (A : Around) (outer : List Env) (s : Shared) (H : Hp) (E : XK) (hr : Room 2 (A.deeper (envOfC "add_preference" (defScope s_f_add_preference) s.heap.objs.size f cdv))) :
    PSs (cxOf CX0 P w K mg base N_f_add_preference "add_preference" (defScope s_f_add_preference) f cdv A outer s H E).nox (defBody s_f_add_preference) (t_f_add_preference K C) := by
  have nd := sc_f_add_preference.nd
  exact (pss_cons (ps_set (i := 3) nd rfl (Or.inl rfl) (pe_ix ix_list (pv 1) pe_int (fun _ _ => rfl)))
    (pss_cons (ps_if (pt_cmpR op_ge (pv 3) (pe_fld (pv 0) rfl) (nomark _)) (pss_one (ps_ret (pe_lst (pa_cons (pe_gI Z.i_UNKNOWN) pa_nil)))) pss_nil)
    (pss_cons (ps_if (pt_not (pt_val (pe_fn F_is_ranking (hr.mono (by decide)) rfl (pa_cons (pv 2) (pa_cons (pe_fld (pv 0) rfl) pa_nil))))) (pss_one (ps_ret (pe_lst (pa_cons (pe_gI Z.i_INVALID) pa_nil)))) pss_nil)
    (pss_cons (ps_set (i := 4) nd rfl (Or.inl rfl) (pe_ix ix_list (pe_fld (pv 0) rfl) (pv 3) (fun _ _ => rfl)))
    (pss_cons (ps_if (pt_cmpR (op_inD (hu65 hr)) (pv 2) (pv 4) (by with_unfolding_all rfl)) (pss_one (ps_ret (pe_lst (pa_cons (pe_gI Z.i_TWICE) pa_nil)))) pss_nil)
    (pss_cons (ps_if (pt_cmpR op_ge (pe_callB call_len_seq (by rfl) G.len (by decide +kernel) (pa_cons (pv 4) pa_nil)) (pe_gI Z.i_MOST_PREFERENCES) (nomark _)) (pss_one (ps_ret (pe_lst (pa_cons (pe_gI Z.i_FULL) pa_nil)))) pss_nil)
    (pss_cons (ps_set (i := 5) nd rfl (Or.inl rfl) (pe_callB call_len_seq (by rfl) G.len (by decide +kernel) (pa_cons (pv 4) pa_nil)))
    (pss_cons (ps_expr (pe_mt (pv 0) T.cl M_change_domain (hr.mono (by decide)) (pa_cons (pv 3) (pa_cons (pe_op op_cat (pv 4) (pe_lst (pa_cons (pv 2) pa_nil))) pa_nil))))
    (pss_one (ps_ret (pe_lst (pa_cons (pv 5) pa_nil))))))))))))
theorem ok_f_add_preference (T : Tx K C) (G : Bt mg) (Z : Cs K mg pw rd wl nc) (F_is_ranking : Fn P w K mg base 1 "is_ranking" ["row", "count"] (sp_f_is_ranking K C)) (M_change_domain : Mt P w K mg base C 2 "change_domain" ["self", "agent", "rankings"] (sp_m_change_domain K C)) {f : Addr} {fd : FuncData} (F : Fun K "add_preference" "add_preference" s_f_add_preference f fd) : FnOk P w K mg base CX0 3 f fd ["instance", "numbers", "row"] (sp_f_add_preference K C) :=
  deed_mut F sc_f_add_preference rfl (x_f_add_preference T) (fun cdv A outer s H E hr => d_f_add_preference T G Z F_is_ranking M_change_domain cdv A outer s H E hr)
theorem d_f_set_full_domain (T : Tx K C) (G : Bt mg) (Z : Cs K mg pw rd wl nc) (F_all_rankings : Fn P w K mg base 3 "all_rankings" ["count"] (sp_f_all_rankings K C)) (M_change_domain : Mt P w K mg base C 2 "change_domain" ["self", "agent", "rankings"] (sp_m_change_domain K C)) {f : Addr} (cdv : Value) (A : Around) (outer : List Env) (s : Shared) (H : Hp) (E : XK) (hr : Room 3 (A.deeper (envOfC "set_full_domain" (defScope s_f_set_full_domain) s.heap.objs.size f cdv))) :
    PSs (cxOf CX0 P w K mg base N_f_set_full_domain "set_full_domain" (defScope s_f_set_full_domain) f cdv A outer s H E).nox (defBody s_f_set_full_domain) (t_f_set_full_domain K C) := by
  have nd := sc_f_set_full_domain.nd
  exact (pss_cons (ps_set (i := 3) nd rfl (Or.inl rfl) (pe_ix ix_list (pv 1) pe_int (fun _ _ => rfl)))
    (pss_cons (ps_if (pt_cmpR op_ge (pv 3) (pe_fld (pv 0) rfl) (nomark _)) (pss_one (ps_ret (pe_lst (pa_cons (pe_gI Z.i_UNKNOWN) pa_nil)))) pss_nil)
    (pss_cons (ps_if (pt_cmpR op_eq (pe_fld (pv 0) rfl) pe_int (nomark _)) (pss_one (ps_ret (pe_lst (pa_cons (pe_gI Z.i_FULL) pa_nil)))) pss_nil)
    (pss_cons (ps_set (i := 4) nd rfl (Or.inl rfl) (pe_fn F_all_rankings (hr.mono (by decide)) rfl (pa_cons (pe_fld (pv 0) rfl) pa_nil)))
    (pss_cons (ps_expr (pe_mt (pv 0) T.cl M_change_domain (hr.mono (by decide)) (pa_cons (pv 3) (pa_cons (pv 4) pa_nil))))
    (pss_one (ps_ret (pe_lst (pa_cons (pe_callB call_len_seq (by rfl) G.len (by decide +kernel) (pa_cons (pv 4) pa_nil)) pa_nil)))))))))
theorem ok_f_set_full_domain (T : Tx K C) (G : Bt mg) (Z : Cs K mg pw rd wl nc) (F_all_rankings : Fn P w K mg base 3 "all_rankings" ["count"] (sp_f_all_rankings K C)) (M_change_domain : Mt P w K mg base C 2 "change_domain" ["self", "agent", "rankings"] (sp_m_change_domain K C)) {f : Addr} {fd : FuncData} (F : Fun K "set_full_domain" "set_full_domain" s_f_set_full_domain f fd) : FnOk P w K mg base CX0 4 f fd ["instance", "numbers", "row"] (sp_f_set_full_domain K C) :=
  deed_mut F sc_f_set_full_domain rfl (x_f_set_full_domain T) (fun cdv A outer s H E hr => d_f_set_full_domain T G Z F_all_rankings M_change_domain cdv A outer s H E hr)
theorem d_f_set_target_outcome (T : Tx K C) (G : Bt mg) (Z : Cs K mg pw rd wl nc) (F_with_number : Fn P w K mg base 1 "with_number" ["numbers", "at", "number"] (sp_f_with_number K C)) (F_is_within : Fn P w K mg base 1 "is_within" ["numbers", "sizes"] (sp_f_is_within K C)) (F_place_of : Fn P w K mg base 1 "place_of" ["numbers", "sizes"] (sp_f_place_of K C)) (M_target_at : Mt P w K mg base C 2 "target_at" ["self", "profile"] (sp_m_target_at K C)) (M_change_target : Mt P w K mg base C 1 "change_target" ["self", "outcomes"] (sp_m_change_target K C)) (M_domain_sizes : Mt P w K mg base C 1 "domain_sizes" ["self"] (sp_m_domain_sizes K C)) {f : Addr} (cdv : Value) (A : Around) (outer : List Env) (s : Shared) (H : Hp) (E : XK) (hr : Room 2 (A.deeper (envOfC "set_target_outcome" (defScope s_f_set_target_outcome) s.heap.objs.size f cdv))) :
    PSs (cxOf CX0 P w K mg base N_f_set_target_outcome "set_target_outcome" (defScope s_f_set_target_outcome) f cdv A outer s H E).nox (defBody s_f_set_target_outcome) (t_f_set_target_outcome K C) := by
  have nd := sc_f_set_target_outcome.nd
  exact (pss_cons (ps_par (i := 4) (j := 5) rfl nd rfl rfl (by decide) rfl rfl (pa_cons (pe_ix ix_list (pv 1) pe_int (fun _ _ => rfl)) (pa_cons (pe_mt0 (pv 0) T.cl M_domain_sizes (hr.mono (by decide))) pa_nil)) (by rfl))
    (pss_cons (ps_if (PW.pt (pw_or (pt_cmpR op_ge (pv 4) (pe_fld (pv 0) rfl) (nomark _)) (pw_or1 (pt_not (pt_val (pe_fn F_is_within (hr.mono (by decide)) rfl (pa_cons (pv 2) (pa_cons (pv 5) pa_nil)))))))) (pss_one (ps_ret (pe_lst (pa_cons (pe_gI Z.i_INVALID) pa_nil)))) pss_nil)
    (pss_cons (ps_set (i := 3) nd rfl (Or.inl rfl) (pe_mt (pv 0) T.cl M_target_at (hr.mono (by decide)) (pa_cons (pv 2) pa_nil)))
    (pss_cons (ps_expr (pe_mt (pv 0) T.cl M_change_target (hr.mono (by decide)) (pa_cons (pe_fn F_with_number (hr.mono (by decide)) rfl (pa_cons (pe_fld (pv 0) rfl) (pa_cons (pe_fn F_place_of (hr.mono (by decide)) rfl (pa_cons (pv 2) (pa_cons (pv 5) pa_nil))) (pa_cons (pv 4) pa_nil)))) pa_nil)))
    (pss_one (ps_ret (pe_lst (pa_cons (pv 3) pa_nil))))))))
theorem ok_f_set_target_outcome (T : Tx K C) (G : Bt mg) (Z : Cs K mg pw rd wl nc) (F_with_number : Fn P w K mg base 1 "with_number" ["numbers", "at", "number"] (sp_f_with_number K C)) (F_is_within : Fn P w K mg base 1 "is_within" ["numbers", "sizes"] (sp_f_is_within K C)) (F_place_of : Fn P w K mg base 1 "place_of" ["numbers", "sizes"] (sp_f_place_of K C)) (M_target_at : Mt P w K mg base C 2 "target_at" ["self", "profile"] (sp_m_target_at K C)) (M_change_target : Mt P w K mg base C 1 "change_target" ["self", "outcomes"] (sp_m_change_target K C)) (M_domain_sizes : Mt P w K mg base C 1 "domain_sizes" ["self"] (sp_m_domain_sizes K C)) {f : Addr} {fd : FuncData} (F : Fun K "set_target_outcome" "set_target_outcome" s_f_set_target_outcome f fd) : FnOk P w K mg base CX0 3 f fd ["instance", "numbers", "row"] (sp_f_set_target_outcome K C) :=
  deed_mut F sc_f_set_target_outcome rfl (x_f_set_target_outcome T) (fun cdv A outer s H E hr => d_f_set_target_outcome T G Z F_with_number F_is_within F_place_of M_target_at M_change_target M_domain_sizes cdv A outer s H E hr)
theorem d_f_use_dictatorship (T : Tx K C) (G : Bt mg) (Z : Cs K mg pw rd wl nc) (F_dictatorship : Fn P w K mg base 4 "dictatorship" ["instance", "agent"] (sp_f_dictatorship K C)) (M_change_target : Mt P w K mg base C 1 "change_target" ["self", "outcomes"] (sp_m_change_target K C)) {f : Addr} (cdv : Value) (A : Around) (outer : List Env) (s : Shared) (H : Hp) (E : XK) (hr : Room 4 (A.deeper (envOfC "use_dictatorship" (defScope s_f_use_dictatorship) s.heap.objs.size f cdv))) :
    PSs (cxOf CX0 P w K mg base N_f_use_dictatorship "use_dictatorship" (defScope s_f_use_dictatorship) f cdv A outer s H E).nox (defBody s_f_use_dictatorship) (t_f_use_dictatorship K C) := by
  have nd := sc_f_use_dictatorship.nd
  exact (pss_cons (ps_set (i := 3) nd rfl (Or.inl rfl) (pe_ix ix_list (pv 1) pe_int (fun _ _ => rfl)))
    (pss_cons (ps_if (pt_cmpR op_ge (pv 3) (pe_fld (pv 0) rfl) (nomark _)) (pss_one (ps_ret (pe_lst (pa_cons (pe_gI Z.i_UNKNOWN) pa_nil)))) pss_nil)
    (pss_cons (ps_expr (pe_mt (pv 0) T.cl M_change_target (hr.mono (by decide)) (pa_cons (pe_fn F_dictatorship (hr.mono (by decide)) rfl (pa_cons (pv 0) (pa_cons (pv 3) pa_nil))) pa_nil)))
    (pss_one (ps_ret (pe_lst (pa_cons pe_int pa_nil)))))))
theorem ok_f_use_dictatorship (T : Tx K C) (G : Bt mg) (Z : Cs K mg pw rd wl nc) (F_dictatorship : Fn P w K mg base 4 "dictatorship" ["instance", "agent"] (sp_f_dictatorship K C)) (M_change_target : Mt P w K mg base C 1 "change_target" ["self", "outcomes"] (sp_m_change_target K C)) {f : Addr} {fd : FuncData} (F : Fun K "use_dictatorship" "use_dictatorship" s_f_use_dictatorship f fd) : FnOk P w K mg base CX0 5 f fd ["instance", "numbers", "row"] (sp_f_use_dictatorship K C) :=
  deed_mut F sc_f_use_dictatorship rfl (x_f_use_dictatorship T) (fun cdv A outer s H E hr => d_f_use_dictatorship T G Z F_dictatorship M_change_target cdv A outer s H E hr)
theorem d_f_use_borda (T : Tx K C) (G : Bt mg) (Z : Cs K mg pw rd wl nc) (F_borda : Fn P w K mg base 4 "borda" ["instance"] (sp_f_borda K C)) (M_change_target : Mt P w K mg base C 1 "change_target" ["self", "outcomes"] (sp_m_change_target K C)) {f : Addr} (cdv : Value) (A : Around) (outer : List Env) (s : Shared) (H : Hp) (E : XK) (hr : Room 4 (A.deeper (envOfC "use_borda" (defScope s_f_use_borda) s.heap.objs.size f cdv))) :
    PSs (cxOf CX0 P w K mg base N_f_use_borda "use_borda" (defScope s_f_use_borda) f cdv A outer s H E).nox (defBody s_f_use_borda) (t_f_use_borda K C) := by
  have nd := sc_f_use_borda.nd
  exact (pss_cons (ps_expr (pe_mt (pv 0) T.cl M_change_target (hr.mono (by decide)) (pa_cons (pe_fn F_borda (hr.mono (by decide)) rfl (pa_cons (pv 0) pa_nil)) pa_nil)))
    (pss_one (ps_ret (pe_lst (pa_cons pe_int pa_nil)))))
theorem ok_f_use_borda (T : Tx K C) (G : Bt mg) (Z : Cs K mg pw rd wl nc) (F_borda : Fn P w K mg base 4 "borda" ["instance"] (sp_f_borda K C)) (M_change_target : Mt P w K mg base C 1 "change_target" ["self", "outcomes"] (sp_m_change_target K C)) {f : Addr} {fd : FuncData} (F : Fun K "use_borda" "use_borda" s_f_use_borda f fd) : FnOk P w K mg base CX0 5 f fd ["instance", "numbers", "row"] (sp_f_use_borda K C) :=
  deed_mut F sc_f_use_borda rfl (x_f_use_borda T) (fun cdv A outer s H E hr => d_f_use_borda T G Z F_borda M_change_target cdv A outer s H E hr)
theorem d_f_set_message_counts (T : Tx K C) (G : Bt mg) (Z : Cs K mg pw rd wl nc) (F_count_of : Fn P w K mg base 1 "count_of" ["sizes"] (sp_f_count_of K C)) (M_change_mechanism : Mt P w K mg base C 1 "change_mechanism" ["self", "message_counts", "outcomes"] (sp_m_change_mechanism K C)) {f : Addr} (cdv : Value) (A : Around) (outer : List Env) (s : Shared) (H : Hp) (E : XK) (hr : Room 1 (A.deeper (envOfC "set_message_counts" (defScope s_f_set_message_counts) s.heap.objs.size f cdv))) :
    PSs (cxOf CX0 P w K mg base N_f_set_message_counts "set_message_counts" (defScope s_f_set_message_counts) f cdv A outer s H E).nox (defBody s_f_set_message_counts) (t_f_set_message_counts K C) := by
  have nd := sc_f_set_message_counts.nd
  exact (pss_cons (ps_if (PW.pt (pw_or (pt_cmpR op_ne (pe_callB call_len_seq (by rfl) G.len (by decide +kernel) (pa_cons (pv 2) pa_nil)) (pe_fld (pv 0) rfl) (nomark _)) (pw_or1 (pt_not (pt_val (pe_callB (cr_all rfl) (by rfl) G.all (by decide +kernel) (pa_cons (pe_lc (own := [("count", 3)]) (g := (gName 3)) (tt := tYes) rfl nd (pi_list (pv 2)) (blkOk_by (N := N_f_set_message_counts) (sc := defScope s_f_set_message_counts) (by decide +kernel)) (fun _ _ _ _ _ => (pg_name (i := 3) nd rfl (Or.inl rfl))) (fun _ _ _ _ _ => pts_nil) (fun _ _ _ _ _ => (pe_chain op_le op_le pe_int (pv 3) (pe_gI Z.i_MOST_MESSAGES)))) pa_nil))))))) (pss_one (ps_ret (pe_lst (pa_cons (pe_gI Z.i_INVALID) pa_nil)))) pss_nil)
    (pss_cons (ps_expr (pe_mt (pv 0) T.cl M_change_mechanism (hr.mono (by decide)) (pa_cons (pv 2) (pa_cons (pe_op op_rep (pe_lst (pa_cons pe_int pa_nil)) (pe_fn F_count_of (hr.mono (by decide)) rfl (pa_cons (pv 2) pa_nil))) pa_nil))))
    (pss_one (ps_ret (pe_lst (pa_cons (pe_fn F_count_of (hr.mono (by decide)) rfl (pa_cons (pv 2) pa_nil)) pa_nil))))))
theorem ok_f_set_message_counts (T : Tx K C) (G : Bt mg) (Z : Cs K mg pw rd wl nc) (F_count_of : Fn P w K mg base 1 "count_of" ["sizes"] (sp_f_count_of K C)) (M_change_mechanism : Mt P w K mg base C 1 "change_mechanism" ["self", "message_counts", "outcomes"] (sp_m_change_mechanism K C)) {f : Addr} {fd : FuncData} (F : Fun K "set_message_counts" "set_message_counts" s_f_set_message_counts f fd) : FnOk P w K mg base CX0 2 f fd ["instance", "numbers", "row"] (sp_f_set_message_counts K C) :=
  deed_mut F sc_f_set_message_counts rfl (x_f_set_message_counts T) (fun cdv A outer s H E hr => d_f_set_message_counts T G Z F_count_of M_change_mechanism cdv A outer s H E hr)
theorem d_f_set_mechanism_outcome (T : Tx K C) (G : Bt mg) (Z : Cs K mg pw rd wl nc) (F_with_number : Fn P w K mg base 1 "with_number" ["numbers", "at", "number"] (sp_f_with_number K C)) (F_is_within : Fn P w K mg base 1 "is_within" ["numbers", "sizes"] (sp_f_is_within K C)) (F_place_of : Fn P w K mg base 1 "place_of" ["numbers", "sizes"] (sp_f_place_of K C)) (M_outcome_of : Mt P w K mg base C 2 "outcome_of" ["self", "messages"] (sp_m_outcome_of K C)) (M_change_mechanism : Mt P w K mg base C 1 "change_mechanism" ["self", "message_counts", "outcomes"] (sp_m_change_mechanism K C)) {f : Addr} (cdv : Value) (A : Around) (outer : List Env) (s : Shared) (H : Hp) (E : XK) (hr : Room 2 (A.deeper (envOfC "set_mechanism_outcome" (defScope s_f_set_mechanism_outcome) s.heap.objs.size f cdv))) :
    PSs (cxOf CX0 P w K mg base N_f_set_mechanism_outcome "set_mechanism_outcome" (defScope s_f_set_mechanism_outcome) f cdv A outer s H E).nox (defBody s_f_set_mechanism_outcome) (t_f_set_mechanism_outcome K C) := by
  have nd := sc_f_set_mechanism_outcome.nd
  exact (pss_cons (ps_par (i := 4) (j := 5) rfl nd rfl rfl (by decide) rfl rfl (pa_cons (pe_ix ix_list (pv 1) pe_int (fun _ _ => rfl)) (pa_cons (pe_fld (pv 0) rfl) pa_nil)) (by rfl))
    (pss_cons (ps_if (PW.pt (pw_or (pt_cmpR op_ge (pv 4) (pe_fld (pv 0) rfl) (nomark _)) (pw_or1 (pt_not (pt_val (pe_fn F_is_within (hr.mono (by decide)) rfl (pa_cons (pv 2) (pa_cons (pv 5) pa_nil)))))))) (pss_one (ps_ret (pe_lst (pa_cons (pe_gI Z.i_INVALID) pa_nil)))) pss_nil)
    (pss_cons (ps_set (i := 3) nd rfl (Or.inl rfl) (pe_mt (pv 0) T.cl M_outcome_of (hr.mono (by decide)) (pa_cons (pv 2) pa_nil)))
    (pss_cons (ps_expr (pe_mt (pv 0) T.cl M_change_mechanism (hr.mono (by decide)) (pa_cons (pv 5) (pa_cons (pe_fn F_with_number (hr.mono (by decide)) rfl (pa_cons (pe_fld (pv 0) rfl) (pa_cons (pe_fn F_place_of (hr.mono (by decide)) rfl (pa_cons (pv 2) (pa_cons (pv 5) pa_nil))) (pa_cons (pv 4) pa_nil)))) pa_nil))))
    (pss_one (ps_ret (pe_lst (pa_cons (pv 3) pa_nil))))))))
theorem ok_f_set_mechanism_outcome (T : Tx K C) (G : Bt mg) (Z : Cs K mg pw rd wl nc) (F_with_number : Fn P w K mg base 1 "with_number" ["numbers", "at", "number"] (sp_f_with_number K C)) (F_is_within : Fn P w K mg base 1 "is_within" ["numbers", "sizes"] (sp_f_is_within K C)) (F_place_of : Fn P w K mg base 1 "place_of" ["numbers", "sizes"] (sp_f_place_of K C)) (M_outcome_of : Mt P w K mg base C 2 "outcome_of" ["self", "messages"] (sp_m_outcome_of K C)) (M_change_mechanism : Mt P w K mg base C 1 "change_mechanism" ["self", "message_counts", "outcomes"] (sp_m_change_mechanism K C)) {f : Addr} {fd : FuncData} (F : Fun K "set_mechanism_outcome" "set_mechanism_outcome" s_f_set_mechanism_outcome f fd) : FnOk P w K mg base CX0 3 f fd ["instance", "numbers", "row"] (sp_f_set_mechanism_outcome K C) :=
  deed_mut F sc_f_set_mechanism_outcome rfl (x_f_set_mechanism_outcome T) (fun cdv A outer s H E hr => d_f_set_mechanism_outcome T G Z F_with_number F_is_within F_place_of M_outcome_of M_change_mechanism cdv A outer s H E hr)
theorem d_f_use_direct_mechanism (T : Tx K C) (G : Bt mg) (Z : Cs K mg pw rd wl nc) (M_change_mechanism : Mt P w K mg base C 1 "change_mechanism" ["self", "message_counts", "outcomes"] (sp_m_change_mechanism K C)) (M_domain_sizes : Mt P w K mg base C 1 "domain_sizes" ["self"] (sp_m_domain_sizes K C)) {f : Addr} (cdv : Value) (A : Around) (outer : List Env) (s : Shared) (H : Hp) (E : XK) (hr : Room 1 (A.deeper (envOfC "use_direct_mechanism" (defScope s_f_use_direct_mechanism) s.heap.objs.size f cdv))) :
    PSs (cxOf CX0 P w K mg base N_f_use_direct_mechanism "use_direct_mechanism" (defScope s_f_use_direct_mechanism) f cdv A outer s H E).nox (defBody s_f_use_direct_mechanism) (t_f_use_direct_mechanism K C) := by
  have nd := sc_f_use_direct_mechanism.nd
  exact (pss_cons (ps_expr (pe_mt (pv 0) T.cl M_change_mechanism (hr.mono (by decide)) (pa_cons (pe_mt0 (pv 0) T.cl M_domain_sizes (hr.mono (by decide))) (pa_cons (pe_fld (pv 0) rfl) pa_nil))))
    (pss_one (ps_ret (pe_lst (pa_cons (pe_callB call_len_seq (by rfl) G.len (by decide +kernel) (pa_cons (pe_fld (pv 0) rfl) pa_nil)) pa_nil)))))
theorem ok_f_use_direct_mechanism (T : Tx K C) (G : Bt mg) (Z : Cs K mg pw rd wl nc) (M_change_mechanism : Mt P w K mg base C 1 "change_mechanism" ["self", "message_counts", "outcomes"] (sp_m_change_mechanism K C)) (M_domain_sizes : Mt P w K mg base C 1 "domain_sizes" ["self"] (sp_m_domain_sizes K C)) {f : Addr} {fd : FuncData} (F : Fun K "use_direct_mechanism" "use_direct_mechanism" s_f_use_direct_mechanism f fd) : FnOk P w K mg base CX0 2 f fd ["instance", "numbers", "row"] (sp_f_use_direct_mechanism K C) :=
  deed_mut F sc_f_use_direct_mechanism rfl (x_f_use_direct_mechanism T) (fun cdv A outer s H E hr => d_f_use_direct_mechanism T G Z M_change_mechanism M_domain_sizes cdv A outer s H E hr)
end
end Gx
namespace Gx
open PySem PySem.Spec PyProof.Rows L2
/-! # A new instance -/
abbrev noH : Hp := fun _ => none
theorem noH_same {H : Hp} : Same noH H := fun b o h => by cases h
theorem EnvR.plain {K : PySem.W.Frag} {C : Addr} {B B' S I I' H H' : Hp} {σ : L2.St} {ρ : List Sl} (en : EnvR K C B S I H σ ρ) (hp : ρ.all plainSl = true) : EnvR K C B' S I' H' σ ρ := by
  refine ⟨en.len, fun j y hy => ?_⟩
  have hpl := List.all_eq_true.mp hp y (List.mem_of_getElem? hy)
  rcases en.at_ j y hy with z | ⟨v, h1, h2⟩
  · exact .inl z
  · cases y with
    | any => exact .inl rfl
    | dat d => exact .inr ⟨v, h1, h2⟩
    | sq _ => cases hpl
    | ins _ => cases hpl
    | ol _ => cases hpl
    | od _ => cases hpl
/-- the promise of __init__ -/
def spI (C : Addr) : Sp := fun vs H Q _ => ∃ (S : Hp) (a dx : Addr) (n k : Nat), vs = [.ref a, .int n, .int k] ∧ Same S H ∧ S a = none ∧ H a = some (.ins C dx []) ∧ n ≤ 3 ∧
  ∀ S' H' pd pt pm pk rs, GrM S H S' H' a a → H pd = none → InsAt C S' H' a (Su194.create n k) dx pd pt pm pk rs → Q .non H'
/-- the promise of created: None, or a new instance -/
def spCr (C : Addr) : Sp := fun vs H Q _ => ∃ (S : Hp) (n k : Nat), vs = [.int n, .int k] ∧ Same S H ∧
  ((¬ (1 ≤ n ∧ n ≤ 3) ∨ ¬ (2 ≤ k ∧ k ≤ 4)) → ∀ S' H', Gr S H S' H' → Q .non H') ∧
  ((1 ≤ n ∧ n ≤ 3) ∧ (2 ≤ k ∧ k ≤ 4) → ∀ S' H' a dx pd pt pm pk rs, Gr S H S' H' → H a = none → H pd = none → InsAt C S' H' a (Su194.create n k) dx pd pt pm pk rs → Q (.ref a) H')
abbrev sp_m_init (K : PySem.W.Frag) (C : Addr) : Sp := spI C
abbrev sp_f_created (K : PySem.W.Frag) (C : Addr) : Sp := spCr C
structure MkI (P : Program) (w : World) (K : PySem.W.Frag) (mg : Str → Option Value) (base : Heap) (C : Addr) : Prop where
  at_ : mg "Instance" = some (.ref C)
  ex : ∃ f fd, Mk K C f ∧ FnOk P w K mg base CX0 1 f fd ["self", "agent_count", "alternative_count"] (spI C) ∧ Binds K fd ["self", "agent_count", "alternative_count"] []
theorem pe_mkI {X : Cx} {C : Addr} {p pos : Pos} {e : Expr} {es : List Expr} {t : TA} (M : MkI X.prog X.w X.K X.mg X.base C) (hr : Room 2 X.A) (hg : Gl X "Instance") (ha : PA X (e :: es) t) (hdb : (("Instance" : Str) == ("__debug__" : Str)) = false := by decide)
    (he : starEach (e :: es) X.env = (false, eval e X.env) :: starEach es X.env := by rfl) (hpl : (backTo pos (starEach es X.env)).any (·.1) = false := by rfl) :
    PE X (.Call (.Name "Instance" p) (e :: es) [] pos) (tMake C (spI C) [] E0 t) := by
  obtain ⟨f, fd, m, F, hb⟩ := M.ex
  exact pe_make m F hr hg M.at_ hb .nil pass0 ha hdb he hpl
/-! ### readings (printed by gen.py) -/
/-- 0 self, 1 agent_count, 2 alternative_count, 3 agent -/
def t_m_init (K : PySem.W.Frag) (C : Addr) : TS :=
    (tSeq (sFld K (tVar 0) (tVar 1) "agent_count")
    (tSeq (sFld K (tVar 0) (tVar 2) "alternative_count")
    (tSeq (sFld K (tVar 0) (tLc (iRng1 (tCons (tVar 1) tNil)) (gName 3) tYes (tLst tNil) [3]) "domains")
    (tSeq (sFld K (tVar 0) (tLst tNil) "target")
    (tSeq (sFld K (tVar 0) (tOp rRep (tLst (tCons (tC (.int 1)) tNil)) (tVar 1)) "message_counts")
    (sFld K (tVar 0) (tLst (tCons (tC (.int 0)) tNil)) "mechanism"))))))
/-- 0 agent_count, 1 alternative_count -/
def t_f_created (K : PySem.W.Frag) (C : Addr) : TS :=
    (tSeq (tIfS (tOr (tNot (tTest (tChain rLeI rLeI (tC (.int 1)) (tVar 0) (tC (.int 3))))) (tNot (tTest (tChain rLeI rLeI (tC (.int 2)) (tVar 1) (tC (.int 4)))))) (tRet (tC .non)) tNext)
    (tRet (tMake C (spI C) [] E0 (tCons (tVar 0) (tCons (tVar 1) tNil)))))
section
variable {K : PySem.W.Frag} {C : Addr} {ρ : List Sl}
/-- what stands while __init__ runs -/
structure Ini (K : PySem.W.Frag) (C : Addr) (S0 H0 S H : Hp) (σ : L2.St) (ρ : List Sl) (a dx : Addr) (fs : List (Str × V)) : Prop where
  g : GrM S0 H0 S H a a
  en : EnvR K C H S noH H σ ρ
  sl : σ[0]? = some (some (.ref a))
  sa : S a = none
  at_ : H a = some (.ins C dx fs)
theorem Ini.st {S0 H0 S H S1 H1 : Hp} {σ : L2.St} {a dx : Addr} {fs fs' : List (Str × V)} (j : Ini K C S0 H0 S H σ ρ a dx fs) (hp : ρ.all plainSl = true) (g : Gr S H S1 H1) : Ini K C S0 H0 S1 (upd H1 a (.ins C dx fs')) σ ρ a dx fs' :=
  ⟨j.g.trans (GrM.store g j.at_ j.sa), (j.en.up g noH_same).plain hp, j.sl, g.keepNone j.sa j.at_, upd_same⟩
theorem ini_step {S0 H0 S H : Hp} {σ : L2.St} {D : Ends} {a dx : Addr} {fs : List (Str × V)} {tv : TE} {f : Str} {d : PyData} (T : Tx K C) (hn : NoAttr K C f) (j : Ini K C S0 H0 S H σ ρ a dx fs) (hp : ρ.all plainSl = true) (hl : fs.length < 1000) (he : E K C tv ρ (.dat d))
    (k : ∀ v S1 H1, Gr S H S1 H1 → Rp S1 v d → Ini K C S0 H0 S1 (upd H1 a (.ins C dx (putF f v fs))) σ ρ a dx (putF f v fs) → D.nx σ (upd H1 a (.ins C dx (putF f v fs)))) : sFld K (tVar 0) tv f D σ H :=
  he H S noH H σ j.g.sub noH_same j.en _ fun v S1 H1 g1 s1 => ⟨_, j.sl, a, C, dx, _, rfl, g1.h _ _ j.at_, T.cl, hn, hl, k v S1 H1 g1 s1 (j.st hp g1)⟩
theorem ini_stepN {S0 H0 S H : Hp} {σ : L2.St} {D : Ends} {a dx : Addr} {fs : List (Str × V)} {tv : TE} {f : Str} {ds : List PyData} (T : Tx K C) (hn : NoAttr K C f) (j : Ini K C S0 H0 S H σ ρ a dx fs) (hp : ρ.all plainSl = true) (hl : fs.length < 1000) (he : EN K C tv ρ ds)
    (k : ∀ p xs S1 H1, Gr S H S1 H1 → H p = none → p ≠ a → S1 p = none → H1 p = some (.lst xs) → RpA S1 xs ds → Ini K C S0 H0 S1 (upd H1 a (.ins C dx (putF f (.ref p) fs))) σ ρ a dx (putF f (.ref p) fs) → D.nx σ (upd H1 a (.ins C dx (putF f (.ref p) fs)))) : sFld K (tVar 0) tv f D σ H :=
  he H S noH H σ j.g.sub noH_same j.en _ fun p xs S1 H1 g1 h1 h2 h3 h4 => ⟨_, j.sl, a, C, dx, _, rfl, g1.h _ _ j.at_, T.cl, hn, hl, k p xs S1 H1 g1 h1 (fun e => by rw [e, j.at_] at h1; cases h1) h2 h3 h4 (j.st hp g1)⟩
theorem put_nil {f : Str} {v : V} : putF f v [] = [(f, v)] := rfl
theorem x_m_init (T : Tx K C) {S H : Hp} {σ : L2.St} {D : Ends} {a dx : Addr} {n k : Nat} (j : Ini K C S H S H σ [.any, .dat (nI n), .dat (nI k), .any] a dx []) (hn : n ≤ 3)
    (q : ∀ σ' S' H' pd pt pm pk rs, GrM S H S' H' a a → H pd = none → InsAt C S' H' a (Su194.create n k) dx pd pt pm pk rs → D.nx σ' H') : t_m_init K C D σ H := by
  unfold t_m_init
  refine ini_step T T.nA j rfl (by show 0 < 1000; decide) (e_var (i := 1) rfl) fun v1 S1 H1 g1 r1 j1 => ?_
  refine ini_step T T.nV j1 rfl (by show 1 < 1000; decide) (e_var (i := 2) rfl) fun v2 S2 H2 g2 r2 j2 => ?_
  have h3 := en_lc0 (K := K) (C := C) (ρ := [.any, .dat (nI n), .dat (nI k), .any]) (wi := iRng1 (tCons (tVar 1) tNil)) (g := gName 3) (te := tLst tNil) (js := [3]) (vs := [3]) (xs := List.range n) (enc := nI) (f := fun _ => nLL []) (ei_range (e_var (i := 1) rfl) (by omega)) (by rw [List.length_range]; omega) (fun _ h => h)
    fun l hl => ⟨_, ga_name, e_new (en_lst (ds := []) ea_nil (Nat.zero_le _))⟩
  refine ini_stepN T T.nD j2 rfl (by show 2 < 1000; decide) h3 fun pd xs S3 H3 g3 hf3 hne hs3 hp3 r3 j3 => ?_
  refine ini_step T T.nT j3 rfl (by show 3 < 1000; decide) (d := nL []) (e_new (en_lst (ds := []) ea_nil (Nat.zero_le _))) fun v4 S4 H4 g4 r4 j4 => ?_
  refine ini_step T T.nM j4 rfl (by show 4 < 1000; decide) (d := .list (List.replicate n (nI 1))) (e_new (en_rep (d := nI 1) (ds_one (e_cN 1)) (e_var (i := 1) rfl) (by omega))) fun v5 S5 H5 g5 r5 j5 => ?_
  refine ini_step T T.nK j5 rfl (by show 5 < 1000; decide) (d := nL [0]) (ds_one (e_cN 0)) fun v6 S6 H6 g6 r6 j6 => ?_
  cases r1
  cases r2
  obtain ⟨p4, rfl⟩ := refOf r4
  obtain ⟨p5, rfl⟩ := refOf r5
  obtain ⟨p6, rfl⟩ := refOf r6
  refine q σ S6 _ pd p4 p5 p6 xs j6.g (by
    cases e : H pd with
    | none => rfl
    | some o =>
      obtain ⟨o', e'⟩ := j2.g.there pd o e
      rw [hf3] at e'
      cases e') ?_
  have hp4 : H4 pd = some (.lst xs) := g4.h _ _ ((upd_ne hne).trans hp3)
  have hp5 : H5 pd = some (.lst xs) := g5.h _ _ ((upd_ne hne).trans hp4)
  have hp6 : H6 pd = some (.lst xs) := g6.h _ _ ((upd_ne hne).trans hp5)
  have hs4 : S4 pd = none := g4.keepNone hs3 ((upd_ne hne).trans hp3)
  have hs5 : S5 pd = none := g5.keepNone hs4 ((upd_ne hne).trans hp4)
  have hs6 : S6 pd = none := g6.keepNone hs5 ((upd_ne hne).trans hp5)
  refine ⟨?_, j6.sa, (upd_ne hne).trans hp6, hs6, ?_, r4.up (g5.s.trans g6.s), ?_, r6⟩
  · rw [upd_same]
    have e : putF "mechanism" (.ref p6) (putF "message_counts" (.ref p5) (putF "target" (.ref p4) (putF "domains" (.ref pd) (putF "alternative_count" (.int (k : Int)) (putF "agent_count" (.int (n : Int)) []))))) = flds (Su194.create n k) pd p4 p5 p6 := by
      have e1 : putF "agent_count" (.int (n : Int)) [] = ([("agent_count", V.int (n : Int))] : List (Str × V)) := rfl
      rw [e1]
      unfold flds
      repeat (first | rw [put_nil] | rw [put_past (by decide +kernel)])
      rfl
    rw [e]
  · have e : (Su194.create n k).target.domains.map nLL = (List.range n).map fun _ => nLL [] := by
      show (List.replicate n ([] : List (List Nat))).map nLL = _
      rw [List.map_replicate, List.map_const', List.length_range]
    rw [e]
    exact r3.up ((g4.s.trans g5.s).trans g6.s)
  · have e : nL (Su194.create n k).messageCounts = .list (List.replicate n (nI 1)) := by
      show PyData.list ((List.replicate n 1).map nI) = _
      rw [List.map_replicate]
    rw [e]
    exact r5.up g6.s
theorem created_env {S H : Hp} {n k : Nat} : EnvR K C H S noH H [some (.int n), some (.int k)] [.dat (nI n), .dat (nI k)] :=
  env_start (K := K) (C := C) (B := H) (S := S) (I := noH) (H := H) (N := N_f_created) (vs := [.int n, .int k]) (xs := [.dat (nI n), .dat (nI k)]) (.cons (.int _) (.cons (.int _) .nil)) 0
theorem x_f_created (T : Tx K C) {S H : Hp} {D : Ends} {n k : Nat} (hs : Same S H) (q0 : (¬ (1 ≤ n ∧ n ≤ 3) ∨ ¬ (2 ≤ k ∧ k ≤ 4)) → ∀ S' H', Gr S H S' H' → D.rt .non H')
    (q1 : (1 ≤ n ∧ n ≤ 3) ∧ (2 ≤ k ∧ k ≤ 4) → ∀ S' H' a dx pd pt pm pk rs, Gr S H S' H' → H a = none → H pd = none → InsAt C S' H' a (Su194.create n k) dx pd pt pm pk rs → D.rt (.ref a) H') : t_f_created K C D [some (.int n), some (.int k)] H := by
  have en : EnvR K C H S noH H [some (.int n), some (.int k)] [.dat (nI n), .dat (nI k)] := created_env
  have ht := et_or (et_not (et_test (e_chLL (K := K) (C := C) (ρ := [.dat (nI n), .dat (nI k)]) (e_cN 1) (e_var (i := 0) rfl) (e_cN 3)))) fun _ => et_not (et_test (e_chLL (K := K) (C := C) (ρ := [.dat (nI n), .dat (nI k)]) (e_cN 2) (e_var (i := 1) rfl) (e_cN 4)))
  refine ht H S noH H _ hs noH_same en _ fun S1 H1 g1 => ?_
  by_cases hb : (¬ (1 ≤ n ∧ n ≤ 3) ∨ ¬ (2 ≤ k ∧ k ≤ 4))
  · have e : (!(decide (1 ≤ n) && decide (n ≤ 3)) || !(decide (2 ≤ k) && decide (k ≤ 4))) = true := by
      rw [← Bool.decide_and, ← Bool.decide_and, ← decide_not, ← decide_not, ← Bool.decide_or]
      exact decide_eq_true hb
    rw [if_pos e]
    exact q0 hb S1 H1 g1
  · have e : ¬ (!(decide (1 ≤ n) && decide (n ≤ 3)) || !(decide (2 ≤ k) && decide (k ≤ 4))) = true := by
      rw [← Bool.decide_and, ← Bool.decide_and, ← decide_not, ← decide_not, ← Bool.decide_or, decide_eq_true_iff]
      exact hb
    have hg : (1 ≤ n ∧ n ≤ 3) ∧ (2 ≤ k ∧ k ≤ 4) := ⟨Classical.not_not.mp fun h => hb (.inl h), Classical.not_not.mp fun h => hb (.inr h)⟩
    rw [if_neg e]
    have ha : EA K C (tCons (tVar 0) (tCons (tVar 1) tNil)) [.dat (nI n), .dat (nI k)] [.dat (nI n), .dat (nI k)] := ea_cons (e_var rfl) (ea_one (e_var rfl))
    show tCons (tVar 0) (tCons (tVar 1) tNil) [some (.int n), some (.int k)] H1 (fun vs H1 => ∀ x dx, H1 x = none → H1 dx = none → dx ≠ x → spI C (.ref x :: (vs ++ [])) (upd (upd H1 dx (.own x)) x (.ins C dx [])) (fun v H2 => v = .non ∧ D.rt (.ref x) H2) E0)
    refine ha H S1 noH H1 _ g1.sub noH_same (en.up g1 noH_same) _ fun vs S2 H2 g2 s2 => ?_
    intro x dx hx hdx hne
    have ev : vs = [.int n, .int k] := by
      cases s2 with
      | cons a t =>
        cases t with
        | cons b t2 =>
          cases t2
          cases a
          cases b
          rfl
    subst ev
    have hs2 : S2 x = none := g2.sub.free hx
    have hs2d : S2 dx = none := g2.sub.free hdx
    have g02 := g1.trans g2
    refine ⟨S2, x, dx, n, k, rfl, ?_, hs2, upd_same, hg.1.2, fun S3 H3 pd pt pm pk rs gm hpd i => ⟨rfl, q1 hg S3 H3 x dx pd pt pm pk rs ⟨g02.s.trans gm.s, fun b o hb => ?_, gm.sub, fun b o h1 h2 => ?_⟩ (g02.h.free hx) ?_ i⟩⟩
    · intro b o hb
      rw [upd_ne (ne_of_none hb hs2), upd_ne (ne_of_none hb hs2d)]
      exact g2.sub b o hb
    · have h2 := g02.h b o hb
      refine gm.keep b o ?_ (ne_of_none h2 hx) (ne_of_none h2 hx)
      rw [upd_ne (ne_of_none h2 hx), upd_ne (ne_of_none h2 hdx)]
      exact h2
    · cases e2 : S2 b with
      | some o2 => exact g02.fr b o2 e2 h2
      | none =>
        have h3 := gm.fr b o h1 e2
        cases e3 : H b with
        | none => rfl
        | some o3 =>
          have h4 := g02.h b o3 e3
          rw [upd_ne (ne_of_none h4 hx), upd_ne (ne_of_none h4 hdx), h4] at h3
          cases h3
    · cases e3 : H pd with
      | none => rfl
      | some o3 =>
        have h4 := g02.h pd o3 e3
        rw [upd_ne (ne_of_none h4 hx), upd_ne (ne_of_none h4 hdx), h4] at hpd
        cases hpd
end
section
variable {P : Program} {w : World} {K : PySem.W.Frag} {mg : Str → Option Value} {base : Heap} {C pw rd wl nc : Addr}
theorem d_m_init (T : Tx K C) (G : Bt mg) (Z : Cs K mg pw rd wl nc)  {f : Addr} (cdv : Value) (A : Around) (outer : List Env) (s : Shared) (H : Hp) (E : XK) (hr : Room 0 (A.deeper (envOfC "Instance.__init__" (defScope s_m_init) s.heap.objs.size f cdv))) :
    PSs (cxOf CX0 P w K mg base N_m_init "Instance.__init__" (defScope s_m_init) f cdv A outer s H E).nox (defBody s_m_init) (t_m_init K C) := by
  have nd := sc_m_init.nd
  exact (pss_cons (ps_fld (pv 0) (pv 1) rfl)
    (pss_cons (ps_fld (pv 0) (pv 2) rfl)
    (pss_cons (ps_fld (pv 0) (pe_lc (own := [("agent", 3)]) (g := (gName 3)) (tt := tYes) rfl nd (pi_range1 (by rfl) G.range (pa_cons (pv 1) pa_nil)) (blkOk_by (N := N_m_init) (sc := defScope s_m_init) (by decide +kernel)) (fun _ _ _ _ _ => (pg_name (i := 3) nd rfl (Or.inl rfl))) (fun _ _ _ _ _ => pts_nil) (fun _ _ _ _ _ => (pe_lst pa_nil))) rfl)
    (pss_cons (ps_fld (pv 0) (pe_lst pa_nil) rfl)
    (pss_cons (ps_fld (pv 0) (pe_op op_rep (pe_lst (pa_cons pe_int pa_nil)) (pv 1)) rfl)
    (pss_one (ps_fld (pv 0) (pe_lst (pa_cons pe_int pa_nil)) rfl)))))))
theorem d_f_created (MK : MkI P w K mg base C) (T : Tx K C) (G : Bt mg) (Z : Cs K mg pw rd wl nc)  {f : Addr} (cdv : Value) (A : Around) (outer : List Env) (s : Shared) (H : Hp) (E : XK) (hr : Room 2 (A.deeper (envOfC "created" (defScope s_f_created) s.heap.objs.size f cdv))) :
    PSs (cxOf CX0 P w K mg base N_f_created "created" (defScope s_f_created) f cdv A outer s H E).nox (defBody s_f_created) (t_f_created K C) := by
  have nd := sc_f_created.nd
  exact (pss_cons (ps_if (PW.pt (pw_or (pt_not (pt_chain op_le op_le pe_int (pv 0) pe_int)) (pw_or1 (pt_not (pt_chain op_le op_le pe_int (pv 1) pe_int))))) (pss_one (ps_ret pe_non)) pss_nil)
    (pss_one (ps_ret (pe_mkI MK (hr.mono (by decide)) rfl (pa_cons (pv 0) (pa_cons (pv 1) pa_nil))))))
theorem ok_m_init (T : Tx K C) (G : Bt mg) (Z : Cs K mg pw rd wl nc) {f : Addr} {fd : FuncData} (F : Fun K "__init__" "Instance.__init__" s_m_init f fd) : FnOk P w K mg base CX0 1 f fd ["self", "agent_count", "alternative_count"] (spI C) :=
  F.ok sc_m_init (fun vs H Q E h => by
    obtain ⟨S, a, dx, n, k, rfl, _⟩ := h
    rfl) fun cdv A outer s H vs Q E hr h => ⟨_, d_m_init T G Z cdv A outer s H E hr, by
    obtain ⟨S, a, dx, n, k, rfl, hs, hsa, ha, hn, q⟩ := h
    have en := env_start (K := K) (C := C) (B := H) (S := S) (I := noH) (H := H) (N := N_m_init) (vs := [.ref a, .int n, .int k]) (xs := [.any, .dat (nI n), .dat (nI k)]) (.cons trivial (.cons (.int _) (.cons (.int _) .nil))) 1
    exact x_m_init T (D := { nx := fun _ H' => Q .non H', rt := Q }) ⟨GrM.of (Gr.refl hs), en, rfl, hsa, ha⟩ hn fun σ' S' H' pd pt pm pk rs gm hpd i => q S' H' pd pt pm pk rs gm hpd i⟩
theorem ok_f_created (T : Tx K C) (G : Bt mg) (Z : Cs K mg pw rd wl nc) (MK : MkI P w K mg base C) {f : Addr} {fd : FuncData} (F : Fun K "created" "created" s_f_created f fd) : FnOk P w K mg base CX0 3 f fd ["agent_count", "alternative_count"] (spCr C) :=
  F.ok sc_f_created (fun vs H Q E h => by
    obtain ⟨S, n, k, rfl, _⟩ := h
    rfl) fun cdv A outer s H vs Q E hr h => ⟨_, d_f_created MK T G Z cdv A outer s H E hr, by
    obtain ⟨S, n, k, rfl, hs, q0, q1⟩ := h
    exact x_f_created T (D := { nx := fun _ H' => Q .non H', rt := Q }) hs q0 q1⟩
end
end Gx
/-! # What the module's top has written, fact by fact -/
namespace Gx
open PySem PySem.Spec PyProof.Rows L2
structure FnF (K : PySem.W.Frag) (x qual : Str) (st : Stmt) (f : Addr) : Prop where
  a : PySem.W.nsIn K mainGlobals x = some (some (.ref f))
  ex : ∃ fd, Fun K x qual st f fd
theorem fnF_mk {K : PySem.W.Frag} {x qual : Str} {st : Stmt} {f : Addr} {oc : Value} {od an : Option Addr} {osl : Array (Option Value)} {kV doc pm cdv ct : Value} (a : PySem.W.nsIn K mainGlobals x = some (some (.ref f)))
    (l : K.lookup f = some ⟨oc, od, .func (PySem.W.fnOf x qual (defArgs st) (defBody st) (defScope st) .none kV doc pm an cdv ct), osl⟩) (c : PySem.W.codeIn K cdv qual = true) (k : PySem.W.keepIn K (.ref f) = true) : FnF K x qual st f := ⟨a, _, fun_mk l c k⟩
structure MtF (K : PySem.W.Frag) (C : Addr) (x qual : Str) (st : Stmt) (f : Addr) : Prop where
  m : Meth K C x f
  ex : ∃ fd, Fun K x qual st f fd
theorem mtF_mk {K : PySem.W.Frag} {C : Addr} {x qual : Str} {st : Stmt} {f : Addr} {oc : Value} {od an : Option Addr} {osl : Array (Option Value)} {kV doc pm cdv ct : Value} (a : PySem.W.findIn K (.ref C) x = some (some (.ref f))) (i : PySem.W.isFn K (.ref f) = true)
    (l : K.lookup f = some ⟨oc, od, .func (PySem.W.fnOf x qual (defArgs st) (defBody st) (defScope st) .none kV doc pm an cdv ct), osl⟩) (c : PySem.W.codeIn K cdv qual = true) (k : PySem.W.keepIn K (.ref f) = true) : MtF K C x qual st f := ⟨⟨a, i, k⟩, _, fun_mk l c k⟩
structure ClF (K : PySem.W.Frag) (C : Addr) : Prop where
  at_ : PySem.W.nsIn K mainGlobals "Instance" = some (some (.ref C))
  tx : Tx K C
  mks : PySem.W.makesIn K C = true
  kp : PySem.W.keepIn K (.ref C) = true
theorem clF_mk {K : PySem.W.Frag} {C : Addr} (a : PySem.W.nsIn K mainGlobals "Instance" = some (some (.ref C))) (pg : PySem.W.plainGet K C Str.empty = true) (hd : PySem.W.hasDictIn K C = true) (po : PySem.W.plainOver K C = true) (sa : PySem.W.findIn K (.ref C) "__setattr__" = some (some (.builtin "object.__setattr__"))) (mk : PySem.W.makesIn K C = true) (kc : PySem.W.keepIn K (.ref C) = true)
    (n1 : PySem.W.findIn K (.ref C) "agent_count" = some none) (n2 : PySem.W.findIn K (.ref C) "alternative_count" = some none) (n3 : PySem.W.findIn K (.ref C) "domains" = some none) (n4 : PySem.W.findIn K (.ref C) "target" = some none) (n5 : PySem.W.findIn K (.ref C) "message_counts" = some none) (n6 : PySem.W.findIn K (.ref C) "mechanism" = some none) : ClF K C :=
  ⟨a, ⟨⟨pg, hd, po, sa⟩, n1, n2, n3, n4, n5, n6⟩, mk, kc⟩
/-- a name that the module does not write -/
def NoF (K : PySem.W.Frag) (x : Str) : Prop := PySem.W.nsIn K mainGlobals x = some none
def IntF (K : PySem.W.Frag) (x : Str) (i : Int) : Prop := ∃ t, PySem.W.nsIn K mainGlobals x = some (some (.int i t))
theorem intF_mk {K : PySem.W.Frag} {x : Str} {i : Int} {t : Tok} (h : PySem.W.nsIn K mainGlobals x = some (some (.int i t))) : IntF K x i := ⟨t, h⟩
def isInts : List Int → List Value → Bool
  | [], [] => true
  | k :: r, .int i _ :: s => i == k && isInts r s
  | _, _ => false
def TpF (K : PySem.W.Frag) (x : Str) (p : Addr) (ns : List Int) : Prop := PySem.W.nsIn K mainGlobals x = some (some (.ref p)) ∧ ∃ dd it n sl, K.lookup p = some ⟨.type "tuple", dd, .seq it n, sl⟩ ∧ isInts ns it.toList = true
theorem tpF_mk {K : PySem.W.Frag} {x : Str} {p : Addr} {ns : List Int} {dd : Option Addr} {it : Array Value} {n : Nat} {sl : Array (Option Value)} (a : PySem.W.nsIn K mainGlobals x = some (some (.ref p))) (l : K.lookup p = some ⟨.type "tuple", dd, .seq it n, sl⟩) (v : isInts ns it.toList = true) : TpF K x p ns := ⟨a, _, _, _, _, l, v⟩
def isDeeds : List (Int × Addr) → List DictEntry → Bool
  | [], [] => true
  | (k, a) :: r, e :: s => (match e.key with | .int i _ => i == k | _ => false) && e.hash == hashInt k && (match e.val with | .ref b => a == b | _ => false) && isDeeds r s
  | _, _ => false
def DdF (K : PySem.W.Frag) (d : Addr) (tab : List (Int × Addr)) : Prop := PySem.W.nsIn K mainGlobals "DEEDS" = some (some (.ref d)) ∧ ∃ es n, K.lookup d = some ⟨.type "dict", none, .dict es n, #[]⟩ ∧ isDeeds tab es.toList = true
theorem ddF_mk {K : PySem.W.Frag} {d : Addr} {tab : List (Int × Addr)} {es : Array DictEntry} {n : Nat} (a : PySem.W.nsIn K mainGlobals "DEEDS" = some (some (.ref d))) (l : K.lookup d = some ⟨.type "dict", none, .dict es n, #[]⟩) (v : isDeeds tab es.toList = true) : DdF K d tab := ⟨a, _, _, l, v⟩
theorem isInts_vals : ∀ {ns : List Int} {vs : List Value}, isInts ns vs = true → Vals (ns.map V.int) vs
  | [], [], _ => .nil
  | [], _ :: _, h => by cases h
  | k :: r, [], h => by cases h
  | k :: r, v :: s, h => by
    cases v with
    | int i t =>
      have h' : (i == k && isInts r s) = true := h
      rw [Bool.and_eq_true, beq_iff_eq] at h'
      obtain ⟨rfl, h2⟩ := h'
      exact .cons ⟨t, rfl⟩ (isInts_vals h2)
    | _ => cases h
theorem TpF.sq {K : PySem.W.Frag} {x : Str} {p : Addr} {ns : List Int} (h : TpF K x p ns) (hn : ns.length ≤ 100) (H : Hp) : SqT K H p (ns.map V.int) := by
  obtain ⟨_, dd, it, n, sl, l, v⟩ := h
  have r := isInts_vals v
  refine .inr ⟨_, it, n, l, rfl, rfl, ?_, r⟩
  have e := r.length
  rw [List.length_map] at e
  have e2 : it.toList.length = it.size := rfl
  exact sz (by omega)
section
variable {K : PySem.W.Frag} {h : Heap} {mg : Str → Option Value}
theorem NoF.at_ {x : Str} (n : NoF K x) (X : K.In h) (G : h.Ns mainGlobals mg) : mg x = none := PySem.W.mg_none_of X G n
theorem IntF.at_ {x : Str} {i : Int} (n : IntF K x i) (X : K.In h) (G : h.Ns mainGlobals mg) : ∃ t, mg x = some (.int i t) := n.imp fun t e => PySem.W.mg_of X G e
theorem FnF.fn {P : Program} {w : World} {base : Heap} {x qual : Str} {st : Stmt} {f : Addr} {k : Nat} {ps : List Str} {sp : Sp} (F : FnF K x qual st f) (X : K.In h) (G : h.Ns mainGlobals mg) (hb : ∀ fd, Fun K x qual st f fd → Binds K fd ps []) (ho : ∀ fd, Fun K x qual st f fd → FnOk P w K mg base CX0 k f fd ps sp) : Fn P w K mg base k x ps sp := by
  obtain ⟨fd, F1⟩ := F.ex
  exact ⟨f, fd, ho fd F1, PySem.W.mg_of X G F.a, F1.kp, hb fd F1⟩
theorem FnF.held {P : Program} {w : World} {base : Heap} {x qual : Str} {st : Stmt} {f : Addr} {k : Nat} {ps : List Str} {sp : Sp} (F : FnF K x qual st f) (hb : ∀ fd, Fun K x qual st f fd → Binds K fd ps []) (ho : ∀ fd, Fun K x qual st f fd → FnOk P w K mg base CX0 k f fd ps sp) : Held P w K mg base k f sp := by
  obtain ⟨fd, F1⟩ := F.ex
  exact ⟨fd, ps, ho fd F1, F1.kp, hb fd F1⟩
theorem MtF.mt {P : Program} {w : World} {base : Heap} {C : Addr} {x qual : Str} {st : Stmt} {f : Addr} {k : Nat} {ps : List Str} {sp : Sp} (F : MtF K C x qual st f) (hb : ∀ fd, Fun K x qual st f fd → Binds K fd ps []) (ho : ∀ fd, Fun K x qual st f fd → FnOk P w K mg base CX0 k f fd ps sp) : Mt P w K mg base C k x ps sp := by
  obtain ⟨fd, F1⟩ := F.ex
  exact ⟨f, fd, ho fd F1, F.m, hb fd F1⟩
end
end Gx
namespace Gx
open PySem PySem.Spec PyProof.Rows L2
/-! # One call read; one call answered -/
def ncL : List Nat := [2, 1, 1, 1, 1, 0, 0, 0, 0, 0, 1, 0, 0, 0, 0, 1, 0, 0, 0, 2, 2, 0, 2, 2, 0]
def ncN (p : Nat) : Nat := ncL.getD p 0
def wlI : List Int := [1, 3, 6, 9, 10, 12, 14, 15, 16, 18]
def wlB (p : Nat) : Bool := wlI.contains (p : Int)
structure Cl where
  p : Nat
  ns : List Nat
  r : List Nat
def encC (c : Cl) : List Nat := c.p :: (c.ns ++ (if wlB c.p = true then c.r.length :: c.r else []))
structure OkC (c : Cl) : Prop where
  p25 : c.p < 25
  nl : c.ns.length = ncN c.p
  nr : wlB c.p = false → c.r = []
  r8 : c.r.length ≤ 8
def P_f_read_call : List Sl → PyData → Prop := fun xs d => ∃ (pre tail : List Nat) (c : Cl), xs = [.sq (zN (pre ++ (encC c ++ tail))), .dat (nI pre.length)] ∧ OkC c ∧ d = .tuple [nI c.p, nL c.ns, nL c.r, nI (pre.length + (encC c).length)]
abbrev sp_f_read_call (K : PySem.W.Frag) (C : Addr) : Sp := spF K C P_f_read_call
theorem len_f_read_call : ∀ xs d, P_f_read_call xs d → xs.length = 2 := fun xs d ⟨_, _, _, e, _⟩ => by rw [e] <;> rfl
theorem nc_at : ∀ p : Nat, p < 25 → ([2, 1, 1, 1, 1, 0, 0, 0, 0, 0, 1, 0, 0, 0, 0, 1, 0, 0, 0, 2, 2, 0, 2, 2, 0] : List Int)[p]? = some ((ncN p : Nat) : Int) := by decide +kernel
theorem zN_at {L : List Nat} {i n : Nat} (h : L[i]? = some n) : (zN L)[i]? = some (n : Int) := by
  unfold zN
  rw [List.getElem?_map, h]
  rfl
theorem cut_q {L M : List Nat} {a b : Nat} (hb : b ≤ L.length) (h : (L.drop a).take (b - a) = M) (hab : a ≤ b) : PyData.list ((cutD (zN L) (some (a : Int)) (some (b : Int))).map PyData.int) = nL M := by
  have hl : (zN L).length = L.length := List.length_map ..
  unfold cutD
  rw [HT.sIx_nat, HT.sIx_nat, hl, Nat.min_eq_left hb, Nat.min_eq_left (Nat.le_trans hab hb), ← h]
  show PyData.list (List.map PyData.int (((zN L).drop a).take (b - a))) = PyData.list (((L.drop a).take (b - a)).map nI)
  unfold zN
  rw [← List.map_drop, ← List.map_take, nats_int]
/-! ### readings (printed by gen.py) -/
/-- 0 calls, 1 at, 2 place, 3 end, 4 numbers, 5 behind -/
def t_f_read_call (K : PySem.W.Frag) (C wl nc : Addr) : TS :=
    (tSeq (tAsg (tOp (rIxL K) (tVar 0) (tVar 1)) (gName 2))
    (tSeq (tAsg (tOp rAddI (tOp rAddI (tVar 1) (tC (.int 1))) (tOp (rIxT K) (tC (.ref nc)) (tVar 2))) (gName 3))
    (tSeq (tAsg (tSl (rSlL K) (tVar 0) (tPart (tOp rAddI (tVar 1) (tC (.int 1)))) (tPart (tVar 3))) (gName 4))
    (tSeq (tIfS (tTest (tOp (rIn K true) (tVar 2) (tC (.ref wl)))) (tRet (tTup (tCons (tVar 2) (tCons (tVar 4) (tCons (tLst tNil) (tCons (tVar 3) tNil)))))) tNext)
    (tSeq (tAsg (tOp rAddI (tOp rAddI (tVar 3) (tC (.int 1))) (tOp (rIxL K) (tVar 0) (tVar 3))) (gName 5))
    (tRet (tTup (tCons (tVar 2) (tCons (tVar 4) (tCons (tSl (rSlL K) (tVar 0) (tPart (tOp rAddI (tVar 3) (tC (.int 1)))) (tPart (tVar 5))) (tCons (tVar 5) tNil)))))))))))
section
variable {K : PySem.W.Frag} {mg : Str → Option Value} {C pw rd wl nc : Addr}
theorem x_f_read_call (T : Tx K C) (Z : Cs K mg pw rd wl nc) : ∀ xs d, P_f_read_call xs d → X K C (t_f_read_call K C wl nc) (xs ++ List.replicate (N_f_read_call.length - 2) .any) (.rt d) := by
  rintro xs d ⟨pre, tail, ⟨p, ns, r⟩, rfl, ⟨hp, hn, hw, hr⟩, rfl⟩
  have h0 : (pre ++ (encC ⟨p, ns, r⟩ ++ tail))[pre.length]? = some p := by
    rw [List.getElem?_append_right (Nat.le_refl _), Nat.sub_self]
    rfl
  have hlen : (pre ++ (encC ⟨p, ns, r⟩ ++ tail)).length = pre.length + ((encC ⟨p, ns, r⟩).length + tail.length) := by rw [List.length_append, List.length_append]
  have hE : (encC ⟨p, ns, r⟩).length = 1 + ncN p + (if wlB p = true then 1 + r.length else 0) := by
    show (ns ++ (if wlB p = true then r.length :: r else [])).length + 1 = _
    have hn' : ns.length = ncN p := hn
    rw [List.length_append, hn']
    cases wlB p with
    | true => rw [if_pos rfl, if_pos rfl, List.length_cons]; omega
    | false => rw [if_neg Bool.false_ne_true, if_neg Bool.false_ne_true]; show ncN p + 0 + 1 = _; omega
  have hn' : ns.length = ncN p := hn
  have hd1 : (pre ++ (encC ⟨p, ns, r⟩ ++ tail)).drop (pre.length + 1) = ns ++ ((if wlB p = true then r.length :: r else []) ++ tail) := by
    rw [← List.drop_drop, List.drop_left]
    show (ns ++ (if wlB p = true then r.length :: r else [])) ++ tail = _
    rw [List.append_assoc]
  have h1 := cut_q (L := pre ++ (encC ⟨p, ns, r⟩ ++ tail)) (M := ns) (a := pre.length + 1) (b := pre.length + 1 + ncN p) (by rw [hlen, hE]; omega) (by
    rw [hd1, show pre.length + 1 + ncN p - (pre.length + 1) = ns.length by omega, List.take_left]) (by omega)
  refine x_seq (x_asgE (e_ixQ (e_var rfl) (e_var rfl) (zN_at h0))) (x_seq (x_asgE (e_add (e_add (e_var rfl) (e_cN 1)) (e_ixC Z.ncT (e_var (x := .dat (nI p)) rfl) (nc_at p hp)))) (x_seq (x_asgE (e_is (e_new (en_slQ (e_var rfl) (eo_some (e_add (e_var rfl) (e_cN 1))) (eo_some (e_var rfl)))) h1)) ?_))
  refine x_ifR (b := !wlB p) (et_test (e_niC (n := (p : Int)) Z.wlT (e_var rfl))) (fun hb => ?_) fun hb => ?_
  · have hf : wlB p = false := by simpa using hb
    have hr0 : r = [] := hw hf
    subst hr0
    refine x_is (x_ret (e_tup (ds := [nI p, nL ns, nL [], nI (pre.length + 1 + ncN p)]) (ea_cons (e_var rfl) (ea_cons (e_var rfl) (ea_cons (e_new (en_lst (ds := []) ea_nil (Nat.zero_le _))) (ea_one (e_var rfl))))) (by show 4 ≤ 1000; decide))) ?_
    rw [hE, hf, if_neg Bool.false_ne_true, Nat.add_zero, Nat.add_assoc]
    rfl
  · have ht : wlB p = true := by simpa using hb
    rw [ht, if_pos rfl] at hE
    have hd2 : (pre ++ (encC ⟨p, ns, r⟩ ++ tail)).drop (pre.length + 1 + ncN p) = r.length :: (r ++ tail) := by
      rw [← List.drop_drop, hd1, ← hn', List.drop_left, ht, if_pos rfl]
      rfl
    have h2 : (pre ++ (encC ⟨p, ns, r⟩ ++ tail))[pre.length + 1 + ncN p]? = some r.length := by
      have e := congrArg (fun l => l[0]?) hd2
      rw [List.getElem?_drop] at e
      exact e
    have h3 := cut_q (L := pre ++ (encC ⟨p, ns, r⟩ ++ tail)) (M := r) (a := pre.length + 1 + ncN p + 1) (b := pre.length + 1 + ncN p + 1 + r.length) (by rw [hlen, hE]; omega) (by
      rw [← List.drop_drop, hd2, List.drop_one, List.tail_cons, show pre.length + 1 + ncN p + 1 + r.length - (pre.length + 1 + ncN p + 1) = r.length by omega, List.take_left]) (by omega)
    refine x_seq (x_asgE (e_add (e_add (e_var rfl) (e_cN 1)) (e_ixQ (e_var rfl) (e_var rfl) (zN_at h2)))) ?_
    refine x_is (x_ret (e_tup (ds := [nI p, nL ns, nL r, nI (pre.length + 1 + ncN p + 1 + r.length)]) (ea_cons (e_var rfl) (ea_cons (e_var rfl) (ea_cons (e_is (e_new (en_slQ (e_var rfl) (eo_some (e_add (e_var rfl) (e_cN 1))) (eo_some (e_var rfl)))) h3) (ea_one (e_var rfl))))) (by show 4 ≤ 1000; decide))) ?_
    rw [hE]
    have e : pre.length + 1 + ncN p + 1 + r.length = pre.length + (1 + ncN p + (1 + r.length)) := by omega
    rw [e]
end
section
variable {P : Program} {w : World} {K : PySem.W.Frag} {mg : Str → Option Value} {base : Heap} {C pw rd wl nc : Addr}
theorem d_f_read_call (T : Tx K C) (G : Bt mg) (Z : Cs K mg pw rd wl nc)  {f : Addr} (cdv : Value) (A : Around) (outer : List Env) (s : Shared) (H : Hp) (E : XK) (hr : Room 0 (A.deeper (envOfC "read_call" (defScope s_f_read_call) s.heap.objs.size f cdv))) :
    PSs (cxOf CX0 P w K mg base N_f_read_call "read_call" (defScope s_f_read_call) f cdv A outer s H E).nox (defBody s_f_read_call) (t_f_read_call K C wl nc) := by
  have nd := sc_f_read_call.nd
  exact (pss_cons (ps_set (i := 2) nd rfl (Or.inl rfl) (pe_ix ix_list (pv 0) (pv 1) (fun _ _ => rfl)))
    (pss_cons (ps_set (i := 3) nd rfl (Or.inl rfl) (pe_op op_add (pe_op op_add (pv 1) pe_int) (pe_ix ix_tup (pe_glob rfl Z.nc rfl) (pv 2) (fun _ _ => rfl))))
    (pss_cons (ps_set (i := 4) nd rfl (Or.inl rfl) (pe_slice sl_list (pv 0) (po_some (pe_op op_add (pv 1) pe_int)) (po_some (pv 3))))
    (pss_cons (ps_if (pt_cmpR op_notIn_seq (pv 2) (pe_glob rfl Z.wl rfl) (by with_unfolding_all rfl)) (pss_one (ps_ret (pe_tup (pa_cons (pv 2) (pa_cons (pv 4) (pa_cons (pe_lst pa_nil) (pa_cons (pv 3) pa_nil))))))) pss_nil)
    (pss_cons (ps_set (i := 5) nd rfl (Or.inl rfl) (pe_op op_add (pe_op op_add (pv 3) pe_int) (pe_ix ix_list (pv 0) (pv 3) (fun _ _ => rfl))))
    (pss_one (ps_ret (pe_tup (pa_cons (pv 2) (pa_cons (pv 4) (pa_cons (pe_slice sl_list (pv 0) (po_some (pe_op op_add (pv 3) pe_int)) (po_some (pv 5))) (pa_cons (pv 5) pa_nil))))))))))))
theorem ok_f_read_call (T : Tx K C) (G : Bt mg) (Z : Cs K mg pw rd wl nc)  {f : Addr} {fd : FuncData} (F : Fun K "read_call" "read_call" s_f_read_call f fd) : FnOk P w K mg base CX0 1 f fd ["calls", "at"] (sp_f_read_call K C) :=
  fn_okX F sc_f_read_call len_f_read_call (x_f_read_call T Z) (fun cdv A outer s H E hr => d_f_read_call T G Z  cdv A outer s H E hr)
end
end Gx
namespace Gx
open PySem PySem.Spec PyProof.Rows L2
/-! # One call answered -/
def stA : Nat → Mc → List Nat → List Nat → Mc × List Int
  | 1 => s_add_preference
  | 2 => s_set_full_domain
  | 3 => s_set_target_outcome
  | 4 => s_use_dictatorship
  | 5 => s_use_borda
  | 6 => fun m ns r => (m, a_target_outcome m ns r)
  | 7 => fun m ns r => (m, a_monotonicity_violation m ns r)
  | 8 => fun m ns r => (m, a_find_manipulation m ns r)
  | 9 => s_set_message_counts
  | 10 => s_set_mechanism_outcome
  | 11 => s_use_direct_mechanism
  | 12 => fun m ns r => (m, a_mechanism_outcome m ns r)
  | 13 => fun m ns r => (m, a_message_counts m ns r)
  | 14 => fun m ns r => (m, a_count_equilibria m ns r)
  | 15 => fun m ns r => (m, a_equilibrium m ns r)
  | 16 => fun m ns r => (m, a_equilibrium_outcomes m ns r)
  | 17 => fun m ns r => (m, a_implements_in_nash m ns r)
  | 18 => fun m ns r => (m, a_best_response_dynamics m ns r)
  | 19 => fun m ns r => (m, a_dominant_messages m ns r)
  | 20 => fun m ns r => (m, a_dominated_messages m ns r)
  | 21 => fun m ns r => (m, a_implements_in_dominant_strategies m ns r)
  | 22 => fun m ns r => (m, a_force m ns r)
  | 23 => fun m ns r => (m, a_respond m ns r)
  | 24 => fun m ns r => (m, a_describe m ns r)
  | _ => fun m _ _ => (m, [])
def rdI : List Int := [3, 4, 5, 6, 7, 8, 11, 14, 15, 16, 17, 18, 21]
def needs (p : Nat) : Bool := rdI.contains (p : Int)
def rdy (m : Mc) : Bool := !(sizesM m).contains 0
def ansM (p : Nat) (m : Mc) (ns r : List Nat) : Mc × List Int := if (needs p && !rdy m) = true then (m, [-16]) else stA p m ns r
def spDeed (C : Addr) (p : Nat) : Sp := spD C (PreK (ncN p)) (stA p)
section
variable {P : Program} {w : World} {K : PySem.W.Frag} {mg : Str → Option Value} {base : Heap} {C : Addr} {k : Nat} {f : Addr} {fd : FuncData}
theorem deed_add_preference (F : FnOk P w K mg base CX0 k f fd ["instance", "numbers", "row"] (sp_f_add_preference K C)) : FnOk P w K mg base CX0 k f fd ["instance", "numbers", "row"] (spDeed C 1) := F
theorem deed_set_full_domain (F : FnOk P w K mg base CX0 k f fd ["instance", "numbers", "row"] (sp_f_set_full_domain K C)) : FnOk P w K mg base CX0 k f fd ["instance", "numbers", "row"] (spDeed C 2) := F
theorem deed_set_target_outcome (F : FnOk P w K mg base CX0 k f fd ["instance", "numbers", "row"] (sp_f_set_target_outcome K C)) : FnOk P w K mg base CX0 k f fd ["instance", "numbers", "row"] (spDeed C 3) := F
theorem deed_use_dictatorship (F : FnOk P w K mg base CX0 k f fd ["instance", "numbers", "row"] (sp_f_use_dictatorship K C)) : FnOk P w K mg base CX0 k f fd ["instance", "numbers", "row"] (spDeed C 4) := F
theorem deed_use_borda (F : FnOk P w K mg base CX0 k f fd ["instance", "numbers", "row"] (sp_f_use_borda K C)) : FnOk P w K mg base CX0 k f fd ["instance", "numbers", "row"] (spDeed C 5) := F
theorem deed_target_outcome (F : FnOk P w K mg base CX0 k f fd ["instance", "numbers", "row"] (sp_f_target_outcome K C)) : FnOk P w K mg base CX0 k f fd ["instance", "numbers", "row"] (spDeed C 6) := deed_pure F (fun m ns r h => ⟨_, _, _, rfl, h.1, rfl⟩) (fun _ _ _ _ => rfl)
theorem deed_monotonicity_violation (F : FnOk P w K mg base CX0 k f fd ["instance", "numbers", "row"] (sp_f_monotonicity_violation K C)) : FnOk P w K mg base CX0 k f fd ["instance", "numbers", "row"] (spDeed C 7) := deed_pure F (fun m ns r h => ⟨_, _, _, rfl, h.1, rfl⟩) (fun _ _ _ _ => rfl)
theorem deed_find_manipulation (F : FnOk P w K mg base CX0 k f fd ["instance", "numbers", "row"] (sp_f_find_manipulation K C)) : FnOk P w K mg base CX0 k f fd ["instance", "numbers", "row"] (spDeed C 8) := deed_pure F (fun m ns r h => ⟨_, _, _, rfl, h.1, rfl⟩) (fun _ _ _ _ => rfl)
theorem deed_set_message_counts (F : FnOk P w K mg base CX0 k f fd ["instance", "numbers", "row"] (sp_f_set_message_counts K C)) : FnOk P w K mg base CX0 k f fd ["instance", "numbers", "row"] (spDeed C 9) := F
theorem deed_set_mechanism_outcome (F : FnOk P w K mg base CX0 k f fd ["instance", "numbers", "row"] (sp_f_set_mechanism_outcome K C)) : FnOk P w K mg base CX0 k f fd ["instance", "numbers", "row"] (spDeed C 10) := F
theorem deed_use_direct_mechanism (F : FnOk P w K mg base CX0 k f fd ["instance", "numbers", "row"] (sp_f_use_direct_mechanism K C)) : FnOk P w K mg base CX0 k f fd ["instance", "numbers", "row"] (spDeed C 11) := F
theorem deed_mechanism_outcome (F : FnOk P w K mg base CX0 k f fd ["instance", "numbers", "row"] (sp_f_mechanism_outcome K C)) : FnOk P w K mg base CX0 k f fd ["instance", "numbers", "row"] (spDeed C 12) := deed_pure F (fun m ns r h => ⟨_, _, _, rfl, h.1, rfl⟩) (fun _ _ _ _ => rfl)
theorem deed_message_counts (F : FnOk P w K mg base CX0 k f fd ["instance", "numbers", "row"] (sp_f_message_counts K C)) : FnOk P w K mg base CX0 k f fd ["instance", "numbers", "row"] (spDeed C 13) := deed_pure F (fun m ns r h => ⟨_, _, _, rfl, h.1, rfl⟩) (fun _ _ _ _ => rfl)
theorem deed_count_equilibria (F : FnOk P w K mg base CX0 k f fd ["instance", "numbers", "row"] (sp_f_count_equilibria K C)) : FnOk P w K mg base CX0 k f fd ["instance", "numbers", "row"] (spDeed C 14) := deed_pure F (fun m ns r h => ⟨_, _, _, rfl, h.1, rfl⟩) (fun _ _ _ _ => rfl)
theorem deed_equilibrium (F : FnOk P w K mg base CX0 k f fd ["instance", "numbers", "row"] (sp_f_equilibrium K C)) : FnOk P w K mg base CX0 k f fd ["instance", "numbers", "row"] (spDeed C 15) := deed_pure F (fun m ns r h => ⟨_, _, _, rfl, ⟨h.1, by rw [h.2.1] <;> exact Nat.le_refl 1⟩, rfl⟩) (fun _ _ _ _ => rfl)
theorem deed_equilibrium_outcomes (F : FnOk P w K mg base CX0 k f fd ["instance", "numbers", "row"] (sp_f_equilibrium_outcomes K C)) : FnOk P w K mg base CX0 k f fd ["instance", "numbers", "row"] (spDeed C 16) := deed_pure F (fun m ns r h => ⟨_, _, _, rfl, h.1, rfl⟩) (fun _ _ _ _ => rfl)
theorem deed_implements_in_nash (F : FnOk P w K mg base CX0 k f fd ["instance", "numbers", "row"] (sp_f_implements_in_nash K C)) : FnOk P w K mg base CX0 k f fd ["instance", "numbers", "row"] (spDeed C 17) := deed_pure F (fun m ns r h => ⟨_, _, _, rfl, h.1, rfl⟩) (fun _ _ _ _ => rfl)
theorem deed_best_response_dynamics (F : FnOk P w K mg base CX0 k f fd ["instance", "numbers", "row"] (sp_f_best_response_dynamics K C)) : FnOk P w K mg base CX0 k f fd ["instance", "numbers", "row"] (spDeed C 18) := deed_pure F (fun m ns r h => ⟨_, _, _, rfl, h.1, rfl⟩) (fun _ _ _ _ => rfl)
theorem deed_dominant_messages (F : FnOk P w K mg base CX0 k f fd ["instance", "numbers", "row"] (sp_f_dominant_messages K C)) : FnOk P w K mg base CX0 k f fd ["instance", "numbers", "row"] (spDeed C 19) := deed_pure F (fun m ns r h => ⟨_, _, _, rfl, ⟨h.1, h.2.1⟩, rfl⟩) (fun _ _ _ _ => rfl)
theorem deed_dominated_messages (F : FnOk P w K mg base CX0 k f fd ["instance", "numbers", "row"] (sp_f_dominated_messages K C)) : FnOk P w K mg base CX0 k f fd ["instance", "numbers", "row"] (spDeed C 20) := deed_pure F (fun m ns r h => ⟨_, _, _, rfl, ⟨h.1, h.2.1⟩, rfl⟩) (fun _ _ _ _ => rfl)
theorem deed_implements_in_dominant_strategies (F : FnOk P w K mg base CX0 k f fd ["instance", "numbers", "row"] (sp_f_implements_in_dominant_strategies K C)) : FnOk P w K mg base CX0 k f fd ["instance", "numbers", "row"] (spDeed C 21) := deed_pure F (fun m ns r h => ⟨_, _, _, rfl, h.1, rfl⟩) (fun _ _ _ _ => rfl)
theorem deed_force (F : FnOk P w K mg base CX0 k f fd ["instance", "numbers", "row"] (sp_f_force K C)) : FnOk P w K mg base CX0 k f fd ["instance", "numbers", "row"] (spDeed C 22) := deed_pure F (fun m ns r h => ⟨_, _, _, rfl, ⟨h.1, h.2.1⟩, rfl⟩) (fun _ _ _ _ => rfl)
theorem deed_respond (F : FnOk P w K mg base CX0 k f fd ["instance", "numbers", "row"] (sp_f_respond K C)) : FnOk P w K mg base CX0 k f fd ["instance", "numbers", "row"] (spDeed C 23) := deed_pure F (fun m ns r h => ⟨_, _, _, rfl, ⟨h.1, h.2.1⟩, rfl⟩) (fun _ _ _ _ => rfl)
theorem deed_describe (F : FnOk P w K mg base CX0 k f fd ["instance", "numbers", "row"] (sp_f_describe K C)) : FnOk P w K mg base CX0 k f fd ["instance", "numbers", "row"] (spDeed C 24) := deed_pure F (fun m ns r h => ⟨_, _, _, rfl, h.1, rfl⟩) (fun _ _ _ _ => rfl)
end
/-! ### DEEDS[place], and the call of what it holds -/
def rIxI (d : Addr) (tab : List (Int × Addr)) : R2 := fun x y H Q => ∃ z a, x = .ref d ∧ y = .int z ∧ tab.lookup z = some a ∧ Q (.ref a) H
theorem isInt_eq {z i : Int} {t : Tok} : Value.isInt z (.int i t) = (i == z) := rfl
theorem deeds_keys : ∀ {tab : List (Int × Addr)} {es : List DictEntry}, isDeeds tab es = true → ∀ e ∈ es, ∃ z t, e.key = .int z t ∧ e.hash = hashInt z
  | [], [], _, e, he => by cases he
  | [], _ :: _, h, _, _ => by cases h
  | _ :: _, [], h, _, _ => by cases h
  | (k, a) :: r, e :: s, h, e', he => by
    have h' : ((match e.key with | .int i _ => i == k | _ => false) && e.hash == hashInt k && (match e.val with | .ref b => a == b | _ => false) && isDeeds r s) = true := h
    rw [Bool.and_eq_true, Bool.and_eq_true, Bool.and_eq_true] at h'
    obtain ⟨⟨⟨h1, h2⟩, h3⟩, h4⟩ := h'
    rcases List.mem_cons.mp he with rfl | he
    · cases hk : e'.key with
      | int i t =>
        rw [hk] at h1
        rw [beq_iff_eq] at h1 h2
        exact ⟨i, t, rfl, by rw [h1]; exact h2⟩
      | _ => rw [hk] at h1; cases h1
    · exact deeds_keys h4 e' he
theorem deeds_find : ∀ {tab : List (Int × Addr)} {es : List DictEntry} {z : Int} {a : Addr}, isDeeds tab es = true → tab.lookup z = some a → (es.find? fun e => Value.isInt z e.key).map (·.val) = some (.ref a)
  | [], [], _, _, _, h => by cases h
  | [], _ :: _, _, _, h, _ => by cases h
  | _ :: _, [], _, _, h, _ => by cases h
  | (k, b) :: r, e :: s, z, a, h, hl => by
    have h' : ((match e.key with | .int i _ => i == k | _ => false) && e.hash == hashInt k && (match e.val with | .ref c => b == c | _ => false) && isDeeds r s) = true := h
    rw [Bool.and_eq_true, Bool.and_eq_true, Bool.and_eq_true] at h'
    obtain ⟨⟨⟨h1, h2⟩, h3⟩, h4⟩ := h'
    cases hk : e.key with
    | int i t =>
      rw [hk] at h1
      have h1' : i = k := beq_iff_eq.mp h1
      subst h1'
      cases hv : e.val with
      | ref c =>
        rw [hv] at h3
        have h3' : b = c := beq_iff_eq.mp h3
        subst h3'
        have e0 : Value.isInt z e.key = (i == z) := by rw [hk]; rfl
        by_cases q : i = z
        · subst q
          have e1 : Value.isInt i e.key = true := by rw [e0]; exact beq_self_eq_true i
          rw [List.find?_cons_of_pos (p := fun e : DictEntry => Value.isInt i e.key) e1, Option.map_some, hv]
          have e2 : List.lookup i ((i, b) :: r) = some b := by simp [List.lookup]
          rw [e2] at hl
          cases hl
          rfl
        · have e1 : ¬ Value.isInt z e.key = true := by rw [e0, beq_iff_eq]; exact q
          rw [List.find?_cons_of_neg (p := fun e : DictEntry => Value.isInt z e.key) e1]
          refine deeds_find h4 ?_
          have e2 : (z == i) = false := beq_eq_false_iff_ne.mpr fun e => q e.symm
          simpa [List.lookup, e2] using hl
      | _ => rw [hv] at h3; cases h3
    | _ => rw [hk] at h1; cases h1
theorem ix_deed {X : Cx} {d : Addr} {tab : List (Int × Addr)} (D : DdF X.K d tab) : IxR X (rIxI d tab) := by
  intro value slice pins s σ H x y v u Q I rx ry h hs
  obtain ⟨z, a, rfl, rfl, hl, q⟩ := h
  obtain ⟨_, es, n, l, hd⟩ := D
  obtain rfl : v = Value.ref d := rx
  obtain ⟨t, rfl⟩ := ry
  have hm : s.heap.MapOf (intKind X.prog X.w) d (fun k => findBy Value.isInt es k) := ⟨_, es, n, I.kIn _ _ l, ⟨rfl, rfl, rfl⟩, rfl, fun e he => by
    obtain ⟨z', t', e1, e2⟩ := deeds_keys hd e (Array.mem_toList_iff.mpr he)
    exact ⟨z', by rw [e1]; exact intKind_is X.prog X.w z' t', e2⟩, fun _ => rfl⟩
  have hf : findBy Value.isInt es z = some (.ref a) := by
    obtain ⟨es'⟩ := es
    unfold findBy
    rw [List.find?_toArray]
    exact deeds_find hd hl
  exact tail_any hm.typeIs slot_dict_getitem.lookup (wpAny_getItem_of (intKind_is X.prog X.w z t) hm hf ⟨.ref a, H, I.tok _, rfl, q⟩) hs
def tCallH (P : Program) (w : World) (K : PySem.W.Frag) (mg : Str → Option Value) (base : Heap) (j i : Nat) (t : TA) : TE := fun σ H Q => ∃ k f sp, k ≤ j ∧ σ[i]? = some (some (.ref f)) ∧ Held P w K mg base k f sp ∧ t σ H fun vs H1 => sp vs H1 Q (fun _ _ _ => False)
theorem pe_callH {X : Cx} {j i : Nat} {x : Str} {p pos : Pos} {e : Expr} {es : List Expr} {t : TA} (hr : Room j X.A) (hN : X.N[i]? = some x) (hv : Vis X.env.scope x) (ha : PA X (e :: es) t)
    (hdb : (x == ("__debug__" : Str)) = false := by decide) (hcd : (x == ("__classdict__" : Str)) = false := by decide)
    (he : starEach (e :: es) X.env = (false, eval e X.env) :: starEach es X.env := by rfl) (hpl : (backTo pos (starEach es X.env)).any (·.1) = false := by rfl) : PE X (.Call (.Name x p) (e :: es) [] pos) (tCallH X.prog X.w X.K X.mg X.base j i t) := by
  refine ⟨fun pins s σ H Q I h => ?_⟩
  obtain ⟨k, f, sp, hk, hs, hH, ht⟩ := h
  exact (pe_callA (k := k) (i := i) (S := fun a => if a = f then some sp else none) (fun f' sp' e => by
    split at e
    · rename_i q
      cases e
      rw [q]
      exact hH
    · cases e) (hr.mono hk) hN hv ha hdb hcd he hpl).run pins s σ H Q I ⟨f, sp, hs, if_pos rfl, ht⟩
/-! ### answer -/
def spA (C : Addr) : Sp := fun vs H Q _ => ∃ (S : Hp) (vi vn vr : V) (p : Nat) (ns r : List Nat), vs = [vi, .int p, vn, vr] ∧ Same S H ∧ Rp S vn (nL ns) ∧ Rp S vr (nL r) ∧ (1 ≤ p ∧ p < 25) ∧ ns.length = ncN p ∧ r.length ≤ 8 ∧
  ((vi = .non ∧ ∀ v S' H', Gr S H S' H' → Rp S' v (iL [-11]) → Q v H') ∨
   (∃ (a dx pd pt pm pk : Addr) (rs : List V) (m : Mc), vi = .ref a ∧ InsAt C S H a m dx pd pt pm pk rs ∧ Wf m ∧ ∀ v S' H' pt' pm' pk' rs', GrM S H S' H' a pd → Rp S' v (iL (ansM p m ns r).2) → InsAt C S' H' a (ansM p m ns r).1 dx pd pt' pm' pk' rs' → Q v H'))
abbrev sp_f_answer (K : PySem.W.Frag) (C : Addr) : Sp := spA C
/-- 0 instance, 1 place, 2 numbers, 3 row, 4 deed -/
def t_f_answer (P : Program) (w : World) (K : PySem.W.Frag) (mg : Str → Option Value) (base : Heap) (C rd d : Addr) (tab : List (Int × Addr)) : TS :=
    (tSeq (tIfS (tTest (tOp rIsN (tVar 0) (tC .non))) (tRet (tLst (tCons (tC (.int (-11))) tNil))) tNext)
    (tSeq (tIfS (tAnd (tTest (tOp (rIn K false) (tVar 1) (tC (.ref rd)))) (tNot (tB (tMeth C "is_ready" (sp_m_is_ready K C) [] E0 (tVar 0) tNil)))) (tRet (tLst (tCons (tC (.int (-16))) tNil))) tNext)
    (tSeq (tAsg (tOp (rIxI d tab) (tC (.ref d)) (tVar 1)) (gName 4))
    (tRet (tCallH P w K mg base 8 4 (tCons (tVar 0) (tCons (tVar 2) (tCons (tVar 3) tNil))))))))
section
variable {P : Program} {w : World} {K : PySem.W.Frag} {mg : Str → Option Value} {base : Heap} {C pw rd wl nc d : Addr} {tab : List (Int × Addr)}
theorem d_f_answer (T : Tx K C) (G : Bt mg) (Z : Cs K mg pw rd wl nc) (hd : mg "DEEDS" = some (.ref d)) (D : DdF K d tab) (M_is_ready : Mt P w K mg base C 2 "is_ready" ["self"] (sp_m_is_ready K C)) {f : Addr} (cdv : Value) (A : Around) (outer : List Env) (s : Shared) (H : Hp) (E : XK) (hr : Room 8 (A.deeper (envOfC "answer" (defScope s_f_answer) s.heap.objs.size f cdv))) :
    PSs (cxOf CX0 P w K mg base N_f_answer "answer" (defScope s_f_answer) f cdv A outer s H E).nox (defBody s_f_answer) (t_f_answer P w K mg base C rd d tab) := by
  have nd := sc_f_answer.nd
  exact (pss_cons (ps_if (pt_cmpR op_isN (pv 0) pe_non (nomark _)) (pss_one (ps_ret (pe_lst (pa_cons (pe_gI Z.i_NO_INSTANCE) pa_nil)))) pss_nil)
    (pss_cons (ps_if (PW.pt (pw_and (pt_cmpR op_in_seq (pv 1) (pe_glob rfl Z.rd rfl) (by with_unfolding_all rfl)) (pw_and1 (pt_not (pt_val (pe_mt0 (pv 0) T.cl M_is_ready (hr.mono (by decide)))))))) (pss_one (ps_ret (pe_lst (pa_cons (pe_gI Z.i_NOT_READY) pa_nil)))) pss_nil)
    (pss_cons (ps_set (i := 4) nd rfl (Or.inl rfl) (pe_ix (ix_deed D) (pe_glob rfl hd rfl) (pv 1) (fun _ _ => rfl)))
    (pss_one (ps_ret (pe_callH (i := 4) hr rfl (Or.inl rfl) (pa_cons (pv 0) (pa_cons (pv 2) (pa_cons (pv 3) pa_nil)))))))))
theorem x_f_answer (T : Tx K C) (Z : Cs K mg pw rd wl nc) (hD : ∀ p : Nat, 1 ≤ p → p < 25 → ∃ k f, k ≤ 8 ∧ tab.lookup (p : Int) = some f ∧ Held P w K mg base k f (spDeed C p)) {H : Hp} {vs : List V} {Q : VK} {E : XK} (h : spA C vs H Q E) :
    t_f_answer P w K mg base C rd d tab { nx := fun _ H' => Q .non H', rt := Q } (L2.start N_f_answer vs) H := by
  obtain ⟨S, vi, vn, vr, p, ns, r, rfl, hs, r2, r3, hp, hn, hr, h⟩ := h
  show t_f_answer P w K mg base C rd d tab { nx := fun _ H' => Q .non H', rt := Q } [some vi, some (.int p), some vn, some vr, none] H
  rcases h with ⟨rfl, q⟩ | ⟨a, dx, pd, pt, pm, pk, rs, m, rfl, i, W, q⟩
  · have en := env_start (K := K) (C := C) (B := H) (S := S) (I := noH) (H := H) (N := N_f_answer) (vs := [.non, .int p, vn, vr]) (xs := [.any, .dat (nI p), .dat (nL ns), .dat (nL r)]) (.cons trivial (.cons (.int _) (.cons r2 (.cons r3 .nil)))) 1
    refine ⟨.non, rfl, rfl, true, rfl, ?_⟩
    refine iteT ?_
    exact e_l1 (K := K) (C := C) (z := -11) e_cI H S noH H _ hs noH_same en _ fun v S1 H1 g1 r1 => q v S1 H1 g1 r1
  · refine ⟨.ref a, rfl, rfl, false, rfl, ?_⟩
    refine iteF ?_
    have en := env_start (K := K) (C := C) (B := H) (S := S) (I := reg H a pd) (H := H) (N := N_f_answer) (vs := [.ref a, .int p, vn, vr]) (xs := [.ins m, .dat (nI p), .dat (nL ns), .dat (nL r)]) (.cons ⟨a, dx, pd, pt, pm, pk, rs, rfl, i.reg⟩ (.cons (.int _) (.cons r2 (.cons r3 .nil)))) 1
    have ht : ET K C (tAnd (tTest (tOp (rIn K false) (tVar 1) (tC (.ref rd)))) (tNot (tB (tMeth C "is_ready" (sp_m_is_ready K C) [] E0 (tVar 0) tNil)))) [.ins m, .dat (nI p), .dat (nL ns), .dat (nL r), .any] (needs p && !rdy m) :=
      et_and (et_test (e_inC (n := (p : Int)) Z.rdT (e_var rfl))) fun _ => et_not (et_B (e_meth (fun _ _ _ _ => fl_no (by decide +kernel)) (e_var rfl) ea_nil ⟨_, rfl, by rw [W.dl]; have := W.a3; omega, rfl⟩))
    refine ht H S (reg H a pd) H _ hs (reg_same _ _ _) en _ fun S1 H1 g1 => ?_
    have en1 := en.up g1 (reg_same _ _ _)
    by_cases hb : (needs p && !rdy m) = true
    · rw [if_pos hb]
      have e : ansM p m ns r = (m, [-16]) := if_pos hb
      rw [e] at q
      refine e_l1 (K := K) (C := C) (z := -16) e_cI H S1 (reg H a pd) H1 _ g1.sub ((reg_same _ _ _).trans g1.h) en1 _ fun v S2 H2 g2 r4 => ?_
      exact q v S2 H2 pt pm pk rs (GrM.of (g1.trans g2)) r4 (i.up (g1.trans g2))
    · rw [if_neg hb]
      have e : ansM p m ns r = stA p m ns r := if_neg hb
      rw [e] at q
      obtain ⟨k, f, hk, hl, hH⟩ := hD p hp.1 hp.2
      refine ⟨.int p, rfl, (p : Int), f, rfl, rfl, hl, k, f, spDeed C p, hk, rfl, hH, _, rfl, _, rfl, _, rfl, ?_⟩
      exact ⟨S1, a, dx, pd, pt, pm, pk, rs, vn, vr, m, ns, r, rfl, g1.sub, i.up g1, r2.up g1.s, r3.up g1.s, ⟨W, hn, hr⟩, fun v S' H' pt' pm' pk' rs' gm rv j => q v S' H' pt' pm' pk' rs' ((GrM.of g1).trans gm) rv j⟩
theorem ok_f_answer (T : Tx K C) (G : Bt mg) (Z : Cs K mg pw rd wl nc) (hd : mg "DEEDS" = some (.ref d)) (D : DdF K d tab) (M_is_ready : Mt P w K mg base C 2 "is_ready" ["self"] (sp_m_is_ready K C)) (hD : ∀ p : Nat, 1 ≤ p → p < 25 → ∃ k f, k ≤ 8 ∧ tab.lookup (p : Int) = some f ∧ Held P w K mg base k f (spDeed C p)) {f : Addr} {fd : FuncData} (F : Fun K "answer" "answer" s_f_answer f fd) :
    FnOk P w K mg base CX0 9 f fd ["instance", "place", "numbers", "row"] (spA C) :=
  F.ok sc_f_answer (fun vs H Q E h => by
    obtain ⟨S, vi, vn, vr, p, ns, r, rfl, _⟩ := h
    rfl) fun cdv A outer s H vs Q E hr h => ⟨_, d_f_answer T G Z hd D M_is_ready cdv A outer s H E hr, x_f_answer T Z hD h⟩
end
end Gx
/-! # Each step keeps the instance well-formed -/
namespace Gx
open PySem PySem.Spec PyProof.Rows L2
section
variable {m : Mc}
theorem all_lenE (ss : List Nat) : (allLists ss).length = prodL ss := by rw [allLists_eq, enum_len]
theorem rk_of {c : Nat} {r : List Nat} (h : isRk c r = true) : RkOk c r := by
  have p : r.Perm (List.range c) := of_decide_eq_true h
  exact ⟨by rw [p.length_eq, List.length_range], p.nodup_iff.mpr List.nodup_range, fun x hx => List.mem_range.mp (p.mem_iff.mp hx)⟩
theorem allRk_ok {c : Nat} : ∀ r ∈ allRk c, RkOk c r := fun r h => rk_of (List.mem_filter.mp h).2
theorem Wf.newDom (W : Wf m) {i : Nat} {rk : List (List Nat)} (h6 : rk.length ≤ 6) (hr : ∀ r ∈ rk, RkOk m.target.alternativeCount r) : Wf (newDom m i rk) where
  a1 := W.a1
  a3 := W.a3
  v2 := W.v2
  v4 := W.v4
  dl := by
    show (m.target.domains.set i rk).length = _
    rw [List.length_set]
    exact W.dl
  d6 := fun l h => by
    rcases List.mem_or_eq_of_mem_set h with h | rfl
    · exact W.d6 l h
    · exact h6
  dr := fun l h => by
    rcases List.mem_or_eq_of_mem_set h with h | rfl
    · exact W.dr l h
    · exact hr
  ml := W.ml
  m6 := W.m6
  ol := W.ol
  ov := W.ov
  tl := List.length_replicate ..
  tv := fun x h => by
    have h' := (List.mem_replicate.mp h).2
    have := W.v2
    show x < m.target.alternativeCount
    omega
theorem Wf.newTgt (W : Wf m) {l : List Nat} (h1 : l.length = prodL (sizesM m)) (h2 : ∀ x ∈ l, x < m.target.alternativeCount) : Wf (newTgt m l) where
  a1 := W.a1
  a3 := W.a3
  v2 := W.v2
  v4 := W.v4
  dl := W.dl
  d6 := W.d6
  dr := W.dr
  ml := W.ml
  m6 := W.m6
  ol := W.ol
  ov := W.ov
  tl := h1
  tv := h2
theorem Wf.newMech (W : Wf m) {c o : List Nat} (h1 : c.length = m.target.agentCount) (h2 : ∀ k ∈ c, 1 ≤ k ∧ k ≤ 6) (h3 : o.length = prodL c) (h4 : ∀ x ∈ o, x < m.target.alternativeCount) : Wf { m with messageCounts := c, outcomes := o } where
  a1 := W.a1
  a3 := W.a3
  v2 := W.v2
  v4 := W.v4
  dl := W.dl
  d6 := W.d6
  dr := W.dr
  ml := h1
  m6 := h2
  ol := h3
  ov := h4
  tl := W.tl
  tv := W.tv
theorem bordaW_lt (W : Wf m) (p : List Nat) : bordaW m p < m.target.alternativeCount := by
  have hl := scores_len m p
  have hn : scores m p ≠ [] := fun e => by
    rw [e] at hl
    have := W.v2
    simp at hl
    omega
  have h := List.idxOf_lt_length_of_mem (max_in hn)
  rw [hl] at h
  exact h
theorem wf_create {n k : Nat} (h : (1 ≤ n ∧ n ≤ 3) ∧ (2 ≤ k ∧ k ≤ 4)) : Wf (Su194.create n k) where
  a1 := h.1.1
  a3 := h.1.2
  v2 := h.2.1
  v4 := h.2.2
  dl := List.length_replicate ..
  d6 := fun l hl => by rw [(List.mem_replicate.mp hl).2]; exact Nat.zero_le _
  dr := fun l hl r hr => by rw [(List.mem_replicate.mp hl).2] at hr; cases hr
  ml := List.length_replicate ..
  m6 := fun x hx => by rw [(List.mem_replicate.mp hx).2]; omega
  ol := by
    show 1 = prodL (List.replicate n 1)
    have e : n = 1 ∨ n = 2 ∨ n = 3 := by omega
    rcases e with rfl | rfl | rfl <;> rfl
  ov := fun x hx => by
    have : x = 0 := List.mem_singleton.mp hx
    show x < k
    omega
  tl := by
    show 0 = prodL ((List.replicate n ([] : List (List Nat))).map List.length)
    have e : n = 1 ∨ n = 2 ∨ n = 3 := by omega
    rcases e with rfl | rfl | rfl <;> rfl
  tv := fun x hx => by cases hx
theorem set_lt {l : List Nat} {i n b : Nat} (h : ∀ x ∈ l, x < b) (hn : n < b) : ∀ x ∈ l.set i n, x < b := fun x hx => by
  rcases List.mem_or_eq_of_mem_set hx with hx | rfl
  · exact h x hx
  · exact hn
theorem rdy_pos (h : rdy m = true) : ∀ k ∈ sizesM m, 1 ≤ k := fun k hk => by
  unfold rdy at h
  rw [Bool.not_eq_true', ← Bool.not_eq_true, List.contains_iff_mem] at h
  cases k with
  | zero => exact absurd hk h
  | succ k => omega
/-- the step keeps it -/
theorem wf_step (W : Wf m) {p : Nat} {ns r : List Nat} (hb : (needs p && !rdy m) = false) : Wf (stA p m ns r).1 := by
  unfold stA
  split
  · unfold s_add_preference
    split
    · exact W
    · rename_i h1
      split
      · exact W
      · rename_i h2
        split
        · exact W
        · split
          · exact W
          · rename_i h4
            refine W.newDom (by rw [List.length_append]; show _ + 1 ≤ 6; omega) fun x hx => ?_
            rcases List.mem_append.mp hx with hx | hx
            · exact W.dom_rk (by omega) hx
            · rw [List.mem_singleton.mp hx]
              exact rk_of (by simpa using h2)
  · unfold s_set_full_domain
    split
    · exact W
    · split
      · exact W
      · rename_i h2
        exact W.newDom (allRk_len _ W.v2 W.v4 h2) allRk_ok
  · unfold s_set_target_outcome
    split
    · exact W
    · rename_i h1
      exact W.newTgt (by rw [List.length_set]; exact W.tl) (set_lt W.tv (by
        have : ¬ m.target.alternativeCount ≤ ns.headD 0 := fun h => h1 (.inl h)
        omega))
  · unfold s_use_dictatorship
    split
    · exact W
    · rename_i h1
      refine W.newTgt (by unfold dictL; rw [List.length_map, all_lenE]) fun x hx => ?_
      obtain ⟨q, hq, rfl⟩ := List.mem_map.mp hx
      have hr := W.prf_rk (i := ns.headD 0) (by omega) (mem_all.mp hq)
      have := W.v2
      exact hr.2.2 _ (getD_mem (by rw [hr.1]; omega))
  · unfold s_use_borda
    refine W.newTgt (by unfold bordaL; rw [List.length_map, all_lenE]) fun x hx => ?_
    obtain ⟨q, hq, rfl⟩ := List.mem_map.mp hx
    exact bordaW_lt W q
  · exact W
  · exact W
  · exact W
  · unfold s_set_message_counts
    split
    · exact W
    · rename_i h1
      have hw : r.all (fun k => decide (1 ≤ k) && decide (k ≤ 6)) = true := by
        cases h : r.all (fun k => decide (1 ≤ k) && decide (k ≤ 6)) with
        | true => rfl
        | false => exact absurd (.inr h) h1
      refine W.newMech (Classical.not_not.mp fun h => h1 (.inl h)) (fun k hk => ?_) (List.length_replicate ..) fun x hx => ?_
      · have := List.all_eq_true.mp hw k hk
        rw [Bool.and_eq_true, decide_eq_true_iff, decide_eq_true_iff] at this
        exact this
      · have := (List.mem_replicate.mp hx).2
        have := W.v2
        omega
  · unfold s_set_mechanism_outcome
    split
    · exact W
    · rename_i h1
      exact W.newMech (c := m.messageCounts) W.ml W.m6 (by rw [List.length_set]; exact W.ol) (set_lt W.ov (by
        have : ¬ m.target.alternativeCount ≤ ns.headD 0 := fun h => h1 (.inl h)
        omega))
  · unfold s_use_direct_mechanism
    have hr : rdy m = true := by
      cases h : rdy m with
      | true => rfl
      | false =>
        rw [h] at hb
        have e : needs 11 = true := by decide +kernel
        rw [e] at hb
        cases hb
    exact W.newMech W.szl (fun k hk => ⟨rdy_pos hr k hk, W.sz6 k hk⟩) W.tl W.tv
  all_goals exact W
theorem wf_ansM (W : Wf m) {p : Nat} {ns r : List Nat} : Wf (ansM p m ns r).1 := by
  unfold ansM
  split
  · exact W
  · rename_i h
    exact wf_step W (by simpa using h)
end
end Gx
namespace Gx
open PySem PySem.Spec PyProof.Rows L2
/-! # All calls answered -/
def stepC (s : Option Mc) (c : Cl) : Option Mc × List Int :=
  if c.p = 0 then (if (1 ≤ c.ns.getD 0 0 ∧ c.ns.getD 0 0 ≤ 3) ∧ (2 ≤ c.ns.getD 1 0 ∧ c.ns.getD 1 0 ≤ 4) then (some (Su194.create (c.ns.getD 0 0) (c.ns.getD 1 0)), [0]) else (s, [-22]))
  else match s with
    | none => (none, [-11])
    | some m => (some (ansM c.p m c.ns c.r).1, (ansM c.p m c.ns c.r).2)
def runC : Option Mc → List Cl → List Int
  | _, [] => []
  | s, c :: r => (((stepC s c).2.length : Int) :: (stepC s c).2) ++ runC (stepC s c).1 r
def flatC (cs : List Cl) : List Nat := cs.flatMap encC
/-- the promise of answers -/
def spAns (K : PySem.W.Frag) : Sp := fun vs H Q _ => ∃ (c : Addr) (cs : List Cl), vs = [.ref c] ∧ SqL K H c ((zN (flatC cs)).map V.int) ∧ (∀ x ∈ cs, OkC x) ∧ (runC none cs).length ≤ 10000000 ∧
  ∀ H' p, H' p = some (.lst ((runC none cs).map V.int)) → Q (.ref p) H'
/-! ### readings (printed by gen.py) -/
abbrev sp_f_answers (K : PySem.W.Frag) (C : Addr) : Sp := spAns K
/-- 0 calls, 1 found, 2 instance, 3 at, 4 place, 5 numbers, 6 row, 7 made, 8 told -/
def t_f_answers (K : PySem.W.Frag) (C : Addr) : TS :=
    (tSeq (tPar3 1 2 3 (tCons (tLst tNil) (tCons (tC .non) (tCons (tC (.int 0)) tNil))))
    (tSeq (tWhile (tTest (tOp rLtI (tVar 3) (tCB (rLenS K) (tCons (tVar 0) tNil)))) (tSeq (tAsg (tCall (sp_f_read_call K C) [] E0 (tCons (tVar 0) (tCons (tVar 3) tNil))) (gTup K 4 (gCons (gName 4) (gCons (gName 5) (gCons (gName 6) (gCons (gName 3) gNil))))))
    (tSeq (tIfS (tTest (tOp rEq (tVar 4) (tC (.int (0))))) (tSeq (tAsg (tCall (sp_f_created K C) [] E0 (tCons (tOp (rIxL K) (tVar 5) (tC (.int 0))) (tCons (tOp (rIxL K) (tVar 5) (tC (.int 1))) tNil))) (gName 7))
    (tSeq (tAsg (tIf (tTest (tOp rIsN (tVar 7) (tC .non))) (tLst (tCons (tC (.int (-22))) tNil)) (tLst (tCons (tC (.int 0)) tNil))) (gName 8))
    (tAsg (tIf (tTest (tOp rIsN (tVar 7) (tC .non))) (tVar 2) (tVar 7)) (gName 2)))) (tAsg (tCall (sp_f_answer K C) [] E0 (tCons (tVar 2) (tCons (tVar 4) (tCons (tVar 5) (tCons (tVar 6) tNil))))) (gName 8)))
    (tSeq (tDrop (tBM K "list" rAppend (tVar 1) (tCons (tCB (rLenS K) (tCons (tVar 8) tNil)) tNil)))
    (tDrop (tBM K "list" rExtend (tVar 1) (tCons (tVar 8) tNil)))))))
    (tRet (tVar 1))))
section
variable {K : PySem.W.Frag} {C : Addr}
theorem env_nil {B S I H : Hp} : EnvR K C B S I H [] [] := ⟨rfl, fun i x h => by simp at h⟩
theorem env_any {B S I H : Hp} {σ : L2.St} {ρ : List Sl} (x : Option V) (en : EnvR K C B S I H σ ρ) : EnvR K C B S I H (x :: σ) (.any :: ρ) :=
  ⟨congrArg (· + 1) en.len, fun i y h => by
    cases i with
    | zero => exact .inl (Option.some.inj h).symm
    | succ i => exact en.at_ i y h⟩
theorem env_val {B S I H : Hp} {σ : L2.St} {ρ : List Sl} {v : V} {x : Sl} (h : SlR K C B S I H v x) (en : EnvR K C B S I H σ ρ) : EnvR K C B S I H (some v :: σ) (x :: ρ) :=
  ⟨congrArg (· + 1) en.len, fun i y hy => by
    cases i with
    | zero =>
      have e := Option.some.inj hy
      subst e
      exact .inr ⟨v, rfl, h⟩
    | succ i => exact en.at_ i y hy⟩
/-- the instance, if there is one, beside one's own list -/
def InsO (C : Addr) (S H : Hp) (vi : V) (pf : Addr) : Option Mc → Prop
  | none => vi = .non
  | some m => ∃ (a dx pd pt pm pk : Addr) (rs : List V), vi = .ref a ∧ InsAt C S H a m dx pd pt pm pk rs ∧ Wf m ∧ a ≠ pf ∧ pd ≠ pf
theorem InsO.up {S H S' H' : Hp} {vi : V} {pf : Addr} (g : Gr S H S' H') : ∀ {s : Option Mc}, InsO C S H vi pf s → InsO C S' H' vi pf s
  | none, h => h
  | some _, ⟨a, dx, pd, pt, pm, pk, rs, e, i, W, h1, h2⟩ => ⟨a, dx, pd, pt, pm, pk, rs, e, i.up g, W, h1, h2⟩
/-- what stands at each turn -/
structure Turn (K : PySem.W.Frag) (C : Addr) (c pf : Addr) (L acc : List Int) (s : Option Mc) (S H : Hp) (vi : V) : Prop where
  sub : Same S H
  cal : SqL K S c (L.map V.int)
  own : H pf = some (.lst (acc.map V.int))
  sn : S pf = none
  ins : InsO C S H vi pf s
theorem Turn.up {c pf : Addr} {L acc : List Int} {s : Option Mc} {S H S' H' : Hp} {vi : V} (t : Turn K C c pf L acc s S H vi) (g : Gr S H S' H') : Turn K C c pf L acc s S' H' vi :=
  ⟨g.sub, Same.seq g.s t.cal, g.h _ _ t.own, g.keepNone t.sn t.own, t.ins.up g⟩
/-- one's own list grows -/
theorem Turn.put {c pf : Addr} {L acc acc' : List Int} {s : Option Mc} {S H : Hp} {vi : V} (t : Turn K C c pf L acc s S H vi) : Turn K C c pf L acc' s S (upd H pf (.lst (acc'.map V.int))) vi := by
  refine ⟨fun b o hb => by rw [upd_ne (ne_of_none hb t.sn)]; exact t.sub b o hb, t.cal, upd_same, t.sn, ?_⟩
  cases s with
  | none => exact t.ins
  | some m =>
    obtain ⟨a, dx, pd, pt, pm, pk, rs, e, i, W, h1, h2⟩ := t.ins
    exact ⟨a, dx, pd, pt, pm, pk, rs, e, ⟨(upd_ne h1).trans i.at_, i.sa, (upd_ne h2).trans i.pd_, i.spd, i.dom, i.tg, i.mc, i.me⟩, W, h1, h2⟩
/-- the instance changes -/
theorem Turn.mut {c pf : Addr} {L acc : List Int} {m1 : Mc} {S H S' H' : Hp} {a dx pd pt pm pk : Addr} {rs : List V} {s : Option Mc} {vi : V} (t : Turn K C c pf L acc s S H vi) (h1 : a ≠ pf) (h2 : pd ≠ pf) (g : GrM S H S' H' a pd) (i : InsAt C S' H' a m1 dx pd pt pm pk rs) (W : Wf m1) : Turn K C c pf L acc (some m1) S' H' (.ref a) := by
  refine ⟨g.sub, Same.seq g.s t.cal, g.keep _ _ t.own (fun e => h1 e.symm) (fun e => h2 e.symm), ?_, a, dx, pd, pt, pm, pk, rs, rfl, i, W, h1, h2⟩
  cases e : S' pf with
  | none => rfl
  | some o =>
    have := g.fr pf o e t.sn
    rw [t.own] at this
    cases this
/-- behind told: append its length, extend by it -/
theorem x_told {c pf : Addr} {L acc out : List Int} {s : Option Mc} {S H : Hp} {vi v3 vt : V} {x4 x5 x6 x7 : Option V} {D : Ends} (t : Turn K C c pf L acc s S H vi) (hv : Rp S vt (iL out)) (hl : acc.length + 1 + out.length ≤ 10000000)
    (q : ∀ S' H', Turn K C c pf L (acc ++ ((out.length : Int) :: out)) s S' H' vi → D.nx [some (.ref c), some (.ref pf), some vi, some v3, x4, x5, x6, x7, some vt] H') :
    tSeq (tDrop (tBM K "list" rAppend (tVar 1) (tCons (tCB (rLenS K) (tCons (tVar 8) tNil)) tNil))) (tDrop (tBM K "list" rExtend (tVar 1) (tCons (tVar 8) tNil))) D [some (.ref c), some (.ref pf), some vi, some v3, x4, x5, x6, x7, some vt] H := by
  have en : EnvR K C H S noH H [some (.ref c), some (.ref pf), some vi, some v3, x4, x5, x6, x7, some vt] [.any, .any, .any, .any, .any, .any, .any, .any, .dat (iL out)] := env_any _ (env_any _ (env_any _ (env_any _ (env_any _ (env_any _ (env_any _ (env_any _ (env_val hv env_nil))))))))
  refine ⟨.ref pf, rfl, .inl ⟨rfl, _, SqL.of t.own⟩, ?_⟩
  refine ea_one (e_is (e_len (K := K) (C := C) (e_var (i := 8) rfl)) (by rw [List.length_map] : nI (out.map PyData.int).length = nI out.length)) H S noH H _ t.sub noH_same en _ fun vs S1 H1 g1 s1 => ?_
  cases s1 with
  | cons r1 r2 =>
    cases r2
    cases r1
    have t1 := t.up g1
    refine ⟨pf, acc.map V.int, .int (out.length : Int), rfl, rfl, t1.own, by rw [List.length_map]; exact szl (by omega), ?_⟩
    have e1 : acc.map V.int ++ [V.int (out.length : Int)] = (acc ++ [(out.length : Int)]).map V.int := by rw [List.map_append]; rfl
    rw [e1]
    have t2 := t1.put (acc' := acc ++ [(out.length : Int)])
    have hv2 : Rp S1 vt (iL out) := Rp.up (d := iL out) g1.s hv
    cases hv2 with
    | lst h1 h2 =>
      obtain rfl := h2.ints
      refine ⟨.ref pf, rfl, .inl ⟨rfl, _, SqL.of t2.own⟩, _, rfl, pf, _, (acc ++ [(out.length : Int)]).map V.int, out.map V.int, rfl, rfl, t2.own, t2.sub _ _ h1, ?_, ?_⟩
      · rw [List.length_map, List.length_map, List.length_append]
        exact sz (by show acc.length + 1 + out.length ≤ _; omega)
      · have e2 : (acc ++ [(out.length : Int)]).map V.int ++ out.map V.int = (acc ++ ((out.length : Int) :: out)).map V.int := by
          rw [← List.map_append, List.append_assoc]
          rfl
        rw [e2]
        exact q S1 _ t2.put
/-- the middle: how the call is answered -/
theorem x_mid {c pf : Addr} {L acc : List Int} {s : Option Mc} {S H : Hp} {vi v3 vn vr : V} {x7 x8 : Option V} {D : Ends} {cl : Cl} (T : Tx K C) (t : Turn K C c pf L acc s S H vi) (hn : Rp S vn (nL cl.ns)) (hr : Rp S vr (nL cl.r)) (ok : OkC cl)
    (q : ∀ S' H' vi' vt y7, Turn K C c pf L acc (stepC s cl).1 S' H' vi' → Rp S' vt (iL (stepC s cl).2) → D.nx [some (.ref c), some (.ref pf), some vi', some v3, some (.int cl.p), some vn, some vr, y7, some vt] H') :
    tIfS (tTest (tOp rEq (tVar 4) (tC (.int (0))))) (tSeq (tAsg (tCall (sp_f_created K C) [] E0 (tCons (tOp (rIxL K) (tVar 5) (tC (.int 0))) (tCons (tOp (rIxL K) (tVar 5) (tC (.int 1))) tNil))) (gName 7))
      (tSeq (tAsg (tIf (tTest (tOp rIsN (tVar 7) (tC .non))) (tLst (tCons (tC (.int (-22))) tNil)) (tLst (tCons (tC (.int 0)) tNil))) (gName 8))
      (tAsg (tIf (tTest (tOp rIsN (tVar 7) (tC .non))) (tVar 2) (tVar 7)) (gName 2)))) (tAsg (tCall (sp_f_answer K C) [] E0 (tCons (tVar 2) (tCons (tVar 4) (tCons (tVar 5) (tCons (tVar 6) tNil))))) (gName 8))
      D [some (.ref c), some (.ref pf), some vi, some v3, some (.int cl.p), some vn, some vr, x7, x8] H := by
  have en : EnvR K C H S noH H [some (.ref c), some (.ref pf), some vi, some v3, some (.int cl.p), some vn, some vr, x7, x8] [.any, .any, .any, .any, .dat (nI cl.p), .dat (nL cl.ns), .dat (nL cl.r), .any, .any] :=
    env_any _ (env_any _ (env_any _ (env_any _ (env_val (.int _) (env_val hn (env_val hr (env_any _ (env_any _ env_nil))))))))
  refine et_test (e_eq (K := K) (C := C) (e_var (i := 4) rfl) (e_cN 0)) H S noH H _ t.sub noH_same en _ fun S1 H1 g1 => ?_
  have t1 := t.up g1
  have en1 := en.up g1 noH_same
  by_cases hp : cl.p = 0
  · rw [if_pos (beq_iff_eq.mpr hp)]
    have hn2 : cl.ns.length = 2 := by rw [ok.nl, hp]; rfl
    obtain ⟨n, k, en2⟩ := two_of hn2
    have ha : EA K C (tCons (tOp (rIxL K) (tVar 5) (tC (.int 0))) (tCons (tOp (rIxL K) (tVar 5) (tC (.int 1))) tNil)) [.any, .any, .any, .any, .dat (nI cl.p), .dat (nL cl.ns), .dat (nL cl.r), .any, .any] [.dat (nI n), .dat (nI k)] := by
      rw [en2]
      exact ea_cons (e_ixM (f := nI) (xs := [n, k]) (x := n) (e_var rfl) (e_cN 0) rfl) (ea_one (e_ixM (f := nI) (xs := [n, k]) (x := k) (e_var rfl) (e_cN 1) rfl))
    unfold tSeq tAsg tCall
    refine ha H S1 noH H1 _ g1.sub noH_same en1 _ fun vs S2 H2 g2 s2 => ?_
    have t2 := t1.up g2
    cases s2 with
    | cons r1 r2 =>
    cases r2 with
    | cons r3 r4 =>
    cases r4
    cases r1
    cases r3
    refine ⟨S2, n, k, rfl, g2.sub, fun hb S3 H3 g3 => ?_, fun hg S3 H3 a dx pd pt pm pk rs g3 fa fd i => ?_⟩
    · -- none
      have t3 := t2.up g3
      have e : stepC s cl = (s, [-22]) := by
        unfold stepC
        rw [if_pos hp, en2]
        refine if_neg fun h => ?_
        rcases hb with hb | hb
        · exact hb h.1
        · exact hb h.2
      rw [e] at q
      refine ⟨.non, rfl, rfl, true, rfl, iteT ?_⟩
      have en3 : EnvR K C H3 S3 noH H3 [some (.ref c), some (.ref pf), some vi, some v3, some (.int cl.p), some vn, some vr, some .non, x8] [.any, .any, .any, .any, .any, .any, .any, .any, .any] :=
        env_any _ (env_any _ (env_any _ (env_any _ (env_any _ (env_any _ (env_any _ (env_any _ (env_any _ env_nil))))))))
      refine e_l1 (K := K) (C := C) (z := -22) e_cI H3 S3 noH H3 _ t3.sub noH_same en3 _ fun vt S4 H4 g4 r4 => ?_
      refine ⟨.non, rfl, rfl, true, rfl, iteT ⟨vi, rfl, ?_⟩⟩
      exact q S4 H4 vi vt _ (t3.up g4) r4
    · have e : stepC s cl = (some (Su194.create n k), [0]) := by
        unfold stepC
        rw [if_pos hp, en2]
        exact if_pos hg
      rw [e] at q
      have hne : a ≠ pf := fun e => by rw [e, t2.own] at fa; cases fa
      have hne2 : pd ≠ pf := fun e => by rw [e, t2.own] at fd; cases fd
      have t3 := t2.up g3
      have t3' : Turn K C c pf L acc (some (Su194.create n k)) S3 H3 (.ref a) := ⟨t3.sub, t3.cal, t3.own, t3.sn, a, dx, pd, pt, pm, pk, rs, rfl, i, wf_create hg, hne, hne2⟩
      refine ⟨.ref a, rfl, rfl, false, rfl, iteF ?_⟩
      have en3 : EnvR K C H3 S3 noH H3 [some (.ref c), some (.ref pf), some vi, some v3, some (.int cl.p), some vn, some vr, some (.ref a), x8] [.any, .any, .any, .any, .any, .any, .any, .any, .any] :=
        env_any _ (env_any _ (env_any _ (env_any _ (env_any _ (env_any _ (env_any _ (env_any _ (env_any _ env_nil))))))))
      refine e_l1 (K := K) (C := C) (z := 0) e_cI H3 S3 noH H3 _ t3.sub noH_same en3 _ fun vt S4 H4 g4 r4 => ?_
      refine ⟨.ref a, rfl, rfl, false, rfl, iteF ⟨.ref a, rfl, ?_⟩⟩
      exact q S4 H4 (.ref a) vt _ (t3'.up g4) r4
  · have e0 : ¬ (cl.p == 0) = true := fun h => hp (beq_iff_eq.mp h)
    rw [if_neg e0]
    refine ⟨vi, rfl, _, rfl, _, rfl, _, rfl, ?_⟩
    refine ⟨S1, vi, vn, vr, cl.p, cl.ns, cl.r, rfl, g1.sub, Rp.up (d := nL cl.ns) g1.s hn, Rp.up (d := nL cl.r) g1.s hr, ⟨by omega, ok.p25⟩, ok.nl, ok.r8, ?_⟩
    cases s with
    | none =>
      have e : stepC none cl = (none, [-11]) := if_neg hp
      rw [e] at q
      exact .inl ⟨t1.ins, fun v S2 H2 g2 r2 => q S2 H2 vi v _ (t1.up g2) r2⟩
    | some m =>
      have e : stepC (some m) cl = (some (ansM cl.p m cl.ns cl.r).1, (ansM cl.p m cl.ns cl.r).2) := if_neg hp
      rw [e] at q
      obtain ⟨a, dx, pd, pt, pm, pk, rs, rfl, i, W, h1, h2⟩ := t1.ins
      exact .inr ⟨a, dx, pd, pt, pm, pk, rs, m, rfl, i, W, fun v S2 H2 pt' pm' pk' rs' g2 r2 j => q S2 H2 (.ref a) v _ (t1.mut h1 h2 g2 j (wf_ansM W)) r2⟩
theorem x_f_answers (T : Tx K C) {H0 : Hp} {c : Addr} {cs : List Cl} {Q : VK} (hc : SqL K H0 c ((zN (flatC cs)).map V.int)) (hok : ∀ x ∈ cs, OkC x) (hl : (runC none cs).length ≤ 10000000)
    (q : ∀ H' p, H' p = some (.lst ((runC none cs).map V.int)) → Q (.ref p) H') : t_f_answers K C { nx := fun _ H' => Q .non H', rt := Q } [some (.ref c), none, none, none, none, none, none, none, none] H0 := by
  refine ⟨by show 0 ≤ sizeLine; exact Nat.zero_le _, fun pf hpf => ?_⟩
  refine ⟨.ref pf, .non, .int 0, rfl, ?_⟩
  -- the loop
  refine ⟨fun n σ H => ∃ (S : Hp) (vi : V) (pre rest : List Cl) (acc : List Int) (s : Option Mc) (x4 x5 x6 x7 x8 : Option V), n = rest.length ∧ cs = pre ++ rest ∧ acc ++ runC s rest = runC none cs ∧
    σ = [some (.ref c), some (.ref pf), some vi, some (.int ((flatC pre).length : Int)), x4, x5, x6, x7, x8] ∧ Turn K C c pf (zN (flatC cs)) acc s S H vi, ⟨cs.length, H0, .non, [], cs, [], none, none, none, none, none, none, rfl, rfl, rfl, rfl, ?_⟩, ?_⟩
  · exact ⟨same_new hpf, hc, upd_same, hpf, rfl⟩
  rintro n σ H ⟨S, vi, pre, rest, acc, s, x4, x5, x6, x7, x8, rfl, rfl, hacc, rfl, t⟩
  have en : EnvR K C H S noH H [some (.ref c), some (.ref pf), some vi, some (.int ((flatC pre).length : Int)), x4, x5, x6, x7, x8] [.sq (zN (flatC (pre ++ rest))), .any, .any, .dat (nI (flatC pre).length), .any, .any, .any, .any, .any] :=
    env_val ⟨c, rfl, t.cal⟩ (env_any _ (env_any _ (env_val (.int _) (env_any _ (env_any _ (env_any _ (env_any _ (env_any _ env_nil))))))))
  have hzl : (zN (flatC (pre ++ rest))).length = (flatC pre).length + (flatC rest).length := by
    unfold zN flatC
    rw [List.length_map, List.flatMap_append, List.length_append]
  refine et_test (e_lt (K := K) (C := C) (e_var (i := 3) rfl) (e_lenQ (e_var (i := 0) rfl))) H S noH H _ t.sub noH_same en _ fun S1 H1 g1 => ?_
  have t1 := t.up g1
  have en1 := en.up g1 noH_same
  cases rest with
  | nil =>
    have e0 : ¬ (decide ((flatC pre).length < (zN (flatC (pre ++ []))).length)) = true := by
      rw [hzl]
      show ¬ decide ((flatC pre).length < (flatC pre).length + 0) = true
      simp
    rw [if_neg e0]
    refine ⟨.ref pf, rfl, q H1 pf ?_⟩
    rw [← hacc]
    show H1 pf = some (.lst ((acc ++ []).map V.int))
    rw [List.append_nil]
    exact t1.own
  | cons cl rest =>
    have e0 : decide ((flatC pre).length < (zN (flatC (pre ++ cl :: rest))).length) = true := by
      rw [hzl]
      refine decide_eq_true ?_
      have : (flatC (cl :: rest)).length = (encC cl).length + (flatC rest).length := by
        unfold flatC
        rw [List.flatMap_cons, List.length_append]
      have h2 : 1 ≤ (encC cl).length := by unfold encC; rw [List.length_cons]; omega
      omega
    rw [if_pos e0]
    have okc : OkC cl := hok cl (by simp)
    have eL : flatC (pre ++ cl :: rest) = flatC pre ++ (encC cl ++ flatC rest) := by
      unfold flatC
      rw [List.flatMap_append, List.flatMap_cons]
    refine ⟨_, fun σ' H' h => ⟨rest.length, Nat.lt_succ_self _, h⟩, ?_⟩
    have hrc : E K C (tCall (sp_f_read_call K C) [] E0 (tCons (tVar 0) (tCons (tVar 3) tNil))) [.sq (zN (flatC (pre ++ cl :: rest))), .any, .any, .dat (nI (flatC pre).length), .any, .any, .any, .any, .any] (.dat (.tuple [nI cl.p, nL cl.ns, nL cl.r, nI ((flatC pre).length + (encC cl).length)])) :=
      e_call (ea_cons (e_var rfl) (ea_one (e_var rfl))) ⟨flatC pre, flatC rest, cl, by rw [eL], okc, rfl⟩
    refine hrc H S1 noH H1 _ g1.sub noH_same en1 _ fun v S2 H2 g2 r2 => ?_
    have t2 := t1.up g2
    cases r2 with
    | tup k1 k2 =>
    cases k2 with
    | cons m1 k3 =>
    cases k3 with
    | cons m2 k4 =>
    cases k4 with
    | cons m3 k5 =>
    cases k5 with
    | cons m4 k6 =>
    cases k6
    cases m1
    cases m4
    refine ⟨_, _, rfl, SqT.of (g2.sub _ _ k1), rfl, _, _, rfl, _, _, rfl, _, _, rfl, _, _, rfl, rfl, ?_⟩
    have hl2 : acc.length + 1 + (stepC s cl).2.length ≤ 10000000 := by
      have e := congrArg List.length hacc
      have e3 : (runC s (cl :: rest)).length = (stepC s cl).2.length + 1 + (runC (stepC s cl).1 rest).length := by
        show ((((stepC s cl).2.length : Int) :: (stepC s cl).2) ++ runC (stepC s cl).1 rest).length = _
        rw [List.length_append, List.length_cons]
      rw [List.length_append, e3] at e
      omega
    refine x_mid T t2 m2 m3 okc fun S3 H3 vi' vt y7 t3 r3 => ?_
    refine x_told t3 r3 hl2 fun S4 H4 t4 => ?_
    have e5 : (flatC (pre ++ [cl])).length = (flatC pre).length + (encC cl).length := by
      unfold flatC
      rw [List.flatMap_append, List.length_append]
      show _ + (encC cl ++ []).length = _
      rw [List.append_nil]
    have e6 : acc ++ (((stepC s cl).2.length : Int) :: (stepC s cl).2) ++ runC (stepC s cl).1 rest = runC none (pre ++ cl :: rest) := by
      rw [← hacc, List.append_assoc]
      rfl
    exact ⟨S4, vi', pre ++ [cl], rest, _, _, _, _, _, _, _, rfl, by rw [List.append_assoc]; rfl, e6, congrArg (fun (z : Nat) => ([some (.ref c), some (.ref pf), some vi', some (V.int (z : Int)), some (.int cl.p), _, _, y7, some vt] : L2.St)) e5.symm, t4⟩
end
section
variable {P : Program} {w : World} {K : PySem.W.Frag} {mg : Str → Option Value} {base : Heap} {C pw rd wl nc : Addr}
theorem d_f_answers (T : Tx K C) (G : Bt mg) (Z : Cs K mg pw rd wl nc) (F_read_call : Fn P w K mg base 1 "read_call" ["calls", "at"] (sp_f_read_call K C)) (F_created : Fn P w K mg base 3 "created" ["agent_count", "alternative_count"] (sp_f_created K C)) (F_answer : Fn P w K mg base 9 "answer" ["instance", "place", "numbers", "row"] (sp_f_answer K C)) {f : Addr} (cdv : Value) (A : Around) (outer : List Env) (s : Shared) (H : Hp) (E : XK) (hr : Room 9 (A.deeper (envOfC "answers" (defScope s_f_answers) s.heap.objs.size f cdv))) :
    PSs (cxOf CX0 P w K mg base N_f_answers "answers" (defScope s_f_answers) f cdv A outer s H E).nox (defBody s_f_answers) (t_f_answers K C) := by
  have nd := sc_f_answers.nd
  exact (pss_cons (ps_par3 (i := 1) (j := 2) (l := 3) rfl nd rfl rfl rfl (by decide) (by decide) (by decide) rfl rfl rfl (pa_cons (pe_lst pa_nil) (pa_cons pe_non (pa_cons pe_int pa_nil))) (by rfl))
    (pss_cons (ps_while PassesOwn.never (pt_cmpR op_lt (pv 3) (pe_callB call_len_seq (by rfl) G.len (by decide +kernel) (pa_cons (pv 0) pa_nil)) (nomark _)) (pss_cons (ps_asg (pe_fn F_read_call (hr.mono (by decide)) rfl (pa_cons (pv 0) (pa_cons (pv 3) pa_nil))) (pg_tup rfl (pgs_cons (pg_name (i := 4) nd rfl (Or.inl rfl)) (pgs_cons (pg_name (i := 5) nd rfl (Or.inl rfl)) (pgs_cons (pg_name (i := 6) nd rfl (Or.inl rfl)) (pgs_cons (pg_name (i := 3) nd rfl (Or.inl rfl)) pgs_nil))))))
    (pss_cons (ps_if (pt_cmpR op_eq (pv 4) (pe_gI Z.i_CREATE) (nomark _)) (pss_cons (ps_set (i := 7) nd rfl (Or.inl rfl) (pe_fn F_created (hr.mono (by decide)) rfl (pa_cons (pe_ix ix_list (pv 5) pe_int (fun _ _ => rfl)) (pa_cons (pe_ix ix_list (pv 5) pe_int (fun _ _ => rfl)) pa_nil))))
    (pss_cons (ps_set (i := 8) nd rfl (Or.inl rfl) (pe_ifExp (pt_cmpR op_isN (pv 7) pe_non (nomark _)) (pe_lst (pa_cons (pe_gI Z.i_INVALID) pa_nil)) (pe_lst (pa_cons pe_int pa_nil))))
    (pss_one (ps_set (i := 2) nd rfl (Or.inl rfl) (pe_ifExp (pt_cmpR op_isN (pv 7) pe_non (nomark _)) (pv 2) (pv 7)))))) (pss_one (ps_set (i := 8) nd rfl (Or.inl rfl) (pe_fn F_answer (hr.mono (by decide)) rfl (pa_cons (pv 2) (pa_cons (pv 4) (pa_cons (pv 5) (pa_cons (pv 6) pa_nil))))))))
    (pss_cons (ps_expr (pe_bm PySem.F.plainAttrs_list PySem.F.slot_list_append PySem.F.type_list_append mt_append (pv 1) (pa_cons (pe_callB call_len_seq (by rfl) G.len (by decide +kernel) (pa_cons (pv 8) pa_nil)) pa_nil)))
    (pss_one (ps_expr (pe_bm PySem.F.plainAttrs_list PySem.F.slot_list_extend PySem.F.type_list_extend mt_extend (pv 1) (pa_cons (pv 8) pa_nil))))))))
    (pss_one (ps_ret (pv 1)))))
theorem ok_f_answers (T : Tx K C) (G : Bt mg) (Z : Cs K mg pw rd wl nc) (F_read_call : Fn P w K mg base 1 "read_call" ["calls", "at"] (sp_f_read_call K C)) (F_created : Fn P w K mg base 3 "created" ["agent_count", "alternative_count"] (sp_f_created K C)) (F_answer : Fn P w K mg base 9 "answer" ["instance", "place", "numbers", "row"] (sp_f_answer K C)) {f : Addr} {fd : FuncData} (F : Fun K "answers" "answers" s_f_answers f fd) : FnOk P w K mg base CX0 10 f fd ["calls"] (spAns K) :=
  F.ok sc_f_answers (fun vs H Q E h => by
    obtain ⟨c, cs, rfl, _⟩ := h
    rfl) fun cdv A outer s H vs Q E hr h => ⟨_, d_f_answers T G Z F_read_call F_created F_answer cdv A outer s H E hr, by
    obtain ⟨c, cs, rfl, hc, hok, hl, q⟩ := h
    exact x_f_answers T hc hok hl q⟩
end
end Gx
namespace Gx
open PySem PySem.Spec PyProof.Rows L2
/-! # The join of the walk -/
theorem all_mk {P : Program} {w : World} {K : PySem.W.Frag} {h : Heap} {mg : Str → Option Value} {fa C d pw rd wl nc a_f_count_of a_f_is_within a_f_place_of a_f_longer a_f_all_lists a_f_with_number a_f_mask_of a_f_has a_f_part_of a_m_message_profiles a_m_outcome_of a_f_can_force a_f_can_respond a_f_is_ranking a_f_all_rankings a_f_prefers a_f_not_preferred a_f_best_of a_f_outcome_row a_f_outcome_rows a_f_is_never_better a_f_is_dominant a_f_does_dominate a_f_is_dominated a_f_dominant_flags a_f_dominated_flags a_f_dominant_table a_f_are_all_dominant a_f_is_implemented a_m_domain_sizes a_m_profiles a_m_agents a_m_target_at a_f_first_failure_of_dominance a_f_choices_of a_f_is_content a_m_preference_of a_f_is_equilibrium a_f_equilibria a_f_content_row a_f_content_rows a_f_is_attained a_f_first_failure a_f_response_of a_f_after_step a_f_dynamics a_f_dictatorship a_f_borda_scores a_f_borda_winner a_f_borda a_f_does_gain a_f_manipulation_at a_f_first_manipulation a_f_does_keep a_f_keeping a_f_violation_from a_f_first_violation a_f_created a_f_or_none a_f_result_of a_m_change_domain a_f_add_preference a_f_set_full_domain a_m_change_target a_f_set_target_outcome a_f_use_dictatorship a_f_use_borda a_f_target_outcome a_f_monotonicity_violation a_f_find_manipulation a_m_change_mechanism a_f_set_message_counts a_f_set_mechanism_outcome a_f_use_direct_mechanism a_f_mechanism_outcome a_f_message_counts a_f_count_equilibria a_f_equilibrium a_f_equilibrium_outcomes a_f_implements_in_nash a_f_best_response_dynamics a_f_has_preference a_f_dominant_messages a_f_dominated_messages a_f_implements_in_dominant_strategies a_f_are_sets a_f_force a_f_respond a_f_describe a_m_is_ready a_f_answer a_f_read_call a_f_answers a_m_init : Addr} (X : K.In h) (G : h.Ns mainGlobals mg) (hfa : mg "answers" = some (.ref fa))
    (hC : ClF K C)
    (h_f_count_of : FnF K "count_of" "count_of" s_f_count_of a_f_count_of)
    (h_f_is_within : FnF K "is_within" "is_within" s_f_is_within a_f_is_within)
    (h_f_place_of : FnF K "place_of" "place_of" s_f_place_of a_f_place_of)
    (h_f_longer : FnF K "longer" "longer" s_f_longer a_f_longer)
    (h_f_all_lists : FnF K "all_lists" "all_lists" s_f_all_lists a_f_all_lists)
    (h_f_with_number : FnF K "with_number" "with_number" s_f_with_number a_f_with_number)
    (h_f_mask_of : FnF K "mask_of" "mask_of" s_f_mask_of a_f_mask_of)
    (h_f_has : FnF K "has" "has" s_f_has a_f_has)
    (h_f_part_of : FnF K "part_of" "part_of" s_f_part_of a_f_part_of)
    (h_m_message_profiles : MtF K C "message_profiles" "Instance.message_profiles" s_m_message_profiles a_m_message_profiles)
    (h_m_outcome_of : MtF K C "outcome_of" "Instance.outcome_of" s_m_outcome_of a_m_outcome_of)
    (h_f_can_force : FnF K "can_force" "can_force" s_f_can_force a_f_can_force)
    (h_f_can_respond : FnF K "can_respond" "can_respond" s_f_can_respond a_f_can_respond)
    (h_f_is_ranking : FnF K "is_ranking" "is_ranking" s_f_is_ranking a_f_is_ranking)
    (h_f_all_rankings : FnF K "all_rankings" "all_rankings" s_f_all_rankings a_f_all_rankings)
    (h_f_prefers : FnF K "prefers" "prefers" s_f_prefers a_f_prefers)
    (h_f_not_preferred : FnF K "not_preferred" "not_preferred" s_f_not_preferred a_f_not_preferred)
    (h_f_best_of : FnF K "best_of" "best_of" s_f_best_of a_f_best_of)
    (h_f_outcome_row : FnF K "outcome_row" "outcome_row" s_f_outcome_row a_f_outcome_row)
    (h_f_outcome_rows : FnF K "outcome_rows" "outcome_rows" s_f_outcome_rows a_f_outcome_rows)
    (h_f_is_never_better : FnF K "is_never_better" "is_never_better" s_f_is_never_better a_f_is_never_better)
    (h_f_is_dominant : FnF K "is_dominant" "is_dominant" s_f_is_dominant a_f_is_dominant)
    (h_f_does_dominate : FnF K "does_dominate" "does_dominate" s_f_does_dominate a_f_does_dominate)
    (h_f_is_dominated : FnF K "is_dominated" "is_dominated" s_f_is_dominated a_f_is_dominated)
    (h_f_dominant_flags : FnF K "dominant_flags" "dominant_flags" s_f_dominant_flags a_f_dominant_flags)
    (h_f_dominated_flags : FnF K "dominated_flags" "dominated_flags" s_f_dominated_flags a_f_dominated_flags)
    (h_f_dominant_table : FnF K "dominant_table" "dominant_table" s_f_dominant_table a_f_dominant_table)
    (h_f_are_all_dominant : FnF K "are_all_dominant" "are_all_dominant" s_f_are_all_dominant a_f_are_all_dominant)
    (h_f_is_implemented : FnF K "is_implemented" "is_implemented" s_f_is_implemented a_f_is_implemented)
    (h_m_domain_sizes : MtF K C "domain_sizes" "Instance.domain_sizes" s_m_domain_sizes a_m_domain_sizes)
    (h_m_profiles : MtF K C "profiles" "Instance.profiles" s_m_profiles a_m_profiles)
    (h_m_agents : MtF K C "agents" "Instance.agents" s_m_agents a_m_agents)
    (h_m_target_at : MtF K C "target_at" "Instance.target_at" s_m_target_at a_m_target_at)
    (h_f_first_failure_of_dominance : FnF K "first_failure_of_dominance" "first_failure_of_dominance" s_f_first_failure_of_dominance a_f_first_failure_of_dominance)
    (h_f_choices_of : FnF K "choices_of" "choices_of" s_f_choices_of a_f_choices_of)
    (h_f_is_content : FnF K "is_content" "is_content" s_f_is_content a_f_is_content)
    (h_m_preference_of : MtF K C "preference_of" "Instance.preference_of" s_m_preference_of a_m_preference_of)
    (h_f_is_equilibrium : FnF K "is_equilibrium" "is_equilibrium" s_f_is_equilibrium a_f_is_equilibrium)
    (h_f_equilibria : FnF K "equilibria" "equilibria" s_f_equilibria a_f_equilibria)
    (h_f_content_row : FnF K "content_row" "content_row" s_f_content_row a_f_content_row)
    (h_f_content_rows : FnF K "content_rows" "content_rows" s_f_content_rows a_f_content_rows)
    (h_f_is_attained : FnF K "is_attained" "is_attained" s_f_is_attained a_f_is_attained)
    (h_f_first_failure : FnF K "first_failure" "first_failure" s_f_first_failure a_f_first_failure)
    (h_f_response_of : FnF K "response_of" "response_of" s_f_response_of a_f_response_of)
    (h_f_after_step : FnF K "after_step" "after_step" s_f_after_step a_f_after_step)
    (h_f_dynamics : FnF K "dynamics" "dynamics" s_f_dynamics a_f_dynamics)
    (h_f_dictatorship : FnF K "dictatorship" "dictatorship" s_f_dictatorship a_f_dictatorship)
    (h_f_borda_scores : FnF K "borda_scores" "borda_scores" s_f_borda_scores a_f_borda_scores)
    (h_f_borda_winner : FnF K "borda_winner" "borda_winner" s_f_borda_winner a_f_borda_winner)
    (h_f_borda : FnF K "borda" "borda" s_f_borda a_f_borda)
    (h_f_does_gain : FnF K "does_gain" "does_gain" s_f_does_gain a_f_does_gain)
    (h_f_manipulation_at : FnF K "manipulation_at" "manipulation_at" s_f_manipulation_at a_f_manipulation_at)
    (h_f_first_manipulation : FnF K "first_manipulation" "first_manipulation" s_f_first_manipulation a_f_first_manipulation)
    (h_f_does_keep : FnF K "does_keep" "does_keep" s_f_does_keep a_f_does_keep)
    (h_f_keeping : FnF K "keeping" "keeping" s_f_keeping a_f_keeping)
    (h_f_violation_from : FnF K "violation_from" "violation_from" s_f_violation_from a_f_violation_from)
    (h_f_first_violation : FnF K "first_violation" "first_violation" s_f_first_violation a_f_first_violation)
    (h_f_created : FnF K "created" "created" s_f_created a_f_created)
    (h_f_or_none : FnF K "or_none" "or_none" s_f_or_none a_f_or_none)
    (h_f_result_of : FnF K "result_of" "result_of" s_f_result_of a_f_result_of)
    (h_m_change_domain : MtF K C "change_domain" "Instance.change_domain" s_m_change_domain a_m_change_domain)
    (h_f_add_preference : FnF K "add_preference" "add_preference" s_f_add_preference a_f_add_preference)
    (h_f_set_full_domain : FnF K "set_full_domain" "set_full_domain" s_f_set_full_domain a_f_set_full_domain)
    (h_m_change_target : MtF K C "change_target" "Instance.change_target" s_m_change_target a_m_change_target)
    (h_f_set_target_outcome : FnF K "set_target_outcome" "set_target_outcome" s_f_set_target_outcome a_f_set_target_outcome)
    (h_f_use_dictatorship : FnF K "use_dictatorship" "use_dictatorship" s_f_use_dictatorship a_f_use_dictatorship)
    (h_f_use_borda : FnF K "use_borda" "use_borda" s_f_use_borda a_f_use_borda)
    (h_f_target_outcome : FnF K "target_outcome" "target_outcome" s_f_target_outcome a_f_target_outcome)
    (h_f_monotonicity_violation : FnF K "monotonicity_violation" "monotonicity_violation" s_f_monotonicity_violation a_f_monotonicity_violation)
    (h_f_find_manipulation : FnF K "find_manipulation" "find_manipulation" s_f_find_manipulation a_f_find_manipulation)
    (h_m_change_mechanism : MtF K C "change_mechanism" "Instance.change_mechanism" s_m_change_mechanism a_m_change_mechanism)
    (h_f_set_message_counts : FnF K "set_message_counts" "set_message_counts" s_f_set_message_counts a_f_set_message_counts)
    (h_f_set_mechanism_outcome : FnF K "set_mechanism_outcome" "set_mechanism_outcome" s_f_set_mechanism_outcome a_f_set_mechanism_outcome)
    (h_f_use_direct_mechanism : FnF K "use_direct_mechanism" "use_direct_mechanism" s_f_use_direct_mechanism a_f_use_direct_mechanism)
    (h_f_mechanism_outcome : FnF K "mechanism_outcome" "mechanism_outcome" s_f_mechanism_outcome a_f_mechanism_outcome)
    (h_f_message_counts : FnF K "message_counts" "message_counts" s_f_message_counts a_f_message_counts)
    (h_f_count_equilibria : FnF K "count_equilibria" "count_equilibria" s_f_count_equilibria a_f_count_equilibria)
    (h_f_equilibrium : FnF K "equilibrium" "equilibrium" s_f_equilibrium a_f_equilibrium)
    (h_f_equilibrium_outcomes : FnF K "equilibrium_outcomes" "equilibrium_outcomes" s_f_equilibrium_outcomes a_f_equilibrium_outcomes)
    (h_f_implements_in_nash : FnF K "implements_in_nash" "implements_in_nash" s_f_implements_in_nash a_f_implements_in_nash)
    (h_f_best_response_dynamics : FnF K "best_response_dynamics" "best_response_dynamics" s_f_best_response_dynamics a_f_best_response_dynamics)
    (h_f_has_preference : FnF K "has_preference" "has_preference" s_f_has_preference a_f_has_preference)
    (h_f_dominant_messages : FnF K "dominant_messages" "dominant_messages" s_f_dominant_messages a_f_dominant_messages)
    (h_f_dominated_messages : FnF K "dominated_messages" "dominated_messages" s_f_dominated_messages a_f_dominated_messages)
    (h_f_implements_in_dominant_strategies : FnF K "implements_in_dominant_strategies" "implements_in_dominant_strategies" s_f_implements_in_dominant_strategies a_f_implements_in_dominant_strategies)
    (h_f_are_sets : FnF K "are_sets" "are_sets" s_f_are_sets a_f_are_sets)
    (h_f_force : FnF K "force" "force" s_f_force a_f_force)
    (h_f_respond : FnF K "respond" "respond" s_f_respond a_f_respond)
    (h_f_describe : FnF K "describe" "describe" s_f_describe a_f_describe)
    (h_m_is_ready : MtF K C "is_ready" "Instance.is_ready" s_m_is_ready a_m_is_ready)
    (h_f_answer : FnF K "answer" "answer" s_f_answer a_f_answer)
    (h_f_read_call : FnF K "read_call" "read_call" s_f_read_call a_f_read_call)
    (h_f_answers : FnF K "answers" "answers" s_f_answers a_f_answers)
    (h_m_init : MtF K C "__init__" "Instance.__init__" s_m_init a_m_init)
    (b_len : NoF K "len")
    (b_all : NoF K "all")
    (b_any : NoF K "any")
    (b_zip : NoF K "zip")
    (b_range : NoF K "range")
    (b_list : NoF K "list")
    (b_tuple : NoF K "tuple")
    (b_sum : NoF K "sum")
    (b_sorted : NoF K "sorted")
    (b_max : NoF K "max")
    (b_enumerate : NoF K "enumerate")
    (b_int : NoF K "int")
    (i_NO_INSTANCE : IntF K "NO_INSTANCE" (-11))
    (i_NOT_READY : IntF K "NOT_READY" (-16))
    (i_UNKNOWN : IntF K "UNKNOWN" (-2))
    (i_INVALID : IntF K "INVALID" (-22))
    (i_TWICE : IntF K "TWICE" (-17))
    (i_FULL : IntF K "FULL" (-28))
    (i_NONE : IntF K "NONE" (-33))
    (i_ENDLESS : IntF K "ENDLESS" (-75))
    (i_MOST_PREFERENCES : IntF K "MOST_PREFERENCES" (6))
    (i_MOST_MESSAGES : IntF K "MOST_MESSAGES" (6))
    (i_MOST_STEPS : IntF K "MOST_STEPS" (100))
    (i_CREATE : IntF K "CREATE" (0))
    (t_pw : TpF K "POWERS" pw [1, 2, 4, 8, 16, 32])
    (t_rd : TpF K "READY" rd [3, 4, 5, 6, 7, 8, 11, 14, 15, 16, 17, 18, 21])
    (t_wl : TpF K "WITH_LIST" wl [1, 3, 6, 9, 10, 12, 14, 15, 16, 18])
    (t_nc : TpF K "NUMBER_COUNTS" nc [2, 1, 1, 1, 1, 0, 0, 0, 0, 0, 1, 0, 0, 0, 0, 1, 0, 0, 0, 2, 2, 0, 2, 2, 0])
    (dd : DdF K d [(1, a_f_add_preference), (2, a_f_set_full_domain), (3, a_f_set_target_outcome), (4, a_f_use_dictatorship), (5, a_f_use_borda), (6, a_f_target_outcome), (7, a_f_monotonicity_violation), (8, a_f_find_manipulation), (9, a_f_set_message_counts), (10, a_f_set_mechanism_outcome), (11, a_f_use_direct_mechanism), (12, a_f_mechanism_outcome), (13, a_f_message_counts), (14, a_f_count_equilibria), (15, a_f_equilibrium), (16, a_f_equilibrium_outcomes), (17, a_f_implements_in_nash), (18, a_f_best_response_dynamics), (19, a_f_dominant_messages), (20, a_f_dominated_messages), (21, a_f_implements_in_dominant_strategies), (22, a_f_force), (23, a_f_respond), (24, a_f_describe)]) : ∃ fd : FuncData, (∀ (s : Shared) (us : List Value), us.length = (["calls"] : List Str).length → BindsTo s fd ⟨us, []⟩ ((["calls"] : List Str).zip us)) ∧ ∀ base : Heap, K.In base → base.Ns mainGlobals mg → FnOk P w K mg base CX0 10 fa fd ["calls"] (spAns K) := by
  have T : Tx K C := hC.tx
  have G0 : Bt mg := ⟨b_len.at_ X G, b_all.at_ X G, b_any.at_ X G, b_zip.at_ X G, b_range.at_ X G, b_list.at_ X G, b_tuple.at_ X G, b_sum.at_ X G, b_sorted.at_ X G, b_max.at_ X G, b_enumerate.at_ X G, b_int.at_ X G⟩
  have Z : Cs K mg pw rd wl nc := ⟨PySem.W.mg_of X G t_pw.1, PySem.W.mg_of X G t_rd.1, PySem.W.mg_of X G t_wl.1, PySem.W.mg_of X G t_nc.1, t_pw.sq (by decide), t_rd.sq (by decide), t_wl.sq (by decide), t_nc.sq (by decide),
    i_NO_INSTANCE.at_ X G, i_NOT_READY.at_ X G, i_UNKNOWN.at_ X G, i_INVALID.at_ X G, i_TWICE.at_ X G, i_FULL.at_ X G, i_NONE.at_ X G, i_ENDLESS.at_ X G, i_MOST_PREFERENCES.at_ X G, i_MOST_MESSAGES.at_ X G, i_MOST_STEPS.at_ X G, i_CREATE.at_ X G⟩
  have e := hfa.symm.trans (PySem.W.mg_of X G h_f_answers.a)
  cases e
  obtain ⟨fd0, F0⟩ := h_f_answers.ex
  have hb0 : ∀ (s : Shared) (us : List Value), us.length = (["calls"] : List Str).length → BindsTo s fd0 ⟨us, []⟩ ((["calls"] : List Str).zip us) := by
    obtain ⟨oc, od, kV, doc, pm, an, cdv, ct, osl, rfl, _, _⟩ := F0.ex
    exact fun s us hu => match us, hu with | [_], _ => .of_eq rfl
  refine ⟨fd0, hb0, fun base _ _ => ?_⟩
  have O_f_count_of : Fn P w K mg base 1 "count_of" ["sizes"] (sp_f_count_of K C) := h_f_count_of.fn X G (fun fd F => F.binds (ps := ["sizes"]) fun _ _ _ _ _ _ us hl => match us, hl with | [_], _ => rfl) (fun fd F => ok_f_count_of T G0 Z  F)
  have O_f_is_within : Fn P w K mg base 1 "is_within" ["numbers", "sizes"] (sp_f_is_within K C) := h_f_is_within.fn X G (fun fd F => F.binds (ps := ["numbers", "sizes"]) fun _ _ _ _ _ _ us hl => match us, hl with | [_, _], _ => rfl) (fun fd F => ok_f_is_within T G0 Z  F)
  have O_f_place_of : Fn P w K mg base 1 "place_of" ["numbers", "sizes"] (sp_f_place_of K C) := h_f_place_of.fn X G (fun fd F => F.binds (ps := ["numbers", "sizes"]) fun _ _ _ _ _ _ us hl => match us, hl with | [_, _], _ => rfl) (fun fd F => ok_f_place_of T G0 Z  F)
  have O_f_longer : Fn P w K mg base 1 "longer" ["rows", "size"] (sp_f_longer K C) := h_f_longer.fn X G (fun fd F => F.binds (ps := ["rows", "size"]) fun _ _ _ _ _ _ us hl => match us, hl with | [_, _], _ => rfl) (fun fd F => ok_f_longer T G0 Z  F)
  have O_f_all_lists : Fn P w K mg base 2 "all_lists" ["sizes"] (sp_f_all_lists K C) := h_f_all_lists.fn X G (fun fd F => F.binds (ps := ["sizes"]) fun _ _ _ _ _ _ us hl => match us, hl with | [_], _ => rfl) (fun fd F => ok_f_all_lists T G0 Z O_f_longer F)
  have O_f_with_number : Fn P w K mg base 1 "with_number" ["numbers", "at", "number"] (sp_f_with_number K C) := h_f_with_number.fn X G (fun fd F => F.binds (ps := ["numbers", "at", "number"]) fun _ _ _ _ _ _ us hl => match us, hl with | [_, _, _], _ => rfl) (fun fd F => ok_f_with_number T G0 Z  F)
  have O_f_mask_of : Fn P w K mg base 1 "mask_of" ["flags"] (sp_f_mask_of K C) := h_f_mask_of.fn X G (fun fd F => F.binds (ps := ["flags"]) fun _ _ _ _ _ _ us hl => match us, hl with | [_], _ => rfl) (fun fd F => ok_f_mask_of T G0 Z  F)
  have O_f_has : Fn P w K mg base 1 "has" ["mask", "number"] (sp_f_has K C) := h_f_has.fn X G (fun fd F => F.binds (ps := ["mask", "number"]) fun _ _ _ _ _ _ us hl => match us, hl with | [_, _], _ => rfl) (fun fd F => ok_f_has T G0 Z  F)
  have O_f_part_of : Fn P w K mg base 2 "part_of" ["messages", "coalition", "is_inside"] (sp_f_part_of K C) := h_f_part_of.fn X G (fun fd F => F.binds (ps := ["messages", "coalition", "is_inside"]) fun _ _ _ _ _ _ us hl => match us, hl with | [_, _, _], _ => rfl) (fun fd F => ok_f_part_of T G0 Z O_f_has F)
  have O_m_message_profiles : Mt P w K mg base C 3 "message_profiles" ["self"] (sp_m_message_profiles K C) := h_m_message_profiles.mt (fun fd F => F.binds (ps := ["self"]) fun _ _ _ _ _ _ us hl => match us, hl with | [_], _ => rfl) (fun fd F => ok_m_message_profiles T G0 Z O_f_all_lists F)
  have O_m_outcome_of : Mt P w K mg base C 2 "outcome_of" ["self", "messages"] (sp_m_outcome_of K C) := h_m_outcome_of.mt (fun fd F => F.binds (ps := ["self", "messages"]) fun _ _ _ _ _ _ us hl => match us, hl with | [_, _], _ => rfl) (fun fd F => ok_m_outcome_of T G0 Z O_f_place_of F)
  have O_f_can_force : Fn P w K mg base 4 "can_force" ["instance", "coalition", "alternatives"] (sp_f_can_force K C) := h_f_can_force.fn X G (fun fd F => F.binds (ps := ["instance", "coalition", "alternatives"]) fun _ _ _ _ _ _ us hl => match us, hl with | [_, _, _], _ => rfl) (fun fd F => ok_f_can_force T G0 Z O_f_part_of O_f_has O_m_message_profiles O_m_outcome_of F)
  have O_f_can_respond : Fn P w K mg base 4 "can_respond" ["instance", "coalition", "alternatives"] (sp_f_can_respond K C) := h_f_can_respond.fn X G (fun fd F => F.binds (ps := ["instance", "coalition", "alternatives"]) fun _ _ _ _ _ _ us hl => match us, hl with | [_, _, _], _ => rfl) (fun fd F => ok_f_can_respond T G0 Z O_f_part_of O_f_has O_m_message_profiles O_m_outcome_of F)
  have O_f_is_ranking : Fn P w K mg base 1 "is_ranking" ["row", "count"] (sp_f_is_ranking K C) := h_f_is_ranking.fn X G (fun fd F => F.binds (ps := ["row", "count"]) fun _ _ _ _ _ _ us hl => match us, hl with | [_, _], _ => rfl) (fun fd F => ok_f_is_ranking T G0 Z  F)
  have O_f_all_rankings : Fn P w K mg base 3 "all_rankings" ["count"] (sp_f_all_rankings K C) := h_f_all_rankings.fn X G (fun fd F => F.binds (ps := ["count"]) fun _ _ _ _ _ _ us hl => match us, hl with | [_], _ => rfl) (fun fd F => ok_f_all_rankings T G0 Z O_f_all_lists O_f_is_ranking F)
  have O_f_prefers : Fn P w K mg base 1 "prefers" ["ranking", "one", "other"] (sp_f_prefers K C) := h_f_prefers.fn X G (fun fd F => F.binds (ps := ["ranking", "one", "other"]) fun _ _ _ _ _ _ us hl => match us, hl with | [_, _, _], _ => rfl) (fun fd F => ok_f_prefers T G0 Z  F)
  have O_f_not_preferred : Fn P w K mg base 1 "not_preferred" ["ranking", "alternative"] (sp_f_not_preferred K C) := h_f_not_preferred.fn X G (fun fd F => F.binds (ps := ["ranking", "alternative"]) fun _ _ _ _ _ _ us hl => match us, hl with | [_, _], _ => rfl) (fun fd F => ok_f_not_preferred T G0 Z  F)
  have O_f_best_of : Fn P w K mg base 1 "best_of" ["ranking", "alternatives"] (sp_f_best_of K C) := h_f_best_of.fn X G (fun fd F => F.binds (ps := ["ranking", "alternatives"]) fun _ _ _ _ _ _ us hl => match us, hl with | [_, _], _ => rfl) (fun fd F => ok_f_best_of T G0 Z  F)
  have O_f_outcome_row : Fn P w K mg base 3 "outcome_row" ["instance", "agent", "own", "rows"] (sp_f_outcome_row K C) := h_f_outcome_row.fn X G (fun fd F => F.binds (ps := ["instance", "agent", "own", "rows"]) fun _ _ _ _ _ _ us hl => match us, hl with | [_, _, _, _], _ => rfl) (fun fd F => ok_f_outcome_row T G0 Z O_f_with_number O_m_outcome_of F)
  have O_f_outcome_rows : Fn P w K mg base 4 "outcome_rows" ["instance", "agent"] (sp_f_outcome_rows K C) := h_f_outcome_rows.fn X G (fun fd F => F.binds (ps := ["instance", "agent"]) fun _ _ _ _ _ _ us hl => match us, hl with | [_, _], _ => rfl) (fun fd F => ok_f_outcome_rows T G0 Z O_f_outcome_row O_m_message_profiles F)
  have O_f_is_never_better : Fn P w K mg base 2 "is_never_better" ["ranking", "row", "other"] (sp_f_is_never_better K C) := h_f_is_never_better.fn X G (fun fd F => F.binds (ps := ["ranking", "row", "other"]) fun _ _ _ _ _ _ us hl => match us, hl with | [_, _, _], _ => rfl) (fun fd F => ok_f_is_never_better T G0 Z O_f_prefers F)
  have O_f_is_dominant : Fn P w K mg base 3 "is_dominant" ["ranking", "row", "rows"] (sp_f_is_dominant K C) := h_f_is_dominant.fn X G (fun fd F => F.binds (ps := ["ranking", "row", "rows"]) fun _ _ _ _ _ _ us hl => match us, hl with | [_, _, _], _ => rfl) (fun fd F => ok_f_is_dominant T G0 Z O_f_is_never_better F)
  have O_f_does_dominate : Fn P w K mg base 3 "does_dominate" ["ranking", "row", "other"] (sp_f_does_dominate K C) := h_f_does_dominate.fn X G (fun fd F => F.binds (ps := ["ranking", "row", "other"]) fun _ _ _ _ _ _ us hl => match us, hl with | [_, _, _], _ => rfl) (fun fd F => ok_f_does_dominate T G0 Z O_f_is_never_better F)
  have O_f_is_dominated : Fn P w K mg base 4 "is_dominated" ["ranking", "row", "rows"] (sp_f_is_dominated K C) := h_f_is_dominated.fn X G (fun fd F => F.binds (ps := ["ranking", "row", "rows"]) fun _ _ _ _ _ _ us hl => match us, hl with | [_, _, _], _ => rfl) (fun fd F => ok_f_is_dominated T G0 Z O_f_does_dominate F)
  have O_f_dominant_flags : Fn P w K mg base 5 "dominant_flags" ["instance", "agent", "ranking"] (sp_f_dominant_flags K C) := h_f_dominant_flags.fn X G (fun fd F => F.binds (ps := ["instance", "agent", "ranking"]) fun _ _ _ _ _ _ us hl => match us, hl with | [_, _, _], _ => rfl) (fun fd F => ok_f_dominant_flags T G0 Z O_f_outcome_rows O_f_is_dominant F)
  have O_f_dominated_flags : Fn P w K mg base 5 "dominated_flags" ["instance", "agent", "ranking"] (sp_f_dominated_flags K C) := h_f_dominated_flags.fn X G (fun fd F => F.binds (ps := ["instance", "agent", "ranking"]) fun _ _ _ _ _ _ us hl => match us, hl with | [_, _, _], _ => rfl) (fun fd F => ok_f_dominated_flags T G0 Z O_f_outcome_rows O_f_is_dominated F)
  have O_f_dominant_table : Fn P w K mg base 6 "dominant_table" ["instance", "agent"] (sp_f_dominant_table K C) := h_f_dominant_table.fn X G (fun fd F => F.binds (ps := ["instance", "agent"]) fun _ _ _ _ _ _ us hl => match us, hl with | [_, _], _ => rfl) (fun fd F => ok_f_dominant_table T G0 Z O_f_dominant_flags F)
  have O_f_are_all_dominant : Fn P w K mg base 1 "are_all_dominant" ["flags", "messages"] (sp_f_are_all_dominant K C) := h_f_are_all_dominant.fn X G (fun fd F => F.binds (ps := ["flags", "messages"]) fun _ _ _ _ _ _ us hl => match us, hl with | [_, _], _ => rfl) (fun fd F => ok_f_are_all_dominant T G0 Z  F)
  have O_f_is_implemented : Fn P w K mg base 4 "is_implemented" ["instance", "flags", "wanted"] (sp_f_is_implemented K C) := h_f_is_implemented.fn X G (fun fd F => F.binds (ps := ["instance", "flags", "wanted"]) fun _ _ _ _ _ _ us hl => match us, hl with | [_, _, _], _ => rfl) (fun fd F => ok_f_is_implemented T G0 Z O_f_are_all_dominant O_m_message_profiles O_m_outcome_of F)
  have O_m_domain_sizes : Mt P w K mg base C 1 "domain_sizes" ["self"] (sp_m_domain_sizes K C) := h_m_domain_sizes.mt (fun fd F => F.binds (ps := ["self"]) fun _ _ _ _ _ _ us hl => match us, hl with | [_], _ => rfl) (fun fd F => ok_m_domain_sizes T G0 Z  F)
  have O_m_profiles : Mt P w K mg base C 3 "profiles" ["self"] (sp_m_profiles K C) := h_m_profiles.mt (fun fd F => F.binds (ps := ["self"]) fun _ _ _ _ _ _ us hl => match us, hl with | [_], _ => rfl) (fun fd F => ok_m_profiles T G0 Z O_f_all_lists O_m_domain_sizes F)
  have O_m_agents : Mt P w K mg base C 1 "agents" ["self"] (sp_m_agents K C) := h_m_agents.mt (fun fd F => F.binds (ps := ["self"]) fun _ _ _ _ _ _ us hl => match us, hl with | [_], _ => rfl) (fun fd F => ok_m_agents T G0 Z  F)
  have O_m_target_at : Mt P w K mg base C 2 "target_at" ["self", "profile"] (sp_m_target_at K C) := h_m_target_at.mt (fun fd F => F.binds (ps := ["self", "profile"]) fun _ _ _ _ _ _ us hl => match us, hl with | [_, _], _ => rfl) (fun fd F => ok_m_target_at T G0 Z O_f_place_of O_m_domain_sizes F)
  have O_f_first_failure_of_dominance : Fn P w K mg base 7 "first_failure_of_dominance" ["instance"] (sp_f_first_failure_of_dominance K C) := h_f_first_failure_of_dominance.fn X G (fun fd F => F.binds (ps := ["instance"]) fun _ _ _ _ _ _ us hl => match us, hl with | [_], _ => rfl) (fun fd F => ok_f_first_failure_of_dominance T G0 Z O_f_dominant_table O_f_is_implemented O_m_profiles O_m_agents O_m_target_at F)
  have O_f_choices_of : Fn P w K mg base 3 "choices_of" ["instance", "messages", "agent"] (sp_f_choices_of K C) := h_f_choices_of.fn X G (fun fd F => F.binds (ps := ["instance", "messages", "agent"]) fun _ _ _ _ _ _ us hl => match us, hl with | [_, _, _], _ => rfl) (fun fd F => ok_f_choices_of T G0 Z O_f_with_number O_m_outcome_of F)
  have O_f_is_content : Fn P w K mg base 4 "is_content" ["instance", "messages", "agent", "ranking"] (sp_f_is_content K C) := h_f_is_content.fn X G (fun fd F => F.binds (ps := ["instance", "messages", "agent", "ranking"]) fun _ _ _ _ _ _ us hl => match us, hl with | [_, _, _, _], _ => rfl) (fun fd F => ok_f_is_content T G0 Z O_f_prefers O_f_choices_of O_m_outcome_of F)
  have O_m_preference_of : Mt P w K mg base C 1 "preference_of" ["self", "agent", "profile"] (sp_m_preference_of K C) := h_m_preference_of.mt (fun fd F => F.binds (ps := ["self", "agent", "profile"]) fun _ _ _ _ _ _ us hl => match us, hl with | [_, _, _], _ => rfl) (fun fd F => ok_m_preference_of T G0 Z  F)
  have O_f_is_equilibrium : Fn P w K mg base 5 "is_equilibrium" ["instance", "messages", "profile"] (sp_f_is_equilibrium K C) := h_f_is_equilibrium.fn X G (fun fd F => F.binds (ps := ["instance", "messages", "profile"]) fun _ _ _ _ _ _ us hl => match us, hl with | [_, _, _], _ => rfl) (fun fd F => ok_f_is_equilibrium T G0 Z O_f_is_content O_m_agents O_m_preference_of F)
  have O_f_equilibria : Fn P w K mg base 6 "equilibria" ["instance", "profile"] (sp_f_equilibria K C) := h_f_equilibria.fn X G (fun fd F => F.binds (ps := ["instance", "profile"]) fun _ _ _ _ _ _ us hl => match us, hl with | [_, _], _ => rfl) (fun fd F => ok_f_equilibria T G0 Z O_f_is_equilibrium O_m_message_profiles F)
  have O_f_content_row : Fn P w K mg base 5 "content_row" ["instance", "agent", "ranking"] (sp_f_content_row K C) := h_f_content_row.fn X G (fun fd F => F.binds (ps := ["instance", "agent", "ranking"]) fun _ _ _ _ _ _ us hl => match us, hl with | [_, _, _], _ => rfl) (fun fd F => ok_f_content_row T G0 Z O_f_is_content O_m_message_profiles F)
  have O_f_content_rows : Fn P w K mg base 6 "content_rows" ["instance", "agent"] (sp_f_content_rows K C) := h_f_content_rows.fn X G (fun fd F => F.binds (ps := ["instance", "agent"]) fun _ _ _ _ _ _ us hl => match us, hl with | [_, _], _ => rfl) (fun fd F => ok_f_content_rows T G0 Z O_f_content_row F)
  have O_f_is_attained : Fn P w K mg base 1 "is_attained" ["instance", "rows", "wanted"] (sp_f_is_attained K C) := h_f_is_attained.fn X G (fun fd F => F.binds (ps := ["instance", "rows", "wanted"]) fun _ _ _ _ _ _ us hl => match us, hl with | [_, _, _], _ => rfl) (fun fd F => ok_f_is_attained T G0 Z  F)
  have O_f_first_failure : Fn P w K mg base 7 "first_failure" ["instance"] (sp_f_first_failure K C) := h_f_first_failure.fn X G (fun fd F => F.binds (ps := ["instance"]) fun _ _ _ _ _ _ us hl => match us, hl with | [_], _ => rfl) (fun fd F => ok_f_first_failure T G0 Z O_f_content_rows O_f_is_attained O_m_profiles O_m_agents O_m_target_at F)
  have O_f_response_of : Fn P w K mg base 4 "response_of" ["instance", "messages", "agent", "ranking"] (sp_f_response_of K C) := h_f_response_of.fn X G (fun fd F => F.binds (ps := ["instance", "messages", "agent", "ranking"]) fun _ _ _ _ _ _ us hl => match us, hl with | [_, _, _, _], _ => rfl) (fun fd F => ok_f_response_of T G0 Z O_f_choices_of O_f_best_of O_f_prefers O_m_outcome_of F)
  have O_f_after_step : Fn P w K mg base 5 "after_step" ["instance", "messages", "profile"] (sp_f_after_step K C) := h_f_after_step.fn X G (fun fd F => F.binds (ps := ["instance", "messages", "profile"]) fun _ _ _ _ _ _ us hl => match us, hl with | [_, _, _], _ => rfl) (fun fd F => ok_f_after_step T G0 Z O_f_response_of O_f_with_number O_m_agents O_m_preference_of F)
  have O_f_dynamics : Fn P w K mg base 6 "dynamics" ["instance", "profile", "messages"] (sp_f_dynamics K C) := h_f_dynamics.fn X G (fun fd F => F.binds (ps := ["instance", "profile", "messages"]) fun _ _ _ _ _ _ us hl => match us, hl with | [_, _, _], _ => rfl) (fun fd F => ok_f_dynamics T G0 Z O_f_is_equilibrium O_f_after_step F)
  have O_f_dictatorship : Fn P w K mg base 4 "dictatorship" ["instance", "agent"] (sp_f_dictatorship K C) := h_f_dictatorship.fn X G (fun fd F => F.binds (ps := ["instance", "agent"]) fun _ _ _ _ _ _ us hl => match us, hl with | [_, _], _ => rfl) (fun fd F => ok_f_dictatorship T G0 Z O_m_preference_of O_m_profiles F)
  have O_f_borda_scores : Fn P w K mg base 2 "borda_scores" ["instance", "profile"] (sp_f_borda_scores K C) := h_f_borda_scores.fn X G (fun fd F => F.binds (ps := ["instance", "profile"]) fun _ _ _ _ _ _ us hl => match us, hl with | [_, _], _ => rfl) (fun fd F => ok_f_borda_scores T G0 Z O_m_agents O_m_preference_of F)
  have O_f_borda_winner : Fn P w K mg base 3 "borda_winner" ["instance", "profile"] (sp_f_borda_winner K C) := h_f_borda_winner.fn X G (fun fd F => F.binds (ps := ["instance", "profile"]) fun _ _ _ _ _ _ us hl => match us, hl with | [_, _], _ => rfl) (fun fd F => ok_f_borda_winner T G0 Z O_f_borda_scores F)
  have O_f_borda : Fn P w K mg base 4 "borda" ["instance"] (sp_f_borda K C) := h_f_borda.fn X G (fun fd F => F.binds (ps := ["instance"]) fun _ _ _ _ _ _ us hl => match us, hl with | [_], _ => rfl) (fun fd F => ok_f_borda T G0 Z O_f_borda_winner O_m_profiles F)
  have O_f_does_gain : Fn P w K mg base 3 "does_gain" ["instance", "profile", "agent", "other"] (sp_f_does_gain K C) := h_f_does_gain.fn X G (fun fd F => F.binds (ps := ["instance", "profile", "agent", "other"]) fun _ _ _ _ _ _ us hl => match us, hl with | [_, _, _, _], _ => rfl) (fun fd F => ok_f_does_gain T G0 Z O_f_prefers O_f_with_number O_m_target_at O_m_preference_of F)
  have O_f_manipulation_at : Fn P w K mg base 4 "manipulation_at" ["instance", "profile"] (sp_f_manipulation_at K C) := h_f_manipulation_at.fn X G (fun fd F => F.binds (ps := ["instance", "profile"]) fun _ _ _ _ _ _ us hl => match us, hl with | [_, _], _ => rfl) (fun fd F => ok_f_manipulation_at T G0 Z O_f_does_gain O_m_agents F)
  have O_f_first_manipulation : Fn P w K mg base 5 "first_manipulation" ["instance"] (sp_f_first_manipulation K C) := h_f_first_manipulation.fn X G (fun fd F => F.binds (ps := ["instance"]) fun _ _ _ _ _ _ us hl => match us, hl with | [_], _ => rfl) (fun fd F => ok_f_first_manipulation T G0 Z O_f_manipulation_at O_m_profiles F)
  have O_f_does_keep : Fn P w K mg base 2 "does_keep" ["ranking", "outcome", "other"] (sp_f_does_keep K C) := h_f_does_keep.fn X G (fun fd F => F.binds (ps := ["ranking", "outcome", "other"]) fun _ _ _ _ _ _ us hl => match us, hl with | [_, _, _], _ => rfl) (fun fd F => ok_f_does_keep T G0 Z O_f_prefers O_f_not_preferred F)
  have O_f_keeping : Fn P w K mg base 3 "keeping" ["instance", "profile", "agent"] (sp_f_keeping K C) := h_f_keeping.fn X G (fun fd F => F.binds (ps := ["instance", "profile", "agent"]) fun _ _ _ _ _ _ us hl => match us, hl with | [_, _, _], _ => rfl) (fun fd F => ok_f_keeping T G0 Z O_f_does_keep O_m_preference_of O_m_target_at F)
  have O_f_violation_from : Fn P w K mg base 4 "violation_from" ["instance", "profile", "profiles"] (sp_f_violation_from K C) := h_f_violation_from.fn X G (fun fd F => F.binds (ps := ["instance", "profile", "profiles"]) fun _ _ _ _ _ _ us hl => match us, hl with | [_, _, _], _ => rfl) (fun fd F => ok_f_violation_from T G0 Z O_f_keeping O_m_target_at O_m_agents F)
  have O_f_first_violation : Fn P w K mg base 5 "first_violation" ["instance"] (sp_f_first_violation K C) := h_f_first_violation.fn X G (fun fd F => F.binds (ps := ["instance"]) fun _ _ _ _ _ _ us hl => match us, hl with | [_], _ => rfl) (fun fd F => ok_f_first_violation T G0 Z O_f_violation_from O_m_profiles F)
  have MK : MkI P w K mg base C := by
    obtain ⟨fd, F⟩ := h_m_init.ex
    exact ⟨PySem.W.mg_of X G hC.at_, a_m_init, fd, ⟨hC.mks, h_m_init.m.at_, h_m_init.m.fn, hC.kp⟩, ok_m_init T G0 Z F, F.binds (ps := ["self", "agent_count", "alternative_count"]) fun _ _ _ _ _ _ us hl => match us, hl with | [_, _, _], _ => rfl⟩
  have O_f_created : Fn P w K mg base 3 "created" ["agent_count", "alternative_count"] (sp_f_created K C) := h_f_created.fn X G (fun fd F => F.binds (ps := ["agent_count", "alternative_count"]) fun _ _ _ _ _ _ us hl => match us, hl with | [_, _], _ => rfl) (fun fd F => ok_f_created T G0 Z MK F)
  have O_f_or_none : Fn P w K mg base 1 "or_none" ["found"] (sp_f_or_none K C) := h_f_or_none.fn X G (fun fd F => F.binds (ps := ["found"]) fun _ _ _ _ _ _ us hl => match us, hl with | [_], _ => rfl) (fun fd F => ok_f_or_none T G0 Z  F)
  have O_f_result_of : Fn P w K mg base 1 "result_of" ["failure"] (sp_f_result_of K C) := h_f_result_of.fn X G (fun fd F => F.binds (ps := ["failure"]) fun _ _ _ _ _ _ us hl => match us, hl with | [_], _ => rfl) (fun fd F => ok_f_result_of T G0 Z  F)
  have O_m_change_domain : Mt P w K mg base C 2 "change_domain" ["self", "agent", "rankings"] (sp_m_change_domain K C) := h_m_change_domain.mt (fun fd F => F.binds (ps := ["self", "agent", "rankings"]) fun _ _ _ _ _ _ us hl => match us, hl with | [_, _, _], _ => rfl) (fun fd F => ok_m_change_domain T G0 Z O_f_count_of O_m_domain_sizes F)
  have O_m_change_target : Mt P w K mg base C 1 "change_target" ["self", "outcomes"] (sp_m_change_target K C) := h_m_change_target.mt (fun fd F => F.binds (ps := ["self", "outcomes"]) fun _ _ _ _ _ _ us hl => match us, hl with | [_, _], _ => rfl) (fun fd F => ok_m_change_target T G0 Z  F)
  have O_m_change_mechanism : Mt P w K mg base C 1 "change_mechanism" ["self", "message_counts", "outcomes"] (sp_m_change_mechanism K C) := h_m_change_mechanism.mt (fun fd F => F.binds (ps := ["self", "message_counts", "outcomes"]) fun _ _ _ _ _ _ us hl => match us, hl with | [_, _, _], _ => rfl) (fun fd F => ok_m_change_mechanism T G0 Z  F)
  have O_f_has_preference : Fn P w K mg base 1 "has_preference" ["instance", "agent", "preference"] (sp_f_has_preference K C) := h_f_has_preference.fn X G (fun fd F => F.binds (ps := ["instance", "agent", "preference"]) fun _ _ _ _ _ _ us hl => match us, hl with | [_, _, _], _ => rfl) (fun fd F => ok_f_has_preference T G0 Z  F)
  have O_f_are_sets : Fn P w K mg base 1 "are_sets" ["instance", "coalition", "alternatives"] (sp_f_are_sets K C) := h_f_are_sets.fn X G (fun fd F => F.binds (ps := ["instance", "coalition", "alternatives"]) fun _ _ _ _ _ _ us hl => match us, hl with | [_, _, _], _ => rfl) (fun fd F => ok_f_are_sets T G0 Z  F)
  have O_m_is_ready : Mt P w K mg base C 2 "is_ready" ["self"] (sp_m_is_ready K C) := h_m_is_ready.mt (fun fd F => F.binds (ps := ["self"]) fun _ _ _ _ _ _ us hl => match us, hl with | [_], _ => rfl) (fun fd F => ok_m_is_ready T G0 Z O_m_domain_sizes F)
  have hD : ∀ p : Nat, 1 ≤ p → p < 25 → ∃ k f, k ≤ 8 ∧ List.lookup (p : Int) [(1, a_f_add_preference), (2, a_f_set_full_domain), (3, a_f_set_target_outcome), (4, a_f_use_dictatorship), (5, a_f_use_borda), (6, a_f_target_outcome), (7, a_f_monotonicity_violation), (8, a_f_find_manipulation), (9, a_f_set_message_counts), (10, a_f_set_mechanism_outcome), (11, a_f_use_direct_mechanism), (12, a_f_mechanism_outcome), (13, a_f_message_counts), (14, a_f_count_equilibria), (15, a_f_equilibrium), (16, a_f_equilibrium_outcomes), (17, a_f_implements_in_nash), (18, a_f_best_response_dynamics), (19, a_f_dominant_messages), (20, a_f_dominated_messages), (21, a_f_implements_in_dominant_strategies), (22, a_f_force), (23, a_f_respond), (24, a_f_describe)] = some f ∧ Held P w K mg base k f (spDeed C p) := fun p h1 h2 => match p, h1, h2 with
    | 1, _, _ => ⟨3, a_f_add_preference, by decide, rfl, h_f_add_preference.held (ps := ["instance", "numbers", "row"]) (fun fd F => F.binds (ps := ["instance", "numbers", "row"]) fun _ _ _ _ _ _ us hl => match us, hl with | [_, _, _], _ => rfl) (fun fd F => deed_add_preference (ok_f_add_preference T G0 Z O_f_is_ranking O_m_change_domain F))⟩
    | 2, _, _ => ⟨4, a_f_set_full_domain, by decide, rfl, h_f_set_full_domain.held (ps := ["instance", "numbers", "row"]) (fun fd F => F.binds (ps := ["instance", "numbers", "row"]) fun _ _ _ _ _ _ us hl => match us, hl with | [_, _, _], _ => rfl) (fun fd F => deed_set_full_domain (ok_f_set_full_domain T G0 Z O_f_all_rankings O_m_change_domain F))⟩
    | 3, _, _ => ⟨3, a_f_set_target_outcome, by decide, rfl, h_f_set_target_outcome.held (ps := ["instance", "numbers", "row"]) (fun fd F => F.binds (ps := ["instance", "numbers", "row"]) fun _ _ _ _ _ _ us hl => match us, hl with | [_, _, _], _ => rfl) (fun fd F => deed_set_target_outcome (ok_f_set_target_outcome T G0 Z O_f_with_number O_f_is_within O_f_place_of O_m_target_at O_m_change_target O_m_domain_sizes F))⟩
    | 4, _, _ => ⟨5, a_f_use_dictatorship, by decide, rfl, h_f_use_dictatorship.held (ps := ["instance", "numbers", "row"]) (fun fd F => F.binds (ps := ["instance", "numbers", "row"]) fun _ _ _ _ _ _ us hl => match us, hl with | [_, _, _], _ => rfl) (fun fd F => deed_use_dictatorship (ok_f_use_dictatorship T G0 Z O_f_dictatorship O_m_change_target F))⟩
    | 5, _, _ => ⟨5, a_f_use_borda, by decide, rfl, h_f_use_borda.held (ps := ["instance", "numbers", "row"]) (fun fd F => F.binds (ps := ["instance", "numbers", "row"]) fun _ _ _ _ _ _ us hl => match us, hl with | [_, _, _], _ => rfl) (fun fd F => deed_use_borda (ok_f_use_borda T G0 Z O_f_borda O_m_change_target F))⟩
    | 6, _, _ => ⟨3, a_f_target_outcome, by decide, rfl, h_f_target_outcome.held (ps := ["instance", "numbers", "row"]) (fun fd F => F.binds (ps := ["instance", "numbers", "row"]) fun _ _ _ _ _ _ us hl => match us, hl with | [_, _, _], _ => rfl) (fun fd F => deed_target_outcome (ok_f_target_outcome T G0 Z O_f_is_within O_m_target_at O_m_domain_sizes F))⟩
    | 7, _, _ => ⟨6, a_f_monotonicity_violation, by decide, rfl, h_f_monotonicity_violation.held (ps := ["instance", "numbers", "row"]) (fun fd F => F.binds (ps := ["instance", "numbers", "row"]) fun _ _ _ _ _ _ us hl => match us, hl with | [_, _, _], _ => rfl) (fun fd F => deed_monotonicity_violation (ok_f_monotonicity_violation T G0 Z O_f_first_violation F))⟩
    | 8, _, _ => ⟨6, a_f_find_manipulation, by decide, rfl, h_f_find_manipulation.held (ps := ["instance", "numbers", "row"]) (fun fd F => F.binds (ps := ["instance", "numbers", "row"]) fun _ _ _ _ _ _ us hl => match us, hl with | [_, _, _], _ => rfl) (fun fd F => deed_find_manipulation (ok_f_find_manipulation T G0 Z O_f_or_none O_f_first_manipulation F))⟩
    | 9, _, _ => ⟨2, a_f_set_message_counts, by decide, rfl, h_f_set_message_counts.held (ps := ["instance", "numbers", "row"]) (fun fd F => F.binds (ps := ["instance", "numbers", "row"]) fun _ _ _ _ _ _ us hl => match us, hl with | [_, _, _], _ => rfl) (fun fd F => deed_set_message_counts (ok_f_set_message_counts T G0 Z O_f_count_of O_m_change_mechanism F))⟩
    | 10, _, _ => ⟨3, a_f_set_mechanism_outcome, by decide, rfl, h_f_set_mechanism_outcome.held (ps := ["instance", "numbers", "row"]) (fun fd F => F.binds (ps := ["instance", "numbers", "row"]) fun _ _ _ _ _ _ us hl => match us, hl with | [_, _, _], _ => rfl) (fun fd F => deed_set_mechanism_outcome (ok_f_set_mechanism_outcome T G0 Z O_f_with_number O_f_is_within O_f_place_of O_m_outcome_of O_m_change_mechanism F))⟩
    | 11, _, _ => ⟨2, a_f_use_direct_mechanism, by decide, rfl, h_f_use_direct_mechanism.held (ps := ["instance", "numbers", "row"]) (fun fd F => F.binds (ps := ["instance", "numbers", "row"]) fun _ _ _ _ _ _ us hl => match us, hl with | [_, _, _], _ => rfl) (fun fd F => deed_use_direct_mechanism (ok_f_use_direct_mechanism T G0 Z O_m_change_mechanism O_m_domain_sizes F))⟩
    | 12, _, _ => ⟨3, a_f_mechanism_outcome, by decide, rfl, h_f_mechanism_outcome.held (ps := ["instance", "numbers", "row"]) (fun fd F => F.binds (ps := ["instance", "numbers", "row"]) fun _ _ _ _ _ _ us hl => match us, hl with | [_, _, _], _ => rfl) (fun fd F => deed_mechanism_outcome (ok_f_mechanism_outcome T G0 Z O_f_is_within O_m_outcome_of F))⟩
    | 13, _, _ => ⟨1, a_f_message_counts, by decide, rfl, h_f_message_counts.held (ps := ["instance", "numbers", "row"]) (fun fd F => F.binds (ps := ["instance", "numbers", "row"]) fun _ _ _ _ _ _ us hl => match us, hl with | [_, _, _], _ => rfl) (fun fd F => deed_message_counts (ok_f_message_counts T G0 Z  F))⟩
    | 14, _, _ => ⟨7, a_f_count_equilibria, by decide, rfl, h_f_count_equilibria.held (ps := ["instance", "numbers", "row"]) (fun fd F => F.binds (ps := ["instance", "numbers", "row"]) fun _ _ _ _ _ _ us hl => match us, hl with | [_, _, _], _ => rfl) (fun fd F => deed_count_equilibria (ok_f_count_equilibria T G0 Z O_f_is_within O_f_equilibria O_m_domain_sizes F))⟩
    | 15, _, _ => ⟨7, a_f_equilibrium, by decide, rfl, h_f_equilibrium.held (ps := ["instance", "numbers", "row"]) (fun fd F => F.binds (ps := ["instance", "numbers", "row"]) fun _ _ _ _ _ _ us hl => match us, hl with | [_, _, _], _ => rfl) (fun fd F => deed_equilibrium (ok_f_equilibrium T G0 Z O_f_equilibria O_f_is_within O_m_domain_sizes F))⟩
    | 16, _, _ => ⟨7, a_f_equilibrium_outcomes, by decide, rfl, h_f_equilibrium_outcomes.held (ps := ["instance", "numbers", "row"]) (fun fd F => F.binds (ps := ["instance", "numbers", "row"]) fun _ _ _ _ _ _ us hl => match us, hl with | [_, _, _], _ => rfl) (fun fd F => deed_equilibrium_outcomes (ok_f_equilibrium_outcomes T G0 Z O_f_is_within O_f_mask_of O_f_equilibria O_m_outcome_of O_m_domain_sizes F))⟩
    | 17, _, _ => ⟨8, a_f_implements_in_nash, by decide, rfl, h_f_implements_in_nash.held (ps := ["instance", "numbers", "row"]) (fun fd F => F.binds (ps := ["instance", "numbers", "row"]) fun _ _ _ _ _ _ us hl => match us, hl with | [_, _, _], _ => rfl) (fun fd F => deed_implements_in_nash (ok_f_implements_in_nash T G0 Z O_f_result_of O_f_first_failure F))⟩
    | 18, _, _ => ⟨7, a_f_best_response_dynamics, by decide, rfl, h_f_best_response_dynamics.held (ps := ["instance", "numbers", "row"]) (fun fd F => F.binds (ps := ["instance", "numbers", "row"]) fun _ _ _ _ _ _ us hl => match us, hl with | [_, _, _], _ => rfl) (fun fd F => deed_best_response_dynamics (ok_f_best_response_dynamics T G0 Z O_f_dynamics O_f_is_within O_m_domain_sizes F))⟩
    | 19, _, _ => ⟨6, a_f_dominant_messages, by decide, rfl, h_f_dominant_messages.held (ps := ["instance", "numbers", "row"]) (fun fd F => F.binds (ps := ["instance", "numbers", "row"]) fun _ _ _ _ _ _ us hl => match us, hl with | [_, _, _], _ => rfl) (fun fd F => deed_dominant_messages (ok_f_dominant_messages T G0 Z O_f_has_preference O_f_mask_of O_f_dominant_flags F))⟩
    | 20, _, _ => ⟨6, a_f_dominated_messages, by decide, rfl, h_f_dominated_messages.held (ps := ["instance", "numbers", "row"]) (fun fd F => F.binds (ps := ["instance", "numbers", "row"]) fun _ _ _ _ _ _ us hl => match us, hl with | [_, _, _], _ => rfl) (fun fd F => deed_dominated_messages (ok_f_dominated_messages T G0 Z O_f_has_preference O_f_mask_of O_f_dominated_flags F))⟩
    | 21, _, _ => ⟨8, a_f_implements_in_dominant_strategies, by decide, rfl, h_f_implements_in_dominant_strategies.held (ps := ["instance", "numbers", "row"]) (fun fd F => F.binds (ps := ["instance", "numbers", "row"]) fun _ _ _ _ _ _ us hl => match us, hl with | [_, _, _], _ => rfl) (fun fd F => deed_implements_in_dominant_strategies (ok_f_implements_in_dominant_strategies T G0 Z O_f_result_of O_f_first_failure_of_dominance F))⟩
    | 22, _, _ => ⟨5, a_f_force, by decide, rfl, h_f_force.held (ps := ["instance", "numbers", "row"]) (fun fd F => F.binds (ps := ["instance", "numbers", "row"]) fun _ _ _ _ _ _ us hl => match us, hl with | [_, _, _], _ => rfl) (fun fd F => deed_force (ok_f_force T G0 Z O_f_are_sets O_f_can_force F))⟩
    | 23, _, _ => ⟨5, a_f_respond, by decide, rfl, h_f_respond.held (ps := ["instance", "numbers", "row"]) (fun fd F => F.binds (ps := ["instance", "numbers", "row"]) fun _ _ _ _ _ _ us hl => match us, hl with | [_, _, _], _ => rfl) (fun fd F => deed_respond (ok_f_respond T G0 Z O_f_are_sets O_f_can_respond F))⟩
    | 24, _, _ => ⟨2, a_f_describe, by decide, rfl, h_f_describe.held (ps := ["instance", "numbers", "row"]) (fun fd F => F.binds (ps := ["instance", "numbers", "row"]) fun _ _ _ _ _ _ us hl => match us, hl with | [_, _, _], _ => rfl) (fun fd F => deed_describe (ok_f_describe T G0 Z O_m_domain_sizes F))⟩
    | n + 25, _, h => absurd h (by omega)
  have O_f_answer : Fn P w K mg base 9 "answer" ["instance", "place", "numbers", "row"] (sp_f_answer K C) := h_f_answer.fn X G (fun fd F => F.binds (ps := ["instance", "place", "numbers", "row"]) fun _ _ _ _ _ _ us hl => match us, hl with | [_, _, _, _], _ => rfl) (fun fd F => ok_f_answer T G0 Z (PySem.W.mg_of X G dd.1) dd O_m_is_ready hD F)
  have O_f_read_call : Fn P w K mg base 1 "read_call" ["calls", "at"] (sp_f_read_call K C) := h_f_read_call.fn X G (fun fd F => F.binds (ps := ["calls", "at"]) fun _ _ _ _ _ _ us hl => match us, hl with | [_, _], _ => rfl) (fun fd F => ok_f_read_call T G0 Z  F)
  exact ok_f_answers T G0 Z O_f_read_call O_f_created O_f_answer F0
end Gx
/-! # The mirrors are the specification: places, profiles, preferences -/
namespace Gx
open PySem PySem.Spec PyProof.Rows L2
theorem fold_place : ∀ (ns ss : List Nat) (z : Nat), ns.length = ss.length → (List.range ss.length).foldl (fun z i => z * ss.getD i 0 + ns.getD i 0) z = (ns.zip ss).foldl (fun f p => f * p.2 + p.1) z
  | [], [], _, _ => rfl
  | [], _ :: _, _, h => by cases h
  | _ :: _, [], _, h => by cases h
  | n :: ns, s :: ss, z, h => by
    have ih := fold_place ns ss (z * s + n) (by simpa using h)
    rw [List.length_cons, List.range_succ_eq_map, List.foldl_cons, List.foldl_map, List.zip_cons_cons, List.foldl_cons, ← ih]
    rfl
section
variable {m : Mc}
theorem sz_getD (m : Mc) (i : Nat) : (m.target.domains.getD i []).length = (sizesM m).getD i 0 := by
  unfold sizesM
  rw [List.getD_eq_getElem?_getD, List.getD_eq_getElem?_getD, List.getElem?_map]
  cases m.target.domains[i]? <;> rfl
theorem outEq (W : Wf m) {s : List Nat} (h : s.length = m.target.agentCount) : m.outcome s = out m s := by
  unfold Su194.Mechanism.outcome out
  have e : m.index s = placeOf s m.messageCounts := by
    show (List.range m.target.agentCount).foldl (fun z i => z * m.messageCounts.getD i 0 + s.getD i 0) 0 = _
    rw [← W.ml]
    exact fold_place s m.messageCounts 0 (by rw [W.ml]; exact h)
  rw [e]
theorem tgtI (W : Wf m) {t : List Nat} (h : t.length = m.target.agentCount) : m.target.profileIndex t = placeOf t (sizesM m) := by
  show (List.range m.target.agentCount).foldl (fun z i => z * (m.target.domains.getD i []).length + t.getD i 0) 0 = _
  have e : (fun z i => z * (m.target.domains.getD i []).length + t.getD i 0) = fun z i => z * (sizesM m).getD i 0 + t.getD i 0 := by
    funext z i
    rw [sz_getD]
  rw [e, ← W.szl]
  exact fold_place t (sizesM m) 0 (by rw [W.szl]; exact h)
theorem tgtE (W : Wf m) {t : List Nat} (h : t.length = m.target.agentCount) : m.target.outcome t = tgt m t := by
  unfold Su193.SocialChoice.outcome tgt
  rw [tgtI W h]
theorem idxE (W : Wf m) {s : List Nat} (h : s.length = m.target.agentCount) : m.index s = placeOf s m.messageCounts := by
  show (List.range m.target.agentCount).foldl (fun z i => z * m.messageCounts.getD i 0 + s.getD i 0) 0 = _
  rw [← W.ml]
  exact fold_place s m.messageCounts 0 (by rw [W.ml]; exact h)
theorem isMP (W : Wf m) (s : List Nat) : m.isMessageProfile s = within s m.messageCounts := by
  rw [Bool.eq_iff_iff]
  show (s.length == m.target.agentCount && (List.range m.target.agentCount).all fun i => decide (s.getD i 0 < m.messageCounts.getD i 0)) = true ↔ _
  rw [Bool.and_eq_true, beq_iff_eq, List.all_eq_true, ← W.ml]
  constructor
  · rintro ⟨h1, h2⟩
    exact wn_of h1 fun i hi => of_decide_eq_true (h2 i (List.mem_range.mpr hi))
  · intro h
    exact ⟨wn_len h, fun i hi => decide_eq_true (wn_at i h (List.mem_range.mp hi))⟩
theorem isPr (W : Wf m) (t : List Nat) : m.target.isProfile t = within t (sizesM m) := by
  rw [Bool.eq_iff_iff]
  show (t.length == m.target.agentCount && (List.range m.target.agentCount).all fun i => decide (t.getD i 0 < (m.target.domains.getD i []).length)) = true ↔ _
  rw [Bool.and_eq_true, beq_iff_eq, List.all_eq_true, ← W.szl]
  constructor
  · rintro ⟨h1, h2⟩
    exact wn_of h1 fun i hi => by
      have := of_decide_eq_true (h2 i (List.mem_range.mpr hi))
      rwa [sz_getD] at this
  · intro h
    exact ⟨wn_len h, fun i hi => decide_eq_true (by rw [sz_getD]; exact wn_at i h (List.mem_range.mp hi))⟩
theorem profE (m : Mc) : m.target.profiles = allLists (sizesM m) := (allLists_eq _).symm
theorem mprofE (m : Mc) : m.messageProfiles = allLists m.messageCounts := (allLists_eq _).symm
theorem repE (m : Mc) (i : Nat) (t : List Nat) : m.target.reported i t = prf m i t := rfl
theorem readyE (m : Mc) : m.target.isReady = rdy m := by
  rw [Bool.eq_iff_iff]
  unfold rdy Su193.SocialChoice.isReady sizesM
  rw [List.all_eq_true, Bool.not_eq_true', ← Bool.not_eq_true, List.contains_iff_mem, List.mem_map]
  constructor
  · rintro h ⟨l, h1, h2⟩
    have := h l h1
    rw [List.length_eq_zero_iff.mp h2] at this
    cases this
  · intro h l hl
    cases l with
    | nil => exact absurd ⟨[], hl, rfl⟩ h
    | cons a r => rfl
theorem nodup_count {l : List Nat} (h : l.Nodup) (x : Nat) : l.count x = if x ∈ l then 1 else 0 := by
  by_cases hx : x ∈ l
  · rw [if_pos hx]
    exact List.Nodup.count h |>.trans (by rw [if_pos hx])
  · rw [if_neg hx]
    exact List.count_eq_zero.mpr hx
theorem perm_mem {a b : List Nat} (ha : a.Nodup) (hb : b.Nodup) (h : ∀ x, x ∈ a ↔ x ∈ b) : a.Perm b := by
  rw [List.perm_iff_count]
  intro x
  rw [nodup_count ha, nodup_count hb]
  by_cases hx : x ∈ a
  · rw [if_pos hx, if_pos ((h x).mp hx)]
  · rw [if_neg hx, if_neg fun z => hx ((h x).mpr z)]
theorem isPrefE (c : Nat) (w : List Nat) : Su193.isPreference c w = isRk c w := by
  rw [Bool.eq_iff_iff]
  unfold Su193.isPreference
  rw [Bool.and_eq_true, Bool.and_eq_true, beq_iff_eq, decide_eq_true_iff, List.all_eq_true]
  constructor
  · rintro ⟨h1, h2, h3⟩
    have hr : RkOk c w := ⟨h1, h2, fun x hx => of_decide_eq_true (h3 x hx)⟩
    exact decide_eq_true (perm_mem h2 List.nodup_range fun x => ⟨fun hx => List.mem_range.mpr (hr.2.2 x hx), fun hx => rk_mem hr (List.mem_range.mp hx)⟩)
  · intro h
    have hr := rk_of h
    exact ⟨hr.1, hr.2.1, fun x hx => decide_eq_true (hr.2.2 x hx)⟩
theorem permsE : ∀ c : Nat, 2 ≤ c → c ≤ 3 → Su193.permutations c (List.range c) = allRk c := fun c h1 h2 => by
  match c, h1, h2 with
  | 2, _, _ => decide +kernel
  | 3, _, _ => decide +kernel
/-- the i-th of all lists has the place i -/
theorem enum_at : ∀ (ss : List Nat) (i : Nat) (r : List Nat), (Su193.enumerateProfiles ss)[i]? = some r → ∀ z, (r.zip ss).foldl (fun f p => f * p.2 + p.1) z = z * prodL ss + i
  | [], i, r, h, z => by
    cases i with
    | zero => cases h; show z = z * 1 + 0; omega
    | succ i => cases h
  | k :: ss, i, r, h, z => by
    have key : ∀ (n t0 : Nat) (i : Nat) (r : List Nat), ((List.range' t0 n).flatMap fun t => (Su193.enumerateProfiles ss).map fun r => t :: r)[i]? = some r → ∃ t j r', r = t :: r' ∧ (Su193.enumerateProfiles ss)[j]? = some r' ∧ i + t0 * prodL ss = t * prodL ss + j := by
      intro n
      induction n with
      | zero => intro t0 i r h; simp at h
      | succ n ih =>
        intro t0 i r h
        rw [List.range'_succ, List.flatMap_cons] at h
        by_cases hi : i < prodL ss
        · rw [List.getElem?_append_left (by rw [List.length_map, enum_len]; exact hi), List.getElem?_map] at h
          obtain ⟨r', h1, h2⟩ := Option.map_eq_some_iff.mp h
          exact ⟨t0, i, r', h2.symm, h1, by omega⟩
        · rw [List.getElem?_append_right (by rw [List.length_map, enum_len]; omega), List.length_map, enum_len] at h
          obtain ⟨t, j, r', h1, h2, h3⟩ := ih (t0 + 1) (i - prodL ss) r h
          refine ⟨t, j, r', h1, h2, ?_⟩
          rw [Nat.add_mul, Nat.one_mul] at h3
          omega
    have h' : ((List.range' 0 k).flatMap fun t => (Su193.enumerateProfiles ss).map fun r => t :: r)[i]? = some r := by
      rw [← List.range_eq_range']
      exact h
    obtain ⟨t, j, r', rfl, h2, h3⟩ := key k 0 i r h'
    rw [List.zip_cons_cons, List.foldl_cons, enum_at ss j r' h2, prodL_cons, Nat.add_mul, Nat.mul_assoc]
    show z * (k * prodL ss) + t * prodL ss + j = z * (k * prodL ss) + i
    omega
theorem all_at {ss : List Nat} {i : Nat} {r : List Nat} (h : (allLists ss)[i]? = some r) : placeOf r ss = i := by
  rw [allLists_eq] at h
  have := enum_at ss i r h 0
  unfold placeOf
  rw [this]
  omega
end
end Gx
/-! # The mirrors are the specification: equilibria, masks, dominance -/
namespace Gx
open PySem PySem.Spec PyProof.Rows L2
theorem allC {α : Type} {l : List α} {p q : α → Bool} (h : ∀ a ∈ l, p a = q a) : l.all p = l.all q := by
  rw [Bool.eq_iff_iff, List.all_eq_true, List.all_eq_true]
  exact ⟨fun k a ha => by rw [← h a ha]; exact k a ha, fun k a ha => by rw [h a ha]; exact k a ha⟩
theorem anyC {α : Type} {l : List α} {p q : α → Bool} (h : ∀ a ∈ l, p a = q a) : l.any p = l.any q := by
  rw [Bool.eq_iff_iff, List.any_eq_true, List.any_eq_true]
  exact ⟨fun ⟨a, ha, k⟩ => ⟨a, ha, by rw [← h a ha]; exact k⟩, fun ⟨a, ha, k⟩ => ⟨a, ha, by rw [h a ha]; exact k⟩⟩
theorem findC {α : Type} : ∀ {l : List α} {p q : α → Bool}, (∀ a ∈ l, p a = q a) → l.find? p = l.find? q
  | [], _, _, _ => rfl
  | a :: r, p, q, h => by
    have ih := findC (l := r) (p := p) (q := q) fun b hb => h b (List.mem_cons_of_mem _ hb)
    rw [List.find?_cons, List.find?_cons, h a List.mem_cons_self, ih]
theorem findSC {α β : Type} : ∀ {l : List α} {p q : α → Option β}, (∀ a ∈ l, p a = q a) → l.findSome? p = l.findSome? q
  | [], _, _, _ => rfl
  | a :: r, p, q, h => by
    have ih := findSC (l := r) (p := p) (q := q) fun b hb => h b (List.mem_cons_of_mem _ hb)
    rw [List.findSome?_cons, List.findSome?_cons, h a List.mem_cons_self, ih]
/-! ### masks -/
theorem pows_at : ∀ c : Nat, c < 7 → pows.take c = (List.range c).map fun x => 2 ^ x := by decide +kernel
theorem mask_range (f : Nat → Bool) {c : Nat} (h : c < 7) : maskOf ((List.range c).map f) = (((List.range c).filter f).map fun x => 2 ^ x).sum := by
  unfold maskOf
  have hl : ((List.range c).map f).length = c := by rw [List.length_map, List.length_range]
  have hp : pows.length = 6 := rfl
  have hm : min pows.length ((List.range c).map f).length = c := by rw [hl, hp]; omega
  have e2 : ((List.range c).map f).take c = (List.range c).map f := List.take_of_length_le (by omega)
  rw [List.zip_eq_zip_take_min, hm, pows_at c h, e2, List.zip_map', List.filter_map, List.map_map]
  rfl
theorem erase_nodup : ∀ (n : Nat) (l : List Nat), l.length ≤ n → l.eraseDups.Nodup
  | 0, l, h => by
    have : l = [] := List.length_eq_zero_iff.mp (by omega)
    rw [this]
    exact List.nodup_nil
  | n + 1, [], _ => List.nodup_nil
  | n + 1, a :: r, h => by
    rw [List.eraseDups_cons, List.nodup_cons]
    refine ⟨fun hm => ?_, erase_nodup n _ ?_⟩
    · have := (List.mem_filter.mp (List.mem_eraseDups.mp hm)).2
      simp at this
    · have := List.length_filter_le (fun b => !b == a) r
      rw [List.length_cons] at h
      omega
theorem mask_eq {L : List Nat} {c : Nat} (hc : c < 7) (hL : ∀ x ∈ L, x < c) : Su193.maskOf L = maskOf ((List.range c).map fun x => L.contains x) := by
  rw [mask_range _ hc]
  unfold Su193.maskOf
  refine (List.Perm.map _ (perm_mem (erase_nodup _ L (Nat.le_refl _)) (List.nodup_range.filter _) fun x => ?_)).sum_nat
  rw [List.mem_eraseDups, List.mem_filter, List.mem_range, List.contains_iff_mem]
  exact ⟨fun h => ⟨hL x h, h⟩, fun h => h.2⟩
theorem mask_filter (f : Nat → Bool) {c : Nat} (hc : c < 7) : Su193.maskOf ((List.range c).filter f) = maskOf ((List.range c).map f) := by
  rw [mask_eq hc fun x hx => List.mem_range.mp (List.mem_filter.mp hx).1]
  congr 1
  refine List.map_congr_left fun x hx => ?_
  rw [Bool.eq_iff_iff, List.contains_iff_mem, List.mem_filter]
  exact ⟨fun h => h.2, fun h => ⟨hx, h⟩⟩
section
variable {m : Mc}
theorem Wf.len_mc (W : Wf m) {s : List Nat} (h : within s m.messageCounts = true) : s.length = m.target.agentCount := (wn_len h).trans W.ml
theorem Wf.len_sz (W : Wf m) {s : List Nat} (h : within s (sizesM m) = true) : s.length = m.target.agentCount := (wn_len h).trans W.szl
theorem outS (W : Wf m) {s : List Nat} (h : s.length = m.target.agentCount) (i w : Nat) : m.outcome (s.set i w) = out m (s.set i w) := outEq W (by rw [List.length_set]; exact h)
/-! ### equilibria -/
theorem contE (W : Wf m) (t : List Nat) {s : List Nat} (h : s.length = m.target.agentCount) (i : Nat) : ((List.range (m.messageCounts.getD i 0)).all fun w => !m.gains t s i w) = content m s i (prf m i t) := by
  unfold content choices
  rw [List.any_map, List.not_any_eq_all_not]
  refine allC fun w _ => ?_
  show (!Su193.prefers (prf m i t) (m.outcome (s.set i w)) (m.outcome s)) = !Su193.prefers (prf m i t) (out m (s.set i w)) (out m s)
  rw [outS W h, outEq W h]
theorem isEqE (W : Wf m) (t : List Nat) {s : List Nat} (h : s.length = m.target.agentCount) : m.isEquilibrium t s = isEq m s t := by
  show (List.range m.target.agentCount).all _ = (List.range m.target.agentCount).all _
  exact allC fun i _ => contE W t h i
theorem equilE (W : Wf m) (t : List Nat) : m.equilibria t = equil m t := by
  unfold Su194.Mechanism.equilibria equil
  rw [mprofE]
  exact List.filter_congr fun s hs => isEqE W t (W.len_mc (mem_all.mp hs))
theorem eqOutE (W : Wf m) (t : List Nat) : m.equilibriumOutcomes t = (equil m t).map (out m) := by
  unfold Su194.Mechanism.equilibriumOutcomes
  rw [equilE W]
  exact List.map_congr_left fun s hs => outEq W (W.len_mc (mem_all.mp (List.mem_filter.mp hs).1))
/-- outcomes, by message profiles -/
theorem outsE (W : Wf m) : m.outcomes = (allLists m.messageCounts).map (out m) := by
  refine List.ext_getElem? fun k => ?_
  rw [List.getElem?_map]
  cases h : (allLists m.messageCounts)[k]? with
  | none =>
    have h1 := List.getElem?_eq_none_iff.mp h
    rw [all_lenE, ← W.ol] at h1
    exact List.getElem?_eq_none h1
  | some s =>
    have h1 : k < (allLists m.messageCounts).length := (List.getElem?_eq_some_iff.mp h).1
    rw [all_lenE, ← W.ol] at h1
    rw [List.getElem?_eq_getElem h1]
    show some _ = some (out m s)
    unfold out
    rw [all_at h, List.getD_eq_getElem?_getD, List.getElem?_eq_getElem h1]
    rfl
theorem tgtsE (W : Wf m) : m.target.outcomes = (allLists (sizesM m)).map (tgt m) := by
  refine List.ext_getElem? fun k => ?_
  rw [List.getElem?_map]
  cases h : (allLists (sizesM m))[k]? with
  | none =>
    have h1 := List.getElem?_eq_none_iff.mp h
    rw [all_lenE, ← W.tl] at h1
    exact List.getElem?_eq_none h1
  | some s =>
    have h1 : k < (allLists (sizesM m)).length := (List.getElem?_eq_some_iff.mp h).1
    rw [all_lenE, ← W.tl] at h1
    rw [List.getElem?_eq_getElem h1]
    show some _ = some (tgt m s)
    unfold tgt
    rw [all_at h, List.getD_eq_getElem?_getD, List.getElem?_eq_getElem h1]
    rfl
theorem all_zipIdx {t : List Nat} (f : Nat → Bool) : (t.zipIdx.all fun q => f q.2) = (List.range t.length).all f := by
  have e : (List.range t.length) = t.zipIdx.map Prod.snd := by rw [List.zipIdx_map_snd, List.range_eq_range']
  rw [e, List.all_map]
  rfl
theorem atAllE (W : Wf m) {t : List Nat} (ht : within t (sizesM m) = true) {k : Nat} {s : List Nat} (hs : (allLists m.messageCounts)[k]? = some s) : atAll (rowsAt m t) k = isEq m s t := by
  have hl := W.len_sz ht
  unfold atAll rowsAt isEq
  rw [tables_at (cRows m) hl, List.all_map, List.all_map, ← hl, ← all_zipIdx (t := t) fun i => content m s i (prf m i t)]
  refine allC fun q hq => ?_
  obtain ⟨h1, h2⟩ := zipIdx_at (List.getElem?_of_mem hq |>.choose_spec)
  rw [← h2] at h1
  have hi : q.2 < t.length := (List.getElem?_eq_some_iff.mp h1).1
  have e1 : t.getD q.2 0 = q.1 := by rw [List.getD_eq_getElem?_getD, h1]; rfl
  have hk : q.1 < (domM m q.2).length := by
    have := wn_at q.2 ht (by rw [W.szl, ← hl]; exact hi)
    rw [e1, W.sz_at (by omega)] at this
    exact this
  show ((cRows m q.2).getD q.1 []).getD k false = content m s q.2 (prf m q.2 t)
  have e2 : (cRows m q.2).getD q.1 [] = cRow m q.2 (prf m q.2 t) := by
    unfold cRows prf
    rw [e1, List.getD_eq_getElem?_getD, List.getElem?_map, List.getD_eq_getElem?_getD, List.getElem?_eq_getElem hk]
    rfl
  rw [e2]
  unfold cRow
  rw [List.getD_eq_getElem?_getD, List.getElem?_map, hs]
  rfl
theorem attE (W : Wf m) {t : List Nat} (ht : within t (sizesM m) = true) (wanted : Nat) : att m (rowsAt m t) wanted = !(((equil m t).map (out m)).isEmpty || ((equil m t).map (out m)).any fun x => x != wanted) := by
  have e : m.outcomes.zipIdx = (allLists m.messageCounts).zipIdx.map (Prod.map (out m) id) := by rw [outsE W, List.zipIdx_map]
  unfold att
  rw [e, List.any_map, List.all_map, Bool.not_or, List.isEmpty_map, List.any_map, List.not_any_eq_all_not]
  have hA : ∀ q ∈ (allLists m.messageCounts).zipIdx, atAll (rowsAt m t) q.2 = isEq m q.1 t := fun q hq => by
    obtain ⟨h1, h2⟩ := zipIdx_at (List.getElem?_of_mem hq |>.choose_spec)
    rw [← h2] at h1
    exact atAllE W ht h1
  have e1 : ((allLists m.messageCounts).zipIdx.any ((fun q => atAll (rowsAt m t) q.2) ∘ Prod.map (out m) id)) = !(equil m t).isEmpty := by
    have e3 : ((allLists m.messageCounts).zipIdx.any ((fun q => atAll (rowsAt m t) q.2) ∘ Prod.map (out m) id)) = (allLists m.messageCounts).zipIdx.any ((fun s => isEq m s t) ∘ Prod.fst) := anyC hA
    rw [e3, ← List.any_map, List.zipIdx_map_fst]
    unfold equil
    rw [Bool.eq_iff_iff, List.any_eq_true, Bool.not_eq_true', List.isEmpty_eq_false_iff]
    constructor
    · rintro ⟨s, h1, h2⟩ h3
      have : s ∈ (allLists m.messageCounts).filter fun s => isEq m s t := List.mem_filter.mpr ⟨h1, h2⟩
      rw [h3] at this
      cases this
    · intro h
      obtain ⟨s, hs⟩ := List.exists_mem_of_ne_nil _ h
      exact ⟨s, List.mem_filter.mp hs⟩
  have e2 : ((allLists m.messageCounts).zipIdx.all ((fun q => !atAll (rowsAt m t) q.2 || q.1 == wanted) ∘ Prod.map (out m) id)) = (equil m t).all fun s => !((fun x => x != wanted) ∘ out m) s := by
    have e3 : ((allLists m.messageCounts).zipIdx.all ((fun q => !atAll (rowsAt m t) q.2 || q.1 == wanted) ∘ Prod.map (out m) id)) = (allLists m.messageCounts).zipIdx.all ((fun s => !isEq m s t || out m s == wanted) ∘ Prod.fst) := allC fun q hq => by
      show (!atAll (rowsAt m t) q.2 || out m q.1 == wanted) = (!isEq m q.1 t || out m q.1 == wanted)
      rw [hA q hq]
    rw [e3, ← List.all_map, List.zipIdx_map_fst]
    unfold equil
    rw [List.all_filter]
    refine allC fun s _ => ?_
    show _ = (!isEq m s t || !(!(out m s == wanted)))
    rw [Bool.not_not]
  rw [e1, e2]
theorem nashE (W : Wf m) : m.nashFailure = failN m := by
  unfold Su194.Mechanism.nashFailure failN
  rw [profE]
  refine findC fun t ht => ?_
  have hw := mem_all.mp ht
  rw [eqOutE W, attE W hw, Bool.not_not, tgtE W (W.len_sz hw)]
end
end Gx
/-! # The mirrors are the specification: dominance -/
namespace Gx
open PySem PySem.Spec PyProof.Rows L2
section
variable {m : Mc}
theorem rows_of (W : Wf m) {i : Nat} (hi : i < m.target.agentCount) {s : List Nat} (h : within s m.messageCounts = true) : s.set i 0 ∈ rows0 m i := by
  obtain ⟨h1, h2⟩ := W.mci hi
  have h3 := (W.m6 _ (List.mem_of_getElem? h1)).1
  refine List.mem_filter.mpr ⟨mem_all.mpr (wn_set h (by omega)), ?_⟩
  rw [getD_set (by rw [W.len_mc h]; exact hi), if_pos rfl]
  rfl
theorem set_set0 (s : List Nat) (i v : Nat) : (s.set i 0).set i v = s.set i v := List.set_set ..
theorem all_rows (W : Wf m) {i : Nat} (hi : i < m.target.agentCount) (P : List Nat → Bool) (hP : ∀ s, P (s.set i 0) = P s) : (rows0 m i).all P = (allLists m.messageCounts).all P := by
  rw [Bool.eq_iff_iff, List.all_eq_true, List.all_eq_true]
  constructor
  · intro h s hs
    rw [← hP]
    exact h _ (rows_of W hi (mem_all.mp hs))
  · intro h s hs
    exact h s (List.mem_filter.mp hs).1
theorem zip_any {α β γ : Type} (f : α → β) (g : α → γ) (p : β × γ → Bool) (l : List α) : ((l.map f).zip (l.map g)).any p = l.any fun a => p (f a, g a) := by
  rw [List.zip_map', List.any_map]
  rfl
/-- never better: in all message profiles -/
theorem nbE (W : Wf m) {i : Nat} (hi : i < m.target.agentCount) (r : List Nat) (v w : Nat) : nb r (oRow m i (rows0 m i) v) (oRow m i (rows0 m i) w) = (allLists m.messageCounts).all fun s => !Su193.prefers r (out m (s.set i v)) (out m (s.set i w)) := by
  unfold nb oRow
  rw [zip_any, List.not_any_eq_all_not]
  exact all_rows W hi _ fun s => by rw [set_set0, set_set0]
theorem domAt (W : Wf m) {i : Nat} (hi : i < m.target.agentCount) (k w : Nat) : m.isDominant i k w = isDomR (m.target.preference i k) (oRow m i (rows0 m i) w) (oRows m i) := by
  unfold isDomR oRows
  rw [List.all_map]
  show (m.messageProfiles.all fun s => (List.range (m.messageCounts.getD i 0)).all fun v => !(Su193.prefers (m.target.preference i k) (m.outcome (s.set i v)) (m.outcome (s.set i w)))) = (List.range (m.messageCounts.getD i 0)).all fun v => nb (m.target.preference i k) (oRow m i (rows0 m i) v) (oRow m i (rows0 m i) w)
  rw [mprofE, Bool.eq_iff_iff, List.all_eq_true, List.all_eq_true]
  constructor
  · intro h v hv
    rw [nbE W hi, List.all_eq_true]
    intro s hs
    have := List.all_eq_true.mp (h s hs) v hv
    have hl := W.len_mc (mem_all.mp hs)
    rwa [outS W hl, outS W hl] at this
  · intro h s hs
    rw [List.all_eq_true]
    intro v hv
    have := h v hv
    rw [nbE W hi, List.all_eq_true] at this
    have hl := W.len_mc (mem_all.mp hs)
    rw [outS W hl, outS W hl]
    exact this s hs
theorem domFE (W : Wf m) {i : Nat} (hi : i < m.target.agentCount) (k : Nat) : domF m i (m.target.preference i k) = (List.range (m.messageCounts.getD i 0)).map (m.isDominant i k) := by
  show ((List.range (m.messageCounts.getD i 0)).map (oRow m i (rows0 m i))).map (fun row => isDomR (m.target.preference i k) row (oRows m i)) = _
  rw [List.map_map]
  exact List.map_congr_left fun w _ => (domAt W hi k w).symm
theorem ddAt (W : Wf m) {i : Nat} (hi : i < m.target.agentCount) (k w : Nat) : m.isDominated i k w = isDomdR (m.target.preference i k) (oRow m i (rows0 m i) w) (oRows m i) := by
  unfold isDomdR oRows
  rw [List.any_map]
  show ((List.range (m.messageCounts.getD i 0)).any fun v => (m.messageProfiles.all fun s => !(Su193.prefers (m.target.preference i k) (m.outcome (s.set i w)) (m.outcome (s.set i v)))) && m.messageProfiles.any fun s => Su193.prefers (m.target.preference i k) (m.outcome (s.set i v)) (m.outcome (s.set i w))) =
    (List.range (m.messageCounts.getD i 0)).any fun v => nb (m.target.preference i k) (oRow m i (rows0 m i) w) (oRow m i (rows0 m i) v) && !nb (m.target.preference i k) (oRow m i (rows0 m i) v) (oRow m i (rows0 m i) w)
  rw [mprofE]
  refine anyC fun v _ => ?_
  rw [nbE W hi, nbE W hi, List.any_eq_not_all_not]
  congr 1
  · exact allC fun s hs => by
      have hl := W.len_mc (mem_all.mp hs)
      rw [outS W hl, outS W hl]
  · congr 1
    exact allC fun s hs => by
      have hl := W.len_mc (mem_all.mp hs)
      rw [outS W hl, outS W hl]
theorem domdFE (W : Wf m) {i : Nat} (hi : i < m.target.agentCount) (k : Nat) : domdF m i (m.target.preference i k) = (List.range (m.messageCounts.getD i 0)).map (m.isDominated i k) := by
  show ((List.range (m.messageCounts.getD i 0)).map (oRow m i (rows0 m i))).map (fun row => isDomdR (m.target.preference i k) row (oRows m i)) = _
  rw [List.map_map]
  exact List.map_congr_left fun w _ => (ddAt W hi k w).symm
theorem Wf.mc7 (W : Wf m) {i : Nat} (hi : i < m.target.agentCount) : m.messageCounts.getD i 0 < 7 := by
  have := (W.mci hi).2
  omega
theorem domMsgE (W : Wf m) {i : Nat} (hi : i < m.target.agentCount) (k : Nat) : Su193.maskOf (m.dominantMessages i k) = maskOf (domF m i (m.target.preference i k)) := by
  rw [domFE W hi]
  exact mask_filter _ (W.mc7 hi)
theorem domdMsgE (W : Wf m) {i : Nat} (hi : i < m.target.agentCount) (k : Nat) : Su193.maskOf ((List.range (m.messageCounts.getD i 0)).filter (m.isDominated i k)) = maskOf (domdF m i (m.target.preference i k)) := by
  rw [domdFE W hi]
  exact mask_filter _ (W.mc7 hi)
/-! ### implementation in dominant strategies -/
theorem flagsE (W : Wf m) {t : List Nat} (ht : within t (sizesM m) = true) : flagsAt m t = (List.range m.target.agentCount).map fun i => (List.range (m.messageCounts.getD i 0)).map (m.isDominant i (t.getD i 0)) := by
  have hl := W.len_sz ht
  unfold flagsAt
  have e : (List.range m.target.agentCount) = t.zipIdx.map Prod.snd := by rw [List.zipIdx_map_snd, ← hl, List.range_eq_range']
  rw [tables_at (domT m) hl, List.map_map, e, List.map_map]
  refine List.map_congr_left fun q hq => ?_
  obtain ⟨h1, h2⟩ := zipIdx_at (List.getElem?_of_mem hq |>.choose_spec)
  rw [← h2] at h1
  have hi : q.2 < t.length := (List.getElem?_eq_some_iff.mp h1).1
  have e1 : t.getD q.2 0 = q.1 := by rw [List.getD_eq_getElem?_getD, h1]; rfl
  have hk : q.1 < (domM m q.2).length := by
    have := wn_at q.2 ht (by rw [W.szl, ← hl]; exact hi)
    rw [e1, W.sz_at (by omega)] at this
    exact this
  show (domT m q.2).getD q.1 [] = (List.range (m.messageCounts.getD q.2 0)).map (m.isDominant q.2 (t.getD q.2 0))
  rw [← domFE W (by omega), e1]
  unfold domT
  rw [List.getD_eq_getElem?_getD, List.getElem?_map, List.getElem?_eq_getElem hk]
  show domF m q.2 (domM m q.2)[q.1] = domF m q.2 ((domM m q.2).getD q.1 [])
  rw [List.getD_eq_getElem?_getD, List.getElem?_eq_getElem hk]
  rfl
theorem all_two (f : Nat → List Bool) {n : Nat} {s : List Nat} (h : s.length = n) : (((List.range n).map f).zip s).all (fun p => p.1.getD p.2 false) = (List.range n).all fun i => (f i).getD (s.getD i 0) false := by
  rw [tables_at f h, List.all_map, ← h, ← all_zipIdx (t := s)]
  refine allC fun q hq => ?_
  obtain ⟨h1, h2⟩ := zipIdx_at (List.getElem?_of_mem hq |>.choose_spec)
  rw [← h2] at h1
  have e1 : s.getD q.2 0 = q.1 := by rw [List.getD_eq_getElem?_getD, h1]; rfl
  show (f q.2).getD q.1 false = (f q.2).getD (s.getD q.2 0) false
  rw [e1]
theorem getD_range (f : Nat → Bool) {n k : Nat} (h : k < n) : ((List.range n).map f).getD k false = f k := by
  rw [List.getD_eq_getElem?_getD, List.getElem?_map, List.getElem?_range h]
  rfl
theorem domE (W : Wf m) : m.dominanceFailure = failD m := by
  unfold Su194.Mechanism.dominanceFailure failD
  rw [profE]
  refine findC fun t ht => ?_
  have hw := mem_all.mp ht
  have hl := W.len_sz hw
  unfold impl
  rw [flagsE W hw, Bool.not_and, mprofE]
  congr 1
  · rw [List.all_map, List.not_all_eq_any_not]
    show (List.range m.target.agentCount).any _ = _
    refine anyC fun i hi => ?_
    show ((List.range (m.messageCounts.getD i 0)).filter (m.isDominant i (t.getD i 0))).isEmpty = !((List.range (m.messageCounts.getD i 0)).map (m.isDominant i (t.getD i 0))).contains true
    rw [Bool.eq_iff_iff, List.isEmpty_iff, Bool.not_eq_true', ← Bool.not_eq_true, List.contains_iff_mem, List.mem_map, List.filter_eq_nil_iff]
    exact ⟨fun h ⟨w, h1, h2⟩ => h w h1 h2, fun h w h1 h2 => h ⟨w, h1, h2⟩⟩
  · rw [List.not_all_eq_any_not]
    refine anyC fun s hs => ?_
    have hs' := mem_all.mp hs
    have hsl := W.len_mc hs'
    rw [Bool.not_not, outEq W hsl, tgtE W hl]
    congr 1
    unfold allDom
    rw [all_two (fun i => (List.range (m.messageCounts.getD i 0)).map (m.isDominant i (t.getD i 0))) hsl]
    show (List.range m.target.agentCount).all _ = _
    refine allC fun i hi => ?_
    rw [getD_range _ (wn_at i hs' (by rw [W.ml]; exact List.mem_range.mp hi))]
end
end Gx
/-! # The mirrors are the specification: rules, manipulations, monotonicity -/
namespace Gx
open PySem PySem.Spec PyProof.Rows L2
theorem inner_score (c x : Nat) : ∀ (r : List Nat) (k : Nat) (sc : List Nat), r.Nodup → (∀ y ∈ r, y < sc.length) → k + r.length ≤ c → ((r.zipIdx k).foldl (addScore c) sc).getD x 0 = sc.getD x 0 + (if x ∈ r then c - 1 - (k + r.idxOf x) else 0)
  | [], k, sc, _, _, _ => by simp
  | y :: r, k, sc, hn, hl, hk => by
    rw [List.nodup_cons] at hn
    have hy := hl y List.mem_cons_self
    rw [List.length_cons] at hk
    have ih := inner_score c x r (k + 1) (addScore c sc (y, k)) hn.2 (fun z hz => by unfold addScore; rw [List.length_set]; exact hl z (List.mem_cons_of_mem _ hz)) (by omega)
    rw [List.zipIdx_cons, List.foldl_cons, ih]
    unfold addScore
    rw [getD_set hy]
    by_cases e : y = x
    · subst e
      rw [if_pos rfl, if_neg hn.1, if_pos List.mem_cons_self, List.idxOf_cons_self]
      show sc.getD y 0 + c - 1 - k + 0 = sc.getD y 0 + (c - 1 - (k + 0))
      omega
    · rw [if_neg e]
      have e2 : (x ∈ y :: r) ↔ x ∈ r := by
        rw [List.mem_cons]
        exact ⟨fun h => h.resolve_left fun h => e h.symm, .inr⟩
      by_cases hx : x ∈ r
      · rw [if_pos hx, if_pos (e2.mpr hx), List.idxOf_cons, show (y == x) = false from beq_eq_false_iff_ne.mpr e, cond_false]
        have e3 : k + 1 + List.idxOf x r = k + (List.idxOf x r + 1) := by omega
        rw [e3]
      · rw [if_neg hx, if_neg fun h => hx (e2.mp h)]
theorem argmax (f : Nat → Nat) : ∀ n : Nat, (∀ x, x < n → f x ≤ f ((List.range n).foldl (fun b x => if f b < f x then x else b) 0)) ∧ (∀ x, x < (List.range n).foldl (fun b x => if f b < f x then x else b) 0 → f x < f ((List.range n).foldl (fun b x => if f b < f x then x else b) 0)) ∧
    ((List.range n).foldl (fun b x => if f b < f x then x else b) 0 < n ∨ (List.range n).foldl (fun b x => if f b < f x then x else b) 0 = 0)
  | 0 => ⟨fun x h => absurd h (Nat.not_lt_zero _), fun x h => absurd h (Nat.not_lt_zero _), .inr rfl⟩
  | n + 1 => by
    obtain ⟨h1, h2, h3⟩ := argmax f n
    rw [List.range_succ, List.foldl_append, List.foldl_cons, List.foldl_nil]
    generalize (List.range n).foldl (fun b x => if f b < f x then x else b) 0 = b at h1 h2 h3 ⊢
    by_cases q : f b < f n
    · rw [if_pos q]
      refine ⟨fun x hx => ?_, fun x hx => ?_, .inl (Nat.lt_succ_self n)⟩
      · by_cases e : x = n
        · rw [e]; exact Nat.le_refl _
        · have := h1 x (by omega); omega
      · have := h1 x hx; omega
    · rw [if_neg q]
      refine ⟨fun x hx => ?_, h2, ?_⟩
      · by_cases e : x = n
        · rw [e]; omega
        · exact h1 x (by omega)
      · rcases h3 with h3 | h3
        · exact .inl (by omega)
        · exact .inr h3
theorem argmax_idx (f : Nat → Nat) {c : Nat} (hc : 0 < c) : (List.range c).foldl (fun b x => if f b < f x then x else b) 0 = ((List.range c).map f).idxOf (maxL ((List.range c).map f)) := by
  obtain ⟨h1, h2, h3⟩ := argmax f c
  generalize (List.range c).foldl (fun b x => if f b < f x then x else b) 0 = b at h1 h2 h3 ⊢
  have hb : b < c := by rcases h3 with h | h <;> omega
  have hne : (List.range c).map f ≠ [] := fun e => by
    have := congrArg List.length e
    rw [List.length_map, List.length_range] at this
    simp at this
    omega
  have hin := max_in hne
  have hmem : f b ∈ (List.range c).map f := List.mem_map.mpr ⟨b, List.mem_range.mpr hb, rfl⟩
  have hM : maxL ((List.range c).map f) = f b := by
    have h5 : f b ≤ maxL ((List.range c).map f) := (max_le _ 0).2 _ hmem
    obtain ⟨x, hx, ex⟩ := List.mem_map.mp hin
    have := h1 x (List.mem_range.mp hx)
    omega
  rw [hM]
  obtain ⟨k1, k2⟩ := idx_at hmem
  generalize ((List.range c).map f).idxOf (f b) = j at k1 k2
  have hj : j < c := by
    have := (List.getElem?_eq_some_iff.mp k1).1
    rwa [List.length_map, List.length_range] at this
  have ej : f j = f b := by
    rw [List.getElem?_map, List.getElem?_range hj] at k1
    exact Option.some.inj k1
  by_cases e1 : j < b
  · have := h2 j e1; omega
  · by_cases e2 : b < j
    · have := k2 b (f b) e2 (by rw [List.getElem?_map, List.getElem?_range hb]; rfl)
      exact absurd rfl this
    · omega
section
variable {m : Mc}
theorem scoresAt (W : Wf m) {t : List Nat} (ht : within t (sizesM m) = true) {x : Nat} (hx : x < m.target.alternativeCount) : ∀ (l : List Nat) (sc : List Nat), (∀ i ∈ l, i < m.target.agentCount) → sc.length = m.target.alternativeCount →
    (l.foldl (fun sc i => (prf m i t).zipIdx.foldl (addScore m.target.alternativeCount) sc) sc).getD x 0 = sc.getD x 0 + (l.map fun i => m.target.alternativeCount - 1 - (prf m i t).idxOf x).sum
  | [], sc, _, _ => by simp
  | i :: l, sc, hl, hs => by
    have hr := W.prf_rk (hl i List.mem_cons_self) ht
    have ih := scoresAt W ht hx l ((prf m i t).zipIdx.foldl (addScore m.target.alternativeCount) sc) (fun j hj => hl j (List.mem_cons_of_mem _ hj)) (by rw [add_len]; exact hs)
    rw [List.foldl_cons, ih, inner_score _ x _ 0 sc hr.2.1 (fun y hy => by rw [hs]; exact hr.2.2 y hy) (by rw [hr.1]; omega), if_pos (rk_mem hr hx), List.map_cons, List.sum_cons, Nat.zero_add]
    omega
theorem bordaE (W : Wf m) {t : List Nat} (ht : within t (sizesM m) = true) : m.target.borda t = bordaW m t := by
  have hv := W.v2
  have e : scores m t = (List.range m.target.alternativeCount).map fun x => ((List.range m.target.agentCount).map fun i => m.target.alternativeCount - 1 - (prf m i t).idxOf x).sum := by
    refine List.ext_getElem? fun x => ?_
    by_cases hx : x < m.target.alternativeCount
    · rw [List.getElem?_map, List.getElem?_range hx, getD_at (d := 0) (by rw [scores_len]; exact hx)]
      unfold scores
      rw [scoresAt W ht hx _ _ (fun i hi => List.mem_range.mp hi) (List.length_replicate ..)]
      have : (List.replicate m.target.alternativeCount 0).getD x 0 = 0 := by
        rw [List.getD_eq_getElem?_getD, List.getElem?_replicate]
        split <;> rfl
      rw [this, Nat.zero_add]
      rfl
    · rw [List.getElem?_eq_none (by rw [scores_len]; omega), List.getElem?_eq_none (by rw [List.length_map, List.length_range]; omega)]
  unfold bordaW
  rw [e]
  exact argmax_idx (fun x => ((List.range m.target.agentCount).map fun i => m.target.alternativeCount - 1 - (prf m i t).idxOf x).sum) (by omega)
theorem bordaLE (W : Wf m) : m.target.profiles.map m.target.borda = bordaL m := by
  rw [profE]
  exact List.map_congr_left fun t ht => bordaE W (mem_all.mp ht)
theorem headE (w : List Nat) : Su193.peak w = w.getD 0 0 := by
  cases w <;> rfl
theorem dictE (i : Nat) : (m.target.profiles.map fun t => Su193.peak (m.target.reported i t)) = dictL m i := by
  rw [profE]
  exact List.map_congr_left fun t _ => headE _
/-! ### manipulations -/
theorem findS_map {α β γ : Type} (f : α → Option β) (g : β → γ) : ∀ l : List α, (l.findSome? f).map g = l.findSome? fun a => (f a).map g
  | [] => rfl
  | a :: r => by
    rw [List.findSome?_cons, List.findSome?_cons]
    cases f a with
    | none => exact findS_map f g r
    | some b => rfl
theorem manipE (W : Wf m) : manip1 m = (m.target.manipulations.head?).map fun z => [z.2.1, z.2.2] ++ z.1 := by
  unfold Su193.SocialChoice.manipulations manip1
  rw [List.head?_flatMap, findS_map, profE]
  refine findSC fun t ht => ?_
  have hw := mem_all.mp ht
  have hl := W.len_sz hw
  unfold manip
  rw [List.head?_flatMap, findS_map, findS_map]
  show (List.range m.target.agentCount).findSome? _ = (List.range m.target.agentCount).findSome? _
  refine findSC fun i _ => ?_
  rw [List.head?_filterMap, findS_map, findS_map]
  show (List.range (domM m i).length).findSome? _ = (List.range (domM m i).length).findSome? _
  refine findSC fun k _ => ?_
  have e : gain m t i k = Su193.prefers (m.target.reported i t) (m.target.outcome (Su193.deviate t i k)) (m.target.outcome t) := by
    unfold gain Su193.deviate
    rw [tgtE W hl, tgtE W (by rw [List.length_set]; exact hl)]
    rfl
  rw [e]
  cases Su193.prefers (m.target.reported i t) (m.target.outcome (Su193.deviate t i k)) (m.target.outcome t) <;> rfl
/-! ### monotonicity -/
theorem drop_idx {w : List Nat} (hn : w.Nodup) {x y : Nat} (hy : y ∈ w) : y ∈ w.drop (w.idxOf x) ↔ w.idxOf x ≤ w.idxOf y := by
  obtain ⟨k1, k2⟩ := idx_at hy
  constructor
  · intro h
    refine Nat.le_of_not_lt fun hlt => ?_
    have h2 : y ∈ w.take (w.idxOf x) := by
      refine List.mem_of_getElem? (i := w.idxOf y) ?_
      rw [List.getElem?_take, if_pos hlt]
      exact k1
    have h3 : (w.take (w.idxOf x) ++ w.drop (w.idxOf x)).Nodup := by rw [List.take_append_drop]; exact hn
    exact (List.nodup_append.mp h3).2.2 y h2 y h rfl
  · intro h
    refine List.mem_of_getElem? (i := w.idxOf y - w.idxOf x) ?_
    rw [List.getElem?_drop, show w.idxOf x + (w.idxOf y - w.idxOf x) = w.idxOf y by omega]
    exact k1
theorem keepE {c : Nat} {w : List Nat} (hr : RkOk c w) (x : Nat) (o : List Nat) : keep w x o = (List.range c).all fun y => Su193.prefers w y x || !Su193.prefers o y x := by
  unfold keep
  rw [List.not_any_eq_all_not, Bool.eq_iff_iff, List.all_eq_true, List.all_eq_true]
  constructor
  · intro h y hy
    have hm := rk_mem hr (List.mem_range.mp hy)
    by_cases q : w.idxOf y < w.idxOf x
    · have : Su193.prefers w y x = true := decide_eq_true q
      rw [this]
      rfl
    · rw [h y ((drop_idx hr.2.1 hm).mpr (by omega)), Bool.or_true]
  · intro h y hy
    have hm := List.mem_of_mem_drop hy
    have h1 := h y (List.mem_range.mpr (hr.2.2 y hm))
    have h2 := (drop_idx hr.2.1 hm).mp hy
    have h3 : Su193.prefers w y x = false := decide_eq_false (by omega)
    rw [h3, Bool.false_or] at h1
    exact h1
theorem violE (W : Wf m) {t : List Nat} (ht : within t (sizesM m) = true) : viol m t = (allLists (sizesM m)).find? fun r => m.target.weaklyRaises (m.target.outcome t) t r && m.target.outcome r != m.target.outcome t := by
  have hl := W.len_sz ht
  have h1 : viol m t = ((allLists (sizesM m)).zipIdx.find? (violQ m t)).map fun q => q.1 := by
    unfold viol
    generalize (allLists (sizesM m)).zipIdx = z
    induction z with
    | nil => rfl
    | cons q z ih =>
      rw [List.findSome?_cons, List.find?_cons]
      cases violQ m t q with
      | true => rfl
      | false => exact ih
  have h2 : (allLists (sizesM m)).zipIdx.find? (violQ m t) = (allLists (sizesM m)).zipIdx.find? ((fun r => m.target.weaklyRaises (m.target.outcome t) t r && m.target.outcome r != m.target.outcome t) ∘ Prod.fst) := by
    refine findC fun q hq => ?_
    obtain ⟨k1, k2⟩ := zipIdx_at (List.getElem?_of_mem hq |>.choose_spec)
    rw [← k2] at k1
    have hw := mem_all.mp (List.mem_of_getElem? k1)
    have hl2 := W.len_sz hw
    have e1 : m.target.outcomes.getD q.2 0 = tgt m q.1 := by
      unfold tgt
      rw [all_at k1]
    show ((m.target.outcomes.getD q.2 0 != tgt m t) && ((kept m t).zip q.1).all fun z => z.1.getD z.2 false) = (m.target.weaklyRaises (m.target.outcome t) t q.1 && m.target.outcome q.1 != m.target.outcome t)
    rw [e1, tgtE W hl, tgtE W hl2, Bool.and_comm]
    congr 1
    unfold kept
    rw [all_two (keepL m t) hl2]
    show _ = (List.range m.target.agentCount).all _
    refine allC fun i hi => ?_
    have hi' := List.mem_range.mp hi
    have hk : q.1.getD i 0 < (domM m i).length := by
      have := wn_at i hw (by rw [W.szl]; exact hi')
      rwa [W.sz_at hi'] at this
    have e2 : (keepL m t i).getD (q.1.getD i 0) false = keep (prf m i t) (tgt m t) (prf m i q.1) := by
      unfold keepL prf
      rw [List.getD_eq_getElem?_getD, List.getElem?_map, getD_at (d := []) hk]
      rfl
    rw [e2]
    exact keepE (W.prf_rk hi' ht) _ _
  rw [h1, h2]
  have e3 : (allLists (sizesM m)) = (allLists (sizesM m)).zipIdx.map Prod.fst := by rw [List.zipIdx_map_fst]
  generalize hz : (allLists (sizesM m)).zipIdx = z at e3 ⊢
  rw [e3, List.find?_map]
theorem monoE (W : Wf m) : viol1 m = m.target.monotonicityViolation.map fun z => z.1 ++ z.2 := by
  unfold Su193.SocialChoice.monotonicityViolation viol1
  rw [findS_map, profE]
  refine findSC fun t ht => ?_
  rw [violE W (mem_all.mp ht), Option.map_map]
  rfl
end
end Gx
/-! # The mirrors are the specification: effectivity -/
namespace Gx
open PySem PySem.Spec PyProof.Rows L2
/-- a dictionary filled in one go -/
structure DictOk (κ : List Nat → List Nat) (G : List (List Nat) → List Nat → Bool) (done : List (List Nat)) (kvs : List (List Nat × Bool)) : Prop where
  val : ∀ q ∈ kvs, (∃ s ∈ done, κ s = q.1) ∧ q.2 = G done q.1
  all : ∀ s ∈ done, ∃ q ∈ kvs, q.1 = κ s
theorem lookO_some {kvs : List (List Nat × Bool)} {k : List Nat} {b : Bool} (h : lookO kvs k = some b) : (k, b) ∈ kvs := by
  unfold lookO at h
  obtain ⟨q, h1, h2⟩ := Option.map_eq_some_iff.mp h
  have h3 := List.find?_some h1
  have h4 := List.mem_of_find?_eq_some h1
  obtain ⟨a, c⟩ := q
  have e1 : a = k := of_decide_eq_true h3
  have e2 : c = b := h2
  rw [← e1, ← e2]
  exact h4
theorem lookO_none {kvs : List (List Nat × Bool)} {k : List Nat} (h : lookO kvs k = none) : ∀ q ∈ kvs, q.1 ≠ k := fun q hq e => by
  unfold lookO at h
  rw [Option.map_eq_none_iff, List.find?_eq_none] at h
  exact h q hq (decide_eq_true e)
theorem putO_mem {kvs : List (List Nat × Bool)} {k : List Nat} {b : Bool} {q : List Nat × Bool} (h : q ∈ putO kvs k b) : q = (k, b) ∨ (q ∈ kvs ∧ q.1 ≠ k) := by
  unfold putO at h
  split at h
  · obtain ⟨p, h1, h2⟩ := List.mem_map.mp h
    by_cases e : p.1 = k
    · rw [if_pos e] at h2
      exact .inl (by rw [← h2, e])
    · rw [if_neg e] at h2
      rw [← h2]
      exact .inr ⟨h1, e⟩
  · rename_i hn
    rcases List.mem_append.mp h with h | h
    · refine .inr ⟨h, fun e => hn ?_⟩
      exact List.any_eq_true.mpr ⟨q, h, decide_eq_true e⟩
    · exact .inl (List.mem_singleton.mp h)
theorem putO_has (kvs : List (List Nat × Bool)) (k : List Nat) (b : Bool) : ∃ q ∈ putO kvs k b, q.1 = k := by
  unfold putO
  split
  · rename_i h
    obtain ⟨p, h1, h2⟩ := List.any_eq_true.mp h
    have e : p.1 = k := of_decide_eq_true h2
    exact ⟨(p.1, b), List.mem_map.mpr ⟨p, h1, if_pos e⟩, e⟩
  · exact ⟨(k, b), List.mem_append.mpr (.inr (List.mem_singleton.mpr rfl)), rfl⟩
theorem putO_old {kvs : List (List Nat × Bool)} {k k' : List Nat} {b : Bool} (h : ∃ q ∈ kvs, q.1 = k') : ∃ q ∈ putO kvs k b, q.1 = k' := by
  obtain ⟨q, hq, e⟩ := h
  unfold putO
  split
  · by_cases e1 : q.1 = k
    · exact ⟨(q.1, b), List.mem_map.mpr ⟨q, hq, if_pos e1⟩, e⟩
    · exact ⟨q, List.mem_map.mpr ⟨q, hq, if_neg e1⟩, e⟩
  · exact ⟨q, List.mem_append.mpr (.inl hq), e⟩
section
variable {κ : List Nat → List Nat} {G : List (List Nat) → List Nat → Bool} {f : List Nat → Bool} {op : Bool → Bool → Bool} {e : Bool}
theorem dict_step (h0 : ∀ done k, (∀ s ∈ done, κ s ≠ k) → G done k = e) (h1 : ∀ done s, G (done ++ [s]) (κ s) = op (G done (κ s)) (f s)) (h2 : ∀ done s k, κ s ≠ k → G (done ++ [s]) k = G done k)
    {done : List (List Nat)} {kvs : List (List Nat × Bool)} (d : DictOk κ G done kvs) (s : List Nat) : DictOk κ G (done ++ [s]) (putO kvs (κ s) (op ((lookO kvs (κ s)).getD e) (f s))) := by
  have hv : (lookO kvs (κ s)).getD e = G done (κ s) := by
    cases hl : lookO kvs (κ s) with
    | some b => exact (d.val _ (lookO_some hl)).2
    | none =>
      refine (h0 done (κ s) fun s' hs' e' => ?_).symm
      obtain ⟨q, hq, eq⟩ := d.all s' hs'
      exact lookO_none hl q hq (eq.trans e')
  rw [hv, ← h1]
  refine ⟨fun q hq => ?_, fun s' hs' => ?_⟩
  · rcases putO_mem hq with rfl | ⟨hq, hne⟩
    · exact ⟨⟨s, by simp, rfl⟩, rfl⟩
    · obtain ⟨⟨s', hs', es'⟩, ev⟩ := d.val q hq
      exact ⟨⟨s', by simp [hs'], es'⟩, by rw [ev, h2 done s q.1 fun z => hne z.symm]⟩
  · rcases List.mem_append.mp hs' with hs' | hs'
    · exact putO_old (d.all s' hs')
    · rw [List.mem_singleton.mp hs']
      exact putO_has ..
theorem dict_fold (h0 : ∀ done k, (∀ s ∈ done, κ s ≠ k) → G done k = e) (h1 : ∀ done s, G (done ++ [s]) (κ s) = op (G done (κ s)) (f s)) (h2 : ∀ done s k, κ s ≠ k → G (done ++ [s]) k = G done k) :
    ∀ (l done : List (List Nat)) (kvs : List (List Nat × Bool)), DictOk κ G done kvs → DictOk κ G (done ++ l) (l.foldl (fun kvs s => putO kvs (κ s) (op ((lookO kvs (κ s)).getD e) (f s))) kvs)
  | [], done, kvs, d => by rw [List.append_nil]; exact d
  | s :: r, done, kvs, d => by
    have ih := dict_fold h0 h1 h2 r (done ++ [s]) _ (dict_step h0 h1 h2 d s)
    rw [List.append_assoc] at ih
    exact ih
theorem dict_any {l : List (List Nat)} {kvs : List (List Nat × Bool)} (d : DictOk κ G l kvs) : (kvs.map fun z => z.2).any id = l.any fun s => G l (κ s) := by
  rw [List.any_map, Bool.eq_iff_iff, List.any_eq_true, List.any_eq_true]
  constructor
  · rintro ⟨q, hq, h⟩
    obtain ⟨⟨s, hs, es⟩, ev⟩ := d.val q hq
    exact ⟨s, hs, by rw [es, ← ev]; exact h⟩
  · rintro ⟨s, hs, h⟩
    obtain ⟨q, hq, eq⟩ := d.all s hs
    exact ⟨q, hq, by show q.2 = true; rw [(d.val q hq).2, eq]; exact h⟩
theorem dict_all {l : List (List Nat)} {kvs : List (List Nat × Bool)} (d : DictOk κ G l kvs) : (kvs.map fun z => z.2).all id = l.all fun s => G l (κ s) := by
  rw [List.all_map, Bool.eq_iff_iff, List.all_eq_true, List.all_eq_true]
  constructor
  · intro h s hs
    obtain ⟨q, hq, eq⟩ := d.all s hs
    have := h q hq
    have e2 : q.2 = true := this
    rw [(d.val q hq).2, eq] at e2
    exact e2
  · intro h q hq
    obtain ⟨⟨s, hs, es⟩, ev⟩ := d.val q hq
    show q.2 = true
    rw [ev, ← es]
    exact h s hs
end
/-! ### parts -/
theorem part_iff (P : Nat → Bool) : ∀ (s r : List Nat) (k : Nat), s.length = r.length → ((((s.zipIdx k).filter fun q => P q.2).map fun q => q.1) = (((r.zipIdx k).filter fun q => P q.2).map fun q => q.1) ↔ ∀ i, i < s.length → P (k + i) = true → s.getD i 0 = r.getD i 0)
  | [], [], _, _ => ⟨fun _ i h => absurd h (Nat.not_lt_zero _), fun _ => rfl⟩
  | [], _ :: _, _, h => by cases h
  | _ :: _, [], _, h => by cases h
  | a :: s, b :: r, k, h => by
    have ih := part_iff P s r (k + 1) (by simpa using h)
    rw [List.zipIdx_cons, List.zipIdx_cons, List.filter_cons, List.filter_cons]
    have step : (∀ i, i < (a :: s).length → P (k + i) = true → (a :: s).getD i 0 = (b :: r).getD i 0) ↔ ((P k = true → a = b) ∧ ∀ i, i < s.length → P (k + 1 + i) = true → s.getD i 0 = r.getD i 0) := by
      constructor
      · intro h
        refine ⟨fun hp => h 0 (by simp) hp, fun i hi hp => ?_⟩
        have := h (i + 1) (by simpa using hi) (by rw [← hp]; congr 1; omega)
        simpa using this
      · rintro ⟨h1, h2⟩ i hi hp
        cases i with
        | zero => exact h1 hp
        | succ i =>
          have := h2 i (by simpa using hi) (by rw [← hp]; congr 1; omega)
          simpa using this
    rw [step, ← ih]
    cases hp : P k with
    | true =>
      rw [if_pos rfl, if_pos rfl, List.map_cons, List.map_cons, List.cons.injEq]
      exact ⟨fun h => ⟨fun _ => h.1, h.2⟩, fun h => ⟨h.1 rfl, h.2⟩⟩
    | false =>
      rw [if_neg Bool.false_ne_true, if_neg Bool.false_ne_true]
      exact ⟨fun h => ⟨fun h => (by cases h), h⟩, fun h => h.2⟩
theorem agree_iff {n mask c : Nat} {b : Bool} {s r : List Nat} (hs : s.length = n) (hr : r.length = n) (hm : ∀ i, i < n → Su194.hasBit mask i = (hasB c i == b)) : (part s c b = part r c b) ↔ Su194.agreeOn n mask s r = true := by
  unfold part Su194.agreeOn
  rw [part_iff (fun i => hasB c i == b) s r 0 (hs.trans hr.symm), List.all_eq_true, hs]
  constructor
  · intro h i hi
    have hi' := List.mem_range.mp hi
    rw [hm i hi']
    cases hq : (hasB c i == b) with
    | false => rfl
    | true =>
      have := h i hi' (by rw [Nat.zero_add]; exact hq)
      rw [this]
      simp
  · intro h i hi hq
    have := h i (List.mem_range.mpr hi)
    rw [Nat.zero_add] at hq
    rw [hm i hi, hq] at this
    simpa using this
theorem comp_bit : ∀ n : Nat, n < 4 → ∀ c : Nat, c < 8 → ∀ i : Nat, i < 3 → c < 2 ^ n → i < n → Su194.hasBit (2 ^ n - 1 - c) i = (hasB c i == false) := by decide +kernel
section
variable {m : Mc}
theorem forceE (W : Wf m) (c a : Nat) : m.canForce c a = forceB m c a := by
  have d := dict_fold (κ := fun s => part s c true) (G := fun l k => l.all fun s => !(part s c true == k) || hasB a (out m s)) (f := fun s => hasB a (out m s)) (op := fun x y => x && y) (e := true)
    (fun done k h => by
      rw [List.all_eq_true]
      intro s hs
      have : (part s c true == k) = false := beq_eq_false_iff_ne.mpr (h s hs)
      rw [this]
      rfl)
    (fun done s => by
      rw [List.all_append, List.all_cons, List.all_nil, beq_self_eq_true]
      simp)
    (fun done s k h => by
      rw [List.all_append, List.all_cons, List.all_nil, show (part s c true == k) = false from beq_eq_false_iff_ne.mpr h]
      simp)
    (allLists m.messageCounts) [] [] ⟨fun q hq => (by cases hq), fun s hs => (by cases hs)⟩
  rw [List.nil_append] at d
  show (m.messageProfiles.any fun s => m.messageProfiles.all fun r => !(Su194.agreeOn m.target.agentCount c s r) || Su194.hasBit a (m.outcome r)) = _
  refine Eq.trans ?_ (dict_any d).symm
  rw [mprofE]
  refine anyC fun s hs => allC fun r hr => ?_
  have hsl := W.len_mc (mem_all.mp hs)
  have hrl := W.len_mc (mem_all.mp hr)
  have e : Su194.agreeOn m.target.agentCount c s r = (part r c true == part s c true) := by
    rw [Bool.eq_iff_iff, beq_iff_eq, ← agree_iff (b := true) (c := c) hsl hrl fun i _ => by
      show _ = (hasB c i == true)
      have e0 : Su194.hasBit c i = hasB c i := rfl
      rw [e0]
      cases hasB c i <;> rfl]
    exact ⟨fun h => h.symm, fun h => h.symm⟩
  rw [e, outEq W hrl]
  rfl
theorem respE (W : Wf m) {c : Nat} (hc : c < 2 ^ m.target.agentCount) (a : Nat) : m.canRespond c a = respB m c a := by
  have d := dict_fold (κ := fun s => part s c false) (G := fun l k => l.any fun s => part s c false == k && hasB a (out m s)) (f := fun s => hasB a (out m s)) (op := fun x y => x || y) (e := false)
    (fun done k h => by
      rw [List.any_eq_false]
      intro s hs
      have : (part s c false == k) = false := beq_eq_false_iff_ne.mpr (h s hs)
      rw [this]
      simp)
    (fun done s => by
      rw [List.any_append, List.any_cons, List.any_nil, beq_self_eq_true]
      simp)
    (fun done s k h => by
      rw [List.any_append, List.any_cons, List.any_nil, show (part s c false == k) = false from beq_eq_false_iff_ne.mpr h]
      simp)
    (allLists m.messageCounts) [] [] ⟨fun q hq => (by cases hq), fun s hs => (by cases hs)⟩
  rw [List.nil_append] at d
  show (m.messageProfiles.all fun s => m.messageProfiles.any fun r => Su194.agreeOn m.target.agentCount (2 ^ m.target.agentCount - 1 - c) s r && Su194.hasBit a (m.outcome r)) = _
  refine Eq.trans ?_ (dict_all d).symm
  rw [mprofE]
  have ha := W.a3
  have hc8 : c < 8 := Nat.lt_of_lt_of_le hc (Nat.pow_le_pow_right (n := 2) (by decide) ha)
  refine allC fun s hs => anyC fun r hr => ?_
  have hsl := W.len_mc (mem_all.mp hs)
  have hrl := W.len_mc (mem_all.mp hr)
  have e : Su194.agreeOn m.target.agentCount (2 ^ m.target.agentCount - 1 - c) s r = (part r c false == part s c false) := by
    rw [Bool.eq_iff_iff, beq_iff_eq, ← agree_iff (b := false) (c := c) hsl hrl fun i hi => comp_bit _ (by omega) c hc8 i (by omega) hc hi]
    exact ⟨fun h => h.symm, fun h => h.symm⟩
  rw [e, outEq W hrl]
  rfl
end
end Gx
/-! # The mirrors are the specification: best responses -/
namespace Gx
open PySem PySem.Spec PyProof.Rows L2
theorem filter_head : ∀ (r : List Nat) (p : Nat → Bool) (y : Nat), y ∈ r → p y = true → (∀ z ∈ r, p z = true → r.idxOf y ≤ r.idxOf z) → (r.filter p).headD 0 = y
  | [], _, _, h, _, _ => by cases h
  | a :: r, p, y, hy, hp, hm => by
    rw [List.filter_cons]
    by_cases e : a = y
    · rw [e, if_pos hp, List.headD_cons]
    · have ey : (a == y) = false := beq_eq_false_iff_ne.mpr e
      cases q : p a with
      | true =>
        have := hm a List.mem_cons_self q
        rw [List.idxOf_cons_self, List.idxOf_cons, ey, cond_false] at this
        omega
      | false =>
        rw [if_neg Bool.false_ne_true]
        have hy' : y ∈ r := by
          rcases List.mem_cons.mp hy with h | h
          · exact absurd h.symm e
          · exact h
        refine filter_head r p y hy' hp fun z hz hpz => ?_
        have ez : (a == z) = false := beq_eq_false_iff_ne.mpr fun h => by rw [h, hpz] at q; cases q
        have := hm z (List.mem_cons_of_mem _ hz) hpz
        rw [List.idxOf_cons, List.idxOf_cons, ey, ez, cond_false, cond_false] at this
        omega
theorem fold_congr {α β : Type} {f g : β → α → β} (h : ∀ b a, f b a = g b a) : ∀ (l : List α) (b : β), l.foldl f b = l.foldl g b
  | [], _ => rfl
  | a :: r, b => by rw [List.foldl_cons, List.foldl_cons, h, fold_congr h r]
section
variable {m : Mc}
/-- the best message -/
def bestM (m : Mc) (t s : List Nat) (i : Nat) : Nat := (List.range (m.messageCounts.getD i 0)).foldl (fun b w => if Su193.prefers (prf m i t) (out m (s.set i w)) (out m (s.set i b)) = true then w else b) 0
theorem bestM_ok (W : Wf m) (t : List Nat) {s : List Nat} {i : Nat} (hi : i < m.target.agentCount) (hr : RkOk m.target.alternativeCount (prf m i t)) :
    bestM m t s i < m.messageCounts.getD i 0 ∧ (∀ w, w < m.messageCounts.getD i 0 → (prf m i t).idxOf (out m (s.set i (bestM m t s i))) ≤ (prf m i t).idxOf (out m (s.set i w))) ∧
      (∀ w, w < bestM m t s i → (prf m i t).idxOf (out m (s.set i (bestM m t s i))) < (prf m i t).idxOf (out m (s.set i w))) := by
  have hle : ∀ w, (prf m i t).idxOf (out m (s.set i w)) ≤ (prf m i t).length := fun w => List.idxOf_le_length
  have e : bestM m t s i = (List.range (m.messageCounts.getD i 0)).foldl (fun b x => if (prf m i t).length - (prf m i t).idxOf (out m (s.set i b)) < (prf m i t).length - (prf m i t).idxOf (out m (s.set i x)) then x else b) 0 := by
    refine fold_congr (fun b w => ?_) _ _
    have h1 := hle b
    have h2 := hle w
    by_cases q : (prf m i t).idxOf (out m (s.set i w)) < (prf m i t).idxOf (out m (s.set i b))
    · have q1 : Su193.prefers (prf m i t) (out m (s.set i w)) (out m (s.set i b)) = true := decide_eq_true q
      rw [if_pos q1, if_pos (by omega)]
    · have q1 : ¬ Su193.prefers (prf m i t) (out m (s.set i w)) (out m (s.set i b)) = true := fun h => q (of_decide_eq_true h)
      rw [if_neg q1, if_neg (by omega)]
  obtain ⟨k1, k2, k3⟩ := argmax (fun x => (prf m i t).length - (prf m i t).idxOf (out m (s.set i x))) (m.messageCounts.getD i 0)
  rw [← e] at k1 k2 k3
  have hmc : 0 < m.messageCounts.getD i 0 := (W.m6 _ (List.mem_of_getElem? (W.mci hi).1)).1
  generalize bestM m t s i = b at k1 k2 k3 ⊢
  have hb := hle b
  refine ⟨by rcases k3 with h | h <;> omega, fun w hw => ?_, fun w hw => ?_⟩
  · have h1 := k1 w hw
    have h2 := hle w
    omega
  · have h1 := k2 w hw
    have h2 := hle w
    omega
theorem respEq (W : Wf m) {t s : List Nat} (ht : within t (sizesM m) = true) (hs : within s m.messageCounts = true) {i : Nat} (hi : i < m.target.agentCount) : resp m s i (prf m i t) = if Su193.prefers (prf m i t) (out m (s.set i (bestM m t s i))) (out m s) = true then some (bestM m t s i) else none := by
  have hr := W.prf_rk hi ht
  obtain ⟨k1, k2, k3⟩ := bestM_ok W t (s := s) hi hr
  have e1 : bestOf (prf m i t) (choices m s i) = out m (s.set i (bestM m t s i)) := by
    unfold bestOf
    have hin : ∀ w, w < m.messageCounts.getD i 0 → out m (s.set i w) ∈ choices m s i := fun w hw => List.mem_map.mpr ⟨w, List.mem_range.mpr hw, rfl⟩
    refine filter_head _ _ _ (rk_mem hr (choices_lt W hs _ (hin _ k1))) (List.contains_iff_mem.mpr (hin _ k1)) fun z hz hc => ?_
    obtain ⟨w, hw, rfl⟩ := List.mem_map.mp (List.contains_iff_mem.mp hc)
    exact k2 w (List.mem_range.mp hw)
  have e2 : (choices m s i).idxOf (out m (s.set i (bestM m t s i))) = bestM m t s i := by
    have hm : out m (s.set i (bestM m t s i)) ∈ choices m s i := List.mem_map.mpr ⟨_, List.mem_range.mpr k1, rfl⟩
    obtain ⟨j1, j2⟩ := idx_at hm
    generalize hj : (choices m s i).idxOf (out m (s.set i (bestM m t s i))) = j at j1 j2
    have hjl : j < m.messageCounts.getD i 0 := by
      have := (List.getElem?_eq_some_iff.mp j1).1
      rwa [choices_len] at this
    have ej : out m (s.set i j) = out m (s.set i (bestM m t s i)) := by
      unfold choices at j1
      rw [List.getElem?_map, List.getElem?_range hjl] at j1
      exact Option.some.inj j1
    by_cases q1 : j < bestM m t s i
    · have := k3 j q1
      rw [ej] at this
      omega
    · by_cases q2 : bestM m t s i < j
      · have := j2 (bestM m t s i) (out m (s.set i (bestM m t s i))) q2 (by unfold choices; rw [List.getElem?_map, List.getElem?_range k1]; rfl)
        exact absurd rfl this
      · omega
  unfold resp
  rw [e1, e2]
theorem bestE (W : Wf m) {t s : List Nat} (hs : within s m.messageCounts = true) : m.bestResponse t s = (List.range m.target.agentCount).findSome? fun i => if Su193.prefers (prf m i t) (out m (s.set i (bestM m t s i))) (out m s) = true then some (i, bestM m t s i) else none := by
  have hl := W.len_mc hs
  unfold Su194.Mechanism.bestResponse
  show (List.range m.target.agentCount).findSome? _ = _
  refine findSC fun i hi => ?_
  have e : ((List.range (m.messageCounts.getD i 0)).foldl (fun b w => if Su193.prefers (m.target.reported i t) (m.outcome (s.set i w)) (m.outcome (s.set i b)) = true then w else b) 0) = bestM m t s i :=
    fold_congr (fun b w => by rw [outS W hl, outS W hl]; rfl) _ _
  dsimp only
  rw [e]
  unfold Su194.Mechanism.gains
  rw [outS W hl, outEq W hl]
  rfl
theorem afterE (W : Wf m) {t s : List Nat} (ht : within t (sizesM m) = true) (hs : within s m.messageCounts = true) : after m s t = (m.bestResponse t s).map fun z => s.set z.1 z.2 := by
  rw [bestE W hs, findS_map]
  unfold after
  refine findSC fun i hi => ?_
  rw [respEq W ht hs (List.mem_range.mp hi)]
  split <;> rfl
theorem no_best (W : Wf m) {t s : List Nat} (ht : within t (sizesM m) = true) (hs : within s m.messageCounts = true) (h : m.bestResponse t s = none) : isEq m s t = true := by
  rw [bestE W hs, List.findSome?_eq_none_iff] at h
  unfold isEq
  rw [List.all_eq_true]
  intro i hi
  have hi' := List.mem_range.mp hi
  have hr := W.prf_rk hi' ht
  obtain ⟨k1, k2, k3⟩ := bestM_ok W t (s := s) hi' hr
  have h1 := h i hi
  unfold content choices
  rw [List.any_map, List.not_any_eq_all_not, List.all_eq_true]
  intro w hw
  have hn : ¬ Su193.prefers (prf m i t) (out m (s.set i (bestM m t s i))) (out m s) = true := fun q => by
    rw [if_pos q] at h1
    cases h1
  have h2 := k2 w (List.mem_range.mp hw)
  have h3 : ¬ (prf m i t).idxOf (out m (s.set i (bestM m t s i))) < (prf m i t).idxOf (out m s) := fun q => hn (decide_eq_true q)
  show (!Su193.prefers (prf m i t) (out m (s.set i w)) (out m s)) = true
  have h4 : Su193.prefers (prf m i t) (out m (s.set i w)) (out m s) = false := decide_eq_false (by omega)
  rw [h4]
  rfl
theorem runE (W : Wf m) {t : List Nat} (ht : within t (sizesM m) = true) : ∀ (limit k : Nat) (s : List Nat), within s m.messageCounts = true →
    ((forE (dynS m t) s (List.range' k limit) = .inr (nL ((m.run t limit s k).1 :: (m.run t limit s k).2)) ∧ isEq m (m.run t limit s k).2 t = true) ∨ (forE (dynS m t) s (List.range' k limit) = .inl (m.run t limit s k).2 ∧ (m.run t limit s k).1 = k + limit)) ∧ within (m.run t limit s k).2 m.messageCounts = true
  | 0, k, s, hs => ⟨.inr ⟨rfl, rfl⟩, hs⟩
  | limit + 1, k, s, hs => by
    rw [List.range'_succ]
    unfold Su194.Mechanism.run forE dynS
    rw [afterE W ht hs]
    cases h : m.bestResponse t s with
    | none => exact ⟨.inl ⟨rfl, no_best W ht hs h⟩, hs⟩
    | some z =>
      obtain ⟨i, w⟩ := z
      have hw : within (s.set i w) m.messageCounts = true := by
        refine after_wn W hs ht (l := s.set i w) ?_
        rw [afterE W ht hs, h]
        rfl
      obtain ⟨h1, h2⟩ := runE W ht limit (k + 1) (s.set i w) hw
      refine ⟨?_, h2⟩
      rcases h1 with ⟨h1, h3⟩ | ⟨h1, h3⟩
      · exact .inl ⟨h1, h3⟩
      · exact .inr ⟨h1, by
          show (m.run t limit (s.set i w) (k + 1)).1 = _
          rw [h3]
          omega⟩
theorem dynE (W : Wf m) {t s : List Nat} (ht : within t (sizesM m) = true) (hs : within s m.messageCounts = true) : dynA m t s = if isEq m (m.run t 100 s 0).2 t = true then zN ((m.run t 100 s 0).1 :: (m.run t 100 s 0).2) else [-75] := by
  obtain ⟨h1, h2⟩ := runE W ht 100 0 s hs
  have e : List.range 100 = List.range' 0 100 := List.range_eq_range' ..
  unfold dynA
  rw [e]
  rcases h1 with ⟨h1, h3⟩ | ⟨h1, h3⟩
  · rw [h1, if_pos h3]
    show List.map (fun d => match d with | .int i => i | _ => 0) (((m.run t 100 s 0).1 :: (m.run t 100 s 0).2).map nI) = _
    rw [nats_int]
    exact ints_back _
  · rw [h1]
    dsimp only
    split
    · rw [h3]
    · rfl
end
end Gx
/-! # Each call: the mirror's step is the specification's -/
namespace Gx
open PySem PySem.Spec PyProof.Rows L2
def encR (z : Mc × Su194.Result) : Mc × List Int := (z.1, z.2.value :: Su194Neutral.outs z.2.fields)
section
variable {m : Mc}
theorem ansM_no {p : Nat} {ns r : List Nat} (hn : needs p = true) (h : rdy m = false) : ansM p m ns r = (m, [-16]) := by
  unfold ansM
  rw [hn, h]
  rfl
theorem ansM_go {p : Nat} {ns r : List Nat} (h : rdy m = true) : ansM p m ns r = stA p m ns r := by
  unfold ansM
  rw [h, Bool.not_true, Bool.and_false, if_neg Bool.false_ne_true]
theorem ansM_any {p : Nat} {ns r : List Nat} (hn : needs p = false) : ansM p m ns r = stA p m ns r := by
  unfold ansM
  rw [hn, Bool.false_and, if_neg Bool.false_ne_true]
theorem tgt_err {o : Su194.Operation} {op : Su193.Operation} {c : Int} (h : Su194.execute m o = (if (Su193.execute m.target op).2.value < 0 then m else { m with target := (Su193.execute m.target op).1 }, ⟨(Su193.execute m.target op).2.value, (Su193.execute m.target op).2.fields⟩)) (e : Su193.execute m.target op = (m.target, Su193.error c)) (hc : c < 0) : encR (Su194.execute m o) = (m, [c]) := by
  rw [h, e]
  show ((if c < 0 then m else _), [c]) = _
  rw [if_pos hc]
theorem tgt_ok {o : Su194.Operation} {op : Su193.Operation} {v : Nat} {fs : List Nat} {a' : Su193.SocialChoice} (h : Su194.execute m o = (if (Su193.execute m.target op).2.value < 0 then m else { m with target := (Su193.execute m.target op).1 }, ⟨(Su193.execute m.target op).2.value, (Su193.execute m.target op).2.fields⟩)) (e : Su193.execute m.target op = (a', Su193.ok v fs)) : encR (Su194.execute m o) = ({ m with target := a' }, (v : Int) :: zN fs) := by
  rw [h, e]
  show ((if (Int.ofNat v) < 0 then m else _), Int.ofNat v :: zN fs) = _
  have hv : ¬ (Int.ofNat v) < 0 := by show ¬ ((v : Int) < 0); omega
  rw [if_neg hv]
  rfl
theorem not_rdy (h : rdy m = false) : m.target.isReady = false := by rw [readyE]; exact h
theorem yes_rdy (h : rdy m = true) : ¬ m.target.isReady = false := by rw [readyE, h]; simp
theorem wn_f {W : Wf m} {t : List Nat} (h : within t (sizesM m) = false) : m.target.isProfile t = false := by rw [isPr W]; exact h
theorem bool_not_false {b : Bool} (h : ¬ b = false) : b = true := by cases b with | true => rfl | false => exact absurd rfl h
theorem ex1 (W : Wf m) (i : Nat) (w : List Nat) : encR (Su194.execute m (.target (.addPreference i w))) = ansM 1 m [i] w := by
  rw [ansM_any (by decide +kernel)]
  show _ = s_add_preference m [i] w
  by_cases h1 : m.target.agentCount ≤ i
  · exact (tgt_err (m := m) (o := .target (.addPreference i w)) (op := .addPreference i w) (c := -2) rfl (if_pos h1) (by decide)).trans (if_pos h1).symm
  cases h2 : isRk m.target.alternativeCount w with
  | false =>
    have h2' : Su193.isPreference m.target.alternativeCount w = false := by rw [isPrefE]; exact h2
    exact (tgt_err (m := m) (o := .target (.addPreference i w)) (op := .addPreference i w) (c := -22) rfl ((if_neg h1).trans (if_pos h2')) (by decide)).trans ((if_neg h1).trans (if_pos h2)).symm
  | true =>
  have n2 : ¬ isRk m.target.alternativeCount w = false := by rw [h2]; simp
  have n2' : ¬ Su193.isPreference m.target.alternativeCount w = false := by rw [isPrefE]; exact n2
  by_cases h3 : (domM m i).contains w = true
  · exact (tgt_err (m := m) (o := .target (.addPreference i w)) (op := .addPreference i w) (c := -17) rfl ((if_neg h1).trans ((if_neg n2').trans (if_pos h3))) (by decide)).trans ((if_neg h1).trans ((if_neg n2).trans (if_pos h3))).symm
  by_cases h4 : 6 ≤ (domM m i).length
  · exact (tgt_err (m := m) (o := .target (.addPreference i w)) (op := .addPreference i w) (c := -28) rfl ((if_neg h1).trans ((if_neg n2').trans ((if_neg h3).trans (if_pos h4)))) (by decide)).trans ((if_neg h1).trans ((if_neg n2).trans ((if_neg h3).trans (if_pos h4)))).symm
  refine (tgt_ok (m := m) (op := .addPreference i w) rfl ((if_neg h1).trans ((if_neg n2').trans ((if_neg h3).trans (if_neg h4))))).trans (Eq.trans ?_ ((if_neg h1).trans ((if_neg n2).trans ((if_neg h3).trans (if_neg h4)))).symm)
  unfold Su193.SocialChoice.resetOutcomes Su193.SocialChoice.profiles newDom
  rw [enum_len]
  rfl
theorem ex2 (W : Wf m) (i : Nat) : encR (Su194.execute m (.target (.setFullDomain i))) = ansM 2 m [i] [] := by
  rw [ansM_any (by decide +kernel)]
  show _ = s_set_full_domain m [i] []
  have hv := W.v4
  have hv2 := W.v2
  by_cases h1 : m.target.agentCount ≤ i
  · exact (tgt_err (m := m) (o := .target (.setFullDomain i)) (op := .setFullDomain i) (c := -2) rfl (if_pos h1) (by decide)).trans (if_pos h1).symm
  by_cases h2 : m.target.alternativeCount = 4
  · have h2' : 3 < m.target.alternativeCount := by omega
    exact (tgt_err (m := m) (o := .target (.setFullDomain i)) (op := .setFullDomain i) (c := -28) rfl ((if_neg h1).trans (if_pos h2')) (by decide)).trans ((if_neg h1).trans (if_pos h2)).symm
  have n2 : ¬ 3 < m.target.alternativeCount := by omega
  refine (tgt_ok (m := m) (op := .setFullDomain i) rfl ((if_neg h1).trans (if_neg n2))).trans (Eq.trans ?_ ((if_neg h1).trans (if_neg h2)).symm)
  have e : Su193.permutations m.target.alternativeCount m.target.alternatives = allRk m.target.alternativeCount := permsE _ hv2 (by omega)
  unfold Su193.SocialChoice.resetOutcomes Su193.SocialChoice.profiles newDom
  rw [enum_len, e]
  rfl
theorem ex3 (W : Wf m) (x : Nat) (t : List Nat) : encR (Su194.execute m (.target (.setOutcome x t))) = ansM 3 m [x] t := by
  cases hr : rdy m with
  | false =>
    rw [ansM_no (by decide +kernel) hr]
    exact tgt_err (op := .setOutcome x t) rfl (if_pos (not_rdy hr)) (by decide)
  | true =>
  rw [ansM_go hr]
  show _ = s_set_target_outcome m [x] t
  have n0 := yes_rdy hr
  by_cases h1 : m.target.alternativeCount ≤ x ∨ within t (sizesM m) = false
  · have h1' : m.target.alternativeCount ≤ x ∨ m.target.isProfile t = false := by rw [isPr W]; exact h1
    exact (tgt_err (m := m) (o := .target (.setOutcome x t)) (op := .setOutcome x t) (c := -22) rfl ((if_neg n0).trans (if_pos h1')) (by decide)).trans (if_pos h1).symm
  have n1 : ¬ (m.target.alternativeCount ≤ x ∨ m.target.isProfile t = false) := by rw [isPr W]; exact h1
  have hw : within t (sizesM m) = true := bool_not_false fun h => h1 (.inr h)
  refine (tgt_ok (m := m) (op := .setOutcome x t) rfl ((if_neg n0).trans (if_neg n1))).trans (Eq.trans ?_ (if_neg h1).symm)
  rw [tgtE W (W.len_sz hw), tgtI W (W.len_sz hw)]
  rfl
theorem ex4 (W : Wf m) (i : Nat) : encR (Su194.execute m (.target (.useDictatorship i))) = ansM 4 m [i] [] := by
  cases hr : rdy m with
  | false =>
    rw [ansM_no (by decide +kernel) hr]
    exact tgt_err (op := .useDictatorship i) rfl (if_pos (not_rdy hr)) (by decide)
  | true =>
  rw [ansM_go hr]
  show _ = s_use_dictatorship m [i] []
  have n0 := yes_rdy hr
  by_cases h1 : m.target.agentCount ≤ i
  · exact (tgt_err (m := m) (o := .target (.useDictatorship i)) (op := .useDictatorship i) (c := -2) rfl ((if_neg n0).trans (if_pos h1)) (by decide)).trans (if_pos h1).symm
  refine (tgt_ok (m := m) (op := .useDictatorship i) rfl ((if_neg n0).trans (if_neg h1))).trans (Eq.trans ?_ (if_neg h1).symm)
  unfold Su193.SocialChoice.useRule
  rw [dictE]
  rfl
theorem ex5 (W : Wf m) : encR (Su194.execute m (.target .useBorda)) = ansM 5 m [] [] := by
  cases hr : rdy m with
  | false =>
    rw [ansM_no (by decide +kernel) hr]
    exact tgt_err (op := .useBorda) rfl (if_pos (not_rdy hr)) (by decide)
  | true =>
  rw [ansM_go hr]
  show _ = s_use_borda m [] []
  have n0 := yes_rdy hr
  refine (tgt_ok (op := .useBorda) rfl (if_neg n0)).trans ?_
  unfold Su193.SocialChoice.useRule
  rw [bordaLE W]
  rfl
theorem ex6 (W : Wf m) (t : List Nat) : encR (Su194.execute m (.target (.outcome t))) = ansM 6 m [] t := by
  cases hr : rdy m with
  | false =>
    rw [ansM_no (by decide +kernel) hr]
    exact tgt_err (op := .outcome t) rfl (if_pos (not_rdy hr)) (by decide)
  | true =>
  rw [ansM_go hr]
  show _ = (m, a_target_outcome m [] t)
  have n0 := yes_rdy hr
  unfold a_target_outcome
  cases h1 : within t (sizesM m) with
  | false =>
    have h1' : m.target.isProfile t = false := by rw [isPr W]; exact h1
    rw [if_neg Bool.false_ne_true]
    exact tgt_err (op := .outcome t) rfl ((if_neg n0).trans (if_pos h1')) (by decide)
  | true =>
    have n1 : ¬ m.target.isProfile t = false := by rw [isPr W, h1]; simp
    rw [if_pos rfl]
    refine (tgt_ok (op := .outcome t) rfl ((if_neg n0).trans (if_neg n1))).trans ?_
    rw [tgtE W (W.len_sz h1)]
    rfl
theorem ex7 (W : Wf m) : encR (Su194.execute m (.target .monotonicityViolation)) = ansM 7 m [] [] := by
  cases hr : rdy m with
  | false =>
    rw [ansM_no (by decide +kernel) hr]
    exact tgt_err (op := .monotonicityViolation) rfl (if_pos (not_rdy hr)) (by decide)
  | true =>
  rw [ansM_go hr]
  show _ = (m, a_monotonicity_violation m [] [])
  have n0 := yes_rdy hr
  have e : Su193.execute m.target .monotonicityViolation = match m.target.monotonicityViolation with | some z => (m.target, Su193.ok 1 (z.1 ++ z.2)) | none => (m.target, Su193.ok 0 []) := if_neg n0
  unfold a_monotonicity_violation
  rw [monoE W]
  cases h : m.target.monotonicityViolation with
  | none =>
    rw [h] at e
    exact tgt_ok (op := .monotonicityViolation) rfl e
  | some z =>
    rw [h] at e
    exact tgt_ok (op := .monotonicityViolation) rfl e
theorem ex8 (W : Wf m) : encR (Su194.execute m (.target .findManipulation)) = ansM 8 m [] [] := by
  cases hr : rdy m with
  | false =>
    rw [ansM_no (by decide +kernel) hr]
    exact tgt_err (op := .findManipulation) rfl (if_pos (not_rdy hr)) (by decide)
  | true =>
  rw [ansM_go hr]
  show _ = (m, a_find_manipulation m [] [])
  have n0 := yes_rdy hr
  have e : Su193.execute m.target .findManipulation = match m.target.manipulations with | z :: _ => (m.target, Su193.ok z.2.1 (z.2.2 :: z.1)) | [] => (m.target, Su193.error (-33)) := if_neg n0
  unfold a_find_manipulation
  rw [manipE W]
  cases h : m.target.manipulations with
  | nil =>
    rw [h] at e
    exact tgt_err (op := .findManipulation) rfl e (by decide)
  | cons z r =>
    rw [h] at e
    exact tgt_ok (op := .findManipulation) rfl e
theorem ex9 (W : Wf m) (r : List Nat) : encR (Su194.execute m (.setMessageCounts r)) = ansM 9 m [] r := by
  rw [ansM_any (by decide +kernel)]
  show _ = s_set_message_counts m [] r
  have ec : (r.any (fun k => decide (k = 0) || decide (Su194.maxMessages < k))) = !(r.all fun k => decide (1 ≤ k) && decide (k ≤ 6)) := by
    rw [List.not_all_eq_any_not]
    refine anyC fun k _ => ?_
    rw [Bool.not_and, ← decide_not, ← decide_not]
    congr 1
    · exact decide_eq_decide.mpr (by omega)
    · exact decide_eq_decide.mpr (by show 6 < k ↔ _; omega)
  by_cases h1 : r.length ≠ m.target.agentCount ∨ r.all (fun k => decide (1 ≤ k) && decide (k ≤ 6)) = false
  · have h1' : r.length ≠ m.agentCount ∨ r.any (fun k => decide (k = 0) || decide (Su194.maxMessages < k)) = true := by
      rw [ec, Bool.not_eq_true']
      exact h1
    have e : Su194.execute m (.setMessageCounts r) = (m, Su194.error (-22)) := if_pos h1'
    rw [e]
    exact (if_pos h1).symm
  · have h1' : ¬ (r.length ≠ m.agentCount ∨ r.any (fun k => decide (k = 0) || decide (Su194.maxMessages < k)) = true) := by
      rw [ec, Bool.not_eq_true']
      exact h1
    have e : Su194.execute m (.setMessageCounts r) = ({ m with messageCounts := r, outcomes := List.replicate (Su193.enumerateProfiles r).length 0 }, Su194.ok (Su193.enumerateProfiles r).length []) := if_neg h1'
    rw [e, enum_len]
    exact (if_neg h1).symm
theorem ex10 (W : Wf m) (x : Nat) (s : List Nat) : encR (Su194.execute m (.setMechanismOutcome x s)) = ansM 10 m [x] s := by
  rw [ansM_any (by decide +kernel)]
  show _ = s_set_mechanism_outcome m [x] s
  by_cases h1 : m.target.alternativeCount ≤ x ∨ within s m.messageCounts = false
  · have h1' : m.alternativeCount ≤ x ∨ m.isMessageProfile s = false := by rw [isMP W]; exact h1
    have e : Su194.execute m (.setMechanismOutcome x s) = (m, Su194.error (-22)) := if_pos h1'
    rw [e]
    exact (if_pos h1).symm
  · have h1' : ¬ (m.alternativeCount ≤ x ∨ m.isMessageProfile s = false) := by rw [isMP W]; exact h1
    have hw : within s m.messageCounts = true := bool_not_false fun h => h1 (.inr h)
    have e : Su194.execute m (.setMechanismOutcome x s) = ({ m with outcomes := m.outcomes.set (m.index s) x }, Su194.ok (m.outcome s) []) := if_neg h1'
    rw [e, idxE W (W.len_mc hw), outEq W (W.len_mc hw)]
    exact (if_neg h1).symm
theorem ex11 (W : Wf m) : encR (Su194.execute m .useDirectMechanism) = ansM 11 m [] [] := by
  cases hr : rdy m with
  | false =>
    rw [ansM_no (by decide +kernel) hr]
    have e : Su194.execute m .useDirectMechanism = (m, Su194.error (-16)) := if_pos (not_rdy hr)
    rw [e]
    rfl
  | true =>
  rw [ansM_go hr]
  have e : Su194.execute m .useDirectMechanism = ({ m with messageCounts := m.target.domains.map List.length, outcomes := m.target.outcomes }, Su194.ok m.target.profiles.length []) := if_neg (yes_rdy hr)
  have e2 : m.target.profiles.length = m.target.outcomes.length := by
    rw [profE, all_lenE, W.tl]
  rw [e, e2]
  rfl
theorem ex12 (W : Wf m) (s : List Nat) : encR (Su194.execute m (.mechanismOutcome s)) = ansM 12 m [] s := by
  rw [ansM_any (by decide +kernel)]
  show _ = (m, a_mechanism_outcome m [] s)
  unfold a_mechanism_outcome
  cases h1 : within s m.messageCounts with
  | false =>
    have e : Su194.execute m (.mechanismOutcome s) = (m, Su194.error (-22)) := if_pos (by rw [isMP W]; exact h1)
    rw [e, if_neg Bool.false_ne_true]
    rfl
  | true =>
    have e : Su194.execute m (.mechanismOutcome s) = (m, Su194.ok (m.outcome s) []) := if_neg (by rw [isMP W, h1]; simp)
    rw [e, if_pos rfl, outEq W (W.len_mc h1)]
    rfl
theorem ex13 (W : Wf m) : encR (Su194.execute m .messageCounts) = ansM 13 m [] [] := by
  rw [ansM_any (by decide +kernel)]
  show (m, (m.messageCounts.length : Int) :: zN m.messageCounts) = (m, zN (m.target.agentCount :: m.messageCounts))
  rw [W.ml]
  rfl
theorem ex14 (W : Wf m) (t : List Nat) : encR (Su194.execute m (.countEquilibria t)) = ansM 14 m [] t := by
  cases hr : rdy m with
  | false =>
    rw [ansM_no (by decide +kernel) hr]
    have e : Su194.execute m (.countEquilibria t) = (m, Su194.error (-16)) := if_pos (not_rdy hr)
    rw [e]
    rfl
  | true =>
  rw [ansM_go hr]
  show _ = (m, a_count_equilibria m [] t)
  unfold a_count_equilibria
  cases h1 : within t (sizesM m) with
  | false =>
    have e : Su194.execute m (.countEquilibria t) = (m, Su194.error (-22)) := (if_neg (yes_rdy hr)).trans (if_pos (by show m.target.isProfile t = false; rw [isPr W]; exact h1))
    rw [e, if_neg Bool.false_ne_true]
    rfl
  | true =>
    have e : Su194.execute m (.countEquilibria t) = (m, Su194.ok (m.equilibria t).length []) := (if_neg (yes_rdy hr)).trans (if_neg (by show ¬ m.target.isProfile t = false; rw [isPr W, h1]; simp))
    rw [e, if_pos rfl, equilE W]
    rfl
theorem ex15 (W : Wf m) (i : Nat) (t : List Nat) : encR (Su194.execute m (.equilibrium i t)) = ansM 15 m [i] t := by
  cases hr : rdy m with
  | false =>
    rw [ansM_no (by decide +kernel) hr]
    have e : Su194.execute m (.equilibrium i t) = (m, Su194.error (-16)) := if_pos (not_rdy hr)
    rw [e]
    rfl
  | true =>
  rw [ansM_go hr]
  show _ = (m, a_equilibrium m [i] t)
  unfold a_equilibrium
  cases h1 : within t (sizesM m) with
  | false =>
    have e : Su194.execute m (.equilibrium i t) = (m, Su194.error (-22)) := (if_neg (yes_rdy hr)).trans (if_pos (by show m.target.isProfile t = false; rw [isPr W]; exact h1))
    rw [e, if_neg Bool.false_ne_true]
    rfl
  | true =>
    have e : Su194.execute m (.equilibrium i t) = (match (m.equilibria t)[i]? with | some s => (m, Su194.okList s) | none => (m, Su194.error (-33))) := (if_neg (yes_rdy hr)).trans (if_neg (by show ¬ m.target.isProfile t = false; rw [isPr W, h1]; simp))
    rw [e, if_pos rfl, equilE W, List.headD_cons]
    cases h : (equil m t)[i]? with
    | none => rfl
    | some s =>
      have hw := mem_all.mp (List.mem_filter.mp (List.mem_of_getElem? h)).1
      show (m, (s.length : Int) :: zN s) = (m, zN (m.target.agentCount :: s))
      rw [W.len_mc hw]
      rfl
theorem ex16 (W : Wf m) (t : List Nat) : encR (Su194.execute m (.equilibriumOutcomes t)) = ansM 16 m [] t := by
  cases hr : rdy m with
  | false =>
    rw [ansM_no (by decide +kernel) hr]
    have e : Su194.execute m (.equilibriumOutcomes t) = (m, Su194.error (-16)) := if_pos (not_rdy hr)
    rw [e]
    rfl
  | true =>
  rw [ansM_go hr]
  show _ = (m, a_equilibrium_outcomes m [] t)
  unfold a_equilibrium_outcomes
  cases h1 : within t (sizesM m) with
  | false =>
    have e : Su194.execute m (.equilibriumOutcomes t) = (m, Su194.error (-22)) := (if_neg (yes_rdy hr)).trans (if_pos (by show m.target.isProfile t = false; rw [isPr W]; exact h1))
    rw [e, if_neg Bool.false_ne_true]
    rfl
  | true =>
    have e : Su194.execute m (.equilibriumOutcomes t) = (m, Su194.ok (Su193.maskOf (m.equilibriumOutcomes t)) []) := (if_neg (yes_rdy hr)).trans (if_neg (by show ¬ m.target.isProfile t = false; rw [isPr W, h1]; simp))
    rw [e, if_pos rfl, eqOutE W, mask_eq (c := m.target.alternativeCount) (by have := W.v4; omega) fun x hx => by
      obtain ⟨s, hs, rfl⟩ := List.mem_map.mp hx
      exact W.out_lt (mem_all.mp (List.mem_filter.mp hs).1)]
    rfl
theorem ex17 (W : Wf m) : encR (Su194.execute m .implementsInNash) = ansM 17 m [] [] := by
  cases hr : rdy m with
  | false =>
    rw [ansM_no (by decide +kernel) hr]
    have e : Su194.execute m .implementsInNash = (m, Su194.error (-16)) := if_pos (not_rdy hr)
    rw [e]
    rfl
  | true =>
  rw [ansM_go hr]
  have e : Su194.execute m .implementsInNash = (match m.nashFailure with | some t => (m, Su194.ok 0 t) | none => (m, Su194.ok 1 [])) := if_neg (yes_rdy hr)
  show _ = (m, resultOf (failN m))
  rw [e, nashE W]
  cases failN m <;> rfl
theorem ex18 (W : Wf m) (l : List Nat) : encR (Su194.execute m (.bestResponseDynamics l)) = ansM 18 m [] l := by
  cases hr : rdy m with
  | false =>
    rw [ansM_no (by decide +kernel) hr]
    have e : Su194.execute m (.bestResponseDynamics l) = (m, Su194.error (-16)) := if_pos (not_rdy hr)
    rw [e]
    rfl
  | true =>
  rw [ansM_go hr]
  show _ = (m, a_best_response_dynamics m [] l)
  unfold a_best_response_dynamics
  by_cases h : within (l.take m.target.agentCount) (sizesM m) = true ∧ within (l.drop m.target.agentCount) m.messageCounts = true
  · rw [if_pos h, dynE W h.1 h.2]
    have n1 : ¬ (m.isProfile (l.take m.agentCount) = false ∨ m.isMessageProfile (l.drop m.agentCount) = false) := by
      show ¬ (m.target.isProfile (l.take m.target.agentCount) = false ∨ m.isMessageProfile (l.drop m.target.agentCount) = false)
      rw [isPr W, isMP W, h.1, h.2]
      simp
    have e : Su194.execute m (.bestResponseDynamics l) = if m.isEquilibrium (l.take m.target.agentCount) (m.run (l.take m.target.agentCount) 100 (l.drop m.target.agentCount) 0).2 = true then (m, Su194.ok (m.run (l.take m.target.agentCount) 100 (l.drop m.target.agentCount) 0).1 (m.run (l.take m.target.agentCount) 100 (l.drop m.target.agentCount) 0).2) else (m, Su194.error (-75)) := (if_neg (yes_rdy hr)).trans (if_neg n1)
    rw [e, isEqE W _ (W.len_mc (runE W h.1 100 0 _ h.2).2)]
    split <;> rfl
  · rw [if_neg h]
    have h1 : m.isProfile (l.take m.agentCount) = false ∨ m.isMessageProfile (l.drop m.agentCount) = false := by
      show m.target.isProfile (l.take m.target.agentCount) = false ∨ m.isMessageProfile (l.drop m.target.agentCount) = false
      rw [isPr W, isMP W]
      cases q : within (l.take m.target.agentCount) (sizesM m) with
      | false => exact .inl rfl
      | true =>
        cases q2 : within (l.drop m.target.agentCount) m.messageCounts with
        | false => exact .inr rfl
        | true => exact absurd ⟨q, q2⟩ h
    have e : Su194.execute m (.bestResponseDynamics l) = (m, Su194.error (-22)) := (if_neg (yes_rdy hr)).trans (if_pos h1)
    rw [e]
    rfl
theorem okP {i k : Nat} : (m.target.agentCount ≤ i ∨ (m.target.domain i).length ≤ k) ↔ ¬ okPref m i k = true := by
  unfold okPref
  rw [Bool.and_eq_true, decide_eq_true_iff, decide_eq_true_iff]
  show (m.target.agentCount ≤ i ∨ (domM m i).length ≤ k) ↔ _
  omega
theorem ex19 (W : Wf m) (i k : Nat) : encR (Su194.execute m (.dominantMessages i k)) = ansM 19 m [i, k] [] := by
  rw [ansM_any (by decide +kernel)]
  show _ = (m, a_dominant_messages m [i, k] [])
  unfold a_dominant_messages
  show _ = (m, if okPref m i k = true then [(maskOf (domF m i ((domM m i).getD k [])) : Int)] else [-2])
  by_cases h : okPref m i k = true
  · have n1 : ¬ (m.agentCount ≤ i ∨ (m.target.domain i).length ≤ k) := fun q => okP.mp q h
    have e : Su194.execute m (.dominantMessages i k) = (m, Su194.ok (Su193.maskOf (m.dominantMessages i k)) []) := if_neg n1
    have hi : i < m.target.agentCount := Nat.lt_of_not_le fun q => n1 (.inl q)
    rw [e, if_pos h, domMsgE W hi]
    rfl
  · have e : Su194.execute m (.dominantMessages i k) = (m, Su194.error (-2)) := if_pos (okP.mpr h)
    rw [e, if_neg h]
    rfl
theorem ex20 (W : Wf m) (i k : Nat) : encR (Su194.execute m (.dominatedMessages i k)) = ansM 20 m [i, k] [] := by
  rw [ansM_any (by decide +kernel)]
  show _ = (m, a_dominated_messages m [i, k] [])
  unfold a_dominated_messages
  show _ = (m, if okPref m i k = true then [(maskOf (domdF m i ((domM m i).getD k [])) : Int)] else [-2])
  by_cases h : okPref m i k = true
  · have n1 : ¬ (m.agentCount ≤ i ∨ (m.target.domain i).length ≤ k) := fun q => okP.mp q h
    have e : Su194.execute m (.dominatedMessages i k) = (m, Su194.ok (Su193.maskOf ((List.range (m.messageCounts.getD i 0)).filter (m.isDominated i k))) []) := if_neg n1
    have hi : i < m.target.agentCount := Nat.lt_of_not_le fun q => n1 (.inl q)
    rw [e, if_pos h, domdMsgE W hi]
    rfl
  · have e : Su194.execute m (.dominatedMessages i k) = (m, Su194.error (-2)) := if_pos (okP.mpr h)
    rw [e, if_neg h]
    rfl
theorem ex21 (W : Wf m) : encR (Su194.execute m .implementsInDominantStrategies) = ansM 21 m [] [] := by
  cases hr : rdy m with
  | false =>
    rw [ansM_no (by decide +kernel) hr]
    have e : Su194.execute m .implementsInDominantStrategies = (m, Su194.error (-16)) := if_pos (not_rdy hr)
    rw [e]
    rfl
  | true =>
  rw [ansM_go hr]
  have e : Su194.execute m .implementsInDominantStrategies = (match m.dominanceFailure with | some t => (m, Su194.ok 0 t) | none => (m, Su194.ok 1 [])) := if_neg (yes_rdy hr)
  show _ = (m, resultOf (failD m))
  rw [e, domE W]
  cases failD m <;> rfl
theorem okS {c a : Nat} : (2 ^ m.target.agentCount ≤ c ∨ 2 ^ m.target.alternativeCount ≤ a) ↔ ¬ okSets m c a = true := by
  unfold okSets
  rw [Bool.and_eq_true, decide_eq_true_iff, decide_eq_true_iff]
  omega
theorem ex22 (W : Wf m) (c a : Nat) : encR (Su194.execute m (.canForce c a)) = ansM 22 m [c, a] [] := by
  rw [ansM_any (by decide +kernel)]
  show _ = (m, a_force m [c, a] [])
  unfold a_force
  show _ = (m, if okSets m c a = true then [((if forceB m c a then 1 else 0 : Nat) : Int)] else [-22])
  by_cases h : okSets m c a = true
  · have n1 : ¬ (2 ^ m.agentCount ≤ c ∨ 2 ^ m.alternativeCount ≤ a) := fun q => okS.mp q h
    have e : Su194.execute m (.canForce c a) = (m, Su194.ok (if m.canForce c a = true then 1 else 0) []) := if_neg n1
    rw [e, if_pos h, forceE W]
    rfl
  · have e : Su194.execute m (.canForce c a) = (m, Su194.error (-22)) := if_pos (okS.mpr h)
    rw [e, if_neg h]
    rfl
theorem ex23 (W : Wf m) (c a : Nat) : encR (Su194.execute m (.canRespond c a)) = ansM 23 m [c, a] [] := by
  rw [ansM_any (by decide +kernel)]
  show _ = (m, a_respond m [c, a] [])
  unfold a_respond
  show _ = (m, if okSets m c a = true then [((if respB m c a then 1 else 0 : Nat) : Int)] else [-22])
  by_cases h : okSets m c a = true
  · have n1 : ¬ (2 ^ m.agentCount ≤ c ∨ 2 ^ m.alternativeCount ≤ a) := fun q => okS.mp q h
    have e : Su194.execute m (.canRespond c a) = (m, Su194.ok (if m.canRespond c a = true then 1 else 0) []) := if_neg n1
    have hc : c < 2 ^ m.target.agentCount := Nat.lt_of_not_le fun q => n1 (.inl q)
    rw [e, if_pos h, respE W hc]
    rfl
  · have e : Su194.execute m (.canRespond c a) = (m, Su194.error (-22)) := if_pos (okS.mpr h)
    rw [e, if_neg h]
    rfl
theorem ex24 (W : Wf m) : encR (Su194.execute m (.target .describe)) = ansM 24 m [] [] := by
  rw [ansM_any (by decide +kernel)]
  exact tgt_ok (op := .describe) rfl rfl
end
end Gx
/-! # All calls: read and answered as the document tells -/
namespace Gx
open PySem PySem.Spec PyProof.Rows L2
def specCall (c : Cl) : List Int := zN (c.p :: (c.ns ++ c.r))
theorem toNat_zN (l : List Nat) : (zN l).map Int.toNat = l := by
  unfold zN
  rw [List.map_map]
  exact List.map_id'' (fun n => rfl) l
def WfO (s : Option Mc) : Prop := ∀ m, s = some m → Wf m
theorem st_of {c : Cl} {op : Su194.Operation} (hcall : Su194Neutral.callOf (specCall c) = some op) (hp : c.p ≠ 0) (hno : Su194.step none op = (none, Su194.error (-11))) (hso : ∀ m, Wf m → encR (Su194.execute m op) = ansM c.p m c.ns c.r) {s : Option Mc} (hs : WfO s) : Su194Neutral.step s (specCall c) = stepC s c := by
  unfold Su194Neutral.step stepC
  rw [hcall, if_neg hp]
  cases s with
  | none =>
    dsimp only
    rw [hno]
    rfl
  | some m =>
    have e := hso m (hs m rfl)
    show (some (Su194.execute m op).1, (Su194.execute m op).2.value :: Su194Neutral.outs (Su194.execute m op).2.fields) = (some (ansM c.p m c.ns c.r).1, (ansM c.p m c.ns c.r).2)
    rw [← e]
    rfl
theorem create_cond (n k : Nat) : (n = 0 ∨ Su193.maxAgents < n ∨ k < 2 ∨ Su193.maxAlternatives < k) ↔ ¬ ((1 ≤ n ∧ n ≤ 3) ∧ (2 ≤ k ∧ k ≤ 4)) := by
  show (n = 0 ∨ 3 < n ∨ k < 2 ∨ 4 < k) ↔ _
  omega
theorem st_0 {n k : Nat} {s : Option Mc} : Su194Neutral.step s [0, (n : Int), (k : Int)] = stepC s ⟨0, [n, k], []⟩ := by
  have e0 : Su194Neutral.callOf [0, (n : Int), (k : Int)] = some (.target (.create n k)) := rfl
  unfold Su194Neutral.step
  rw [e0]
  have ex : ∀ m : Mc, Su194.execute m (.target (.create n k)) = if n = 0 ∨ Su193.maxAgents < n ∨ k < 2 ∨ Su193.maxAlternatives < k then (m, Su194.error (-22)) else (Su194.create n k, Su194.ok 0 []) := fun m => rfl
  have es : stepC s ⟨0, [n, k], []⟩ = if (1 ≤ n ∧ n ≤ 3) ∧ (2 ≤ k ∧ k ≤ 4) then (some (Su194.create n k), [0]) else (s, [-22]) := rfl
  rw [es]
  by_cases h : (1 ≤ n ∧ n ≤ 3) ∧ (2 ≤ k ∧ k ≤ 4)
  · rw [if_pos h]
    have h' : ¬ (n = 0 ∨ Su193.maxAgents < n ∨ k < 2 ∨ Su193.maxAlternatives < k) := fun q => (create_cond n k).mp q h
    cases s with
    | none =>
      show ((if (Su194.execute (Su194.create 1 2) (.target (.create n k))).2.value < 0 then none else some (Su194.execute (Su194.create 1 2) (.target (.create n k))).1), (Su194.execute (Su194.create 1 2) (.target (.create n k))).2.value :: Su194Neutral.outs (Su194.execute (Su194.create 1 2) (.target (.create n k))).2.fields) = _
      rw [ex, if_neg h']
      rfl
    | some m =>
      show (some (Su194.execute m (.target (.create n k))).1, (Su194.execute m (.target (.create n k))).2.value :: Su194Neutral.outs (Su194.execute m (.target (.create n k))).2.fields) = _
      rw [ex, if_neg h']
      rfl
  · rw [if_neg h]
    have h' := (create_cond n k).mpr h
    cases s with
    | none =>
      show ((if (Su194.execute (Su194.create 1 2) (.target (.create n k))).2.value < 0 then none else some (Su194.execute (Su194.create 1 2) (.target (.create n k))).1), (Su194.execute (Su194.create 1 2) (.target (.create n k))).2.value :: Su194Neutral.outs (Su194.execute (Su194.create 1 2) (.target (.create n k))).2.fields) = _
      rw [ex, if_pos h']
      rfl
    | some m =>
      show (some (Su194.execute m (.target (.create n k))).1, (Su194.execute m (.target (.create n k))).2.value :: Su194Neutral.outs (Su194.execute m (.target (.create n k))).2.fields) = _
      rw [ex, if_pos h']
      rfl
theorem nil_of {l : List Nat} (h : l.length = 0) : l = [] := List.length_eq_zero_iff.mp h
theorem stepE {c : Cl} (ok : OkC c) {s : Option Mc} (hs : WfO s) : Su194Neutral.step s (specCall c) = stepC s c := by
  obtain ⟨p, ns, r⟩ := c
  obtain ⟨hp', hn', hw', hr⟩ := ok
  have hp : p < 25 := hp'
  have hn : ns.length = ncN p := hn'
  have hw : wlB p = false → r = [] := hw'
  clear hp' hn' hw' hr
  match p, hp, hn, hw with
  | 0, _, hn, hw =>
    have e : r = [] := hw (by decide +kernel)
    subst e
    obtain ⟨n, k, e2⟩ := two_of hn
    subst e2
    exact st_0
  | 1, _, hn, hw =>
    obtain ⟨n, e2⟩ := one_of hn
    subst e2
    exact st_of (c := ⟨1, _, _⟩) (op := .target (.addPreference n r)) (by show some (Su194.Operation.target (.addPreference n ((zN r).map Int.toNat))) = _; rw [toNat_zN]) (by show (1 : Nat) ≠ 0; decide) rfl (fun m W => ex1 W n r) hs
  | 2, _, hn, hw =>
    have e : r = [] := hw (by decide +kernel)
    subst e
    obtain ⟨n, e2⟩ := one_of hn
    subst e2
    exact st_of (c := ⟨2, _, _⟩) (op := .target (.setFullDomain n)) rfl (by show (2 : Nat) ≠ 0; decide) rfl (fun m W => ex2 W n) hs
  | 3, _, hn, hw =>
    obtain ⟨n, e2⟩ := one_of hn
    subst e2
    exact st_of (c := ⟨3, _, _⟩) (op := .target (.setOutcome n r)) (by show some (Su194.Operation.target (.setOutcome n ((zN r).map Int.toNat))) = _; rw [toNat_zN]) (by show (3 : Nat) ≠ 0; decide) rfl (fun m W => ex3 W n r) hs
  | 4, _, hn, hw =>
    have e : r = [] := hw (by decide +kernel)
    subst e
    obtain ⟨n, e2⟩ := one_of hn
    subst e2
    exact st_of (c := ⟨4, _, _⟩) (op := .target (.useDictatorship n)) rfl (by show (4 : Nat) ≠ 0; decide) rfl (fun m W => ex4 W n) hs
  | 5, _, hn, hw =>
    have e : r = [] := hw (by decide +kernel)
    subst e
    have e2 := nil_of hn
    subst e2
    exact st_of (c := ⟨5, _, _⟩) (op := .target .useBorda) rfl (by show (5 : Nat) ≠ 0; decide) rfl (fun m W => ex5 W) hs
  | 6, _, hn, hw =>
    have e2 := nil_of hn
    subst e2
    exact st_of (c := ⟨6, _, _⟩) (op := .target (.outcome r)) (by show some (Su194.Operation.target (.outcome ((zN r).map Int.toNat))) = _; rw [toNat_zN]) (by show (6 : Nat) ≠ 0; decide) rfl (fun m W => ex6 W r) hs
  | 7, _, hn, hw =>
    have e : r = [] := hw (by decide +kernel)
    subst e
    have e2 := nil_of hn
    subst e2
    exact st_of (c := ⟨7, _, _⟩) (op := .target .monotonicityViolation) rfl (by show (7 : Nat) ≠ 0; decide) rfl (fun m W => ex7 W) hs
  | 8, _, hn, hw =>
    have e : r = [] := hw (by decide +kernel)
    subst e
    have e2 := nil_of hn
    subst e2
    exact st_of (c := ⟨8, _, _⟩) (op := .target .findManipulation) rfl (by show (8 : Nat) ≠ 0; decide) rfl (fun m W => ex8 W) hs
  | 9, _, hn, hw =>
    have e2 := nil_of hn
    subst e2
    exact st_of (c := ⟨9, _, _⟩) (op := .setMessageCounts r) (by show some (Su194.Operation.setMessageCounts ((zN r).map Int.toNat)) = _; rw [toNat_zN]) (by show (9 : Nat) ≠ 0; decide) rfl (fun m W => ex9 W r) hs
  | 10, _, hn, hw =>
    obtain ⟨n, e2⟩ := one_of hn
    subst e2
    exact st_of (c := ⟨10, _, _⟩) (op := .setMechanismOutcome n r) (by show some (Su194.Operation.setMechanismOutcome n ((zN r).map Int.toNat)) = _; rw [toNat_zN]) (by show (10 : Nat) ≠ 0; decide) rfl (fun m W => ex10 W n r) hs
  | 11, _, hn, hw =>
    have e : r = [] := hw (by decide +kernel)
    subst e
    have e2 := nil_of hn
    subst e2
    exact st_of (c := ⟨11, _, _⟩) (op := .useDirectMechanism) rfl (by show (11 : Nat) ≠ 0; decide) rfl (fun m W => ex11 W) hs
  | 12, _, hn, hw =>
    have e2 := nil_of hn
    subst e2
    exact st_of (c := ⟨12, _, _⟩) (op := .mechanismOutcome r) (by show some (Su194.Operation.mechanismOutcome ((zN r).map Int.toNat)) = _; rw [toNat_zN]) (by show (12 : Nat) ≠ 0; decide) rfl (fun m W => ex12 W r) hs
  | 13, _, hn, hw =>
    have e : r = [] := hw (by decide +kernel)
    subst e
    have e2 := nil_of hn
    subst e2
    exact st_of (c := ⟨13, _, _⟩) (op := .messageCounts) rfl (by show (13 : Nat) ≠ 0; decide) rfl (fun m W => ex13 W) hs
  | 14, _, hn, hw =>
    have e2 := nil_of hn
    subst e2
    exact st_of (c := ⟨14, _, _⟩) (op := .countEquilibria r) (by show some (Su194.Operation.countEquilibria ((zN r).map Int.toNat)) = _; rw [toNat_zN]) (by show (14 : Nat) ≠ 0; decide) rfl (fun m W => ex14 W r) hs
  | 15, _, hn, hw =>
    obtain ⟨n, e2⟩ := one_of hn
    subst e2
    exact st_of (c := ⟨15, _, _⟩) (op := .equilibrium n r) (by show some (Su194.Operation.equilibrium n ((zN r).map Int.toNat)) = _; rw [toNat_zN]) (by show (15 : Nat) ≠ 0; decide) rfl (fun m W => ex15 W n r) hs
  | 16, _, hn, hw =>
    have e2 := nil_of hn
    subst e2
    exact st_of (c := ⟨16, _, _⟩) (op := .equilibriumOutcomes r) (by show some (Su194.Operation.equilibriumOutcomes ((zN r).map Int.toNat)) = _; rw [toNat_zN]) (by show (16 : Nat) ≠ 0; decide) rfl (fun m W => ex16 W r) hs
  | 17, _, hn, hw =>
    have e : r = [] := hw (by decide +kernel)
    subst e
    have e2 := nil_of hn
    subst e2
    exact st_of (c := ⟨17, _, _⟩) (op := .implementsInNash) rfl (by show (17 : Nat) ≠ 0; decide) rfl (fun m W => ex17 W) hs
  | 18, _, hn, hw =>
    have e2 := nil_of hn
    subst e2
    exact st_of (c := ⟨18, _, _⟩) (op := .bestResponseDynamics r) (by show some (Su194.Operation.bestResponseDynamics ((zN r).map Int.toNat)) = _; rw [toNat_zN]) (by show (18 : Nat) ≠ 0; decide) rfl (fun m W => ex18 W r) hs
  | 19, _, hn, hw =>
    have e : r = [] := hw (by decide +kernel)
    subst e
    obtain ⟨n, k, e2⟩ := two_of hn
    subst e2
    exact st_of (c := ⟨19, _, _⟩) (op := .dominantMessages n k) rfl (by show (19 : Nat) ≠ 0; decide) rfl (fun m W => ex19 W n k) hs
  | 20, _, hn, hw =>
    have e : r = [] := hw (by decide +kernel)
    subst e
    obtain ⟨n, k, e2⟩ := two_of hn
    subst e2
    exact st_of (c := ⟨20, _, _⟩) (op := .dominatedMessages n k) rfl (by show (20 : Nat) ≠ 0; decide) rfl (fun m W => ex20 W n k) hs
  | 21, _, hn, hw =>
    have e : r = [] := hw (by decide +kernel)
    subst e
    have e2 := nil_of hn
    subst e2
    exact st_of (c := ⟨21, _, _⟩) (op := .implementsInDominantStrategies) rfl (by show (21 : Nat) ≠ 0; decide) rfl (fun m W => ex21 W) hs
  | 22, _, hn, hw =>
    have e : r = [] := hw (by decide +kernel)
    subst e
    obtain ⟨n, k, e2⟩ := two_of hn
    subst e2
    exact st_of (c := ⟨22, _, _⟩) (op := .canForce n k) rfl (by show (22 : Nat) ≠ 0; decide) rfl (fun m W => ex22 W n k) hs
  | 23, _, hn, hw =>
    have e : r = [] := hw (by decide +kernel)
    subst e
    obtain ⟨n, k, e2⟩ := two_of hn
    subst e2
    exact st_of (c := ⟨23, _, _⟩) (op := .canRespond n k) rfl (by show (23 : Nat) ≠ 0; decide) rfl (fun m W => ex23 W n k) hs
  | 24, _, hn, hw =>
    have e : r = [] := hw (by decide +kernel)
    subst e
    have e2 := nil_of hn
    subst e2
    exact st_of (c := ⟨24, _, _⟩) (op := .target .describe) rfl (by show (24 : Nat) ≠ 0; decide) rfl (fun m W => ex24 W) hs
  | n + 25, h, _, _ => exact absurd h (by show ¬ n + 25 < 25; omega)
/-! ### the calls as they are read -/
theorem shape_ok {p : Int} {n k : Nat} (h : PySu194.shape p = some (n, k)) : ∃ q : Nat, q < 25 ∧ p = (q : Int) ∧ n = ncN q ∧ k = (if wlB q = true then 1 else 0) := by
  by_cases h0 : p = 0
  · subst h0
    have e : PySu194.shape 0 = some (2, 0) := rfl
    rw [e] at h
    cases h
    exact ⟨0, by decide, rfl, rfl, rfl⟩
  by_cases h1 : p = 1
  · subst h1
    have e : PySu194.shape 1 = some (1, 1) := rfl
    rw [e] at h
    cases h
    exact ⟨1, by decide, rfl, rfl, rfl⟩
  by_cases h2 : p = 2
  · subst h2
    have e : PySu194.shape 2 = some (1, 0) := rfl
    rw [e] at h
    cases h
    exact ⟨2, by decide, rfl, rfl, rfl⟩
  by_cases h3 : p = 3
  · subst h3
    have e : PySu194.shape 3 = some (1, 1) := rfl
    rw [e] at h
    cases h
    exact ⟨3, by decide, rfl, rfl, rfl⟩
  by_cases h4 : p = 4
  · subst h4
    have e : PySu194.shape 4 = some (1, 0) := rfl
    rw [e] at h
    cases h
    exact ⟨4, by decide, rfl, rfl, rfl⟩
  by_cases h5 : p = 5
  · subst h5
    have e : PySu194.shape 5 = some (0, 0) := rfl
    rw [e] at h
    cases h
    exact ⟨5, by decide, rfl, rfl, rfl⟩
  by_cases h6 : p = 6
  · subst h6
    have e : PySu194.shape 6 = some (0, 1) := rfl
    rw [e] at h
    cases h
    exact ⟨6, by decide, rfl, rfl, rfl⟩
  by_cases h7 : p = 7
  · subst h7
    have e : PySu194.shape 7 = some (0, 0) := rfl
    rw [e] at h
    cases h
    exact ⟨7, by decide, rfl, rfl, rfl⟩
  by_cases h8 : p = 8
  · subst h8
    have e : PySu194.shape 8 = some (0, 0) := rfl
    rw [e] at h
    cases h
    exact ⟨8, by decide, rfl, rfl, rfl⟩
  by_cases h9 : p = 9
  · subst h9
    have e : PySu194.shape 9 = some (0, 1) := rfl
    rw [e] at h
    cases h
    exact ⟨9, by decide, rfl, rfl, rfl⟩
  by_cases h10 : p = 10
  · subst h10
    have e : PySu194.shape 10 = some (1, 1) := rfl
    rw [e] at h
    cases h
    exact ⟨10, by decide, rfl, rfl, rfl⟩
  by_cases h11 : p = 11
  · subst h11
    have e : PySu194.shape 11 = some (0, 0) := rfl
    rw [e] at h
    cases h
    exact ⟨11, by decide, rfl, rfl, rfl⟩
  by_cases h12 : p = 12
  · subst h12
    have e : PySu194.shape 12 = some (0, 1) := rfl
    rw [e] at h
    cases h
    exact ⟨12, by decide, rfl, rfl, rfl⟩
  by_cases h13 : p = 13
  · subst h13
    have e : PySu194.shape 13 = some (0, 0) := rfl
    rw [e] at h
    cases h
    exact ⟨13, by decide, rfl, rfl, rfl⟩
  by_cases h14 : p = 14
  · subst h14
    have e : PySu194.shape 14 = some (0, 1) := rfl
    rw [e] at h
    cases h
    exact ⟨14, by decide, rfl, rfl, rfl⟩
  by_cases h15 : p = 15
  · subst h15
    have e : PySu194.shape 15 = some (1, 1) := rfl
    rw [e] at h
    cases h
    exact ⟨15, by decide, rfl, rfl, rfl⟩
  by_cases h16 : p = 16
  · subst h16
    have e : PySu194.shape 16 = some (0, 1) := rfl
    rw [e] at h
    cases h
    exact ⟨16, by decide, rfl, rfl, rfl⟩
  by_cases h17 : p = 17
  · subst h17
    have e : PySu194.shape 17 = some (0, 0) := rfl
    rw [e] at h
    cases h
    exact ⟨17, by decide, rfl, rfl, rfl⟩
  by_cases h18 : p = 18
  · subst h18
    have e : PySu194.shape 18 = some (0, 1) := rfl
    rw [e] at h
    cases h
    exact ⟨18, by decide, rfl, rfl, rfl⟩
  by_cases h19 : p = 19
  · subst h19
    have e : PySu194.shape 19 = some (2, 0) := rfl
    rw [e] at h
    cases h
    exact ⟨19, by decide, rfl, rfl, rfl⟩
  by_cases h20 : p = 20
  · subst h20
    have e : PySu194.shape 20 = some (2, 0) := rfl
    rw [e] at h
    cases h
    exact ⟨20, by decide, rfl, rfl, rfl⟩
  by_cases h21 : p = 21
  · subst h21
    have e : PySu194.shape 21 = some (0, 0) := rfl
    rw [e] at h
    cases h
    exact ⟨21, by decide, rfl, rfl, rfl⟩
  by_cases h22 : p = 22
  · subst h22
    have e : PySu194.shape 22 = some (2, 0) := rfl
    rw [e] at h
    cases h
    exact ⟨22, by decide, rfl, rfl, rfl⟩
  by_cases h23 : p = 23
  · subst h23
    have e : PySu194.shape 23 = some (2, 0) := rfl
    rw [e] at h
    cases h
    exact ⟨23, by decide, rfl, rfl, rfl⟩
  by_cases h24 : p = 24
  · subst h24
    have e : PySu194.shape 24 = some (0, 0) := rfl
    rw [e] at h
    cases h
    exact ⟨24, by decide, rfl, rfl, rfl⟩
  unfold PySu194.shape at h
  rw [if_neg h0, if_neg h1, if_neg h2, if_neg h3, if_neg h4, if_neg h5, if_neg h6, if_neg h7, if_neg h8, if_neg h9, if_neg h10, if_neg h11, if_neg h12, if_neg h13, if_neg h14, if_neg h15, if_neg h16, if_neg h17, if_neg h18, if_neg h19, if_neg h20, if_neg h21, if_neg h22, if_neg h23, if_neg h24] at h
  cases h
theorem bound_ok : ∀ q : Nat, q < 25 → PySu194.bound (q : Int) = (List.replicate (ncN q) ((0 : Int), (4294967295 : Int)), if wlB q = true then [((0 : Int), (4294967295 : Int), (0 : Nat), (8 : Nat))] else [])
  | 0, _ => rfl
  | 1, _ => rfl
  | 2, _ => rfl
  | 3, _ => rfl
  | 4, _ => rfl
  | 5, _ => rfl
  | 6, _ => rfl
  | 7, _ => rfl
  | 8, _ => rfl
  | 9, _ => rfl
  | 10, _ => rfl
  | 11, _ => rfl
  | 12, _ => rfl
  | 13, _ => rfl
  | 14, _ => rfl
  | 15, _ => rfl
  | 16, _ => rfl
  | 17, _ => rfl
  | 18, _ => rfl
  | 19, _ => rfl
  | 20, _ => rfl
  | 21, _ => rfl
  | 22, _ => rfl
  | 23, _ => rfl
  | 24, _ => rfl
  | n + 25, h => absurd h (by omega)
theorem each_nat : ∀ (n : Nat) (xs : List Int), PyInside.each (List.replicate n ((0 : Int), (4294967295 : Int))) xs = true → xs.length = n → ∃ ns : List Nat, xs = zN ns ∧ ns.length = n
  | 0, [], _, _ => ⟨[], rfl, rfl⟩
  | 0, _ :: _, _, h => by cases h
  | n + 1, [], _, h => by cases h
  | n + 1, x :: xs, h, hl => by
    have h' : (PyInside.within 0 4294967295 x && PyInside.each (List.replicate n ((0 : Int), (4294967295 : Int))) xs) = true := h
    rw [Bool.and_eq_true] at h'
    obtain ⟨ns, h1, h2⟩ := each_nat n xs h'.2 (by simpa using hl)
    have h3 : 0 ≤ x := by
      have := h'.1
      unfold PyInside.within at this
      rw [Bool.and_eq_true, decide_eq_true_iff, decide_eq_true_iff] at this
      exact this.1
    refine ⟨x.toNat :: ns, ?_, by rw [List.length_cons, h2]⟩
    rw [h1]
    show _ = ((x.toNat : Nat) : Int) :: zN ns
    rw [Int.toNat_of_nonneg h3]
theorem all_nat : ∀ xs : List Int, xs.all (PyInside.within 0 4294967295) = true → ∃ ns : List Nat, xs = zN ns
  | [], _ => ⟨[], rfl⟩
  | x :: xs, h => by
    rw [List.all_cons, Bool.and_eq_true] at h
    obtain ⟨ns, h1⟩ := all_nat xs h.2
    have h3 : 0 ≤ x := by
      have := h.1
      unfold PyInside.within at this
      rw [Bool.and_eq_true, decide_eq_true_iff, decide_eq_true_iff] at this
      exact this.1
    refine ⟨x.toNat :: ns, ?_⟩
    rw [h1]
    show _ = ((x.toNat : Nat) : Int) :: zN ns
    rw [Int.toNat_of_nonneg h3]
theorem zN_len (l : List Nat) : (zN l).length = l.length := List.length_map ..
theorem zN_app (a b : List Nat) : zN (a ++ b) = zN a ++ zN b := List.map_append ..
/-- the call's lists put in -/
theorem whole_ok {q : Nat} (hq : q < 25) {ns r : List Nat} (hn : ns.length = ncN q) (hw : wlB q = false → r = []) : PySu194.whole (((q : Int) :: zN ns) :: (if wlB q = true then [zN r] else [])) = [specCall ⟨q, ns, r⟩] := by
  match q, hq, hn, hw with
  | 0, _, hn, hw =>
    have e : r = [] := hw (by decide +kernel)
    subst e
    obtain ⟨n, k, e2⟩ := two_of hn
    subst e2
    rfl
  | 1, _, hn, hw =>
    obtain ⟨n, e2⟩ := one_of hn
    subst e2
    rfl
  | 2, _, hn, hw =>
    have e : r = [] := hw (by decide +kernel)
    subst e
    obtain ⟨n, e2⟩ := one_of hn
    subst e2
    rfl
  | 3, _, hn, hw =>
    obtain ⟨n, e2⟩ := one_of hn
    subst e2
    rfl
  | 4, _, hn, hw =>
    have e : r = [] := hw (by decide +kernel)
    subst e
    obtain ⟨n, e2⟩ := one_of hn
    subst e2
    rfl
  | 5, _, hn, hw =>
    have e : r = [] := hw (by decide +kernel)
    subst e
    have e2 := nil_of hn
    subst e2
    rfl
  | 6, _, hn, hw =>
    have e2 := nil_of hn
    subst e2
    rfl
  | 7, _, hn, hw =>
    have e : r = [] := hw (by decide +kernel)
    subst e
    have e2 := nil_of hn
    subst e2
    rfl
  | 8, _, hn, hw =>
    have e : r = [] := hw (by decide +kernel)
    subst e
    have e2 := nil_of hn
    subst e2
    rfl
  | 9, _, hn, hw =>
    have e2 := nil_of hn
    subst e2
    rfl
  | 10, _, hn, hw =>
    obtain ⟨n, e2⟩ := one_of hn
    subst e2
    rfl
  | 11, _, hn, hw =>
    have e : r = [] := hw (by decide +kernel)
    subst e
    have e2 := nil_of hn
    subst e2
    rfl
  | 12, _, hn, hw =>
    have e2 := nil_of hn
    subst e2
    rfl
  | 13, _, hn, hw =>
    have e : r = [] := hw (by decide +kernel)
    subst e
    have e2 := nil_of hn
    subst e2
    rfl
  | 14, _, hn, hw =>
    have e2 := nil_of hn
    subst e2
    rfl
  | 15, _, hn, hw =>
    obtain ⟨n, e2⟩ := one_of hn
    subst e2
    rfl
  | 16, _, hn, hw =>
    have e2 := nil_of hn
    subst e2
    rfl
  | 17, _, hn, hw =>
    have e : r = [] := hw (by decide +kernel)
    subst e
    have e2 := nil_of hn
    subst e2
    rfl
  | 18, _, hn, hw =>
    have e2 := nil_of hn
    subst e2
    rfl
  | 19, _, hn, hw =>
    have e : r = [] := hw (by decide +kernel)
    subst e
    obtain ⟨n, k, e2⟩ := two_of hn
    subst e2
    rfl
  | 20, _, hn, hw =>
    have e : r = [] := hw (by decide +kernel)
    subst e
    obtain ⟨n, k, e2⟩ := two_of hn
    subst e2
    rfl
  | 21, _, hn, hw =>
    have e : r = [] := hw (by decide +kernel)
    subst e
    have e2 := nil_of hn
    subst e2
    rfl
  | 22, _, hn, hw =>
    have e : r = [] := hw (by decide +kernel)
    subst e
    obtain ⟨n, k, e2⟩ := two_of hn
    subst e2
    rfl
  | 23, _, hn, hw =>
    have e : r = [] := hw (by decide +kernel)
    subst e
    obtain ⟨n, k, e2⟩ := two_of hn
    subst e2
    rfl
  | 24, _, hn, hw =>
    have e : r = [] := hw (by decide +kernel)
    subst e
    have e2 := nil_of hn
    subst e2
    rfl
  | n + 25, h, _, _ => exact absurd h (by omega)
theorem parse : ∀ (f : Nat) (l : List Int) (raw : List (List (List Int))), PyFlat.calls PySu194.shape f l = some raw → PyInside.calls PySu194.bound raw = true → ∃ cs : List Cl, l = zN (flatC cs) ∧ (∀ x ∈ cs, OkC x) ∧ raw.map PySu194.whole = cs.map fun c => [specCall c]
  | f, [], raw, h, _ => by
    have e : PyFlat.calls PySu194.shape f [] = some [] := by cases f <;> rfl
    rw [e] at h
    cases h
    exact ⟨[], rfl, fun x hx => (by cases hx), rfl⟩
  | 0, _ :: _, raw, h, _ => by cases h
  | f + 1, p :: rest, raw, h, hb => by
    have h' : (match PyFlat.call PySu194.shape (p :: rest) with | none => none | some (c, t) => match PyFlat.calls PySu194.shape f t with | none => none | some cs => some (c :: cs)) = some raw := h
    cases hc : PyFlat.call PySu194.shape (p :: rest) with
    | none => rw [hc] at h'; cases h'
    | some ct =>
      obtain ⟨c, t⟩ := ct
      rw [hc] at h'
      dsimp only at h'
      cases ht : PyFlat.calls PySu194.shape f t with
      | none => rw [ht] at h'; cases h'
      | some craw =>
        rw [ht] at h'
        cases h'
        have hb' : (PyInside.call PySu194.bound c && PyInside.calls PySu194.bound craw) = true := hb
        rw [Bool.and_eq_true] at hb'
        obtain ⟨cs, k1, k2, k3⟩ := parse f t craw ht hb'.2
        -- the call
        have hc' : (match PySu194.shape p with | none => none | some (n, k) => if rest.length < n then none else match PyFlat.rows k (rest.drop n) with | none => none | some (xs, t) => some ((p :: rest.take n) :: xs, t)) = some (c, t) := hc
        cases hs : PySu194.shape p with
        | none => rw [hs] at hc'; cases hc'
        | some nk =>
          obtain ⟨n, k⟩ := nk
          rw [hs] at hc'
          dsimp only at hc'
          obtain ⟨q, hq, rfl, rfl, rfl⟩ := shape_ok hs
          by_cases hl : rest.length < ncN q
          · rw [if_pos hl] at hc'; cases hc'
          rw [if_neg hl] at hc'
          have htl : (rest.take (ncN q)).length = ncN q := by rw [List.length_take]; omega
          have hsplit : rest = rest.take (ncN q) ++ rest.drop (ncN q) := (List.take_append_drop ..).symm
          have goal : ∃ (ns r : List Nat), ns.length = ncN q ∧ (wlB q = false → r = []) ∧ r.length ≤ 8 ∧ rest = zN (ns ++ (if wlB q = true then r.length :: r else [])) ++ t ∧ c = ((q : Int) :: zN ns) :: (if wlB q = true then [zN r] else []) := by
            cases hw : wlB q with
            | false =>
              rw [hw, if_neg Bool.false_ne_true] at hc'
              have e : some (((q : Int) :: rest.take (ncN q)) :: [], rest.drop (ncN q)) = some (c, t) := hc'
              cases e
              have hb2 := hb'.1
              have e2 : PyInside.call PySu194.bound [(q : Int) :: rest.take (ncN q)] = (PyInside.each (PySu194.bound (q : Int)).1 (rest.take (ncN q)) && PyInside.lists (PySu194.bound (q : Int)).2 []) := rfl
              rw [e2, bound_ok q hq, Bool.and_eq_true] at hb2
              obtain ⟨ns, j1, j2⟩ := each_nat _ _ hb2.1 htl
              refine ⟨ns, [], j2, fun _ => rfl, Nat.zero_le _, ?_, ?_⟩
              · rw [if_neg Bool.false_ne_true, List.append_nil, ← j1]
                exact hsplit
              · rw [if_neg Bool.false_ne_true, ← j1]
            | true =>
              rw [hw, if_pos rfl] at hc'
              have e1 : PyFlat.rows 1 (rest.drop (ncN q)) = match PyFlat.row (rest.drop (ncN q)) with | none => none | some (x, s) => some ([x], s) := rfl
              rw [e1] at hc'
              cases hd : rest.drop (ncN q) with
              | nil =>
                rw [hd] at hc'
                cases hc'
              | cons z tail =>
                rw [hd] at hc'
                have e3 : PyFlat.row (z :: tail) = if 0 ≤ z ∧ z.toNat ≤ tail.length then some (tail.take z.toNat, tail.drop z.toNat) else none := rfl
                rw [e3] at hc'
                by_cases hz : 0 ≤ z ∧ z.toNat ≤ tail.length
                · rw [if_pos hz] at hc'
                  have e : some (((q : Int) :: rest.take (ncN q)) :: [tail.take z.toNat], tail.drop z.toNat) = some (c, t) := hc'
                  cases e
                  have hb2 := hb'.1
                  have e2 : PyInside.call PySu194.bound [(q : Int) :: rest.take (ncN q), tail.take z.toNat] = (PyInside.each (PySu194.bound (q : Int)).1 (rest.take (ncN q)) && PyInside.lists (PySu194.bound (q : Int)).2 [tail.take z.toNat]) := rfl
                  rw [e2, bound_ok q hq, Bool.and_eq_true, hw, if_pos rfl] at hb2
                  obtain ⟨ns, j1, j2⟩ := each_nat _ _ hb2.1 htl
                  have hb3 : (decide (0 ≤ (tail.take z.toNat).length) && decide ((tail.take z.toNat).length ≤ 8) && (tail.take z.toNat).all (PyInside.within 0 4294967295) && true) = true := hb2.2
                  rw [Bool.and_eq_true, Bool.and_eq_true, Bool.and_eq_true, decide_eq_true_iff, decide_eq_true_iff] at hb3
                  obtain ⟨r, j3⟩ := all_nat _ hb3.1.2
                  have hrl : r.length = z.toNat := by
                    have := congrArg List.length j3
                    rw [zN_len, List.length_take] at this
                    omega
                  refine ⟨ns, r, j2, fun h => (by cases h), ?_, ?_, ?_⟩
                  · have := hb3.1.1.2
                    rw [j3, zN_len] at this
                    exact this
                  · rw [if_pos rfl, zN_app]
                    show rest = (zN ns ++ ((r.length : Int) :: zN r)) ++ tail.drop z.toNat
                    rw [← j1, ← j3, hrl, Int.toNat_of_nonneg hz.1, List.append_assoc, List.cons_append, List.take_append_drop, ← hd]
                    exact hsplit
                  · rw [if_pos rfl, ← j1, ← j3]
                · rw [if_neg hz] at hc'
                  cases hc'
          obtain ⟨ns, r, g1, g2, g3, g4, g5⟩ := goal
          refine ⟨⟨q, ns, r⟩ :: cs, ?_, ?_, ?_⟩
          · rw [g4, k1]
            show (q : Int) :: (zN (ns ++ (if wlB q = true then r.length :: r else [])) ++ zN (flatC cs)) = zN (flatC (⟨q, ns, r⟩ :: cs))
            rw [← zN_app]
            rfl
          · intro x hx
            rcases List.mem_cons.mp hx with rfl | hx
            · exact ⟨hq, g1, g2, g3⟩
            · exact k2 x hx
          · rw [List.map_cons, List.map_cons, k3, g5, whole_ok hq g1 g2]
theorem wfO_step {s : Option Mc} (hs : WfO s) {c : Cl} : WfO (stepC s c).1 := by
  intro m hm
  unfold stepC at hm
  split at hm
  · split at hm
    · rename_i h
      cases hm
      exact wf_create h
    · exact hs m hm
  · cases s with
    | none => cases hm
    | some m0 =>
      cases hm
      exact wf_ansM (hs m0 rfl)
theorem toldE : ∀ (cs : List Cl) (s : Option Mc), (∀ x ∈ cs, OkC x) → WfO s → PyFlat.told (PyFlat.played (fun s c => Su194Neutral.step s (c.headD [])) s (cs.map fun c => [specCall c])) = runC s cs
  | [], _, _, _ => rfl
  | c :: cs, s, h, hs => by
    have e := stepE (h c List.mem_cons_self) hs
    have ih := toldE cs (stepC s c).1 (fun x hx => h x (List.mem_cons_of_mem _ hx)) (wfO_step hs)
    have e2 : PyFlat.played (fun s c => Su194Neutral.step s (c.headD [])) s ((c :: cs).map fun c => [specCall c]) = (Su194Neutral.step s (specCall c)).2 :: PyFlat.played (fun s c => Su194Neutral.step s (c.headD [])) (Su194Neutral.step s (specCall c)).1 (cs.map fun c => [specCall c]) := rfl
    rw [e2, e]
    unfold PyFlat.told at ih ⊢
    rw [List.flatMap_cons, ih]
    rfl
theorem law {l : List Int} (h : PySu194.answers_asked l = true) : ∃ cs : List Cl, l = zN (flatC cs) ∧ (∀ x ∈ cs, OkC x) ∧ runC none cs = PySu194.answers l ∧ (runC none cs).length ≤ 10000000 := by
  unfold PySu194.answers_asked at h
  cases hc : PyFlat.calls PySu194.shape l.length l with
  | none => rw [hc] at h; cases h
  | some raw =>
    rw [hc] at h
    dsimp only at h
    rw [Bool.and_eq_true, Bool.and_eq_true, Bool.and_eq_true] at h
    obtain ⟨⟨⟨_, h2⟩, _⟩, h4⟩ := h
    obtain ⟨cs, k1, k2, k3⟩ := parse _ _ _ hc h2
    have e : runC none cs = PySu194.answers l := by
      have e2 : PySu194.calls l = some (cs.map fun c => [specCall c]) := by
        unfold PySu194.calls
        rw [hc]
        show some (raw.map PySu194.whole) = _
        rw [k3]
      unfold PySu194.answers
      rw [e2]
      exact (toldE cs none k2 fun m hm => by cases hm).symm
    refine ⟨cs, k1, k2, e, ?_⟩
    rw [e]
    unfold PyFlat.short at h4
    exact of_decide_eq_true h4
end Gx
/-! # The law, by the codecs -/
namespace Gx
open PySem PySem.Spec PyProof.Rows L2
theorem hsp_ok : ∀ (K : PySem.W.Frag) (H : Hp) (xs : List V) (a : PySem.W.Codec.denoteAll PySem.Challenge.rw_gameforms_s01_answers.args), OnlyF H → PySem.W.Codec.withinAll PySem.Challenge.rw_gameforms_s01_answers.args a = true → PySem.W.Codec.app PySem.Challenge.rw_gameforms_s01_answers.args PySem.Challenge.rw_gameforms_s01_answers.asked a = true → DwAll K H xs (PySem.W.Codec.encAll PySem.Challenge.rw_gameforms_s01_answers.args a) →
    spAns K xs H (fun v H' => Dw K H' v (PySem.Challenge.rw_gameforms_s01_answers.ret.enc (PySem.W.Codec.app PySem.Challenge.rw_gameforms_s01_answers.args PySem.Challenge.rw_gameforms_s01_answers.f a))) fun _ _ _ => False := by
  intro K H xs a hO hwi hask hx
  cases hx with
  | cons h1 h2 =>
    cases h2
    cases h1 with
    | lst hs ha =>
      have e := L2.ints_dw a.1 _ ha
      subst e
      obtain ⟨cs, e1, hok, e2, hl⟩ := law (l := a.1) hask
      refine ⟨_, cs, rfl, by rw [← e1]; exact hs, hok, hl, fun H' p hp => ?_⟩
      rw [e2] at hp
      exact .lst (L2.SqL.of hp) (L2.dw_ints _)
end Gx
end
open PySem PySem.W PyProof.Rows
set_option maxRecDepth 100000 in
set_option maxHeartbeats 8000000 in
theorem PySem.Challenge.cw_gameforms_s01_answers_holds : PySem.Challenge.rw_gameforms_s01_answers.Holds := by
  w_on; k_headS; (case hw => exact ⟨[.list [.int 5]], by decide +kernel, by decide +kernel⟩)
  k_fillS
  refine L2.walk_specK (r := PySem.Challenge.rw_gameforms_s01_answers) (k := 10) (CX := L2.CX0) (ps := ["calls"]) (sp := fun K => Gx.spAns K) (by decide +kernel) rfl rfl ⟨rfl, by decide, by decide⟩ (fun w h Y => PySem.W.kIn_of Y) ?F ?S (fun _ _ _ _ z => z)
  case F =>
    intro w mg fa h Y KX G hmg
    refine' Gx.all_mk KX G hmg ?hC ?h_f_count_of ?h_f_is_within ?h_f_place_of ?h_f_longer ?h_f_all_lists ?h_f_with_number ?h_f_mask_of ?h_f_has ?h_f_part_of ?h_m_message_profiles ?h_m_outcome_of ?h_f_can_force ?h_f_can_respond ?h_f_is_ranking ?h_f_all_rankings ?h_f_prefers ?h_f_not_preferred ?h_f_best_of ?h_f_outcome_row ?h_f_outcome_rows ?h_f_is_never_better ?h_f_is_dominant ?h_f_does_dominate ?h_f_is_dominated ?h_f_dominant_flags ?h_f_dominated_flags ?h_f_dominant_table ?h_f_are_all_dominant ?h_f_is_implemented ?h_m_domain_sizes ?h_m_profiles ?h_m_agents ?h_m_target_at ?h_f_first_failure_of_dominance ?h_f_choices_of ?h_f_is_content ?h_m_preference_of ?h_f_is_equilibrium ?h_f_equilibria ?h_f_content_row ?h_f_content_rows ?h_f_is_attained ?h_f_first_failure ?h_f_response_of ?h_f_after_step ?h_f_dynamics ?h_f_dictatorship ?h_f_borda_scores ?h_f_borda_winner ?h_f_borda ?h_f_does_gain ?h_f_manipulation_at ?h_f_first_manipulation ?h_f_does_keep ?h_f_keeping ?h_f_violation_from ?h_f_first_violation ?h_f_created ?h_f_or_none ?h_f_result_of ?h_m_change_domain ?h_f_add_preference ?h_f_set_full_domain ?h_m_change_target ?h_f_set_target_outcome ?h_f_use_dictatorship ?h_f_use_borda ?h_f_target_outcome ?h_f_monotonicity_violation ?h_f_find_manipulation ?h_m_change_mechanism ?h_f_set_message_counts ?h_f_set_mechanism_outcome ?h_f_use_direct_mechanism ?h_f_mechanism_outcome ?h_f_message_counts ?h_f_count_equilibria ?h_f_equilibrium ?h_f_equilibrium_outcomes ?h_f_implements_in_nash ?h_f_best_response_dynamics ?h_f_has_preference ?h_f_dominant_messages ?h_f_dominated_messages ?h_f_implements_in_dominant_strategies ?h_f_are_sets ?h_f_force ?h_f_respond ?h_f_describe ?h_m_is_ready ?h_f_answer ?h_f_read_call ?h_f_answers ?h_m_init ?b_len ?b_all ?b_any ?b_zip ?b_range ?b_list ?b_tuple ?b_sum ?b_sorted ?b_max ?b_enumerate ?b_int ?i_NO_INSTANCE ?i_NOT_READY ?i_UNKNOWN ?i_INVALID ?i_TWICE ?i_FULL ?i_NONE ?i_ENDLESS ?i_MOST_PREFERENCES ?i_MOST_MESSAGES ?i_MOST_STEPS ?i_CREATE ?t_pw ?t_rd ?t_wl ?t_nc ?dd
    (case hC => refine' Gx.clF_mk ?a ?pg ?hd ?po ?sa ?mk ?kc ?n1 ?n2 ?n3 ?n4 ?n5 ?n6; (case a => k_is); (case pg => k_is); (case hd => k_is); (case po => k_is); (case sa => k_is); (case mk => k_is); (case kc => k_is); (case n1 => k_is); (case n2 => k_is); (case n3 => k_is); (case n4 => k_is); (case n5 => k_is); (case n6 => k_is))
    (case h_f_count_of => refine' Gx.fnF_mk ?a ?l ?c ?k; (case a => k_is); (case l => k_is); (case c => k_is); (case k => k_is))
    (case h_f_is_within => refine' Gx.fnF_mk ?a ?l ?c ?k; (case a => k_is); (case l => k_is); (case c => k_is); (case k => k_is))
    (case h_f_place_of => refine' Gx.fnF_mk ?a ?l ?c ?k; (case a => k_is); (case l => k_is); (case c => k_is); (case k => k_is))
    (case h_f_longer => refine' Gx.fnF_mk ?a ?l ?c ?k; (case a => k_is); (case l => k_is); (case c => k_is); (case k => k_is))
    (case h_f_all_lists => refine' Gx.fnF_mk ?a ?l ?c ?k; (case a => k_is); (case l => k_is); (case c => k_is); (case k => k_is))
    (case h_f_with_number => refine' Gx.fnF_mk ?a ?l ?c ?k; (case a => k_is); (case l => k_is); (case c => k_is); (case k => k_is))
    (case h_f_mask_of => refine' Gx.fnF_mk ?a ?l ?c ?k; (case a => k_is); (case l => k_is); (case c => k_is); (case k => k_is))
    (case h_f_has => refine' Gx.fnF_mk ?a ?l ?c ?k; (case a => k_is); (case l => k_is); (case c => k_is); (case k => k_is))
    (case h_f_part_of => refine' Gx.fnF_mk ?a ?l ?c ?k; (case a => k_is); (case l => k_is); (case c => k_is); (case k => k_is))
    (case h_m_message_profiles => refine' Gx.mtF_mk ?a ?i ?l ?c ?k; (case a => k_is); (case i => k_is); (case l => k_is); (case c => k_is); (case k => k_is))
    (case h_m_outcome_of => refine' Gx.mtF_mk ?a ?i ?l ?c ?k; (case a => k_is); (case i => k_is); (case l => k_is); (case c => k_is); (case k => k_is))
    (case h_f_can_force => refine' Gx.fnF_mk ?a ?l ?c ?k; (case a => k_is); (case l => k_is); (case c => k_is); (case k => k_is))
    (case h_f_can_respond => refine' Gx.fnF_mk ?a ?l ?c ?k; (case a => k_is); (case l => k_is); (case c => k_is); (case k => k_is))
    (case h_f_is_ranking => refine' Gx.fnF_mk ?a ?l ?c ?k; (case a => k_is); (case l => k_is); (case c => k_is); (case k => k_is))
    (case h_f_all_rankings => refine' Gx.fnF_mk ?a ?l ?c ?k; (case a => k_is); (case l => k_is); (case c => k_is); (case k => k_is))
    (case h_f_prefers => refine' Gx.fnF_mk ?a ?l ?c ?k; (case a => k_is); (case l => k_is); (case c => k_is); (case k => k_is))
    (case h_f_not_preferred => refine' Gx.fnF_mk ?a ?l ?c ?k; (case a => k_is); (case l => k_is); (case c => k_is); (case k => k_is))
    (case h_f_best_of => refine' Gx.fnF_mk ?a ?l ?c ?k; (case a => k_is); (case l => k_is); (case c => k_is); (case k => k_is))
    (case h_f_outcome_row => refine' Gx.fnF_mk ?a ?l ?c ?k; (case a => k_is); (case l => k_is); (case c => k_is); (case k => k_is))
    (case h_f_outcome_rows => refine' Gx.fnF_mk ?a ?l ?c ?k; (case a => k_is); (case l => k_is); (case c => k_is); (case k => k_is))
    (case h_f_is_never_better => refine' Gx.fnF_mk ?a ?l ?c ?k; (case a => k_is); (case l => k_is); (case c => k_is); (case k => k_is))
    (case h_f_is_dominant => refine' Gx.fnF_mk ?a ?l ?c ?k; (case a => k_is); (case l => k_is); (case c => k_is); (case k => k_is))
    (case h_f_does_dominate => refine' Gx.fnF_mk ?a ?l ?c ?k; (case a => k_is); (case l => k_is); (case c => k_is); (case k => k_is))
    (case h_f_is_dominated => refine' Gx.fnF_mk ?a ?l ?c ?k; (case a => k_is); (case l => k_is); (case c => k_is); (case k => k_is))
    (case h_f_dominant_flags => refine' Gx.fnF_mk ?a ?l ?c ?k; (case a => k_is); (case l => k_is); (case c => k_is); (case k => k_is))
    (case h_f_dominated_flags => refine' Gx.fnF_mk ?a ?l ?c ?k; (case a => k_is); (case l => k_is); (case c => k_is); (case k => k_is))
    (case h_f_dominant_table => refine' Gx.fnF_mk ?a ?l ?c ?k; (case a => k_is); (case l => k_is); (case c => k_is); (case k => k_is))
    (case h_f_are_all_dominant => refine' Gx.fnF_mk ?a ?l ?c ?k; (case a => k_is); (case l => k_is); (case c => k_is); (case k => k_is))
    (case h_f_is_implemented => refine' Gx.fnF_mk ?a ?l ?c ?k; (case a => k_is); (case l => k_is); (case c => k_is); (case k => k_is))
    (case h_m_domain_sizes => refine' Gx.mtF_mk ?a ?i ?l ?c ?k; (case a => k_is); (case i => k_is); (case l => k_is); (case c => k_is); (case k => k_is))
    (case h_m_profiles => refine' Gx.mtF_mk ?a ?i ?l ?c ?k; (case a => k_is); (case i => k_is); (case l => k_is); (case c => k_is); (case k => k_is))
    (case h_m_agents => refine' Gx.mtF_mk ?a ?i ?l ?c ?k; (case a => k_is); (case i => k_is); (case l => k_is); (case c => k_is); (case k => k_is))
    (case h_m_target_at => refine' Gx.mtF_mk ?a ?i ?l ?c ?k; (case a => k_is); (case i => k_is); (case l => k_is); (case c => k_is); (case k => k_is))
    (case h_f_first_failure_of_dominance => refine' Gx.fnF_mk ?a ?l ?c ?k; (case a => k_is); (case l => k_is); (case c => k_is); (case k => k_is))
    (case h_f_choices_of => refine' Gx.fnF_mk ?a ?l ?c ?k; (case a => k_is); (case l => k_is); (case c => k_is); (case k => k_is))
    (case h_f_is_content => refine' Gx.fnF_mk ?a ?l ?c ?k; (case a => k_is); (case l => k_is); (case c => k_is); (case k => k_is))
    (case h_m_preference_of => refine' Gx.mtF_mk ?a ?i ?l ?c ?k; (case a => k_is); (case i => k_is); (case l => k_is); (case c => k_is); (case k => k_is))
    (case h_f_is_equilibrium => refine' Gx.fnF_mk ?a ?l ?c ?k; (case a => k_is); (case l => k_is); (case c => k_is); (case k => k_is))
    (case h_f_equilibria => refine' Gx.fnF_mk ?a ?l ?c ?k; (case a => k_is); (case l => k_is); (case c => k_is); (case k => k_is))
    (case h_f_content_row => refine' Gx.fnF_mk ?a ?l ?c ?k; (case a => k_is); (case l => k_is); (case c => k_is); (case k => k_is))
    (case h_f_content_rows => refine' Gx.fnF_mk ?a ?l ?c ?k; (case a => k_is); (case l => k_is); (case c => k_is); (case k => k_is))
    (case h_f_is_attained => refine' Gx.fnF_mk ?a ?l ?c ?k; (case a => k_is); (case l => k_is); (case c => k_is); (case k => k_is))
    (case h_f_first_failure => refine' Gx.fnF_mk ?a ?l ?c ?k; (case a => k_is); (case l => k_is); (case c => k_is); (case k => k_is))
    (case h_f_response_of => refine' Gx.fnF_mk ?a ?l ?c ?k; (case a => k_is); (case l => k_is); (case c => k_is); (case k => k_is))
    (case h_f_after_step => refine' Gx.fnF_mk ?a ?l ?c ?k; (case a => k_is); (case l => k_is); (case c => k_is); (case k => k_is))
    (case h_f_dynamics => refine' Gx.fnF_mk ?a ?l ?c ?k; (case a => k_is); (case l => k_is); (case c => k_is); (case k => k_is))
    (case h_f_dictatorship => refine' Gx.fnF_mk ?a ?l ?c ?k; (case a => k_is); (case l => k_is); (case c => k_is); (case k => k_is))
    (case h_f_borda_scores => refine' Gx.fnF_mk ?a ?l ?c ?k; (case a => k_is); (case l => k_is); (case c => k_is); (case k => k_is))
    (case h_f_borda_winner => refine' Gx.fnF_mk ?a ?l ?c ?k; (case a => k_is); (case l => k_is); (case c => k_is); (case k => k_is))
    (case h_f_borda => refine' Gx.fnF_mk ?a ?l ?c ?k; (case a => k_is); (case l => k_is); (case c => k_is); (case k => k_is))
    (case h_f_does_gain => refine' Gx.fnF_mk ?a ?l ?c ?k; (case a => k_is); (case l => k_is); (case c => k_is); (case k => k_is))
    (case h_f_manipulation_at => refine' Gx.fnF_mk ?a ?l ?c ?k; (case a => k_is); (case l => k_is); (case c => k_is); (case k => k_is))
    (case h_f_first_manipulation => refine' Gx.fnF_mk ?a ?l ?c ?k; (case a => k_is); (case l => k_is); (case c => k_is); (case k => k_is))
    (case h_f_does_keep => refine' Gx.fnF_mk ?a ?l ?c ?k; (case a => k_is); (case l => k_is); (case c => k_is); (case k => k_is))
    (case h_f_keeping => refine' Gx.fnF_mk ?a ?l ?c ?k; (case a => k_is); (case l => k_is); (case c => k_is); (case k => k_is))
    (case h_f_violation_from => refine' Gx.fnF_mk ?a ?l ?c ?k; (case a => k_is); (case l => k_is); (case c => k_is); (case k => k_is))
    (case h_f_first_violation => refine' Gx.fnF_mk ?a ?l ?c ?k; (case a => k_is); (case l => k_is); (case c => k_is); (case k => k_is))
    (case h_f_created => refine' Gx.fnF_mk ?a ?l ?c ?k; (case a => k_is); (case l => k_is); (case c => k_is); (case k => k_is))
    (case h_f_or_none => refine' Gx.fnF_mk ?a ?l ?c ?k; (case a => k_is); (case l => k_is); (case c => k_is); (case k => k_is))
    (case h_f_result_of => refine' Gx.fnF_mk ?a ?l ?c ?k; (case a => k_is); (case l => k_is); (case c => k_is); (case k => k_is))
    (case h_m_change_domain => refine' Gx.mtF_mk ?a ?i ?l ?c ?k; (case a => k_is); (case i => k_is); (case l => k_is); (case c => k_is); (case k => k_is))
    (case h_f_add_preference => refine' Gx.fnF_mk ?a ?l ?c ?k; (case a => k_is); (case l => k_is); (case c => k_is); (case k => k_is))
    (case h_f_set_full_domain => refine' Gx.fnF_mk ?a ?l ?c ?k; (case a => k_is); (case l => k_is); (case c => k_is); (case k => k_is))
    (case h_m_change_target => refine' Gx.mtF_mk ?a ?i ?l ?c ?k; (case a => k_is); (case i => k_is); (case l => k_is); (case c => k_is); (case k => k_is))
    (case h_f_set_target_outcome => refine' Gx.fnF_mk ?a ?l ?c ?k; (case a => k_is); (case l => k_is); (case c => k_is); (case k => k_is))
    (case h_f_use_dictatorship => refine' Gx.fnF_mk ?a ?l ?c ?k; (case a => k_is); (case l => k_is); (case c => k_is); (case k => k_is))
    (case h_f_use_borda => refine' Gx.fnF_mk ?a ?l ?c ?k; (case a => k_is); (case l => k_is); (case c => k_is); (case k => k_is))
    (case h_f_target_outcome => refine' Gx.fnF_mk ?a ?l ?c ?k; (case a => k_is); (case l => k_is); (case c => k_is); (case k => k_is))
    (case h_f_monotonicity_violation => refine' Gx.fnF_mk ?a ?l ?c ?k; (case a => k_is); (case l => k_is); (case c => k_is); (case k => k_is))
    (case h_f_find_manipulation => refine' Gx.fnF_mk ?a ?l ?c ?k; (case a => k_is); (case l => k_is); (case c => k_is); (case k => k_is))
    (case h_m_change_mechanism => refine' Gx.mtF_mk ?a ?i ?l ?c ?k; (case a => k_is); (case i => k_is); (case l => k_is); (case c => k_is); (case k => k_is))
    (case h_f_set_message_counts => refine' Gx.fnF_mk ?a ?l ?c ?k; (case a => k_is); (case l => k_is); (case c => k_is); (case k => k_is))
    (case h_f_set_mechanism_outcome => refine' Gx.fnF_mk ?a ?l ?c ?k; (case a => k_is); (case l => k_is); (case c => k_is); (case k => k_is))
    (case h_f_use_direct_mechanism => refine' Gx.fnF_mk ?a ?l ?c ?k; (case a => k_is); (case l => k_is); (case c => k_is); (case k => k_is))
    (case h_f_mechanism_outcome => refine' Gx.fnF_mk ?a ?l ?c ?k; (case a => k_is); (case l => k_is); (case c => k_is); (case k => k_is))
    (case h_f_message_counts => refine' Gx.fnF_mk ?a ?l ?c ?k; (case a => k_is); (case l => k_is); (case c => k_is); (case k => k_is))
    (case h_f_count_equilibria => refine' Gx.fnF_mk ?a ?l ?c ?k; (case a => k_is); (case l => k_is); (case c => k_is); (case k => k_is))
    (case h_f_equilibrium => refine' Gx.fnF_mk ?a ?l ?c ?k; (case a => k_is); (case l => k_is); (case c => k_is); (case k => k_is))
    (case h_f_equilibrium_outcomes => refine' Gx.fnF_mk ?a ?l ?c ?k; (case a => k_is); (case l => k_is); (case c => k_is); (case k => k_is))
    (case h_f_implements_in_nash => refine' Gx.fnF_mk ?a ?l ?c ?k; (case a => k_is); (case l => k_is); (case c => k_is); (case k => k_is))
    (case h_f_best_response_dynamics => refine' Gx.fnF_mk ?a ?l ?c ?k; (case a => k_is); (case l => k_is); (case c => k_is); (case k => k_is))
    (case h_f_has_preference => refine' Gx.fnF_mk ?a ?l ?c ?k; (case a => k_is); (case l => k_is); (case c => k_is); (case k => k_is))
    (case h_f_dominant_messages => refine' Gx.fnF_mk ?a ?l ?c ?k; (case a => k_is); (case l => k_is); (case c => k_is); (case k => k_is))
    (case h_f_dominated_messages => refine' Gx.fnF_mk ?a ?l ?c ?k; (case a => k_is); (case l => k_is); (case c => k_is); (case k => k_is))
    (case h_f_implements_in_dominant_strategies => refine' Gx.fnF_mk ?a ?l ?c ?k; (case a => k_is); (case l => k_is); (case c => k_is); (case k => k_is))
    (case h_f_are_sets => refine' Gx.fnF_mk ?a ?l ?c ?k; (case a => k_is); (case l => k_is); (case c => k_is); (case k => k_is))
    (case h_f_force => refine' Gx.fnF_mk ?a ?l ?c ?k; (case a => k_is); (case l => k_is); (case c => k_is); (case k => k_is))
    (case h_f_respond => refine' Gx.fnF_mk ?a ?l ?c ?k; (case a => k_is); (case l => k_is); (case c => k_is); (case k => k_is))
    (case h_f_describe => refine' Gx.fnF_mk ?a ?l ?c ?k; (case a => k_is); (case l => k_is); (case c => k_is); (case k => k_is))
    (case h_m_is_ready => refine' Gx.mtF_mk ?a ?i ?l ?c ?k; (case a => k_is); (case i => k_is); (case l => k_is); (case c => k_is); (case k => k_is))
    (case h_f_answer => refine' Gx.fnF_mk ?a ?l ?c ?k; (case a => k_is); (case l => k_is); (case c => k_is); (case k => k_is))
    (case h_f_read_call => refine' Gx.fnF_mk ?a ?l ?c ?k; (case a => k_is); (case l => k_is); (case c => k_is); (case k => k_is))
    (case h_f_answers => refine' Gx.fnF_mk ?a ?l ?c ?k; (case a => k_is); (case l => k_is); (case c => k_is); (case k => k_is))
    (case h_m_init => refine' Gx.mtF_mk ?a ?i ?l ?c ?k; (case a => k_is); (case i => k_is); (case l => k_is); (case c => k_is); (case k => k_is))
    (case b_len => show PySem.W.nsIn _ _ _ = _; k_is)
    (case b_all => show PySem.W.nsIn _ _ _ = _; k_is)
    (case b_any => show PySem.W.nsIn _ _ _ = _; k_is)
    (case b_zip => show PySem.W.nsIn _ _ _ = _; k_is)
    (case b_range => show PySem.W.nsIn _ _ _ = _; k_is)
    (case b_list => show PySem.W.nsIn _ _ _ = _; k_is)
    (case b_tuple => show PySem.W.nsIn _ _ _ = _; k_is)
    (case b_sum => show PySem.W.nsIn _ _ _ = _; k_is)
    (case b_sorted => show PySem.W.nsIn _ _ _ = _; k_is)
    (case b_max => show PySem.W.nsIn _ _ _ = _; k_is)
    (case b_enumerate => show PySem.W.nsIn _ _ _ = _; k_is)
    (case b_int => show PySem.W.nsIn _ _ _ = _; k_is)
    (case i_NO_INSTANCE => refine' Gx.intF_mk ?a; (case a => k_is))
    (case i_NOT_READY => refine' Gx.intF_mk ?a; (case a => k_is))
    (case i_UNKNOWN => refine' Gx.intF_mk ?a; (case a => k_is))
    (case i_INVALID => refine' Gx.intF_mk ?a; (case a => k_is))
    (case i_TWICE => refine' Gx.intF_mk ?a; (case a => k_is))
    (case i_FULL => refine' Gx.intF_mk ?a; (case a => k_is))
    (case i_NONE => refine' Gx.intF_mk ?a; (case a => k_is))
    (case i_ENDLESS => refine' Gx.intF_mk ?a; (case a => k_is))
    (case i_MOST_PREFERENCES => refine' Gx.intF_mk ?a; (case a => k_is))
    (case i_MOST_MESSAGES => refine' Gx.intF_mk ?a; (case a => k_is))
    (case i_MOST_STEPS => refine' Gx.intF_mk ?a; (case a => k_is))
    (case i_CREATE => refine' Gx.intF_mk ?a; (case a => k_is))
    (case t_pw => refine' Gx.tpF_mk ?a ?l ?v; (case a => k_is); (case l => k_is); (case v => first | rfl | decide +kernel))
    (case t_rd => refine' Gx.tpF_mk ?a ?l ?v; (case a => k_is); (case l => k_is); (case v => first | rfl | decide +kernel))
    (case t_wl => refine' Gx.tpF_mk ?a ?l ?v; (case a => k_is); (case l => k_is); (case v => first | rfl | decide +kernel))
    (case t_nc => refine' Gx.tpF_mk ?a ?l ?v; (case a => k_is); (case l => k_is); (case v => first | rfl | decide +kernel))
    (case dd => refine' Gx.ddF_mk ?a ?l ?v; (case a => k_is); (case l => k_is); (case v => first | rfl | decide +kernel))
  case S => exact Gx.hsp_ok
