import PyProof.Rows.All
import Wide.All
import OpenK.AllK
import Wide.FinOn
import HandS.ForMost
import HandS.ForExc
import HandS.Flow
import HandS.Zip
import HandS.Wide
import HandS.TupAny
import HandS.TupLe
import HandS.Deep
import HandS.IsInst
import HandS.RaiseMore
import HandS.Style
import HandS.SetFor
import HandS.Ends
import HandS.Exc
import HandS.ExcOwn
import HandS.ExcIs
import HandS.HotCalls
import HandS.HeadHook1
import HandS.More
import HandS.HeadHook3
import PyProof.ReprLen
import PySem.Challenge.RW_hidessoaked_k21_lines_and_forms
set_option Elab.async false
set_option linter.all false
set_option maxRecDepth 100000
set_option maxHeartbeats 3900000
set_option autoImplicit false
namespace DL
open L2 PySem PyProof.Rows PySem.Spec
abbrev St := L2.St

/-- plain data -/
inductive D where
  | non | bl (b : Bool) | int (i : Int) | str (x : Str) | tup (xs : List D) | lst (xs : List D)
  | scr (xs : List D)
  | dk (ks : List Key) (vs : List D) | dt (ks : List (List Key)) (vs : List D) | ref (a : Addr) | ty (n : String)
  deriving Inhabited

section rep
variable (K : PySem.W.Frag) (G : Hp)
mutual
def Rep : D → V → Prop
  | .non, v => v = .non
  | .bl b, v => v = .bl b
  | .int i, v => v = .int i
  | .str x, v => v = .str x
  | .tup ds, v => ∃ a vs, v = .ref a ∧ SqT K G a vs ∧ RepL ds vs
  | .lst ds, v => ∃ a vs, v = .ref a ∧ G a = some (.lst vs) ∧ RepL ds vs
  | .scr ds, v => ∃ a vs, v = .ref a ∧ SqL K G a vs ∧ RepL ds vs
  | .dk ks ds, v => ∃ a vs, v = .ref a ∧ G a = some (.dK (ks.zip vs)) ∧ ks.length = vs.length ∧ RepL ds vs
  | .dt ks ds, v => ∃ a vs, v = .ref a ∧ G a = some (.dT (ks.zip vs)) ∧ ks.length = vs.length ∧ RepL ds vs
  | .ref a, v => v = .ref a
  | .ty n, v => v = .ty n
def RepL : List D → List V → Prop
  | [], vs => vs = []
  | d :: ds, vs => ∃ v r, vs = v :: r ∧ Rep d v ∧ RepL ds r
end
end rep

theorem Same.tup {K : PySem.W.Frag} {H H' : Hp} {a : Addr} {xs : List V} (e : Same H H') (h : SqT K H a xs) : SqT K H' a xs := by
  rcases h with (h | ⟨o, h⟩) | h
  · exact .inl (.inl (e _ _ h))
  · exact .inl (.inr ⟨o, e _ _ h⟩)
  · exact .inr h

mutual
theorem Rep.mono {K : PySem.W.Frag} {G G' : Hp} (s : Same G G') : ∀ {d : D} {v : V}, Rep K G d v → Rep K G' d v
  | .non, _, h => h
  | .bl _, _, h => h
  | .int _, _, h => h
  | .str _, _, h => h
  | .ref _, _, h => h
  | .ty _, _, h => h
  | .tup ds, v, h => by
    obtain ⟨a, vs, e, q, r⟩ := h
    exact ⟨a, vs, e, Same.tup s q, RepL.mono s r⟩
  | .lst ds, v, h => by
    obtain ⟨a, vs, e, q, r⟩ := h
    exact ⟨a, vs, e, s _ _ q, RepL.mono s r⟩
  | .scr ds, v, h => by
    obtain ⟨a, vs, e, q, r⟩ := h
    exact ⟨a, vs, e, s.seq q, RepL.mono s r⟩
  | .dk ks ds, v, h => by
    obtain ⟨a, vs, e, q, l, r⟩ := h
    exact ⟨a, vs, e, s _ _ q, l, RepL.mono s r⟩
  | .dt ks ds, v, h => by
    obtain ⟨a, vs, e, q, l, r⟩ := h
    exact ⟨a, vs, e, s _ _ q, l, RepL.mono s r⟩
theorem RepL.mono {K : PySem.W.Frag} {G G' : Hp} (s : Same G G') : ∀ {ds : List D} {vs : List V}, RepL K G ds vs → RepL K G' ds vs
  | [], _, h => h
  | _ :: _, _, h => by
    obtain ⟨v, r, e, h1, h2⟩ := h
    exact ⟨v, r, e, Rep.mono s h1, RepL.mono s h2⟩
end

theorem RepL.length {K : PySem.W.Frag} {G : Hp} : ∀ {ds : List D} {vs : List V}, RepL K G ds vs → ds.length = vs.length
  | [], _, h => by cases h; rfl
  | _ :: _, _, h => by
    obtain ⟨v, r, rfl, _, h2⟩ := h
    simp [RepL.length h2]
theorem RepL.get {K : PySem.W.Frag} {G : Hp} : ∀ {ds : List D} {vs : List V} {i : Nat} {v : V}, RepL K G ds vs → vs[i]? = some v → ∃ d, ds[i]? = some d ∧ Rep K G d v
  | [], _, i, v, h, e => by cases h; simp at e
  | d :: ds, _, 0, v, h, e => by
    obtain ⟨v', r, rfl, h1, h2⟩ := h
    simp at e; subst e
    exact ⟨d, rfl, h1⟩
  | d :: ds, _, i + 1, v, h, e => by
    obtain ⟨v', r, rfl, h1, h2⟩ := h
    obtain ⟨d', e', q⟩ := RepL.get (i := i) (v := v) h2 (by simpa using e)
    exact ⟨d', by simpa using e', q⟩
theorem RepL.getD {K : PySem.W.Frag} {G : Hp} : ∀ {ds : List D} {vs : List V} {i : Nat} {d : D}, RepL K G ds vs → ds[i]? = some d → ∃ v, vs[i]? = some v ∧ Rep K G d v
  | [], _, i, v, h, e => by simp at e
  | d :: ds, _, 0, _, h, e => by
    obtain ⟨v', r, rfl, h1, h2⟩ := h
    simp at e; subst e
    exact ⟨v', rfl, h1⟩
  | d :: ds, _, i + 1, d', h, e => by
    obtain ⟨v', r, rfl, h1, h2⟩ := h
    obtain ⟨v2, e', q⟩ := RepL.getD (i := i) (d := d') h2 (by simpa using e)
    exact ⟨v2, by simpa using e', q⟩
theorem RepL.append {K : PySem.W.Frag} {G : Hp} : ∀ {ds es : List D} {vs us : List V}, RepL K G ds vs → RepL K G es us → RepL K G (ds ++ es) (vs ++ us)
  | [], _, _, _, h, h' => by cases h; exact h'
  | _ :: _, _, _, _, h, h' => by
    obtain ⟨v', r, rfl, h1, h2⟩ := h
    exact ⟨v', _, rfl, h1, RepL.append h2 h'⟩
theorem RepL.take {K : PySem.W.Frag} {G : Hp} : ∀ {ds : List D} {vs : List V} (n : Nat), RepL K G ds vs → RepL K G (ds.take n) (vs.take n)
  | _, _, 0, _ => by simp [RepL]
  | [], _, n + 1, h => by cases h; simp [RepL]
  | _ :: _, _, n + 1, h => by
    obtain ⟨v', r, rfl, h1, h2⟩ := h
    exact ⟨v', _, rfl, h1, RepL.take n h2⟩
theorem RepL.drop {K : PySem.W.Frag} {G : Hp} : ∀ {ds : List D} {vs : List V} (n : Nat), RepL K G ds vs → RepL K G (ds.drop n) (vs.drop n)
  | _, _, 0, h => h
  | [], _, n + 1, h => by cases h; simp [RepL]
  | _ :: _, _, n + 1, h => by
    obtain ⟨v', r, rfl, h1, h2⟩ := h
    exact RepL.drop n h2
theorem RepL.set {K : PySem.W.Frag} {G : Hp} {d : D} {v : V} (q : Rep K G d v) : ∀ {ds : List D} {vs : List V} (n : Nat), RepL K G ds vs → RepL K G (ds.set n d) (vs.set n v)
  | [], _, n, h => by cases h; simp [RepL]
  | _ :: _, _, 0, h => by
    obtain ⟨v', r, rfl, h1, h2⟩ := h
    exact ⟨v, _, rfl, q, h2⟩
  | _ :: _, _, n + 1, h => by
    obtain ⟨v', r, rfl, h1, h2⟩ := h
    exact ⟨v', _, rfl, h1, RepL.set q n h2⟩
theorem RepL.reverse {K : PySem.W.Frag} {G : Hp} : ∀ {ds : List D} {vs : List V}, RepL K G ds vs → RepL K G ds.reverse vs.reverse
  | [], _, h => by cases h; simp [RepL]
  | _ :: _, _, h => by
    obtain ⟨v', r, rfl, h1, h2⟩ := h
    rw [List.reverse_cons, List.reverse_cons]
    exact RepL.append (RepL.reverse h2) ⟨v', [], rfl, h1, rfl⟩
theorem RepL.ints {K : PySem.W.Frag} {G : Hp} : ∀ {ns : List Int} {vs : List V}, RepL K G (ns.map D.int) vs → vs = ns.map V.int
  | [], _, h => h
  | _ :: _, _, h => by
    obtain ⟨v', r, rfl, h1, h2⟩ := h
    have h1' : v' = .int _ := h1
    rw [h1', RepL.ints h2]; rfl
theorem RepL.ofInts {K : PySem.W.Frag} {G : Hp} : ∀ (ns : List Int), RepL K G (ns.map D.int) (ns.map V.int)
  | [] => rfl
  | _ :: ns => ⟨_, _, rfl, rfl, RepL.ofInts ns⟩
theorem RepL.one {K : PySem.W.Frag} {G : Hp} {d : D} {vs : List V} (h : RepL K G [d] vs) : ∃ v, vs = [v] ∧ Rep K G d v := by
  obtain ⟨v, r, rfl, h1, h2⟩ := h
  cases h2
  exact ⟨v, rfl, h1⟩
theorem RepL.single {K : PySem.W.Frag} {G : Hp} {d : D} {v : V} (h : Rep K G d v) : RepL K G [d] [v] := ⟨v, [], rfl, h, rfl⟩

/-! ### slots -/
/-- what a frame owns: changed in place, seen by nobody else -/
inductive OD where
  | lst (xs : List D) | dk (ks : List Key) (vs : List D) | dt (ks : List (List Key)) (vs : List D)
def OD.toD : OD → D
  | .lst xs => .lst xs
  | .dk ks vs => .dk ks vs
  | .dt ks vs => .dt ks vs
inductive Sl where
  | no | val (d : D) | own (b : Bool) (o : OD) | bval (d : D)
abbrev Ev := List Sl
inductive W where
  | val (d : D) | own (o : OD) | loc (i : Nat)
structure Ex where
  cls : Str
  pay : Option (Str × D)
inductive R (α : Type) where
  | ok (a : α) (e : Ev) | exc (x : Ex) (e : Ev) | bad

def OwnAt (K : PySem.W.Frag) (G H : Hp) (a : Addr) : OD → Prop
  | .lst ds => ∃ vs, H a = some (.lst vs) ∧ RepL K G ds vs
  | .dk ks ds => ∃ vs, H a = some (.dK (ks.zip vs)) ∧ ks.length = vs.length ∧ RepL K G ds vs
  | .dt ks ds => ∃ vs, H a = some (.dT (ks.zip vs)) ∧ ks.length = vs.length ∧ RepL K G ds vs
theorem OwnAt.ex {K : PySem.W.Frag} {G H : Hp} {a : Addr} : ∀ {o : OD}, OwnAt K G H a o → ∃ u, H a = some u
  | .lst _, ⟨_, h, _⟩ => ⟨_, h⟩
  | .dk _ _, ⟨_, h, _⟩ => ⟨_, h⟩
  | .dt _ _, ⟨_, h, _⟩ => ⟨_, h⟩
theorem OwnAt.ne {K : PySem.W.Frag} {G H : Hp} {a : Addr} {o : OD} (h : OwnAt K G H a o) : H a ≠ none := by
  obtain ⟨u, e⟩ := h.ex
  rw [e]; exact fun z => nomatch z
theorem OwnAt.mono {K : PySem.W.Frag} {G G' H H' : Hp} {a : Addr} (s : Same G G') (k : ∀ o, H a = some o → H' a = some o) : ∀ {o : OD}, OwnAt K G H a o → OwnAt K G' H' a o
  | .lst _, ⟨vs, h, r⟩ => ⟨vs, k _ h, r.mono s⟩
  | .dk _ _, ⟨vs, h, l, r⟩ => ⟨vs, k _ h, l, r.mono s⟩
  | .dt _ _, ⟨vs, h, l, r⟩ => ⟨vs, k _ h, l, r.mono s⟩

structure Ct where
  H0 : Hp
  G0 : Hp
  bor : List (Nat × Addr)
  fn : ∀ i a b, (i, a) ∈ bor → (i, b) ∈ bor → a = b
def Ct.bs (Γ : Ct) : List Addr := Γ.bor.map (·.2)

/-- all lists and tuples are short -/
structure HpOk (K : PySem.W.Frag) (H : Hp) : Prop where
  l : ∀ a xs, SqL K H a xs → xs.length ≤ sizeLine
  t : ∀ a xs, SqT K H a xs → xs.length ≤ sizeLine

def SlOk (K : PySem.W.Frag) (Γ : Ct) (G H : Hp) (i : Nat) (ov : Option (Option V)) : Sl → Prop
  | .no => True
  | .val d => ∃ v, ov = some (some v) ∧ Rep K G d v
  | .bval d => ∃ a, ov = some (some (.ref a)) ∧ Rep K G d (.ref a) ∧ (i, a) ∈ Γ.bor
  | .own b o => ∃ a, ov = some (some (.ref a)) ∧ G a = none ∧ OwnAt K G H a o ∧ (b = false → Γ.H0 a = none) ∧ (b = true → (i, a) ∈ Γ.bor)

structure En (K : PySem.W.Frag) (Γ : Ct) (G H : Hp) (σ : St) (env : Ev) : Prop where
  sub : Same G H
  g0 : Same Γ.G0 G
  nw : ∀ a o, G a = some o → Γ.G0 a = some o ∨ Γ.H0 a = none ∨ a ∈ Γ.bs
  fr : ∀ a o, Γ.H0 a = some o → a ∉ Γ.bs → H a = some o
  bh : ∀ a ∈ Γ.bs, H a ≠ none ∧ Γ.H0 a ≠ none
  len : env.length = σ.length
  sl : ∀ (i : Nat) (s : Sl), env[i]? = some s → SlOk K Γ G H i σ[i]? s
  bo : ∀ p ∈ Γ.bor, (∃ o, env[p.1]? = some (.own true o)) ∨ ∃ d, env[p.1]? = some (.bval d)
  dis : ∀ (i j : Nat) b b' o o' a, env[i]? = some (.own b o) → env[j]? = some (.own b' o') → σ[i]? = some (some (.ref a)) → σ[j]? = some (some (.ref a)) → i = j
  hz : HpOk K H

def Owned (σ : St) (env : Ev) (a : Addr) : Prop := ∃ (i : Nat) (b : Bool) (o : OD), env[i]? = some (.own b o) ∧ σ[i]? = some (some (.ref a))

structure Kp (σ : St) (env : Ev) (G H G' H' : Hp) : Prop where
  gg : Same G G'
  kp : ∀ a o, H a = some o → ¬ Owned σ env a → H' a = some o
  nw : ∀ a o, G' a = some o → G a = some o ∨ H a = none ∨ Owned σ env a
  al : ∀ a, H a ≠ none → H' a ≠ none

inductive SlEv : Sl → Sl → Prop
  | refl (s) : SlEv s s
  | own (b o o') : SlEv (.own b o) (.own b o')
  | fz (o d) : SlEv (.own false o) (.val d)
  | bfz (o d) : SlEv (.own true o) (.bval d)
theorem SlEv.trans {a b c : Sl} (h : SlEv a b) (h' : SlEv b c) : SlEv a c := by
  cases h <;> cases h' <;> first | exact .refl _ | exact .own _ _ _ | exact .fz _ _ | exact .bfz _ _
structure EvLe (e e' : Ev) : Prop where
  len : e'.length = e.length
  sl : ∀ (i : Nat) (s' : Sl), e'[i]? = some s' → ∃ s, e[i]? = some s ∧ SlEv s s'
theorem EvLe.refl (e : Ev) : EvLe e e := ⟨rfl, fun i s h => ⟨s, h, .refl _⟩⟩
theorem EvLe.trans {a b c : Ev} (h : EvLe a b) (h' : EvLe b c) : EvLe a c := ⟨h'.len.trans h.len, fun i s q => by
  obtain ⟨s1, q1, v1⟩ := h'.sl i s q
  obtain ⟨s2, q2, v2⟩ := h.sl i s1 q1
  exact ⟨s2, q2, v2.trans v1⟩⟩
theorem EvLe.owned {e e' : Ev} (h : EvLe e e') {σ : St} {a : Addr} (o : Owned σ e' a) : Owned σ e a := by
  obtain ⟨i, b, o, h1, h2⟩ := o
  obtain ⟨s, q, v⟩ := h.sl i _ h1
  cases v with
  | refl => exact ⟨i, b, o, q, h2⟩
  | own b o0 o' => exact ⟨i, b, _, q, h2⟩
theorem EvLe.fwd {e e' : Ev} (h : EvLe e e') {i : Nat} {s : Sl} (q : e[i]? = some s) : ∃ s', e'[i]? = some s' ∧ SlEv s s' := by
  have hi : i < e.length := (List.getElem?_eq_some_iff.mp q).1
  have hi' : i < e'.length := by rw [h.len]; exact hi
  obtain ⟨s2, q2, v⟩ := h.sl i _ (List.getElem?_eq_getElem hi')
  rw [q] at q2; cases q2
  exact ⟨_, List.getElem?_eq_getElem hi', v⟩

theorem Kp.refl {σ : St} {env : Ev} {G H : Hp} : Kp σ env G H G H := ⟨Same.refl _, fun _ _ h _ => h, fun _ _ h => .inl h, fun _ h => h⟩
theorem Kp.trans {σ : St} {env env1 : Ev} {G H G1 H1 G2 H2 : Hp} (a : Kp σ env G H G1 H1) (b : Kp σ env1 G1 H1 G2 H2) (e : EvLe env env1) : Kp σ env G H G2 H2 where
  gg := a.gg.trans b.gg
  kp := fun c o h n => b.kp c o (a.kp c o h n) fun z => n (e.owned z)
  nw := fun c o h => by
    rcases b.nw c o h with q | q | q
    · exact a.nw c o q
    · exact .inr (.inl (by
        cases z : H c with
        | none => rfl
        | some u => exact absurd q (a.al c (by rw [z]; exact fun y => nomatch y))))
    · exact .inr (.inr (e.owned q))
  al := fun c h => b.al c (a.al c h)

structure Post (K : PySem.W.Frag) (Γ : Ct) (σ : St) (env : Ev) (G H : Hp) (env' : Ev) (G' H' : Hp) : Prop where
  en : En K Γ G' H' σ env'
  kp : Kp σ env G H G' H'
  le : EvLe env env'
theorem Post.refl {K : PySem.W.Frag} {Γ : Ct} {σ : St} {env : Ev} {G H : Hp} (e : En K Γ G H σ env) : Post K Γ σ env G H env G H := ⟨e, .refl, .refl _⟩
theorem Post.trans {K : PySem.W.Frag} {Γ : Ct} {σ : St} {env env1 env2 : Ev} {G H G1 H1 G2 H2 : Hp} (a : Post K Γ σ env G H env1 G1 H1) (b : Post K Γ σ env1 G1 H1 env2 G2 H2) : Post K Γ σ env G H env2 G2 H2 :=
  ⟨b.en, a.kp.trans b.kp a.le, a.le.trans b.le⟩

def WRep (K : PySem.W.Frag) (Γ : Ct) (G H : Hp) (σ : St) (env : Ev) : W → V → Prop
  | .val d, v => Rep K G d v
  | .own o, v => ∃ a, v = .ref a ∧ G a = none ∧ OwnAt K G H a o ∧ Γ.H0 a = none ∧ ¬ Owned σ env a
  | .loc i, v => σ[i]? = some (some v) ∧ ∃ s, env[i]? = some s ∧ s ≠ .no
theorem WRep.mono {K : PySem.W.Frag} {Γ : Ct} {σ : St} {env env' : Ev} {G H G' H' : Hp} (p : Post K Γ σ env G H env' G' H') : ∀ {w : W} {v : V}, WRep K Γ G H σ env w v → WRep K Γ G' H' σ env' w v
  | .val _, _, h => Rep.mono p.kp.gg h
  | .own o, v, h => by
    obtain ⟨a, rfl, g, ow, h0, nO⟩ := h
    refine ⟨a, rfl, ?_, ow.mono p.kp.gg (fun o e => p.kp.kp a o e nO), h0, fun z => nO (p.le.owned z)⟩
    cases q : G' a with
    | none => rfl
    | some u =>
      rcases p.kp.nw a u q with z | z | z
      · rw [g] at z; cases z
      · exact absurd z ow.ne
      · exact absurd z nO
  | .loc i, v, h => by
    obtain ⟨h1, s, h2, h3⟩ := h
    obtain ⟨s', q, v⟩ := p.le.fwd h2
    exact ⟨h1, s', q, by cases v <;> first | exact h3 | (intro z; cases z)⟩

/-! ### judgements -/
def XRep (mg : Str → Option Value) (K : PySem.W.Frag) (G : Hp) (x : Ex) (cls : Value) (d : Option Addr) (H : Hp) : Prop :=
  mg x.cls = some cls ∧ match x.pay with
    | none => d = none
    | some (f, p) => ∃ dx v, d = some dx ∧ H dx = some (.xd [(f, v)]) ∧ Rep K G p v

/-- what is to hold behind an expression -/
def Aft {α : Type} (K : PySem.W.Frag) (mg : Str → Option Value) (Wx : WX) (Γ : Ct) (σ : St) (env : Ev) (G H : Hp) (ok : α → Ev → Hp → Hp → Prop) : R α → Prop
  | .ok a env' => ∀ G' H', Post K Γ σ env G H env' G' H' → ok a env' G' H'
  | .exc x env' => ∀ G' H' cls d, Post K Γ σ env G H env' G' H' → XRep mg K G' x cls d H' → Wx cls d σ H'
  | .bad => False
/-- an own thing is younger than H -/
def New (H : Hp) (w : W) (v : V) : Prop := ∀ o a, w = .own o → v = .ref a → H a = none
def tD (K : PySem.W.Frag) (mg : Str → Option Value) (Wx : WX) (f : Ev → R W) : TE := fun σ H Q => ∃ Γ G env, En K Γ G H σ env ∧
  Aft K mg Wx Γ σ env G H (fun w env' G' H' => ∀ v, WRep K Γ G' H' σ env' w v → New H w v → Q v H') (f env)
/-- the value is seen by others from here on -/
def tDV (K : PySem.W.Frag) (mg : Str → Option Value) (Wx : WX) (f : Ev → R D) : TE := fun σ H Q => ∃ Γ G env, En K Γ G H σ env ∧
  Aft K mg Wx Γ σ env G H (fun d _ G' H' => ∀ v, Rep K G' d v → Q v H') (f env)
def tDT (K : PySem.W.Frag) (mg : Str → Option Value) (Wx : WX) (f : Ev → R Bool) : TT := fun σ H Q => ∃ Γ G env, En K Γ G H σ env ∧
  Aft K mg Wx Γ σ env G H (fun b _ _ H' => Q b H') (f env)
/-- an argument: a value, or a slot whose own thing is lent -/
inductive Ar where
  | v (d : D) | r (i : Nat)
def ArRep (K : PySem.W.Frag) (G : Hp) (σ : St) : List Ar → List V → Prop
  | [], vs => vs = []
  | .v d :: r, vs => ∃ u us, vs = u :: us ∧ Rep K G d u ∧ ArRep K G σ r us
  | .r i :: r, vs => ∃ u us, vs = u :: us ∧ σ[i]? = some (some u) ∧ ArRep K G σ r us
def tDA (K : PySem.W.Frag) (mg : Str → Option Value) (Wx : WX) (f : Ev → R (List Ar)) : TA := fun σ H Q => ∃ Γ G env, En K Γ G H σ env ∧
  Aft K mg Wx Γ σ env G H (fun as _ G' H' => ∀ vs, ArRep K G' σ as vs → Q vs H') (f env)

def DE (X : Cx) (Wx : WX) (e : Expr) (f : Ev → R W) : Prop := PE X e (tD X.K X.mg Wx f)
def DV (X : Cx) (Wx : WX) (e : Expr) (f : Ev → R D) : Prop := PE X e (tDV X.K X.mg Wx f)
def DT (X : Cx) (Wx : WX) (e : Expr) (f : Ev → R Bool) : Prop := PT X e (tDT X.K X.mg Wx f)
def DA (X : Cx) (Wx : WX) (es : List Expr) (f : Ev → R (List Ar)) : Prop := PA X es (tDA X.K X.mg Wx f)

theorem pe_imp {X : Cx} {e : Expr} {t t' : TE} (h : PE X e t) (i : ∀ σ H Q, t' σ H Q → t σ H Q) : PE X e t' := ⟨fun pins s σ H Q I q => h.run pins s σ H Q I (i σ H Q q)⟩
theorem pt_imp {X : Cx} {e : Expr} {t t' : TT} (h : PT X e t) (i : ∀ σ H Q, t' σ H Q → t σ H Q) : PT X e t' := ⟨fun pins s σ H Q I q => h.run pins s σ H Q I (i σ H Q q)⟩
theorem pa_imp {X : Cx} {e : List Expr} {t t' : TA} (h : PA X e t) (i : ∀ σ H Q, t' σ H Q → t σ H Q) : PA X e t' := ⟨fun pos pins s σ H Q I q => h.run pos pins s σ H Q I (i σ H Q q)⟩
theorem ps_imp {X : Cx} {e : Stmt} {t t' : TS} (h : PS X e t) (i : ∀ D σ H, t' D σ H → t D σ H) : PS X e t' := ⟨fun pins s σ H D I q => h.run pins s σ H D I (i D σ H q)⟩
theorem pss_imp {X : Cx} {e : List Stmt} {t t' : TS} (h : PSs X e t) (i : ∀ D σ H, t' D σ H → t D σ H) : PSs X e t' := ⟨fun pins s σ H D I q => h.run pins s σ H D I (i D σ H q)⟩

def R.bind {α β : Type} (r : R α) (k : α → Ev → R β) : R β := match r with
  | .ok a e => k a e
  | .exc x e => .exc x e
  | .bad => .bad

section
variable {K : PySem.W.Frag} {mg : Str → Option Value} {Wx : WX} {Γ : Ct} {σ : St} {env : Ev} {G H : Hp}
theorem Aft.bind {α β : Type} {ok : β → Ev → Hp → Hp → Prop} {r : R α} {k : α → Ev → R β} (h : Aft K mg Wx Γ σ env G H ok (r.bind k)) :
    Aft K mg Wx Γ σ env G H (fun a e1 G1 H1 => Aft K mg Wx Γ σ e1 G1 H1 (fun b e2 G2 H2 => Post K Γ σ env G H e2 G2 H2 → ok b e2 G2 H2) (k a e1)) r := by
  cases r with
  | ok a e1 =>
    intro G1 H1 p1
    have h : Aft K mg Wx Γ σ env G H ok (k a e1) := h
    show Aft K mg Wx Γ σ e1 G1 H1 _ (k a e1)
    cases q : k a e1 with
    | ok b e2 => rw [q] at h; exact fun G2 H2 p2 p => h G2 H2 p
    | exc x e2 => rw [q] at h; exact fun G2 H2 cls d p2 => h G2 H2 cls d (p1.trans p2)
    | bad => rw [q] at h; exact h
  | exc x e1 => exact h
  | bad => exact h
theorem Aft.imp {α : Type} {ok ok' : α → Ev → Hp → Hp → Prop} {r : R α} (h : Aft K mg Wx Γ σ env G H ok r) (i : ∀ a e' G' H', Post K Γ σ env G H e' G' H' → ok a e' G' H' → ok' a e' G' H') : Aft K mg Wx Γ σ env G H ok' r := by
  cases r with
  | ok a e1 => exact fun G1 H1 p => i _ _ _ _ p (h G1 H1 p)
  | exc x e1 => exact h
  | bad => exact h
/-- two in a row -/
theorem Aft.two {α β : Type} {ok : β → Ev → Hp → Hp → Prop} {r : R α} {k : α → Ev → R β} (h : Aft K mg Wx Γ σ env G H ok (r.bind k)) :
    Aft K mg Wx Γ σ env G H (fun a e1 G1 H1 => Post K Γ σ env G H e1 G1 H1 ∧ Aft K mg Wx Γ σ e1 G1 H1 (fun b e2 G2 H2 => Post K Γ σ e1 G1 H1 e2 G2 H2 ∧ ok b e2 G2 H2) (k a e1)) r :=
  h.bind.imp fun a e1 G1 H1 p q => ⟨p, q.imp fun b e2 G2 H2 p2 z => ⟨p2, z (p.trans p2)⟩⟩
end
theorem ArRep.mono {K : PySem.W.Frag} {G G' : Hp} {σ : St} (s : Same G G') : ∀ {as : List Ar} {vs : List V}, ArRep K G σ as vs → ArRep K G' σ as vs
  | [], _, h => h
  | .v _ :: _, _, ⟨u, us, e, h, r⟩ => ⟨u, us, e, h.mono s, ArRep.mono s r⟩
  | .r _ :: _, _, ⟨u, us, e, h, r⟩ => ⟨u, us, e, h, ArRep.mono s r⟩

/-! ### reading, sharing -/
def rd : W → Ev → Option D
  | .val d, _ => some d
  | .own o, _ => some o.toD
  | .loc i, e => match e[i]? with
    | some (.own _ o) => some o.toD
    | some (.val d) => some d
    | some (.bval d) => some d
    | _ => none
/-- v is d to be read: its parts are shared, itself may be owned -/
def Pk (K : PySem.W.Frag) (G H : Hp) (d : D) (v : V) : Prop := Rep K G d v ∨ ∃ a o, v = .ref a ∧ d = o.toD ∧ G a = none ∧ OwnAt K G H a o
section
variable {K : PySem.W.Frag} {mg : Str → Option Value} {Wx : WX} {Γ : Ct} {σ : St} {env : Ev} {G H : Hp}
theorem rd_pk (en : En K Γ G H σ env) : ∀ {w : W} {v : V} {d : D}, WRep K Γ G H σ env w v → rd w env = some d → Pk K G H d v
  | .val d', v, d, h, e => by cases e; exact .inl h
  | .own o, v, d, h, e => by
    obtain ⟨a, rfl, g, ow, _⟩ := h
    cases e
    exact .inr ⟨a, o, rfl, rfl, g, ow⟩
  | .loc i, v, d, h, e => by
    obtain ⟨h1, s, h2, _⟩ := h
    have q := en.sl i s h2
    simp only [rd, h2] at e
    cases s with
    | no => cases e
    | val d' =>
      cases e
      obtain ⟨v', e1, r⟩ := q
      rw [h1] at e1; cases e1
      exact .inl r
    | bval d' =>
      cases e
      obtain ⟨a, e1, r, _⟩ := q
      rw [h1] at e1; cases e1
      exact .inl r
    | own b o =>
      cases e
      obtain ⟨a, e1, g, ow, _⟩ := q
      rw [h1] at e1; cases e1
      exact .inr ⟨a, o, rfl, rfl, g, ow⟩

def HO.ofOD : OD → List V → HO
  | .lst _, vs => .lst vs
  | .dk ks _, vs => .dK (ks.zip vs)
  | .dt ks _, vs => .dT (ks.zip vs)
/-- an owned thing, put into the shared part -/
theorem OwnAt.share {a : Addr} {o : OD} (ow : OwnAt K G H a o) (g : G a = none) : ∃ u, H a = some u ∧ Same G (upd G a u) ∧ Rep K (upd G a u) o.toD (.ref a) := by
  have sm : ∀ u, Same G (upd G a u) := fun u b x e => by
    rw [upd_ne (ne_of_none e g)]; exact e
  cases o with
  | lst ds =>
    obtain ⟨vs, h, r⟩ := ow
    exact ⟨_, h, sm _, a, vs, rfl, upd_same, r.mono (sm _)⟩
  | dk ks ds =>
    obtain ⟨vs, h, l, r⟩ := ow
    exact ⟨_, h, sm _, a, vs, rfl, upd_same, l, r.mono (sm _)⟩
  | dt ks ds =>
    obtain ⟨vs, h, l, r⟩ := ow
    exact ⟨_, h, sm _, a, vs, rfl, upd_same, l, r.mono (sm _)⟩

theorem En.h0 (en : En K Γ G H σ env) {a : Addr} (h : H a = none) : Γ.H0 a = none := by
  cases q : Γ.H0 a with
  | none => rfl
  | some u =>
    by_cases hb : a ∈ Γ.bs
    · exact absurd h (en.bh a hb).1
    · have := en.fr a u q hb
      rw [h] at this; cases this

/-- a thing at a put into the shared part: no slot owns it any more but those of env' -/
theorem En.shared (en : En K Γ G H σ env) {a : Addr} {u : HO} (hu : H a = some u) (g : G a = none) (h0 : Γ.H0 a = none ∨ a ∈ Γ.bs) {env' : Ev} (le : EvLe env env')
    (no : ¬ Owned σ env' a) (sl : ∀ (i : Nat) (s : Sl), env'[i]? = some s → env[i]? = some s ∨ SlOk K Γ (upd G a u) H i σ[i]? s) : En K Γ (upd G a u) H σ env' := by
  have sm : Same G (upd G a u) := fun b x e => by
    rw [upd_ne (ne_of_none e g)]; exact e
  refine ⟨fun b x e => ?_, en.g0.trans sm, fun b x e => ?_, en.fr, en.bh, le.len.trans en.len, fun i s e => ?_, fun p hp => ?_, fun i j b b' o o' c e1 e2 e3 e4 => ?_, en.hz⟩
  · by_cases hb : b = a
    · subst hb; rw [upd_same] at e; cases e; exact hu
    · rw [upd_ne hb] at e; exact en.sub b x e
  · by_cases hb : b = a
    · subst hb; exact .inr h0
    · rw [upd_ne hb] at e; exact en.nw b x e
  · rcases sl i s e with q | q
    · have z := en.sl i s q
      cases s with
      | no => trivial
      | val d => obtain ⟨v, e1, r⟩ := z; exact ⟨v, e1, r.mono sm⟩
      | bval d => obtain ⟨v, e1, r, m⟩ := z; exact ⟨v, e1, r.mono sm, m⟩
      | own b o =>
        obtain ⟨c, e1, g1, ow, m⟩ := z
        have nc : c ≠ a := fun z => no ⟨i, b, o, e, by rw [← z]; exact e1⟩
        exact ⟨c, e1, by rw [upd_ne nc]; exact g1, ow.mono sm fun _ x => x, m⟩
    · exact q
  · rcases en.bo p hp with ⟨o, e⟩ | ⟨d, e⟩
    · obtain ⟨s', q, v⟩ := le.fwd e
      cases v with
      | refl => exact .inl ⟨_, q⟩
      | own => exact .inl ⟨_, q⟩
      | bfz => exact .inr ⟨_, q⟩
    · obtain ⟨s', q, v⟩ := le.fwd e
      cases v with
      | refl => exact .inr ⟨_, q⟩
  · obtain ⟨s1, q1, v1⟩ := le.sl i _ e1
    obtain ⟨s2, q2, v2⟩ := le.sl j _ e2
    cases v1 <;> cases v2 <;> exact en.dis i j _ _ _ _ c q1 q2 e3 e4

def frz (i : Nat) (e : Ev) : Option (D × Ev) := match e[i]? with
  | some (.own false o) => some (o.toD, e.set i (.val o.toD))
  | some (.own true o) => some (o.toD, e.set i (.bval o.toD))
  | some (.val d) => some (d, e)
  | some (.bval d) => some (d, e)
  | _ => none
/-- as a value that others see -/
def shr : W → Ev → Option (D × Ev)
  | .val d, e => some (d, e)
  | .own o, e => some (o.toD, e)
  | .loc i, e => frz i e

theorem set_get {α : Type} {e : List α} {i j : Nat} {s t : α} (h : (e.set i s)[j]? = some t) : (j = i ∧ t = s) ∨ (j ≠ i ∧ e[j]? = some t) := by
  by_cases hij : i = j
  · subst hij
    rw [List.getElem?_set] at h
    simp only [if_true] at h
    split at h
    · cases h; exact .inl ⟨rfl, rfl⟩
    · cases h
  · rw [List.getElem?_set_ne hij] at h
    exact .inr ⟨fun z => hij z.symm, h⟩
theorem EvLe.set {e : Ev} {i : Nat} {s s' : Sl} (h : e[i]? = some s) (v : SlEv s s') : EvLe e (e.set i s') := ⟨List.length_set, fun j t q => by
  rcases set_get q with ⟨rfl, rfl⟩ | ⟨_, q⟩
  · exact ⟨s, h, v⟩
  · exact ⟨t, q, .refl _⟩⟩

theorem frz_ok (en : En K Γ G H σ env) {i : Nat} {d : D} {env' : Ev} {v : V} (hv : σ[i]? = some (some v)) (e : frz i env = some (d, env')) :
    ∃ G', Post K Γ σ env G H env' G' H ∧ Rep K G' d v := by
  unfold frz at e
  cases hs : env[i]? with
  | none => rw [hs] at e; cases e
  | some s =>
    rw [hs] at e
    have q := en.sl i s hs
    cases s with
    | no => cases e
    | val d' =>
      cases e
      obtain ⟨v', e1, r⟩ := q
      rw [hv] at e1; cases e1
      exact ⟨G, .refl en, r⟩
    | bval d' =>
      cases e
      obtain ⟨a, e1, r, _⟩ := q
      rw [hv] at e1; cases e1
      exact ⟨G, .refl en, r⟩
    | own b o =>
      obtain ⟨a, e1, g, ow, m1, m2⟩ := q
      rw [hv] at e1
      have ev : v = .ref a := by cases e1; rfl
      subst ev
      obtain ⟨u, hu, sm, rp⟩ := ow.share g
      have ownd : Owned σ env a := ⟨i, b, o, hs, hv⟩
      have hlt : i < env.length := (List.getElem?_eq_some_iff.mp hs).1
      have mk : ∀ (s' : Sl), SlEv (.own b o) s' → (∀ b' o', s' ≠ .own b' o') → SlOk K Γ (upd G a u) H i σ[i]? s' →
          ∃ G', Post K Γ σ env G H (env.set i s') G' H ∧ Rep K G' o.toD (.ref a) := fun s' ve hn ok => by
        have le := EvLe.set hs ve
        refine ⟨upd G a u, ⟨en.shared hu g ?_ le ?_ ?_, ⟨sm, fun _ _ h _ => h, fun b x z => ?_, fun _ h => h⟩, le⟩, rp⟩
        · cases b with
          | false => exact .inl (m1 rfl)
          | true => exact .inr (List.mem_map.mpr ⟨_, m2 rfl, rfl⟩)
        · rintro ⟨j, b', o', h1, h2⟩
          rcases set_get h1 with ⟨_, z⟩ | ⟨hij, h1⟩
          · exact hn _ _ z.symm
          · exact hij (en.dis j i _ _ _ _ a h1 hs h2 hv)
        · intro j t h1
          rcases set_get h1 with ⟨rfl, rfl⟩ | ⟨_, h1⟩
          · exact .inr ok
          · exact .inl h1
        · by_cases hb : b = a
          · subst hb; exact .inr (.inr ownd)
          · rw [upd_ne hb] at z; exact .inl z
      cases b with
      | false =>
        cases e
        exact mk _ (.fz _ _) (fun _ _ z => nomatch z) ⟨.ref a, hv, rp⟩
      | true =>
        cases e
        exact mk _ (.bfz _ _) (fun _ _ z => nomatch z) ⟨a, hv, rp, m2 rfl⟩

/-- a value shared, from the start of its own evaluation -/
theorem shr_ok {env1 : Ev} {G1 H1 : Hp} (p : Post K Γ σ env G H env1 G1 H1) {w : W} {v : V} {d : D} {env2 : Ev} (r : WRep K Γ G1 H1 σ env1 w v) (n : New H w v) (e : shr w env1 = some (d, env2)) :
    ∃ G2, Post K Γ σ env G H env2 G2 H1 ∧ Rep K G2 d v := by
  cases w with
  | val d' => cases e; exact ⟨G1, p, r⟩
  | own o =>
    cases e
    obtain ⟨a, rfl, g, ow, h0, no⟩ := r
    have ha := n o a rfl rfl
    obtain ⟨u, hu, sm, rp⟩ := ow.share g
    refine ⟨upd G1 a u, ⟨p.en.shared hu g (.inl h0) (.refl _) no (fun i s e => .inl e), ⟨p.kp.gg.trans sm, p.kp.kp, fun b x z => ?_, p.kp.al⟩, p.le⟩, rp⟩
    by_cases hb : b = a
    · subst hb; exact .inr (.inl ha)
    · rw [upd_ne hb] at z; exact p.kp.nw b x z
  | loc i =>
    obtain ⟨h1, _⟩ := r
    obtain ⟨G2, p2, rp⟩ := frz_ok p.en h1 e
    exact ⟨G2, p.trans p2, rp⟩

/-! ### growing -/
structure Grow (K : PySem.W.Frag) (G H G' H' : Hp) : Prop where
  gg : Same G G'
  hh : Same H H'
  gh : Same G' H'
  nw : ∀ a o, G' a = some o → G a = some o ∨ H a = none
  hz : HpOk K H'
theorem Grow.refl (s : Same G H) (z : HpOk K H) : Grow K G H G H := ⟨Same.refl _, Same.refl _, s, fun _ _ h => .inl h, z⟩
theorem Grow.trans {G1 H1 G2 H2 : Hp} (a : Grow K G H G1 H1) (b : Grow K G1 H1 G2 H2) : Grow K G H G2 H2 := ⟨a.gg.trans b.gg, a.hh.trans b.hh, b.gh, fun c o e => by
  rcases b.nw c o e with q | q
  · exact a.nw c o q
  · exact .inr (a.hh.free q), b.hz⟩
theorem ne_none {H : Hp} {a : Addr} {u : HO} (e : H a = some u) : H a ≠ none := by rw [e]; exact fun z => nomatch z
theorem Grow.post {G' H' : Hp} (en : En K Γ G H σ env) (g : Grow K G H G' H') : Post K Γ σ env G H env G' H' := by
  refine ⟨⟨g.gh, en.g0.trans g.gg, fun a o e => ?_, fun a o e n => g.hh _ _ (en.fr a o e n), fun a ha => ⟨fun z => (en.bh a ha).1 (g.hh.free z), (en.bh a ha).2⟩, en.len, fun i s e => ?_, en.bo, en.dis, g.hz⟩,
    ⟨g.gg, fun a o e _ => g.hh _ _ e, fun a o e => (g.nw a o e).imp id .inl, fun a h z => h (g.hh.free z)⟩, .refl _⟩
  · rcases g.nw a o e with q | q
    · exact en.nw a o q
    · exact .inr (.inl (en.h0 q))
  · have z := en.sl i s e
    cases s with
    | no => trivial
    | val d => obtain ⟨v, e1, r⟩ := z; exact ⟨v, e1, r.mono g.gg⟩
    | bval d => obtain ⟨v, e1, r, m⟩ := z; exact ⟨v, e1, r.mono g.gg, m⟩
    | own b o =>
      obtain ⟨c, e1, g1, ow, m⟩ := z
      refine ⟨c, e1, ?_, ow.mono g.gg fun o x => g.hh _ _ x, m⟩
      cases q : G' c with
      | none => rfl
      | some u =>
        rcases g.nw c u q with y | y
        · rw [g1] at y; cases y
        · exact absurd y ow.ne
/-- what an operation gives -/
def WRes (K : PySem.W.Frag) (G' H' H : Hp) : W → V → Prop
  | .val d, v => Rep K G' d v
  | .own o, v => ∃ a, v = .ref a ∧ H a = none ∧ G' a = none ∧ OwnAt K G' H' a o
  | .loc _, _ => False
theorem WRes.rep {G' H' : Hp} (en : En K Γ G H σ env) : ∀ {w : W} {v : V}, WRes K G' H' H w v → WRep K Γ G' H' σ env w v ∧ New H w v
  | .val d, v, h => ⟨h, fun _ _ z => nomatch z⟩
  | .own o, v, ⟨a, e, h, g, ow⟩ => ⟨⟨a, e, g, ow, en.h0 h, fun ⟨i, b, o', e1, e2⟩ => by
      obtain ⟨c, e3, _, ow', _⟩ := en.sl i _ e1
      rw [e2] at e3; cases e3
      exact ow'.ne h⟩, fun o' a' e1 e2 => by rw [e] at e2; cases e2; exact h⟩
  | .loc _, _, h => h.elim

/-- two operands -/
def OpOk (K : PySem.W.Frag) (r : R2) (φ : D → D → Option W) : Prop := ∀ (G H : Hp) (dx dy : D) (x y : V) (Q : VK), HpOk K H → Same G H → Pk K G H dx x → Pk K G H dy y →
  (∃ w, φ dx dy = some w ∧ ∀ v G' H', Grow K G H G' H' → WRes K G' H' H w v → Q v H') → r x y H Q
def ap2 (φ : D → D → Option W) (w1 w2 : W) (e : Ev) : R W := match rd w1 e, rd w2 e with
  | some a, some b => (match φ a b with
    | some w => .ok w e
    | none => .bad)
  | _, _ => .bad
def binF (φ : D → D → Option W) (fa fb : Ev → R W) : Ev → R W := fun e => (fa e).bind fun w1 e1 => (fb e1).bind fun w2 e2 => ap2 φ w1 w2 e2
theorem ap2_some {φ : D → D → Option W} {w1 w2 : W} {e : Ev} {r : R W} (h : ap2 φ w1 w2 e = r) (n : r ≠ .bad) : ∃ a b w, rd w1 e = some a ∧ rd w2 e = some b ∧ φ a b = some w ∧ r = .ok w e := by
  unfold ap2 at h
  split at h
  · rename_i a b h1 h2
    split at h
    · rename_i w h3
      exact ⟨a, b, w, h1, h2, h3, h.symm⟩
    · exact absurd h.symm n
  · exact absurd h.symm n
theorem Aft.ok_of {α : Type} {ok : α → Ev → Hp → Hp → Prop} {r : R α} (h : Aft K mg Wx Γ σ env G H ok r) : r ≠ .bad := by
  rintro rfl; exact h

theorem bin_read {r : R2} {φ : D → D → Option W} {fa fb : Ev → R W} (ro : OpOk K r φ) {Q : VK} (h : tD K mg Wx (binF φ fa fb) σ H Q) : tOp r (tD K mg Wx fa) (tD K mg Wx fb) σ H Q := by
  obtain ⟨Γ, G, env, en, h⟩ := h
  refine ⟨Γ, G, env, en, h.two.imp fun w1 e1 G1 H1 _ ⟨p1, q⟩ v1 r1 n1 => ⟨Γ, G1, e1, p1.en, q.two.imp fun w2 e2 G2 H2 _ ⟨p2, q2⟩ v2 r2 n2 => ?_⟩⟩
  obtain ⟨a, b, w, ra, rb, rw', e⟩ := ap2_some (e := e2) rfl q2.ok_of
  rw [e] at q2
  refine ro G2 H2 a b v1 v2 _ p2.en.hz p2.en.sub (rd_pk p2.en (r1.mono p2) ra) (rd_pk p2.en r2 rb) ⟨w, rw', fun v G3 H3 gr wr => ?_⟩
  have p3 := gr.post p2.en
  obtain ⟨wp, nn⟩ := wr.rep p2.en
  refine (q2 G3 H3 p3).2.2 v wp fun o a' e1 e2 => ?_
  have := nn o a' e1 e2
  cases q : H a' with
  | none => rfl
  | some u => exact absurd this (p2.kp.al _ (p1.kp.al _ (ne_none q)))
end

section
variable {X : Cx} {Wx : WX} {pos : Pos} {a b : Expr} {fa fb : Ev → R W}
theorem d_op {op : Operator} {r : R2} {φ : D → D → Option W} (ho : OpR X (binaryOp op) r) (ro : OpOk X.K r φ) (ha : DE X Wx a fa) (hb : DE X Wx b fb) : DE X Wx (.BinOp a op b pos) (binF φ fa fb) :=
  pe_imp (pe_op ho ha hb) fun σ H Q h => bin_read ro h
theorem d_cmp {op : CmpOp} {r : R2} {φ : D → D → Option W} (ho : OpR X (compareOp op) r) (ro : OpOk X.K r φ) (ha : DE X Wx a fa) (hb : DE X Wx b fb) (hm : behindInMarks op b = false := by first | exact nomark _ | rfl) : DE X Wx (.Compare a [op] [b] pos) (binF φ fa fb) :=
  pe_imp (pe_cmpR ho ha hb hm) fun σ H Q h => bin_read ro h
theorem d_ix {r : R2} {φ : D → D → Option W} (ho : IxR X r) (ro : OpOk X.K r φ) (ha : DE X Wx a fa) (hb : DE X Wx b fb) (hs : PlainIx b := by exact fun _ _ => rfl) : DE X Wx (.Subscript a b pos) (binF φ fa fb) :=
  pe_imp (pe_ix ho ha hb hs) fun σ H Q h => bin_read ro h

/-! ### names, constants, sharing -/
def eV (i : Nat) : Ev → R W := fun e => match e[i]? with
  | some (.val d) => .ok (.val d) e
  | some (.bval d) => .ok (.val d) e
  | some (.own _ _) => .ok (.loc i) e
  | _ => .bad
theorem d_var (i : Nat) {x : Str} (hN : X.N[i]? = some x := by rfl) (hv : Vis X.env.scope x := by first | exact Or.inl rfl | exact Or.inr (Or.inl rfl) | exact Or.inr (Or.inr rfl)) (hd : (x == ("__debug__" : Str)) = false := by decide)
    (hcd : (x == ("__classdict__" : Str)) = false := by decide) : DE X Wx (.Name x pos) (eV i) := pe_imp (pe_var hN hv hd hcd) fun σ H Q h => by
  obtain ⟨Γ, G, env, en, h⟩ := h
  unfold eV at h
  cases hs : env[i]? with
  | none => rw [hs] at h; exact h.elim
  | some s =>
    rw [hs] at h
    have q := en.sl i s hs
    cases s with
    | no => exact h.elim
    | val d =>
      obtain ⟨v, e, r⟩ := q
      exact ⟨v, e, h G H (.refl en) v r fun _ _ z => nomatch z⟩
    | bval d =>
      obtain ⟨a, e, r, _⟩ := q
      exact ⟨_, e, h G H (.refl en) _ r fun _ _ z => nomatch z⟩
    | own b o =>
      obtain ⟨a, e, _⟩ := q
      exact ⟨_, e, h G H (.refl en) _ ⟨e, _, hs, fun z => nomatch z⟩ fun _ _ z => nomatch z⟩
def eC (d : D) : Ev → R W := fun e => .ok (.val d) e
theorem const_read {K : PySem.W.Frag} {mg : Str → Option Value} {σ : St} {H : Hp} {Q : VK} {d : D} {v : V} (r : ∀ G, Rep K G d v) (h : tD K mg Wx (eC d) σ H Q) : tC v σ H Q := by
  obtain ⟨Γ, G, env, en, h⟩ := h
  exact h G H (.refl en) v (r G) fun _ _ z => nomatch z
theorem d_int {i : Int} {j} : DE X Wx (.Constant (.int i) j pos) (eC (.int i)) := pe_imp pe_int fun σ H Q h => const_read (d := .int i) (fun _ => rfl) h
theorem d_bl {i : Bool} {j} : DE X Wx (.Constant (.bool i) j pos) (eC (.bl i)) := pe_imp pe_bl fun σ H Q h => const_read (d := .bl i) (fun _ => rfl) h
theorem d_non {j} : DE X Wx (.Constant .none j pos) (eC .non) := pe_imp pe_non fun σ H Q h => const_read (d := .non) (fun _ => rfl) h
theorem d_str {x : Str} {j} : DE X Wx (.Constant (.str x) j pos) (eC (.str x)) := pe_imp pe_str fun σ H Q h => const_read (d := .str x) (fun _ => rfl) h
theorem d_glob {x : Str} {v : V} {d : D} {u : Value} (hg : Gl X x) (hm : X.mg x = some u) (r : RelV v u) (rp : ∀ G, Rep X.K G d v) (hd : (x == ("__debug__" : Str)) = false := by decide) : DE X Wx (.Name x pos) (eC d) :=
  pe_imp (pe_glob hg hm r hd) fun σ H Q h => const_read rp h
theorem d_gint {x : Str} {i : Int} {t : Tok} (hg : Gl X x) (hm : X.mg x = some (.int i t)) (hd : (x == ("__debug__" : Str)) = false := by decide) : DE X Wx (.Name x pos) (eC (.int i)) := d_glob (v := .int i) (d := .int i) hg hm ⟨t, rfl⟩ (fun _ => rfl) hd
theorem d_gstr {x : Str} {i : Str} {t : Tok} (hg : Gl X x) (hm : X.mg x = some (.str i t)) (hd : (x == ("__debug__" : Str)) = false := by decide) : DE X Wx (.Name x pos) (eC (.str i)) := d_glob (v := .str i) (d := .str i) hg hm ⟨t, rfl⟩ (fun _ => rfl) hd
theorem d_gref {x : Str} {a : Addr} (hg : Gl X x) (hm : X.mg x = some (.ref a)) (hd : (x == ("__debug__" : Str)) = false := by decide) : DE X Wx (.Name x pos) (eC (.ref a)) := d_glob (v := .ref a) (d := .ref a) hg hm rfl (fun _ => rfl) hd
theorem d_bty {x : Str} {n : String} (hg : Gl X x) (hm : X.mg x = none) (hv : bootBuiltins x = some (.type n)) (hn : x ≠ "__name__" := by decide) (hd : (x == ("__debug__" : Str)) = false := by decide) : DE X Wx (.Name x pos) (eC (.ty n)) :=
  pe_imp (pe_bltn (v := .ty n) hg hm hv rfl hn hd) fun σ H Q h => const_read (d := .ty n) (fun _ => rfl) h

def shF (f : Ev → R W) : Ev → R D := fun e => (f e).bind fun w e1 => match shr w e1 with
  | some (d, e2) => .ok d e2
  | none => .bad
theorem d_sh {f : Ev → R W} (h : DE X Wx a f) : DV X Wx a (shF f) := pe_imp h fun σ H Q q => by
  obtain ⟨Γ, G, env, en, q⟩ := q
  refine ⟨Γ, G, env, en, ?_⟩
  unfold shF at q
  cases hf : f env with
  | bad => rw [hf] at q; exact q
  | exc x e => rw [hf] at q; exact q
  | ok w e1 =>
    rw [hf] at q
    intro G1 H1 p1 v r n
    have q : Aft X.K X.mg Wx Γ σ env G H _ (match shr w e1 with
      | some (d, e2) => R.ok d e2
      | none => R.bad) := q
    cases hs : shr w e1 with
    | none => rw [hs] at q; exact q.elim
    | some z =>
      obtain ⟨d, e2⟩ := z
      rw [hs] at q
      obtain ⟨G2, p2, rp⟩ := shr_ok p1 r n hs
      exact q G2 H1 p2 v rp
/-- a value as an expression's -/
def vF (f : Ev → R D) : Ev → R W := fun e => (f e).bind fun d e1 => .ok (.val d) e1
theorem d_v {f : Ev → R D} (h : DV X Wx a f) : DE X Wx a (vF f) := pe_imp h fun σ H Q q => by
  obtain ⟨Γ, G, env, en, q⟩ := q
  refine ⟨Γ, G, env, en, q.two.imp fun d e1 G1 H1 _ ⟨p1, q1⟩ v r => ?_⟩
  exact (q1 G1 H1 (.refl p1.en)).2 v r fun _ _ z => nomatch z

/-! ### argument lists -/
def aNil : Ev → R (List Ar) := fun e => .ok [] e
def aV (f : Ev → R D) (r : Ev → R (List Ar)) : Ev → R (List Ar) := fun e => (f e).bind fun d e1 => (r e1).bind fun as e2 => .ok (.v d :: as) e2
def aR (i : Nat) (r : Ev → R (List Ar)) : Ev → R (List Ar) := fun e => match e[i]? with
  | some (.own _ _) => (r e).bind fun as e2 => .ok (.r i :: as) e2
  | _ => .bad
theorem da_nil : DA X Wx [] aNil := pa_imp pa_nil fun σ H Q h => by
  obtain ⟨Γ, G, env, en, h⟩ := h
  exact h G H (.refl en) [] rfl
theorem da_v {es : List Expr} {f : Ev → R D} {r : Ev → R (List Ar)} (h : DV X Wx a f) (hr : DA X Wx es r) (hs : starEach (a :: es) X.env = (false, eval a X.env) :: starEach es X.env := by rfl) : DA X Wx (a :: es) (aV f r) :=
  pa_imp (pa_cons h hr hs) fun σ H Q q => by
    obtain ⟨Γ, G, env, en, q⟩ := q
    refine ⟨Γ, G, env, en, q.two.imp fun d e1 G1 H1 _ ⟨p1, q1⟩ v rp => ⟨Γ, G1, e1, p1.en, q1.two.imp fun as e2 G2 H2 _ ⟨p2, q2⟩ vs ra => ?_⟩⟩
    exact (q2 G2 H2 (.refl p2.en)).2.2 (v :: vs) ⟨v, vs, rfl, rp.mono p2.kp.gg, ra⟩
theorem da_r {es : List Expr} {r : Ev → R (List Ar)} (i : Nat) {x : Str} {p : Pos} (hr : DA X Wx es r) (hs : starEach (.Name x p :: es) X.env = (false, eval (.Name x p) X.env) :: starEach es X.env := by rfl) (hN : X.N[i]? = some x := by rfl)
    (hv : Vis X.env.scope x := by first | exact Or.inl rfl | exact Or.inr (Or.inl rfl) | exact Or.inr (Or.inr rfl)) (hd : (x == ("__debug__" : Str)) = false := by decide) (hcd : (x == ("__classdict__" : Str)) = false := by decide) :
    DA X Wx (.Name x p :: es) (aR i r) :=
  pa_imp (pa_cons (pe_var hN hv hd hcd) hr hs) fun σ H Q q => by
    obtain ⟨Γ, G, env, en, q⟩ := q
    unfold aR at q
    cases hs : env[i]? with
    | none => rw [hs] at q; exact q.elim
    | some s =>
      rw [hs] at q
      cases s with
      | no => exact q.elim
      | val d => exact q.elim
      | bval d => exact q.elim
      | own b o =>
        obtain ⟨a, e, _⟩ := en.sl i _ hs
        refine ⟨.ref a, e, Γ, G, env, en, Aft.imp (Aft.two (k := fun as e2 => .ok (.r i :: as) e2) q) fun as e2 G2 H2 _ ⟨p2, q2⟩ vs ra => ?_⟩
        exact (q2 G2 H2 (.refl p2.en)).2 (.ref a :: vs) ⟨_, vs, rfl, e, ra⟩
/-- all values -/
def vals : List Ar → Option (List D)
  | [] => some []
  | .v d :: r => (vals r).map (d :: ·)
  | .r _ :: _ => none
theorem ArRep.vals {K : PySem.W.Frag} {G : Hp} {σ : St} : ∀ {as : List Ar} {vs : List V} {ds : List D}, ArRep K G σ as vs → vals as = some ds → RepL K G ds vs
  | [], _, _, h, e => by cases e; exact h
  | .v d :: r, _, ds, ⟨u, us, e1, h, hr⟩, e => by
    unfold DL.vals at e
    cases q : DL.vals r with
    | none => rw [q] at e; cases e
    | some es =>
      rw [q] at e; cases e
      exact ⟨u, us, e1, h, ArRep.vals hr q⟩
  | .r _ :: _, _, _, _, e => nomatch e
end
/-! ### tests, and, or, not, if -/
def truD : D → Option Bool
  | .non => some false
  | .bl b => some b
  | .int i => some (i != 0)
  | .str x => if x.length ≤ sizeLine then some ((x.length : Int) != 0) else none
  | .tup xs => some (!xs.isEmpty)
  | .lst xs => some (!xs.isEmpty)
  | .scr xs => some (!xs.isEmpty)
  | .dk ks _ => some (!ks.isEmpty)
  | _ => none
section
variable {K : PySem.W.Frag} {mg : Str → Option Value} {Wx : WX} {Γ : Ct} {σ : St} {env : Ev} {G H : Hp}
theorem Pk.scr {xs : List D} {v : V} (h : Pk K G H (.scr xs) v) : ∃ a vs, v = .ref a ∧ SqL K G a vs ∧ RepL K G xs vs := by
  rcases h with ⟨a, vs, e, q, r⟩ | ⟨a, o, e, ed, g, ow⟩
  · exact ⟨a, vs, e, q, r⟩
  · cases o <;> cases ed
theorem Pk.lst {xs : List D} {v : V} (s : Same G H) (h : Pk K G H (.lst xs) v) : ∃ a vs, v = .ref a ∧ H a = some (.lst vs) ∧ RepL K G xs vs := by
  rcases h with ⟨a, vs, e, q, r⟩ | ⟨a, o, e, ed, g, ow⟩
  · exact ⟨a, vs, e, s _ _ q, r⟩
  · cases o with
    | lst ys =>
      cases ed
      obtain ⟨vs, q, r⟩ := ow
      exact ⟨a, vs, e, q, r⟩
    | dk _ _ => cases ed
    | dt _ _ => cases ed
theorem Pk.tup {xs : List D} {v : V} (h : Pk K G H (.tup xs) v) : ∃ a vs, v = .ref a ∧ SqT K G a vs ∧ RepL K G xs vs := by
  rcases h with ⟨a, vs, e, q, r⟩ | ⟨a, o, e, ed, g, ow⟩
  · exact ⟨a, vs, e, q, r⟩
  · cases o <;> cases ed
theorem Pk.dk {ks : List Key} {ds : List D} {v : V} (s : Same G H) (h : Pk K G H (.dk ks ds) v) : ∃ a vs, v = .ref a ∧ H a = some (.dK (ks.zip vs)) ∧ ks.length = vs.length ∧ RepL K G ds vs := by
  rcases h with ⟨a, vs, e, q, l, r⟩ | ⟨a, o, e, ed, g, ow⟩
  · exact ⟨a, vs, e, s _ _ q, l, r⟩
  · cases o with
    | lst ys => cases ed
    | dk _ _ =>
      cases ed
      obtain ⟨vs, q, l, r⟩ := ow
      exact ⟨a, vs, e, q, l, r⟩
    | dt _ _ => cases ed
theorem Pk.dt {ks : List (List Key)} {ds : List D} {v : V} (s : Same G H) (h : Pk K G H (.dt ks ds) v) : ∃ a vs, v = .ref a ∧ H a = some (.dT (ks.zip vs)) ∧ ks.length = vs.length ∧ RepL K G ds vs := by
  rcases h with ⟨a, vs, e, q, l, r⟩ | ⟨a, o, e, ed, g, ow⟩
  · exact ⟨a, vs, e, s _ _ q, l, r⟩
  · cases o with
    | lst ys => cases ed
    | dt _ _ =>
      cases ed
      obtain ⟨vs, q, l, r⟩ := ow
      exact ⟨a, vs, e, q, l, r⟩
    | dk _ _ => cases ed
theorem Pk.int {i : Int} {v : V} (h : Pk K G H (.int i) v) : v = .int i := by
  rcases h with h | ⟨a, o, e, ed, g, ow⟩
  · exact h
  · cases o <;> cases ed
theorem Pk.bl {i : Bool} {v : V} (h : Pk K G H (.bl i) v) : v = .bl i := by
  rcases h with h | ⟨a, o, e, ed, g, ow⟩
  · exact h
  · cases o <;> cases ed
theorem Pk.str {i : Str} {v : V} (h : Pk K G H (.str i) v) : v = .str i := by
  rcases h with h | ⟨a, o, e, ed, g, ow⟩
  · exact h
  · cases o <;> cases ed
theorem Pk.non {v : V} (h : Pk K G H .non v) : v = .non := by
  rcases h with h | ⟨a, o, e, ed, g, ow⟩
  · exact h
  · cases o <;> cases ed
theorem Pk.refd {a : Addr} {v : V} (h : Pk K G H (.ref a) v) : v = .ref a := by
  rcases h with h | ⟨a, o, e, ed, g, ow⟩
  · exact h
  · cases o <;> cases ed
theorem Pk.ty {n : String} {v : V} (h : Pk K G H (.ty n) v) : v = .ty n := by
  rcases h with h | ⟨a, o, e, ed, g, ow⟩
  · exact h
  · cases o <;> cases ed
theorem RepL.empty {ds : List D} {vs : List V} (h : RepL K G ds vs) : vs.isEmpty = ds.isEmpty := by
  cases ds with
  | nil => cases h; rfl
  | cons d ds => obtain ⟨v, r, rfl, _⟩ := h; rfl
theorem tru_of {d : D} {v : V} {b : Bool} (s : Same G H) (h : Pk K G H d v) (e : truD d = some b) : TruV K v H b := by
  cases d with
  | non => cases e; rw [h.non]; rfl
  | bl _ => cases e; rw [h.bl]; rfl
  | int _ => cases e; rw [h.int]; rfl
  | str x =>
    have e' : (if x.length ≤ sizeLine then some ((x.length : Int) != 0) else none) = some b := e
    by_cases hx : x.length ≤ sizeLine
    · rw [if_pos hx] at e'; cases e'; rw [h.str]; exact ⟨hx, rfl⟩
    · rw [if_neg hx] at e'; cases e'
  | tup xs =>
    cases e
    obtain ⟨a, vs, rfl, q, r⟩ := h.tup
    exact .inr (.inl ⟨vs, Same.tup s q, by rw [r.empty]⟩)
  | lst xs =>
    cases e
    obtain ⟨a, vs, rfl, q, r⟩ := h.lst s
    exact .inl ⟨vs, .inl (.inl q), by rw [r.empty]⟩
  | scr xs =>
    cases e
    obtain ⟨a, vs, rfl, q, r⟩ := h.scr
    exact .inl ⟨vs, s.seq q, by rw [r.empty]⟩
  | dk ks ds =>
    cases e
    obtain ⟨a, vs, rfl, q, l, r⟩ := h.dk s
    refine .inr (.inr ⟨_, q, ?_⟩)
    cases ks with
    | nil => rfl
    | cons k ks => cases vs with
      | nil => cases l
      | cons _ _ => rfl
  | dt _ _ => cases e
  | ref _ => cases e
  | ty _ => cases e

def truF (f : Ev → R W) : Ev → R Bool := fun e => (f e).bind fun w e1 => match (rd w e1).bind truD with
  | some b => .ok b e1
  | none => .bad
theorem tru_read {f : Ev → R W} {Q : Bool → Hp → Prop} (h : tDT K mg Wx (truF f) σ H Q) : tD K mg Wx f σ H fun x H' => ∃ k, TruV K x H' k ∧ Q k H' := by
  obtain ⟨Γ, G, env, en, h⟩ := h
  refine ⟨Γ, G, env, en, h.two.imp fun w e1 G1 H1 _ ⟨p1, q⟩ v r n => ?_⟩
  cases hd : (rd w e1).bind truD with
  | none => rw [hd] at q; exact q.elim
  | some b =>
    rw [hd] at q
    cases hr : rd w e1 with
    | none => rw [hr] at hd; cases hd
    | some d =>
      rw [hr] at hd
      exact ⟨b, tru_of p1.en.sub (rd_pk p1.en r hr) hd, (q G1 H1 (.refl p1.en)).2⟩
end
section
variable {X : Cx} {Wx : WX} {pos : Pos} {a b c : Expr} {fa fb fc : Ev → R W}
theorem d_truth (h : DE X Wx a fa) (he : ∀ whole, isTrue a X.env whole = (do let v ← whole; standAt a.pos; holding [v] (truthy v)) := by intro _; rfl) : DT X Wx a (truF fa) :=
  pt_imp (pt_truth h he) fun σ H Q q => tru_read q
/-- a value that is a bool, as a test -/
def blF (f : Ev → R W) : Ev → R Bool := fun e => (f e).bind fun w e1 => match w with
  | .val (.bl b) => .ok b e1
  | _ => .bad
theorem bl_read {K : PySem.W.Frag} {mg : Str → Option Value} {σ : St} {H : Hp} {f : Ev → R W} {Q : Bool → Hp → Prop} (h : tDT K mg Wx (blF f) σ H Q) : tD K mg Wx f σ H fun x H' => ∃ k, x = .bl k ∧ Q k H' := by
  obtain ⟨Γ, G, env, en, h⟩ := h
  refine ⟨Γ, G, env, en, h.two.imp fun w e1 G1 H1 _ ⟨p1, q⟩ v r n => ?_⟩
  cases w with
  | own o => exact q.elim
  | loc i => exact q.elim
  | val d =>
    cases d with
    | bl b =>
      have r' : v = .bl b := r
      subst r'
      exact ⟨b, rfl, (q G1 H1 (.refl p1.en)).2⟩
    | _ => exact q.elim
theorem d_tcmp {op : CmpOp} {r : R2} {φ : D → D → Option W} (ho : OpR X (compareOp op) r) (ro : OpOk X.K r φ) (ha : DE X Wx a fa) (hb : DE X Wx b fb) (hm : behindInMarks op b = false := by first | exact nomark _ | rfl) : DT X Wx (.Compare a [op] [b] pos) (blF (binF φ fa fb)) :=
  pt_imp (pt_cmpR ho ha hb hm) fun σ H Q h => by
    have h2 := bl_read h
    exact bin_read ro h2
/-- a < b < c -/
def chF (φ ψ : D → D → Option W) (fa fb fc : Ev → R W) : Ev → R W := fun e => (fa e).bind fun w1 e1 => (fb e1).bind fun w2 e2 => (ap2 φ w1 w2 e2).bind fun w3 e3 => match w3 with
  | .val (.bl true) => (fc e3).bind fun w4 e4 => ap2 ψ w2 w4 e4
  | .val (.bl false) => .ok (.val (.bl false)) e3
  | _ => .bad
theorem ch_read {K : PySem.W.Frag} {mg : Str → Option Value} {σ : St} {H : Hp} {r r' : R2} {φ ψ : D → D → Option W} (ro : OpOk K r φ) (ro' : OpOk K r' ψ) {Q : VK} (h : tD K mg Wx (chF φ ψ fa fb fc) σ H Q) :
    tChain r r' (tD K mg Wx fa) (tD K mg Wx fb) (tD K mg Wx fc) σ H Q := by
  obtain ⟨Γ, G, env, en, h⟩ := h
  refine ⟨Γ, G, env, en, h.two.imp fun w1 e1 G1 H1 _ ⟨p1, q⟩ v1 r1 n1 => ⟨Γ, G1, e1, p1.en, q.two.imp fun w2 e2 G2 H2 _ ⟨p2, q2⟩ v2 r2 n2 => ?_⟩⟩
  have q2 := q2.two
  obtain ⟨a, b, w, ra, rb, rw', e⟩ := ap2_some (e := e2) rfl q2.ok_of
  rw [e] at q2
  refine ro G2 H2 a b v1 v2 _ p2.en.hz p2.en.sub (rd_pk p2.en (r1.mono p2) ra) (rd_pk p2.en r2 rb) ⟨w, rw', fun v G3 H3 gr wr => ?_⟩
  have p3 := gr.post p2.en
  have q3 := (q2 G3 H3 p3).2
  have back : ∀ {H' : Hp} {w v}, (∀ a, H3 a ≠ none → H' a ≠ none) → New H3 w v → New H w v := fun {H' w v} _ nn o a' e1 e2 => by
    have := nn o a' e1 e2
    cases q : H a' with
    | none => rfl
    | some u => exact absurd this (p3.kp.al _ (p2.kp.al _ (p1.kp.al _ (ne_none q))))
  cases w with
  | own o => exact q3.elim
  | loc i => exact q3.elim
  | val d =>
    cases d with
    | bl k =>
      have wr' : v = .bl k := wr
      subst wr'
      refine ⟨k, rfl, ?_⟩
      cases k with
      | false =>
        rw [if_neg Bool.false_ne_true]
        exact (q3 G3 H3 (.refl p3.en)).2.2.2 _ rfl fun _ _ z => nomatch z
      | true =>
        rw [if_pos rfl]
        refine ⟨Γ, G3, e2, p3.en, q3.two.imp fun w4 e4 G4 H4 _ ⟨p4, q4⟩ v4 r4 n4 => ?_⟩
        obtain ⟨a', b', w', ra', rb', rw2, e'⟩ := ap2_some (e := e4) rfl q4.ok_of
        rw [e'] at q4
        refine ro' G4 H4 a' b' v2 v4 _ p4.en.hz p4.en.sub (rd_pk p4.en ((r2.mono p3).mono p4) ra') (rd_pk p4.en r4 rb') ⟨w', rw2, fun v5 G5 H5 gr5 wr5 => ?_⟩
        have p5 := gr5.post p4.en
        obtain ⟨wp, nn⟩ := wr5.rep p4.en
        refine (q4 G5 H5 p5).2.2.2.2 v5 wp ?_
        intro o a' e1 e2
        have := nn o a' e1 e2
        cases q : H a' with
        | none => rfl
        | some u => exact absurd this (p4.kp.al _ (p3.kp.al _ (p2.kp.al _ (p1.kp.al _ (ne_none q)))))
    | _ => exact q3.elim
theorem d_chain {op op' : CmpOp} {r r' : R2} {φ ψ : D → D → Option W} (ho : OpR X (compareOp op) r) (ho' : OpR X (compareOp op') r') (ro : OpOk X.K r φ) (ro' : OpOk X.K r' ψ) (ha : DE X Wx a fa) (hb : DE X Wx b fb) (hc : DE X Wx c fc)
    (hm : lastMarks [op, op'] [b, c] = false := by with_unfolding_all rfl) : DE X Wx (.Compare a [op, op'] [b, c] pos) (chF φ ψ fa fb fc) := pe_imp (pe_chain ho ho' ha hb hc hm) fun σ H Q h => ch_read ro ro' h
theorem d_tchain {op op' : CmpOp} {r r' : R2} {φ ψ : D → D → Option W} (ho : OpR X (compareOp op) r) (ho' : OpR X (compareOp op') r') (ro : OpOk X.K r φ) (ro' : OpOk X.K r' ψ) (ha : DE X Wx a fa) (hb : DE X Wx b fb) (hc : DE X Wx c fc)
    (hm : lastMarks [op, op'] [b, c] = false := by with_unfolding_all rfl) : DT X Wx (.Compare a [op, op'] [b, c] pos) (blF (chF φ ψ fa fb fc)) := pt_imp (pt_chain ho ho' ha hb hc hm) fun σ H Q h => ch_read ro ro' (bl_read h)

def notF (f : Ev → R Bool) : Ev → R Bool := fun e => (f e).bind fun b e1 => .ok (!b) e1
theorem d_tnot {f : Ev → R Bool} (h : DT X Wx a f) : DT X Wx (.UnaryOp .Not a pos) (notF f) := pt_imp (pt_not h) fun σ H Q q => by
  obtain ⟨Γ, G, env, en, q⟩ := q
  exact ⟨Γ, G, env, en, q.two.imp fun b e1 G1 H1 _ ⟨p1, q1⟩ => (q1 G1 H1 (.refl p1.en)).2⟩
/-- and, or: a test of any whole -/
def DW (X : Cx) (Wx : WX) (e : Expr) (f : Ev → R Bool) : Prop := PW X e (tDT X.K X.mg Wx f)
theorem pw_imp {X : Cx} {e : Expr} {t t' : TT} (h : PW X e t) (i : ∀ σ H Q, t' σ H Q → t σ H Q) : PW X e t' := ⟨fun wh pins s σ H Q I q => h.run wh pins s σ H Q I (i σ H Q q)⟩
theorem d_w {f : Ev → R Bool} (h : DW X Wx a f) : DT X Wx a f := PW.pt h
theorem d_and1 {f : Ev → R Bool} (h : DT X Wx a f) : DW X Wx (.BoolOp .And [a] pos) f := pw_and1 h
theorem d_or1 {f : Ev → R Bool} (h : DT X Wx a f) : DW X Wx (.BoolOp .Or [a] pos) f := pw_or1 h
def andF (f g : Ev → R Bool) : Ev → R Bool := fun e => (f e).bind fun b e1 => if b = true then g e1 else .ok false e1
def orF (f g : Ev → R Bool) : Ev → R Bool := fun e => (f e).bind fun b e1 => if b = true then .ok true e1 else g e1
theorem d_tand {f g : Ev → R Bool} {rest : List Expr} (ha : DT X Wx a f) (hb : DW X Wx (.BoolOp .And (b :: rest) pos) g) : DW X Wx (.BoolOp .And (a :: b :: rest) pos) (andF f g) := pw_imp (pw_and ha hb) fun σ H Q q => by
  obtain ⟨Γ, G, env, en, q⟩ := q
  refine ⟨Γ, G, env, en, q.two.imp fun k e1 G1 H1 _ ⟨p1, q1⟩ => ?_⟩
  cases k with
  | true =>
    rw [if_pos rfl] at q1 ⊢
    exact ⟨Γ, G1, e1, p1.en, q1.imp fun _ _ _ _ _ z => z.2⟩
  | false =>
    rw [if_neg Bool.false_ne_true] at q1 ⊢
    exact (q1 G1 H1 (.refl p1.en)).2
theorem d_tor {f g : Ev → R Bool} {rest : List Expr} (ha : DT X Wx a f) (hb : DW X Wx (.BoolOp .Or (b :: rest) pos) g) : DW X Wx (.BoolOp .Or (a :: b :: rest) pos) (orF f g) := pw_imp (pw_or ha hb) fun σ H Q q => by
  obtain ⟨Γ, G, env, en, q⟩ := q
  refine ⟨Γ, G, env, en, q.two.imp fun k e1 G1 H1 _ ⟨p1, q1⟩ => ?_⟩
  cases k with
  | true =>
    rw [if_pos rfl] at q1 ⊢
    exact (q1 G1 H1 (.refl p1.en)).2
  | false =>
    rw [if_neg Bool.false_ne_true] at q1 ⊢
    exact ⟨Γ, G1, e1, p1.en, q1.imp fun _ _ _ _ _ z => z.2⟩
/-- as values: the operands shared -/
theorem d_one {f : Ev → R D} {op : BoolOp} (h : DV X Wx a f) : DV X Wx (.BoolOp op [a] pos) f := pe_one h
def andV (f g : Ev → R D) : Ev → R D := fun e => (f e).bind fun d e1 => match truD d with
  | some true => g e1
  | some false => .ok d e1
  | none => .bad
def orV (f g : Ev → R D) : Ev → R D := fun e => (f e).bind fun d e1 => match truD d with
  | some false => g e1
  | some true => .ok d e1
  | none => .bad
theorem d_and {f g : Ev → R D} {rest : List Expr} (ha : DV X Wx a f) (hb : DV X Wx (.BoolOp .And (b :: rest) pos) g) : DV X Wx (.BoolOp .And (a :: b :: rest) pos) (andV f g) := pe_imp (pe_andT ha hb) fun σ H Q q => by
  obtain ⟨Γ, G, env, en, q⟩ := q
  refine ⟨Γ, G, env, en, q.two.imp fun d e1 G1 H1 _ ⟨p1, q1⟩ v r => ?_⟩
  cases hd : truD d with
  | none => rw [hd] at q1; exact q1.elim
  | some k =>
    rw [hd] at q1
    refine ⟨k, tru_of p1.en.sub (.inl r) hd, ?_⟩
    cases k with
    | true =>
      rw [if_pos rfl]
      exact ⟨Γ, G1, e1, p1.en, q1.imp fun _ _ _ _ _ z => z.2⟩
    | false =>
      rw [if_neg Bool.false_ne_true]
      exact (q1 G1 H1 (.refl p1.en)).2 v r
theorem d_or {f g : Ev → R D} {rest : List Expr} (ha : DV X Wx a f) (hb : DV X Wx (.BoolOp .Or (b :: rest) pos) g) : DV X Wx (.BoolOp .Or (a :: b :: rest) pos) (orV f g) := pe_imp (pe_orT ha hb) fun σ H Q q => by
  obtain ⟨Γ, G, env, en, q⟩ := q
  refine ⟨Γ, G, env, en, q.two.imp fun d e1 G1 H1 _ ⟨p1, q1⟩ v r => ?_⟩
  cases hd : truD d with
  | none => rw [hd] at q1; exact q1.elim
  | some k =>
    rw [hd] at q1
    refine ⟨k, tru_of p1.en.sub (.inl r) hd, ?_⟩
    cases k with
    | false =>
      rw [if_neg Bool.false_ne_true]
      exact ⟨Γ, G1, e1, p1.en, q1.imp fun _ _ _ _ _ z => z.2⟩
    | true =>
      rw [if_pos rfl]
      exact (q1 G1 H1 (.refl p1.en)).2 v r
def notV (f : Ev → R W) : Ev → R W := fun e => (truF f e).bind fun b e1 => .ok (.val (.bl (!b))) e1
theorem d_not (ha : DE X Wx a fa) : DE X Wx (.UnaryOp .Not a pos) (notV fa) := pe_imp (pe_notT ha) fun σ H Q q => by
  obtain ⟨Γ, G, env, en, q⟩ := q
  have : tDT X.K X.mg Wx (truF fa) σ H (fun k H' => Q (.bl (!k)) H') := ⟨Γ, G, env, en, q.two.imp fun b e1 G1 H1 _ ⟨p1, q1⟩ => (q1 G1 H1 (.refl p1.en)).2 _ rfl fun _ _ z => nomatch z⟩
  exact tru_read this
/-- a if t else b: the parts shared -/
def ifV (t : Ev → R Bool) (f g : Ev → R D) : Ev → R D := fun e => (t e).bind fun b e1 => if b = true then f e1 else g e1
theorem d_if {t : Ev → R Bool} {f g : Ev → R D} (hc : DT X Wx c t) (ha : DV X Wx a f) (hb : DV X Wx b g) : DV X Wx (.IfExp c a b pos) (ifV t f g) := pe_imp (pe_ifExp hc ha hb) fun σ H Q q => by
  obtain ⟨Γ, G, env, en, q⟩ := q
  refine ⟨Γ, G, env, en, q.two.imp fun k e1 G1 H1 _ ⟨p1, q1⟩ => ?_⟩
  cases k with
  | true =>
    rw [if_pos rfl] at q1 ⊢
    exact ⟨Γ, G1, e1, p1.en, q1.imp fun _ _ _ _ _ z => z.2⟩
  | false =>
    rw [if_neg Bool.false_ne_true] at q1 ⊢
    exact ⟨Γ, G1, e1, p1.en, q1.imp fun _ _ _ _ _ z => z.2⟩
def ifW (t : Ev → R Bool) (f g : Ev → R W) : Ev → R W := fun e => (t e).bind fun b e1 => if b = true then f e1 else g e1

/-! ### displays, calls of built-ins -/
def tupF (f : Ev → R (List Ar)) : Ev → R W := fun e => (f e).bind fun as e1 => match vals as with
  | some ds => if ds.length ≤ sizeLine then .ok (.val (.tup ds)) e1 else .bad
  | none => .bad
def lstF (f : Ev → R (List Ar)) : Ev → R W := fun e => (f e).bind fun as e1 => match vals as with
  | some ds => if ds.length ≤ sizeLine then .ok (.own (.lst ds)) e1 else .bad
  | none => .bad
end
section
variable {K : PySem.W.Frag} {G H : Hp}
theorem HpOk.upd {p : Addr} {o : HO} (z : HpOk K H) (n : H p = none) (h : ∀ xs, (o = .lst xs ∨ o = .tup xs ∨ ∃ ob, o = .frz ob (.lst xs) ∨ o = .frz ob (.tup xs)) → xs.length ≤ sizeLine) : HpOk K (L2.upd H p o) := by
  refine ⟨fun a xs q => ?_, fun a xs q => ?_⟩
  · rcases q with (q | ⟨ob, q⟩) | q
    · by_cases hb : a = p
      · subst hb; rw [upd_same] at q; cases q; exact h xs (.inl rfl)
      · rw [upd_ne hb] at q; exact z.l a xs (.inl (.inl q))
    · by_cases hb : a = p
      · subst hb; rw [upd_same] at q; cases q; exact h xs (.inr (.inr ⟨ob, .inl rfl⟩))
      · rw [upd_ne hb] at q; exact z.l a xs (.inl (.inr ⟨ob, q⟩))
    · exact z.l a xs (.inr q)
  · rcases q with (q | ⟨ob, q⟩) | q
    · by_cases hb : a = p
      · subst hb; rw [upd_same] at q; cases q; exact h xs (.inr (.inl rfl))
      · rw [upd_ne hb] at q; exact z.t a xs (.inl (.inl q))
    · by_cases hb : a = p
      · subst hb; rw [upd_same] at q; cases q; exact h xs (.inr (.inr ⟨ob, .inr rfl⟩))
      · rw [upd_ne hb] at q; exact z.t a xs (.inl (.inr ⟨ob, q⟩))
    · exact z.t a xs (.inr q)
theorem same_upd {p : Addr} {o : HO} (h : H p = none) : Same H (L2.upd H p o) := fun b x e => by
  rw [upd_ne (ne_of_none e h)]; exact e
/-- a new tuple, shared -/
theorem Grow.tup {p : Addr} {vs : List V} {ds : List D} (s : Same G H) (z : HpOk K H) (n : H p = none) (r : RepL K G ds vs) (l : vs.length ≤ sizeLine) :
    Grow K G H (L2.upd G p (.tup vs)) (L2.upd H p (.tup vs)) ∧ WRes K (L2.upd G p (.tup vs)) (L2.upd H p (.tup vs)) H (.val (.tup ds)) (.ref p) := by
  have g : G p = none := s.free n
  refine ⟨⟨same_upd g, same_upd n, fun b x e => ?_, fun b x e => ?_, z.upd n fun xs h => ?_⟩, p, vs, rfl, .inl (.inl upd_same), r.mono (same_upd g)⟩
  · by_cases hb : b = p
    · subst hb; rw [upd_same] at e ⊢; exact e
    · rw [upd_ne hb] at e ⊢; exact s _ _ e
  · by_cases hb : b = p
    · subst hb; exact .inr n
    · rw [upd_ne hb] at e; exact .inl e
  · rcases h with h | h | ⟨ob, h | h⟩ <;> first | (cases h; exact l) | cases h
/-- a new list, owned -/
theorem Grow.lst {p : Addr} {vs : List V} {ds : List D} (s : Same G H) (z : HpOk K H) (n : H p = none) (r : RepL K G ds vs) (l : vs.length ≤ sizeLine) :
    Grow K G H G (L2.upd H p (.lst vs)) ∧ WRes K G (L2.upd H p (.lst vs)) H (.own (.lst ds)) (.ref p) := by
  have g : G p = none := s.free n
  refine ⟨⟨Same.refl _, same_upd n, s.trans (same_upd n), fun b x e => .inl e, z.upd n fun xs h => ?_⟩, p, rfl, n, g, vs, upd_same, r⟩
  rcases h with h | h | ⟨ob, h | h⟩ <;> first | (cases h; exact l) | cases h
end
section
variable {X : Cx} {Wx : WX} {pos : Pos} {a b c : Expr} {fa fb fc : Ev → R W}
theorem New.back {H H1 : Hp} {w : W} {v : V} (al : ∀ a, H a ≠ none → H1 a ≠ none) (n : New H1 w v) : New H w v := fun o a e1 e2 => by
  have := n o a e1 e2
  cases q : H a with
  | none => rfl
  | some u => exact absurd this (al _ (ne_none q))
theorem d_tup {es : List Expr} {f : Ev → R (List Ar)} {x1} (h : DA X Wx es f) : DE X Wx (.Tuple es x1 pos) (tupF f) := pe_imp (pe_tup h) fun σ H Q q => by
  obtain ⟨Γ, G, env, en, q⟩ := q
  refine ⟨Γ, G, env, en, q.two.imp fun as e1 G1 H1 _ ⟨p1, q1⟩ vs r => ?_⟩
  cases hv : vals as with
  | none => rw [hv] at q1; exact q1.elim
  | some ds =>
    rw [hv] at q1
    have rl := r.vals hv
    have ll := rl.length
    by_cases hl : ds.length ≤ sizeLine
    · simp only [hl, if_true] at q1
      refine ⟨by omega, fun p np => ?_⟩
      obtain ⟨gr, wr⟩ := Grow.tup p1.en.sub p1.en.hz np rl (by omega)
      have p2 := gr.post p1.en
      obtain ⟨wp, nn⟩ := wr.rep p1.en
      exact (q1 _ _ p2).2 _ wp (nn.back p1.kp.al)
    · simp only [hl, if_false] at q1
      exact q1.elim
theorem d_lst {es : List Expr} {f : Ev → R (List Ar)} (h : DA X Wx es f) : DE X Wx (.List es pos) (lstF f) := pe_imp (pe_lst h) fun σ H Q q => by
  obtain ⟨Γ, G, env, en, q⟩ := q
  refine ⟨Γ, G, env, en, q.two.imp fun as e1 G1 H1 _ ⟨p1, q1⟩ vs r => ?_⟩
  cases hv : vals as with
  | none => rw [hv] at q1; exact q1.elim
  | some ds =>
    rw [hv] at q1
    have rl := r.vals hv
    have ll := rl.length
    by_cases hl : ds.length ≤ sizeLine
    · simp only [hl, if_true] at q1
      refine ⟨by omega, fun p np => ?_⟩
      obtain ⟨gr, wr⟩ := Grow.lst p1.en.sub p1.en.hz np rl (by omega)
      have p2 := gr.post p1.en
      obtain ⟨wp, nn⟩ := wr.rep p1.en
      exact (q1 _ _ p2).2 _ wp (nn.back p1.kp.al)
    · simp only [hl, if_false] at q1
      exact q1.elim

/-- a built-in's reading: one operand that is looked at; several values -/
def C1Ok (K : PySem.W.Frag) (r : List V → Hp → VK → Prop) (φ : D → Option W) : Prop := ∀ (G H : Hp) (d : D) (x : V) (Q : VK), HpOk K H → Same G H → Pk K G H d x →
  (∃ w, φ d = some w ∧ ∀ v G' H', Grow K G H G' H' → WRes K G' H' H w v → Q v H') → r [x] H Q
def CnOk (K : PySem.W.Frag) (r : List V → Hp → VK → Prop) (φ : List D → Option W) : Prop := ∀ (G H : Hp) (ds : List D) (xs : List V) (Q : VK), HpOk K H → Same G H → RepL K G ds xs →
  (∃ w, φ ds = some w ∧ ∀ v G' H', Grow K G H G' H' → WRes K G' H' H w v → Q v H') → r xs H Q
def ap1 (φ : D → Option W) (w : W) (e : Ev) : R W := match (rd w e).bind φ with
  | some w' => .ok w' e
  | none => .bad
def c1F (φ : D → Option W) (f : Ev → R W) : Ev → R W := fun e => (f e).bind fun w e1 => ap1 φ w e1
def cnF (φ : List D → Option W) (f : Ev → R (List Ar)) : Ev → R W := fun e => (f e).bind fun as e1 => match (vals as).bind φ with
  | some w' => .ok w' e1
  | none => .bad
theorem ap1_read {K : PySem.W.Frag} {mg : Str → Option Value} {Γ : Ct} {σ : St} {env e1 : Ev} {G H G1 H1 : Hp} {Q : VK} {r : V → Hp → VK → Prop} {φ : D → Option W} (ro : ∀ (G H : Hp) (d : D) (x : V) (Q : VK), HpOk K H → Same G H → Pk K G H d x →
      (∃ w, φ d = some w ∧ ∀ v G' H', Grow K G H G' H' → WRes K G' H' H w v → Q v H') → r x H Q) (p1 : Post K Γ σ env G H e1 G1 H1) {w : W} {v : V} (rw : WRep K Γ G1 H1 σ e1 w v)
    (q : Aft K mg Wx Γ σ e1 G1 H1 (fun w env' G' H' => ∀ v, WRep K Γ G' H' σ env' w v → New H w v → Q v H') (ap1 φ w e1)) : r v H1 Q := by
  unfold ap1 at q
  cases hd : (rd w e1).bind φ with
  | none => rw [hd] at q; exact q.elim
  | some w' =>
    rw [hd] at q
    cases hr : rd w e1 with
    | none => rw [hr] at hd; cases hd
    | some d =>
      rw [hr] at hd
      refine ro G1 H1 d v _ p1.en.hz p1.en.sub (rd_pk p1.en rw hr) ⟨w', hd, fun v2 G2 H2 gr wr => ?_⟩
      obtain ⟨wp, nn⟩ := wr.rep p1.en
      exact q _ _ (gr.post p1.en) _ wp (nn.back p1.kp.al)
theorem c1_read {K : PySem.W.Frag} {mg : Str → Option Value} {σ : St} {H : Hp} {r : List V → Hp → VK → Prop} {φ : D → Option W} (ro : C1Ok K r φ) {Q : VK} (h : tD K mg Wx (c1F φ fa) σ H Q) : tCB r (tCons (tD K mg Wx fa) tNil) σ H Q := by
  obtain ⟨Γ, G, env, en, h⟩ := h
  refine ⟨Γ, G, env, en, h.two.imp fun w e1 G1 H1 _ ⟨p1, q⟩ v rw n => ?_⟩
  exact ap1_read (r := fun x H Q => r [x] H Q) ro p1 rw (q.imp fun _ _ _ _ _ z => z.2)
theorem cn_read {K : PySem.W.Frag} {mg : Str → Option Value} {σ : St} {H : Hp} {r : List V → Hp → VK → Prop} {φ : List D → Option W} {f : Ev → R (List Ar)} (ro : CnOk K r φ) {Q : VK} (h : tD K mg Wx (cnF φ f) σ H Q) : tCB r (tDA K mg Wx f) σ H Q := by
  obtain ⟨Γ, G, env, en, h⟩ := h
  refine ⟨Γ, G, env, en, h.two.imp fun as e1 G1 H1 _ ⟨p1, q⟩ vs ra => ?_⟩
  cases hd : (vals as).bind φ with
  | none => rw [hd] at q; exact q.elim
  | some w' =>
    rw [hd] at q
    cases hr : vals as with
    | none => rw [hr] at hd; cases hd
    | some ds =>
      rw [hr] at hd
      refine ro G1 H1 ds vs _ p1.en.hz p1.en.sub (ra.vals hr) ⟨w', hd, fun v2 G2 H2 gr wr => ?_⟩
      obtain ⟨wp, nn⟩ := wr.rep p1.en
      exact (q _ _ (gr.post p1.en)).2 _ wp (nn.back p1.kp.al)
variable {x : Str} {p : Pos} {e : Expr} {es : List Expr} {id T : String}
theorem d_call1 {r : List V → Hp → VK → Prop} {φ : D → Option W} (hc : CallR X (.builtin id) r) (ro : C1Ok X.K r φ) (hg : Gl X x) (hm : X.mg x = none) (hv : bootBuiltins x = some (.builtin id)) (ha : DE X Wx e fa) (hn : x ≠ "__name__" := by decide) (hdb : (x == ("__debug__" : Str)) = false := by decide)
    (hs : starEach (e :: []) X.env = (false, eval e X.env) :: starEach [] X.env := by rfl) : DE X Wx (.Call (.Name x p) [e] [] pos) (c1F φ fa) :=
  pe_imp (pe_callB hc hg hm hv (pa_cons ha pa_nil hs) hn hdb hs rfl) fun σ H Q h => c1_read ro h
theorem d_callT1 {r : List V → Hp → VK → Prop} {φ : D → Option W} (hc : CallR X (.type T) r) (ro : C1Ok X.K r φ) (hg : Gl X x) (hm : X.mg x = none) (hv : bootBuiltins x = some (.type T)) (ha : DE X Wx e fa) (hn : x ≠ "__name__" := by decide) (hdb : (x == ("__debug__" : Str)) = false := by decide)
    (hs : starEach (e :: []) X.env = (false, eval e X.env) :: starEach [] X.env := by rfl) : DE X Wx (.Call (.Name x p) [e] [] pos) (c1F φ fa) :=
  pe_imp (pe_callTy hc hg hm hv (pa_cons ha pa_nil hs) hn hdb hs rfl) fun σ H Q h => c1_read ro h
theorem d_calln {r : List V → Hp → VK → Prop} {φ : List D → Option W} {f : Ev → R (List Ar)} (hc : CallR X (.builtin id) r) (ro : CnOk X.K r φ) (hg : Gl X x) (hm : X.mg x = none) (hv : bootBuiltins x = some (.builtin id)) (ha : DA X Wx (e :: es) f) (hn : x ≠ "__name__" := by decide) (hdb : (x == ("__debug__" : Str)) = false := by decide)
    (hs : starEach (e :: es) X.env = (false, eval e X.env) :: starEach es X.env := by rfl) (hpl : (backTo pos (starEach es X.env)).any (·.1) = false := by rfl) : DE X Wx (.Call (.Name x p) (e :: es) [] pos) (cnF φ f) :=
  pe_imp (pe_callB hc hg hm hv ha hn hdb hs hpl) fun σ H Q h => cn_read ro h
end
inductive Fl where
  | next | ret (w : W) | brk | cnt
def AftS (K : PySem.W.Frag) (mg : Str → Option Value) (Wx : WX) (Γ : Ct) (D : Ends) (G : Hp) : R Fl → Prop
  | .ok .next e => ∀ G' H' σ', Same G G' → En K Γ G' H' σ' e → D.nx σ' H'
  | .ok .brk e => ∀ G' H' σ', Same G G' → En K Γ G' H' σ' e → D.bk σ' H'
  | .ok .cnt e => ∀ G' H' σ', Same G G' → En K Γ G' H' σ' e → D.ct σ' H'
  | .ok (.ret w) e => ∀ G' H' σ' v, Same G G' → En K Γ G' H' σ' e → WRep K Γ G' H' σ' e w v → D.rt v H'
  | .exc x e => ∀ G' H' σ' cls d, Same G G' → En K Γ G' H' σ' e → XRep mg K G' x cls d H' → Wx cls d σ' H'
  | .bad => False
def tDS (K : PySem.W.Frag) (mg : Str → Option Value) (Wx : WX) (g : Ev → R Fl) : TS := fun D σ H => ∃ Γ G env, En K Γ G H σ env ∧ AftS K mg Wx Γ D G (g env)
def DS (X : Cx) (Wx : WX) (s : Stmt) (g : Ev → R Fl) : Prop := PS X s (tDS X.K X.mg Wx g)
def DSs (X : Cx) (Wx : WX) (s : List Stmt) (g : Ev → R Fl) : Prop := PSs X s (tDS X.K X.mg Wx g)

section
variable {K : PySem.W.Frag} {mg : Str → Option Value} {Wx : WX} {Γ : Ct} {σ : St} {env : Ev} {G H : Hp} {D : Ends}
theorem AftS.mono {G1 : Hp} (s : Same G G1) {r : R Fl} (h : AftS K mg Wx Γ D G r) : AftS K mg Wx Γ D G1 r := by
  cases r with
  | ok f e => cases f with
    | next => exact fun G' H' σ' q => h G' H' σ' (s.trans q)
    | brk => exact fun G' H' σ' q => h G' H' σ' (s.trans q)
    | cnt => exact fun G' H' σ' q => h G' H' σ' (s.trans q)
    | ret w => exact fun G' H' σ' v q => h G' H' σ' v (s.trans q)
  | exc x e => exact fun G' H' σ' c d q => h G' H' σ' c d (s.trans q)
  | bad => exact h
/-- an expression, then what a statement does with its value -/
theorem Aft.stmt {α : Type} {r : R α} {k : α → Ev → R Fl} (h : AftS K mg Wx Γ D G (r.bind k)) : Aft K mg Wx Γ σ env G H (fun a e1 G1 H1 => Post K Γ σ env G H e1 G1 H1 ∧ AftS K mg Wx Γ D G1 (k a e1)) r := by
  cases r with
  | ok a e => exact fun G1 H1 p => ⟨p, h.mono p.kp.gg⟩
  | exc x e => exact fun G1 H1 cls d p xr => h G1 H1 σ cls d p.kp.gg p.en xr
  | bad => exact h
end

/-! ### slots are set -/
def okSl : Sl → Bool
  | .own true _ => false
  | .bval _ => false
  | _ => true
def setSl (i : Nat) (w : W) (e : Ev) : Option Ev := match e[i]? with
  | none => none
  | some s => if okSl s then (match w with
    | .val d => some (e.set i (.val d))
    | .own o => some (e.set i (.own false o))
    | .loc j => (frz j e).map fun p => p.2.set i (.val p.1)) else none
section
variable {K : PySem.W.Frag} {mg : Str → Option Value} {Wx : WX} {Γ : Ct} {σ : St} {env : Ev} {G H : Hp} {D : Ends}
theorem En.put (en : En K Γ G H σ env) {i : Nat} {s0 s : Sl} {ov : Option V} (h0 : env[i]? = some s0) (k0 : okSl s0 = true) (k : okSl s = true) (ok : SlOk K Γ G H i (some ov) s)
    (dis : ∀ b o a, s = .own b o → ov = some (.ref a) → ¬ Owned σ env a) : En K Γ G H (σ.set i ov) (env.set i s) := by
  have hi : i < env.length := (List.getElem?_eq_some_iff.mp h0).1
  have hi' : i < σ.length := by rw [← en.len]; exact hi
  have σs : (σ.set i ov)[i]? = some ov := List.getElem?_set_self hi'
  have σn : ∀ {j : Nat}, j ≠ i → (σ.set i ov)[j]? = σ[j]? := fun {j} n => List.getElem?_set_ne n.symm
  refine ⟨en.sub, en.g0, en.nw, en.fr, en.bh, by rw [List.length_set, List.length_set]; exact en.len, fun j t e => ?_, fun p hp => ?_, fun j j' b b' o o' a e1 e2 e3 e4 => ?_, en.hz⟩
  · rcases set_get e with ⟨rfl, rfl⟩ | ⟨n, e⟩
    · rw [σs]; exact ok
    · rw [σn n]; exact en.sl j t e
  · have n : p.1 ≠ i := fun z => by
      rcases en.bo p hp with ⟨o, e⟩ | ⟨d, e⟩
      · rw [z, h0] at e; cases e; cases k0
      · rw [z, h0] at e; cases e; cases k0
    rw [List.getElem?_set_ne n.symm]
    exact en.bo p hp
  · rcases set_get e1 with ⟨y1, z1⟩ | ⟨n1, f1⟩
    · rcases set_get e2 with ⟨y2, z2⟩ | ⟨n2, f2⟩
      · exact y1.trans y2.symm
      · rw [y1, σs] at e3; rw [σn n2] at e4
        exact absurd ⟨j', b', o', f2, e4⟩ (dis b o a z1.symm (Option.some.inj e3))
    · rcases set_get e2 with ⟨y2, z2⟩ | ⟨n2, f2⟩
      · rw [y2, σs] at e4; rw [σn n1] at e3
        exact absurd ⟨j, b, o, f1, e3⟩ (dis b' o' a z2.symm (Option.some.inj e4))
      · rw [σn n1] at e3; rw [σn n2] at e4
        exact en.dis j j' b b' o o' a f1 f2 e3 e4
theorem set_ok (en : En K Γ G H σ env) {i : Nat} {w : W} {v : V} {env' : Ev} (r : WRep K Γ G H σ env w v) (h : setSl i w env = some env') : ∃ G', Same G G' ∧ En K Γ G' H (σ.set i (some v)) env' := by
  unfold setSl at h
  cases h0 : env[i]? with
  | none => rw [h0] at h; cases h
  | some s =>
    rw [h0] at h
    have hk : okSl s = true := by
      cases q : okSl s with
      | true => rfl
      | false => simp [q] at h
    simp only [hk, if_true] at h
    cases w with
    | val d =>
      cases h
      exact ⟨G, Same.refl _, en.put h0 hk rfl ⟨v, rfl, r⟩ fun b o a z => nomatch z⟩
    | own o =>
      cases h
      obtain ⟨a, rfl, g, ow, z, no⟩ := r
      exact ⟨G, Same.refl _, en.put h0 hk rfl ⟨a, rfl, g, ow, fun _ => z, fun z => nomatch z⟩ fun b o' a' e1 e2 => by cases e2; exact no⟩
    | loc j =>
      cases hf : frz j env with
      | none => simp [hf] at h
      | some p =>
        obtain ⟨d, e1⟩ := p
        simp only [hf, Option.map_some, Option.some.injEq] at h
        subst h
        obtain ⟨hv, _⟩ := r
        obtain ⟨G', p', rp⟩ := frz_ok en hv hf
        obtain ⟨s', q, ve⟩ := p'.le.fwd h0
        have hk' : okSl s' = true := by
          cases ve with
          | refl => exact hk
          | own b o o' => cases b with
            | true => cases hk
            | false => rfl
          | fz => rfl
          | bfz => cases hk
        exact ⟨G', p'.kp.gg, p'.en.put q hk' rfl ⟨v, rfl, rp⟩ fun b o a z => nomatch z⟩
end

/-! ### small statements -/
section
variable {X : Cx} {Wx : WX} {pos : Pos} {e : Expr} {st : Stmt} {rest : List Stmt}
def sNext : Ev → R Fl := fun e => .ok .next e
def sSeq (f g : Ev → R Fl) : Ev → R Fl := fun e => match f e with
  | .ok .next e1 => g e1
  | r => r
theorem ss_nil : DSs X Wx [] sNext := pss_imp pss_nil fun D σ H h => by
  obtain ⟨Γ, G, env, en, h⟩ := h
  exact h G H σ (Same.refl _) en
theorem seq_read {K : PySem.W.Frag} {mg : Str → Option Value} {f g : Ev → R Fl} {D : Ends} {σ : St} {H : Hp} (h : tDS K mg Wx (sSeq f g) D σ H) : tSeq (tDS K mg Wx f) (tDS K mg Wx g) D σ H := by
  obtain ⟨Γ, G, env, en, h⟩ := h
  refine ⟨Γ, G, env, en, ?_⟩
  unfold sSeq at h
  cases hf : f env with
  | bad => rw [hf] at h; exact h
  | exc x e => rw [hf] at h; exact h
  | ok w e1 =>
    rw [hf] at h
    cases w with
    | next => exact fun G' H' σ' s en' => ⟨Γ, G', e1, en', h.mono s⟩
    | brk => exact h
    | cnt => exact h
    | ret w => exact h
theorem ss_cons {f g : Ev → R Fl} (h1 : DS X Wx st f) (h2 : DSs X Wx rest g) : DSs X Wx (st :: rest) (sSeq f g) := pss_imp (pss_cons h1 h2) fun D σ H h => seq_read h
theorem ss_one {f : Ev → R Fl} (h1 : DS X Wx st f) : DSs X Wx [st] f := pss_one h1
theorem ds_pass : DS X Wx (.Pass pos) sNext := ps_imp ps_pass fun D σ H ⟨Γ, G, env, en, h⟩ => h G H σ (Same.refl _) en
def sBrk : Ev → R Fl := fun e => .ok .brk e
def sCnt : Ev → R Fl := fun e => .ok .cnt e
theorem ds_brk : DS X Wx (.Break pos) sBrk := ps_imp ps_break fun D σ H ⟨Γ, G, env, en, h⟩ => h G H σ (Same.refl _) en
theorem ds_cnt : DS X Wx (.Continue pos) sCnt := ps_imp ps_continue fun D σ H ⟨Γ, G, env, en, h⟩ => h G H σ (Same.refl _) en
theorem ds_doc {x : Str} {j pos'} : DS X Wx (.Expr (.Constant (.str x) j pos) pos') sNext := ps_imp ps_doc fun D σ H ⟨Γ, G, env, en, h⟩ => h G H σ (Same.refl _) en
def sExpr (f : Ev → R W) : Ev → R Fl := fun e => (f e).bind fun _ e1 => .ok .next e1
theorem ds_expr {f : Ev → R W} (he : DE X Wx e f) (hs : swapsWith e none pos.line X.env = pure false := by rfl) : DS X Wx (.Expr e pos) (sExpr f) := ps_imp (ps_expr he hs) fun D σ H ⟨Γ, G, env, en, h⟩ =>
  ⟨Γ, G, env, en, (Aft.stmt h).imp fun w e1 G1 H1 _ ⟨p, q⟩ v r n => q G1 H1 σ (Same.refl _) p.en⟩
def sRet (f : Ev → R W) : Ev → R Fl := fun e => (f e).bind fun w e1 => .ok (.ret w) e1
theorem ds_ret {f : Ev → R W} (he : DE X Wx e f) : DS X Wx (.Return (some e) pos) (sRet f) := ps_imp (ps_ret he) fun D σ H ⟨Γ, G, env, en, h⟩ =>
  ⟨Γ, G, env, en, (Aft.stmt h).imp fun w e1 G1 H1 _ ⟨p, q⟩ v r n => q G1 H1 σ v (Same.refl _) p.en r⟩
def sRetN : Ev → R Fl := fun e => .ok (.ret (.val .non)) e
theorem ds_retN : DS X Wx (.Return none pos) sRetN := ps_imp ps_retN fun D σ H ⟨Γ, G, env, en, h⟩ => h G H σ .non (Same.refl _) en rfl
def sIf (t : Ev → R Bool) (f g : Ev → R Fl) : Ev → R Fl := fun e => (t e).bind fun b e1 => if b = true then f e1 else g e1
theorem ds_if {c : Expr} {a b : List Stmt} {t : Ev → R Bool} {f g : Ev → R Fl} (hc : DT X Wx c t) (ha : DSs X Wx a f) (hb : DSs X Wx b g) : DS X Wx (.If c a b pos) (sIf t f g) := ps_imp (ps_if hc ha hb) fun D σ H ⟨Γ, G, env, en, h⟩ =>
  ⟨Γ, G, env, en, (Aft.stmt h).imp fun k e1 G1 H1 _ ⟨p, q⟩ => by
    cases k with
    | true => rw [if_pos rfl] at q ⊢; exact ⟨Γ, G1, e1, p.en, q⟩
    | false => rw [if_neg Bool.false_ne_true] at q ⊢; exact ⟨Γ, G1, e1, p.en, q⟩⟩
def sSet (i : Nat) (f : Ev → R W) : Ev → R Fl := fun e => (f e).bind fun w e1 => match setSl i w e1 with
  | some e2 => .ok .next e2
  | none => .bad
theorem ds_set {i : Nat} {x : Str} {pos' : Pos} {f : Ev → R W} (hN : X.N.Nodup) (he : DE X Wx e f) (hi : X.N[i]? = some x := by rfl) (hx : Loc X.env.scope x := by first | exact Or.inl rfl | exact Or.inr rfl) (hs : swapsWith e (some (.Name x pos')) pos.line X.env = pure false := by rfl)
    (hf : X.fn x = true ∨ X.env.scope.names.lookup x = some .local := by first | exact .inl rfl | exact .inr rfl | assumption) : DS X Wx (.Assign [.Name x pos'] e pos) (sSet i f) := ps_imp (ps_set hN hi hx he hs hf) fun D σ H ⟨Γ, G, env, en, h⟩ =>
  ⟨Γ, G, env, en, (Aft.stmt h).imp fun w e1 G1 H1 _ ⟨p, q⟩ v r n => by
    cases hq : setSl i w e1 with
    | none => rw [hq] at q; exact q.elim
    | some e2 =>
      rw [hq] at q
      obtain ⟨G2, s2, en2⟩ := set_ok p.en r hq
      exact q G2 H1 _ s2 en2⟩
/-- x op= e, by values -/
def sAug (i : Nat) (φ : D → D → Option W) (f : Ev → R W) : Ev → R Fl := fun e => (eV i e).bind fun w1 e1 => (f e1).bind fun w2 e2 => (ap2 φ w1 w2 e2).bind fun w3 e3 => match setSl i w3 e3 with
  | some e4 => .ok .next e4
  | none => .bad
theorem ds_aug {i : Nat} {x : Str} {op : Operator} {r : R2} {φ : D → D → Option W} {pos' : Pos} {f : Ev → R W} (ho : PIp X op r) (ro : OpOk X.K r φ) (hN : X.N.Nodup) (he : DE X Wx e f) (hi : X.N[i]? = some x := by rfl) (hx : Loc X.env.scope x := by first | exact Or.inl rfl | exact Or.inr rfl)
    (hf : X.fn x = true ∨ X.env.scope.names.lookup x = some .local := by first | exact .inl rfl | exact .inr rfl | assumption) : DS X Wx (.AugAssign (.Name x pos') op e pos) (sAug i φ f) := ps_imp (ps_aug hN hi hx he ho hf) fun D σ H ⟨Γ, G, env, en, h⟩ => by
  have h : AftS X.K X.mg Wx Γ D G ((eV i env).bind _) := h
  unfold eV at h
  have go : ∀ (w : W) (v : V), σ[i]? = some (some v) → WRep X.K Γ G H σ env w v → AftS X.K X.mg Wx Γ D G ((f env).bind fun w2 e2 => (ap2 φ w w2 e2).bind fun w3 e3 => match setSl i w3 e3 with
      | some e4 => R.ok .next e4
      | none => .bad) → tAug i (tD X.K X.mg Wx f) r D σ H := fun w v hv wr h => by
    refine ⟨v, hv, Γ, G, env, en, (Aft.stmt h).imp fun w2 e2 G2 H2 _ ⟨p2, q2⟩ v2 r2 n2 => ?_⟩
    have nb : ap2 φ w w2 e2 ≠ .bad := fun z => by rw [z] at q2; exact q2
    obtain ⟨a, b, w3, ra, rb, rw', e⟩ := ap2_some (e := e2) rfl nb
    rw [e] at q2
    refine ro G2 H2 a b v v2 _ p2.en.hz p2.en.sub (rd_pk p2.en (wr.mono p2) ra) (rd_pk p2.en r2 rb) ⟨w3, rw', fun v3 G3 H3 gr wr3 => ?_⟩
    have p3 := gr.post p2.en
    obtain ⟨wp, nn⟩ := wr3.rep p2.en
    have q3 : AftS X.K X.mg Wx Γ D G2 (match setSl i w3 e2 with
      | some e4 => R.ok .next e4
      | none => .bad) := q2
    cases hq : setSl i w3 e2 with
    | none => rw [hq] at q3; exact q3.elim
    | some e4 =>
      rw [hq] at q3
      obtain ⟨G4, s4, en4⟩ := set_ok p3.en wp hq
      exact q3 G4 H3 _ (p3.kp.gg.trans s4) en4
  cases hs : env[i]? with
  | none => rw [hs] at h; exact h.elim
  | some s =>
    rw [hs] at h
    have q := en.sl i s hs
    cases s with
    | no => exact h.elim
    | val d => obtain ⟨v, e, r⟩ := q; exact go (.val d) v e r h
    | bval d => obtain ⟨a, e, r, _⟩ := q; exact go (.val d) _ e r h
    | own b o => obtain ⟨a, e, _⟩ := q; exact go (.loc i) _ e ⟨e, _, hs, fun z => nomatch z⟩ h
end

/-! ### targets -/
def tDG (K : PySem.W.Frag) (g : D → Ev → Option Ev) (ts : List Nat) : TG := fun v σ H Q => ∃ Γ G env d env', En K Γ G H σ env ∧ Rep K G d v ∧ g d env = some env' ∧
  ∀ σ', En K Γ G H σ' env' → σ'.length = σ.length → (∀ i : Nat, i ∉ ts → σ'[i]? = σ[i]?) → Q σ' H
def tDGs (K : PySem.W.Frag) (g : List D → Ev → Option Ev) (ts : List Nat) : TGs := fun vs σ H Q => ∃ Γ G env ds env', En K Γ G H σ env ∧ RepL K G ds vs ∧ g ds env = some env' ∧
  ∀ σ', En K Γ G H σ' env' → σ'.length = σ.length → (∀ i : Nat, i ∉ ts → σ'[i]? = σ[i]?) → Q σ' H
def GOk {α : Type} (g : α → Ev → Option Ev) (ts : List Nat) : Prop := ∀ d e e', g d e = some e' → e'.length = e.length ∧ ∀ (i : Nat) (s : Sl), e'[i]? = some s → (i ∉ ts ∧ e[i]? = some s) ∨ (i ∈ ts ∧ ∃ d', s = .val d')
structure DG (X : Cx) (tg : Expr) (g : D → Ev → Option Ev) (ts : List Nat) : Prop where
  pg : PG X tg (tDG X.K g ts)
  ok : GOk g ts
structure DGs (X : Cx) (tg : List Expr) (g : List D → Ev → Option Ev) (ts : List Nat) : Prop where
  pg : PGs X tg (tDGs X.K g ts)
  ok : GOk g ts
theorem pg_imp {X : Cx} {e : Expr} {t t' : TG} (h : PG X e t) (i : ∀ v σ H Q, t' v σ H Q → t v σ H Q) : PG X e t' := ⟨fun pins s σ H v u Q I r q => h.run pins s σ H v u Q I r (i v σ H Q q)⟩
theorem pgs_imp {X : Cx} {e : List Expr} {t t' : TGs} (h : PGs X e t) (i : ∀ v σ H Q, t' v σ H Q → t v σ H Q) : PGs X e t' := ⟨fun pins s σ H v u Q I r q => h.run pins s σ H v u Q I r (i v σ H Q q)⟩
section
variable {X : Cx} {pos : Pos}
def gN (i : Nat) : D → Ev → Option Ev := fun d e => setSl i (.val d) e
theorem gN_ok (i : Nat) : GOk (gN i) [i] := fun d e e' h => by
  unfold gN setSl at h
  cases h0 : e[i]? with
  | none => rw [h0] at h; cases h
  | some s =>
    rw [h0] at h
    cases hk : okSl s with
    | false => simp [hk] at h
    | true =>
      simp only [hk, if_true] at h
      cases h
      refine ⟨List.length_set, fun j t q => ?_⟩
      rcases set_get q with ⟨rfl, rfl⟩ | ⟨n, q⟩
      · exact .inr ⟨List.mem_singleton.mpr rfl, _, rfl⟩
      · exact .inl ⟨fun z => n (List.mem_singleton.mp z), q⟩
theorem dg_name (i : Nat) {x : Str} (hN : X.N.Nodup) (hi : X.N[i]? = some x := by rfl) (hx : Loc X.env.scope x := by first | exact Or.inl rfl | exact Or.inr rfl) (hf : X.fn x = true ∨ X.env.scope.names.lookup x = some .local := by first | exact .inl rfl | exact .inr rfl | assumption) :
    DG X (.Name x pos) (gN i) [i] := ⟨pg_imp (pg_name hN hi hx hf) (fun v σ H Q h => by
  obtain ⟨Γ, G, env, d, env', en, r, hg, q⟩ := h
  unfold gN setSl at hg
  cases h0 : env[i]? with
  | none => rw [h0] at hg; cases hg
  | some s =>
    rw [h0] at hg
    cases hk : okSl s with
    | false => simp [hk] at hg
    | true =>
      simp only [hk, if_true] at hg
      cases hg
      refine q _ (en.put h0 hk rfl ⟨v, rfl, r⟩ fun b o a z => nomatch z) List.length_set fun j hj => ?_
      exact List.getElem?_set_ne fun z => hj (List.mem_singleton.mpr z.symm)), gN_ok i⟩
def gs0 : List D → Ev → Option Ev := fun ds e => if ds.isEmpty then some e else none
def gsC (g : D → Ev → Option Ev) (gs : List D → Ev → Option Ev) : List D → Ev → Option Ev := fun ds e => match ds with
  | [] => none
  | d :: r => (g d e).bind fun e1 => gs r e1
theorem dgs_nil : DGs X [] gs0 [] := ⟨pgs_imp pgs_nil (fun vs σ H Q h => by
  obtain ⟨Γ, G, env, ds, env', en, r, hg, q⟩ := h
  unfold gs0 at hg
  cases ds with
  | nil =>
    cases hg
    exact ⟨r, q σ en rfl fun _ _ => rfl⟩
  | cons d ds => cases hg), fun ds e e' h => by
  unfold gs0 at h
  cases ds with
  | nil => cases h; exact ⟨rfl, fun i s q => .inl ⟨(fun z => nomatch z), q⟩⟩
  | cons d ds => cases h⟩
theorem dgs_cons {e : Expr} {es : List Expr} {g : D → Ev → Option Ev} {gs : List D → Ev → Option Ev} {ts us : List Nat} (h1 : DG X e g ts) (h2 : DGs X es gs us)
    (hs : (assignEach (e :: es) X.env).map (·.2) = assign e X.env :: (assignEach es X.env).map (·.2) := by rfl) : DGs X (e :: es) (gsC g gs) (ts ++ us) := ⟨pgs_imp (pgs_cons h1.pg h2.pg hs) (fun vs σ H Q h => by
  obtain ⟨Γ, G, env, ds, env', en, r, hg, q⟩ := h
  cases ds with
  | nil => cases hg
  | cons d ds =>
    obtain ⟨v, vr, rfl, r1, r2⟩ := r
    have hg : (g d env).bind (fun e1 => gs ds e1) = some env' := hg
    cases h3 : g d env with
    | none => rw [h3] at hg; cases hg
    | some e1 =>
      rw [h3] at hg
      refine ⟨v, vr, rfl, Γ, G, env, d, e1, en, r1, h3, fun σ1 en1 l1 f1 => ⟨Γ, G, e1, ds, env', en1, r2, hg, fun σ2 en2 l2 f2 => ?_⟩⟩
      exact q σ2 en2 (l2.trans l1) fun i hi => (f2 i fun z => hi (List.mem_append_right _ z)).trans (f1 i fun z => hi (List.mem_append_left _ z))),
  fun ds e0 e' h => by
  cases ds with
  | nil => cases h
  | cons d ds =>
    have h : (g d e0).bind (fun e1 => gs ds e1) = some e' := h
    cases h3 : g d e0 with
    | none => rw [h3] at h; cases h
    | some e1 =>
      rw [h3] at h
      obtain ⟨l1, f1⟩ := h1.ok d e0 e1 h3
      obtain ⟨l2, f2⟩ := h2.ok ds e1 e' h
      refine ⟨l2.trans l1, fun i s q => ?_⟩
      rcases f2 i s q with ⟨n2, q2⟩ | ⟨m2, d2⟩
      · rcases f1 i s q2 with ⟨n1, q1⟩ | ⟨m1, d1⟩
        · exact .inl ⟨fun z => (List.mem_append.mp z).elim n1 n2, q1⟩
        · exact .inr ⟨List.mem_append_left _ m1, d1⟩
      · exact .inr ⟨List.mem_append_right _ m2, d2⟩⟩
def gT (n : Nat) (gs : List D → Ev → Option Ev) : D → Ev → Option Ev := fun d e => match d with
  | .tup ds => if ds.length = n then gs ds e else none
  | _ => none
theorem dg_tup {es : List Expr} {k : Nat} {gs : List D → Ev → Option Ev} {ts : List Nat} {n : Nat} (hc : X.calm = true) (h : DGs X es gs ts)
    (hn : (assignEach es X.env).length = n := by rfl) (hst : (assignEach es X.env).findIdx? (·.1) = none := by rfl) : DG X (.Tuple es k pos) (gT n gs) ts := ⟨pg_imp (pg_tup hc h.pg hn hst) (fun v σ H Q q => by
  obtain ⟨Γ, G, env, d, env', en, r, hg, q⟩ := q
  cases d with
  | tup ds =>
    obtain ⟨a, vs, rfl, hq, rl⟩ := r
    have hg : (if ds.length = n then gs ds env else none) = some env' := hg
    by_cases hl : ds.length = n
    · rw [if_pos hl] at hg
      exact ⟨a, vs, rfl, Same.tup en.sub hq, by rw [← rl.length]; exact hl, Γ, G, env, ds, env', en, rl, hg, q⟩
    · rw [if_neg hl] at hg; cases hg
  | _ => cases hg), fun d e e' hg => by
  cases d with
  | tup ds =>
    have hg : (if ds.length = n then gs ds e else none) = some e' := hg
    by_cases hl : ds.length = n
    · rw [if_pos hl] at hg; exact h.ok ds e e' hg
    · rw [if_neg hl] at hg; cases hg
  | _ => cases hg⟩
end
section
variable {X : Cx} {Wx : WX} {pos : Pos} {e tg : Expr}
def sTgt (g : D → Ev → Option Ev) (f : Ev → R D) : Ev → R Fl := fun e => (f e).bind fun d e1 => match g d e1 with
  | some e2 => .ok .next e2
  | none => .bad
theorem ds_tgt {f : Ev → R D} {g : D → Ev → Option Ev} {ts : List Nat} (he : DV X Wx e f) (hg : DG X tg g ts) (hs : swapsWithSole [tg] e pos.line X.env = pure false := by rfl) (hw : swappedStores [tg] e X.env = pure none := by rfl)
    (h1 : (assignEach [tg] X.env).map (·.2) = [assign tg X.env] := by rfl) : DS X Wx (.Assign [tg] e pos) (sTgt g f) := ps_imp (ps_asg he hg.pg hs hw h1) fun D σ H ⟨Γ, G, env, en, h⟩ =>
  ⟨Γ, G, env, en, (Aft.stmt h).imp fun d e1 G1 H1 _ ⟨p, q⟩ v r => by
    cases hq : g d e1 with
    | none => rw [hq] at q; exact q.elim
    | some e2 =>
      rw [hq] at q
      exact ⟨Γ, G1, e1, d, e2, p.en, r, hq, fun σ' en' _ _ => q G1 H1 σ' (Same.refl _) en'⟩⟩
end

/-! ### walks -/
structure Yields (K : PySem.W.Frag) (J : It) (G1 : Hp) (ds : List D) : Prop where
  len : ds.length ≤ sizeLine
  go : ∀ (i : Nat) (d : D) (G H : Hp), Same G1 G → Same G H → HpOk K H → ds[i]? = some d → J.go i H ∧ ∀ x H', J.yld i H x H' → ∃ G', Grow K G H G' H' ∧ Rep K G' d x
  stop : ∀ (i : Nat) (G H : Hp), Same G1 G → Same G H → ds.length ≤ i → J.stop i H
theorem Yields.mono {K : PySem.W.Frag} {J : It} {G1 G2 : Hp} {ds : List D} (y : Yields K J G1 ds) (s : Same G1 G2) : Yields K J G2 ds := ⟨y.len, fun i d G H h => y.go i d G H (s.trans h), fun i G H h => y.stop i G H (s.trans h)⟩
def tDI (K : PySem.W.Frag) (mg : Str → Option Value) (Wx : WX) (f : Ev → R (List D)) : TI := fun σ H R => ∃ Γ G env, En K Γ G H σ env ∧
  Aft K mg Wx Γ σ env G H (fun ds _ G' H' => ∀ J, Yields K J G' ds → R J H') (f env)
def DI (X : Cx) (Wx : WX) (tg iter : Expr) (f : Ev → R (List D)) : Prop := PI X tg iter (tDI X.K X.mg Wx f)
theorem pi_imp {X : Cx} {tg e : Expr} {t t' : TI} (h : PI X tg e t) (i : ∀ σ H Q, t' σ H Q → t σ H Q) : PI X tg e t' := ⟨fun pins s σ H Q I q => h.run pins s σ H Q I (i σ H Q q)⟩

def forL (k : D → Ev → R Fl) : List D → Ev → R Fl
  | [], e => .ok .next e
  | d :: r, e => match k d e with
    | .ok .next e1 => forL k r e1
    | .ok .cnt e1 => forL k r e1
    | .ok .brk e1 => .ok .next e1
    | x => x
def turnF (g : D → Ev → Option Ev) (b : Ev → R Fl) : D → Ev → R Fl := fun d e => match g d e with
  | some e1 => b e1
  | none => .bad
def sFor (f : Ev → R (List D)) (g : D → Ev → Option Ev) (b : Ev → R Fl) : Ev → R Fl := fun e => (f e).bind fun ds e1 => forL (turnF g b) ds e1
section
variable {X : Cx} {Wx : WX} {pos : Pos} {iter tg : Expr}
theorem ds_for {body : List Stmt} {f : Ev → R (List D)} {g : D → Ev → Option Ev} {ts : List Nat} {b : Ev → R Fl} (hp : PassesOwn (model X.prog X.w) X.A X.env X.xe) (hc : X.calm = true) (hi : DI X Wx tg iter f) (hg : DG X tg g ts) (hb : DSs X Wx body b)
    (hs : ∀ x, foldedSetIterable iter X.env x = pure x := by intro _; rfl) : DS X Wx (.For tg iter body [] pos) (sFor f g b) := ps_imp (ps_for hp hc hi hg.pg hb hs) fun D σ H ⟨Γ, G, env, en, h⟩ =>
  ⟨Γ, G, env, en, (Aft.stmt h).imp fun ds e1 G1 H1 _ ⟨p, q⟩ J y => by
    refine ⟨fun i m σ H => ∃ G2 env2, Same G1 G2 ∧ En X.K Γ G2 H σ env2 ∧ m = ds.length - i ∧ i ≤ ds.length ∧ AftS X.K X.mg Wx Γ D G2 (forL (turnF g b) (ds.drop i) env2),
      ⟨_, G1, e1, Same.refl _, p.en, rfl, Nat.zero_le _, q⟩, ?_⟩
    rintro i m σ2 H2 ⟨G2, env2, s2, en2, rfl, hi2, q2⟩
    by_cases hlt : i < ds.length
    · have hd : ds[i]? = some ds[i] := List.getElem?_eq_getElem hlt
      rw [List.drop_eq_getElem_cons hlt] at q2
      obtain ⟨go, yl⟩ := y.go i ds[i] G2 H2 s2 en2.sub en2.hz hd
      refine .inr ⟨go, fun σ' H' => ∃ G3 env3, Same G1 G3 ∧ En X.K Γ G3 H' σ' env3 ∧ AftS X.K X.mg Wx Γ D G3 (forL (turnF g b) (ds.drop (i + 1)) env3), fun σ' H' hN => ?_, fun x H' hy => ?_⟩
      · obtain ⟨G3, env3, s3, en3, q3⟩ := hN
        exact ⟨ds.length - (i + 1), by omega, G3, env3, s3, en3, rfl, hlt, q3⟩
      · obtain ⟨G3, gr, rp⟩ := yl x H' hy
        have p3 := gr.post en2
        unfold forL turnF at q2
        cases hg3 : g ds[i] env2 with
        | none => simp only [hg3] at q2; exact q2.elim
        | some e3 =>
          simp only [hg3] at q2
          refine ⟨Γ, G3, env2, ds[i], e3, p3.en, rp, hg3, fun σ4 en4 _ _ => ⟨Γ, G3, e3, en4, ?_⟩⟩
          cases hb3 : b e3 with
          | bad => rw [hb3] at q2; exact q2
          | exc x e => rw [hb3] at q2; exact q2.mono gr.gg
          | ok fl e =>
            rw [hb3] at q2
            cases fl with
            | next => exact fun G' H' σ' s' en' => ⟨G', e, (s2.trans gr.gg).trans s', en', q2.mono (gr.gg.trans s')⟩
            | cnt => exact fun G' H' σ' s' en' => ⟨G', e, (s2.trans gr.gg).trans s', en', q2.mono (gr.gg.trans s')⟩
            | brk => exact fun G' H' σ' s' en' => q2 G' H' σ' (gr.gg.trans s') en'
            | ret w => exact q2.mono gr.gg
    · refine .inl ⟨y.stop i G2 H2 s2 en2.sub (Nat.le_of_not_lt hlt), ?_⟩
      rw [List.drop_eq_nil_of_le (Nat.le_of_not_lt hlt)] at q2
      exact q2 G2 H2 σ2 (Same.refl _) en2⟩

def whileL (t : Ev → R Bool) (b : Ev → R Fl) : Nat → Ev → R Fl
  | 0, _ => .bad
  | n + 1, e => (t e).bind fun k e1 => if k = true then (match b e1 with
    | .ok .next e2 => whileL t b n e2
    | .ok .cnt e2 => whileL t b n e2
    | .ok .brk e2 => .ok .next e2
    | x => x) else .ok .next e1
def sWhile (fu : Ev → Nat) (t : Ev → R Bool) (b : Ev → R Fl) : Ev → R Fl := fun e => whileL t b (fu e) e
theorem ds_while {c : Expr} {body : List Stmt} {t : Ev → R Bool} {b : Ev → R Fl} (fu : Ev → Nat) (hp : PassesOwn (model X.prog X.w) X.A X.env X.xe) (hc : DT X Wx c t) (hb : DSs X Wx body b) : DS X Wx (.While c body [] pos) (sWhile fu t b) := ps_imp (ps_while hp hc hb) fun D σ H ⟨Γ, G, env, en, h⟩ => by
  refine ⟨fun m σ H => ∃ G2 env2, En X.K Γ G2 H σ env2 ∧ AftS X.K X.mg Wx Γ D G2 (whileL t b m env2), ⟨_, G, env, en, h⟩, ?_⟩
  rintro m σ2 H2 ⟨G2, env2, en2, q2⟩
  cases m with
  | zero => exact q2.elim
  | succ m =>
    refine ⟨Γ, G2, env2, en2, (Aft.stmt q2).imp fun k e3 G3 H3 _ ⟨p3, q3⟩ => ?_⟩
    cases k with
    | false =>
      rw [if_neg Bool.false_ne_true] at q3 ⊢
      exact q3 G3 H3 σ2 (Same.refl _) p3.en
    | true =>
      rw [if_pos rfl] at q3 ⊢
      refine ⟨fun σ' H' => ∃ G4 env4, En X.K Γ G4 H' σ' env4 ∧ AftS X.K X.mg Wx Γ D G4 (whileL t b m env4), fun σ' H' hN => ⟨m, Nat.lt_succ_self m, hN⟩, Γ, G3, e3, p3.en, ?_⟩
      cases hb3 : b e3 with
      | bad => rw [hb3] at q3; exact q3
      | exc x e => rw [hb3] at q3; exact q3
      | ok fl e =>
        rw [hb3] at q3
        cases fl with
        | next => exact fun G' H' σ' s' en' => ⟨G', e, en', q3.mono s'⟩
        | cnt => exact fun G' H' σ' s' en' => ⟨G', e, en', q3.mono s'⟩
        | brk => exact fun G' H' σ' s' en' => q3 G' H' σ' s' en'
        | ret w => exact q3
end
/-! ### what a def promises: a plain function of its slots -/
structure RoomD (k : Nat) (A : Around) : Prop where
  room : Room k A
  gd : A.guards = some []
theorem RoomD.mono {j k : Nat} {A : Around} (r : RoomD k A) (h : j ≤ k) : RoomD j A := ⟨r.room.mono h, r.gd⟩
theorem guards_deeper (A : Around) (env : Env) : (A.deeper env).guards = A.guards := rfl
theorem RoomD.deeper {k : Nat} {A : Around} (r : RoomD (k + 1) A) (env : Env) : RoomD k (A.deeper env) := ⟨r.room.deeper env, (guards_deeper A env).trans r.gd⟩

structure FPost (K : PySem.W.Frag) (Γ : Ct) (G' H' : Hp) (e : Ev) : Prop where
  sub : Same G' H'
  gg : Same Γ.G0 G'
  nw : ∀ a o, G' a = some o → Γ.G0 a = some o ∨ Γ.H0 a = none ∨ a ∈ Γ.bs
  fr : ∀ a o, Γ.H0 a = some o → a ∉ Γ.bs → H' a = some o
  bh : ∀ a ∈ Γ.bs, H' a ≠ none
  hz : HpOk K H'
  sl : ∀ p ∈ Γ.bor, ∃ s, e[p.1]? = some s ∧ SlOk K Γ G' H' p.1 (some (some (.ref p.2))) s ∧ okSl s = false
def spD (K : PySem.W.Frag) (mg : Str → Option Value) (n : Nat) (den : Ev → R W) : Sp := fun vs H Q E => ∃ (Γ : Ct) (args : Ev), Γ.H0 = H ∧ En K Γ Γ.G0 H (vs.map some) args ∧ vs.length = n ∧ match den args with
  | .ok w e => ∀ G' H' v, FPost K Γ G' H' e → WRes K G' H' H w v → Q v H'
  | .exc x e => ∀ G' H' cls d, FPost K Γ G' H' e → XRep mg K G' x cls d H' → E cls d H'
  | .bad => False
structure FnD (P : Program) (w : World) (K : PySem.W.Frag) (mg : Str → Option Value) (base : Heap) (k : Nat) (f : Addr) (fd : FuncData) (ps : List Str) (den : Ev → R W) : Prop where
  run : ∀ (A : Around) (outer : List Env) (s : Shared) (H : Hp) (args : Args) (us : List Value) (vs : List V) (Q : VK) (E : XK), RoomD k A → Env0 P w K mg base A outer s H → BindsTo s fd args (ps.zip us) → Vals vs us →
    spD K mg ps.length den vs H Q E → codeAny (model P w) A (.call (.ref f) args) (CR (L2.CX P w) outer P w H s Q E) s
theorem FnD.mono {P : Program} {w : World} {K : PySem.W.Frag} {mg : Str → Option Value} {base : Heap} {j k : Nat} {f : Addr} {fd : FuncData} {ps : List Str} {den : Ev → R W} (F : FnD P w K mg base j f fd ps den) (h : j ≤ k) : FnD P w K mg base k f fd ps den :=
  ⟨fun A outer s H args us vs Q E hr => F.run A outer s H args us vs Q E (hr.mono h)⟩
/-- the same plain function in other words -/
theorem FnD.eqv {P : Program} {w : World} {K : PySem.W.Frag} {mg : Str → Option Value} {base : Heap} {k : Nat} {f : Addr} {fd : FuncData} {ps : List Str} {den den' : Ev → R W} (F : FnD P w K mg base k f fd ps den) (h : den = den') : FnD P w K mg base k f fd ps den' := h ▸ F

/-! ### a def's body -/
def retW : W → Ev → R W
  | .val d, e => .ok (.val d) e
  | .own o, e => .ok (.own o) e
  | .loc i, e => match e[i]? with
    | some (.own false o) => .ok (.own o) e
    | some (.own true o) => .ok (.val o.toD) (e.set i (.bval o.toD))
    | some (.val d) => .ok (.val d) e
    | some (.bval d) => .ok (.val d) e
    | _ => .bad
def runF (n m : Nat) (g : Ev → R Fl) : Ev → R W := fun args => match g (args ++ List.replicate (m - n) .no) with
  | .ok .next e => .ok (.val .non) e
  | .ok (.ret w) e => retW w e
  | .exc x e => .exc x e
  | _ => .bad
section
variable {K : PySem.W.Frag} {mg : Str → Option Value} {Wx : WX} {Γ : Ct} {σ : St} {env : Ev} {G H : Hp}
theorem En.fpost (en : En K Γ G H σ env) : FPost K Γ G H env := by
  refine ⟨en.sub, en.g0, en.nw, en.fr, fun a ha => (en.bh a ha).1, en.hz, fun p hp => ?_⟩
  rcases en.bo p hp with ⟨o, e⟩ | ⟨d, e⟩
  · refine ⟨_, e, ?_, rfl⟩
    obtain ⟨a, e1, g, ow, z, m⟩ := en.sl p.1 _ e
    have ea : a = p.2 := Γ.fn p.1 a p.2 (m rfl) hp
    subst ea
    exact ⟨_, rfl, g, ow, z, m⟩
  · refine ⟨_, e, ?_, rfl⟩
    obtain ⟨a, e1, r, m⟩ := en.sl p.1 _ e
    have ea : a = p.2 := Γ.fn p.1 a p.2 m hp
    subst ea
    exact ⟨_, rfl, r, m⟩
theorem En.start {vs : List V} {args : Ev} (en : En K Γ G H (vs.map some) args) (N : List Str) (n : Nat) (hn : vs.length = n) (hN : n ≤ N.length) : En K Γ G H (L2.start N vs) (args ++ List.replicate (N.length - n) .no) := by
  have hl : args.length = vs.length := by rw [en.len, List.length_map]
  have old : ∀ {i : Nat} {s : Sl}, (args ++ List.replicate (N.length - n) .no)[i]? = some s → s = .no ∨ (args[i]? = some s ∧ (L2.start N vs)[i]? = (vs.map some)[i]?) := fun {i s} e => by
    by_cases hi : i < args.length
    · rw [List.getElem?_append_left hi] at e
      refine .inr ⟨e, ?_⟩
      unfold L2.start
      rw [List.getElem?_append_left (by rw [List.length_map, ← hl]; exact hi)]
    · rw [List.getElem?_append_right (by omega), List.getElem?_replicate] at e
      split at e
      · cases e; exact .inl rfl
      · cases e
  refine ⟨en.sub, en.g0, en.nw, en.fr, en.bh, ?_, fun i s e => ?_, fun p hp => ?_, fun i j b b' o o' a e1 e2 e3 e4 => ?_, en.hz⟩
  · unfold L2.start
    rw [List.length_append, List.length_append, List.length_map, List.length_replicate, List.length_replicate]
    omega
  · rcases old e with rfl | ⟨e1, e2⟩
    · trivial
    · rw [e2]; exact en.sl i s e1
  · have hb := en.bo p hp
    have lt : p.1 < args.length := by
      rcases hb with ⟨o, e⟩ | ⟨d, e⟩ <;> exact (List.getElem?_eq_some_iff.mp e).1
    rw [List.getElem?_append_left lt]
    exact hb
  · rcases old e1 with z | ⟨f1, g1⟩
    · cases z
    · rcases old e2 with z | ⟨f2, g2⟩
      · cases z
      · rw [g1] at e3; rw [g2] at e4
        exact en.dis i j b b' o o' a f1 f2 e3 e4
theorem ret_ok (en : En K Γ G H σ env) {w w' : W} {v : V} {e' : Ev} (r : WRep K Γ G H σ env w v) (h : retW w env = .ok w' e') : ∃ G', FPost K Γ G' H e' ∧ WRes K G' H Γ.H0 w' v := by
  cases w with
  | val d => cases h; exact ⟨G, en.fpost, r⟩
  | own o =>
    cases h
    obtain ⟨a, e, g, ow, z, _⟩ := r
    exact ⟨G, en.fpost, a, e, z, g, ow⟩
  | loc i =>
    obtain ⟨hv, s, hs, _⟩ := r
    unfold retW at h
    simp only [hs] at h
    have q := en.sl i s hs
    cases s with
    | no => cases h
    | val d =>
      cases h
      obtain ⟨v', e1, rp⟩ := q
      rw [hv] at e1; cases e1
      exact ⟨G, en.fpost, rp⟩
    | bval d =>
      cases h
      obtain ⟨a, e1, rp, _⟩ := q
      rw [hv] at e1; cases e1
      exact ⟨G, en.fpost, rp⟩
    | own b o =>
      cases b with
      | false =>
        cases h
        obtain ⟨a, e1, g, ow, z, _⟩ := q
        rw [hv] at e1; cases e1
        exact ⟨G, en.fpost, a, rfl, z rfl, g, ow⟩
      | true =>
        cases h
        have hf : frz i env = some (o.toD, env.set i (.bval o.toD)) := by unfold frz; rw [hs]
        obtain ⟨G', p, rp⟩ := frz_ok en hv hf
        exact ⟨G', p.en.fpost, rp⟩
end
section
variable {P : Program} {w : World} {K : PySem.W.Frag} {mg : Str → Option Value} {base : Heap}
/-- THE RULE for a def: its body as a plain function -/
theorem fnD_of {x qual : Str} {st : Stmt} {f : Addr} {fd : FuncData} {N ps : List Str} {k : Nat} {g : Ev → R Fl} (F : Fun K x qual st f fd) (S : FnScope N ps (defScope st))
    (hbody : ∀ (cdv : Value) (A : Around) (outer : List Env) (s : Shared) (H : Hp) (E : XK), RoomD k (A.deeper (envOfC qual (defScope st) s.heap.objs.size f cdv)) →
      DSs (cxOf (L2.CX P w) P w K mg base N qual (defScope st) f cdv A outer s H E) (fun cls d _ H' => E cls d H') (defBody st) g) : FnD P w K mg base (k + 1) f fd ps (runF ps.length N.length g) := by
  obtain ⟨oc, od, kV, doc, pm, an, cdv, ct, osl, rfl, lk, hcd⟩ := F.ex
  constructor
  intro A outer s H args us vs Q E hr e0 hb r hsp
  obtain ⟨Γ, av, h0, en, hl, hq⟩ := hsp
  have keepK : K.In s.heap := e0.mod.kin.keeps fun b o e => (e0.bs b o e).1
  have limit : s.heap.NoLimit := e0.mod.nolimit.keeps fun b o e => (e0.bs b o e).1
  have kinds : ∀ y ∈ ps.zip us, (defScope st).names.lookup y.1 = some .local ∨ ((defScope st).names.lookup y.1 = some .cell ∧ ((cellsFrom (s.heap.objs.size + 1) (defScope st).names []).lookup y.1).isSome = true) := by
    rintro ⟨n, v⟩ hy
    exact (S.par n (List.of_mem_zip hy).1).imp id fun q => ⟨q, PySem.W.cellsFrom_some _ _ _ (.inl q)⟩
  refine codeAny_call_function hr.room.depth (keepK _ _ lk) rfl S.co S.gen rfl (PySem.W.codeRec_of keepK hcd) (hb _ _ _ _ ?_)
  refine wpAny_newFunctionEnv_cells S.kind kinds fun fenv he s1 entered => ?_
  subst he
  refine ⟨limit.keeps entered.toInCall.keep, codeAny_func ?_⟩
  have body := hbody cdv A outer s H E (hr.deeper _)
  have I : Inv (cxOf (L2.CX P w) P w K mg base N qual (defScope st) f cdv A outer s H E) [] (L2.start N vs) H s1 := inv_start S hr.room.hd e0 hl r entered
  have hN : ps.length ≤ N.length := by
    have := congrArg List.length S.pre
    rw [List.length_take] at this
    omega
  have back : ∀ {σ' : St} {H' : Hp} {v : V} {u : Value} {s' : Shared}, Inv (cxOf (L2.CX P w) P w K mg base N qual (defScope st) f cdv A outer s H E) [] σ' H' s' → RelV v u → Q v H' → CE outer P w H s Q u s' :=
    fun {σ' H' v u s'} J rv q => ⟨v, H', J.os, J.bare, J.base, J.hok, rv, q⟩
  refine wpAny_mono (body.run [] s1 (L2.start N vs) H { nx := fun _ H' => Q .non H', rt := Q } I ⟨Γ, Γ.G0, _, en.start N ps.length hl hN, ?_⟩) (fun fl s' hs => ?_) fun e s' hs => hs
  · unfold runF at hq
    cases hg : g (av ++ List.replicate (N.length - ps.length) .no) with
    | bad => simp only [hg] at hq
    | exc x e =>
      simp only [hg] at hq
      intro G' H' σ' cls d _ en' xr
      exact hq G' H' cls d en'.fpost xr
    | ok fl e =>
      cases fl with
      | next =>
        simp only [hg] at hq
        exact fun G' H' σ' _ en' => hq G' H' .non en'.fpost rfl
      | brk => simp only [hg] at hq
      | cnt => simp only [hg] at hq
      | ret w0 =>
        simp only [hg] at hq
        intro G' H' σ' v _ en' wr
        cases hr' : retW w0 e with
        | bad => rw [hr'] at hq; exact hq.elim
        | exc x e' =>
          exfalso
          cases w0 with
          | val d => cases hr'
          | own o => cases hr'
          | loc i =>
            unfold retW at hr'
            dsimp only at hr'
            split at hr' <;> cases hr'
        | ok w' e' =>
          rw [hr'] at hq
          obtain ⟨G2, fp, wr'⟩ := ret_ok en' wr hr'
          rw [h0] at wr'
          exact hq G2 H' v fp wr'
  · cases fl with
    | ret u =>
      obtain ⟨v, σ', H', J, rv, q⟩ := hs
      exact back J rv q
    | next =>
      obtain ⟨σ', H', J, q⟩ := hs
      exact back (v := V.non) (u := Value.none) J rfl q
    | brk => exact hs.elim fun _ h => h.elim fun _ h => h.2.elim
    | cont => exact hs.elim fun _ h => h.elim fun _ h => h.2.elim
end

/-! ### calls -/
def isR (i : Nat) : Ar → Bool
  | .r j => j == i
  | .v _ => false
def argE : List Ar → Ev → Option Ev
  | [], _ => some []
  | .v d :: r, e => (argE r e).map (.val d :: ·)
  | .r i :: r, e => if r.any (isR i) then none else match e[i]? with
    | some (.own _ o) => (argE r e).map (.own true o :: ·)
    | _ => none
def conv : Sl → Sl → Sl
  | .own _ o, .own b _ => .own b o
  | .bval d, .own true _ => .bval d
  | .bval d, .own false _ => .val d
  | _, s => s
def backE : List Ar → Ev → Ev → Ev
  | .r i :: as, s :: ss, e => backE as ss (match e[i]? with
    | some t => e.set i (conv s t)
    | none => e)
  | .v _ :: as, _ :: ss, e => backE as ss e
  | _, _, e => e
def apF (den : Ev → R W) (f : Ev → R (List Ar)) : Ev → R W := fun e => (f e).bind fun as e1 => match argE as e1 with
  | none => .bad
  | some args => match den args with
    | .ok w e2 => .ok w (backE as e2 e1)
    | .exc x e2 => .exc x (backE as e2 e1)
    | .bad => .bad
theorem argE_at : ∀ {as : List Ar} {e args : Ev}, argE as e = some args → args.length = as.length ∧ ∀ (j : Nat) (s : Sl), args[j]? = some s →
    (∃ d, as[j]? = some (.v d) ∧ s = .val d) ∨ ∃ i b o, as[j]? = some (.r i) ∧ e[i]? = some (.own b o) ∧ s = .own true o
  | [], e, args, h => by cases h; exact ⟨rfl, fun j s q => by simp at q⟩
  | .v d :: r, e, args, h => by
    unfold argE at h
    cases q : argE r e with
    | none => rw [q] at h; cases h
    | some a2 =>
      rw [q] at h; cases h
      obtain ⟨l, at2⟩ := argE_at q
      refine ⟨by simp [l], fun j s hj => ?_⟩
      cases j with
      | zero => simp at hj; exact .inl ⟨d, rfl, hj.symm⟩
      | succ j => exact at2 j s (by simpa using hj)
  | .r i :: r, e, args, h => by
    unfold argE at h
    split at h
    · cases h
    · split at h
      · rename_i b o ho
        cases q : argE r e with
        | none => rw [q] at h; cases h
        | some a2 =>
          rw [q] at h; cases h
          obtain ⟨l, at2⟩ := argE_at q
          refine ⟨by simp [l], fun j s hj => ?_⟩
          cases j with
          | zero => simp at hj; exact .inr ⟨i, b, o, rfl, ho, hj.symm⟩
          | succ j => exact at2 j s (by simpa using hj)
      · cases h
theorem argE_nd : ∀ {as : List Ar} {e args : Ev}, argE as e = some args → ∀ (j j' i : Nat), as[j]? = some (.r i) → as[j']? = some (.r i) → j = j'
  | [], e, args, h, j, j', i, h1, _ => by simp at h1
  | .v d :: r, e, args, h, j, j', i, h1, h2 => by
    unfold argE at h
    cases q : argE r e with
    | none => rw [q] at h; cases h
    | some a2 =>
      cases j with
      | zero => simp at h1
      | succ j =>
        cases j' with
        | zero => simp at h2
        | succ j' => rw [argE_nd q j j' i (by simpa using h1) (by simpa using h2)]
  | .r k :: r, e, args, h, j, j', i, h1, h2 => by
    unfold argE at h
    split at h
    · cases h
    · rename_i hn
      have away : ∀ m : Nat, r[m]? = some (.r k) → False := fun m hm => hn (List.any_eq_true.mpr ⟨_, List.mem_of_getElem? hm, by simp [isR]⟩)
      split at h
      · cases q : argE r e with
        | none => rw [q] at h; cases h
        | some a2 =>
          cases j with
          | zero =>
            cases j' with
            | zero => rfl
            | succ j' =>
              simp at h1; subst h1
              exact (away j' (by simpa using h2)).elim
          | succ j =>
            cases j' with
            | zero =>
              simp at h2; subst h2
              exact (away j (by simpa using h1)).elim
            | succ j' => rw [argE_nd q j j' i (by simpa using h1) (by simpa using h2)]
      · cases h
theorem back_none : ∀ {as : List Ar} {ss e : Ev} {i : Nat}, (∀ j : Nat, as[j]? ≠ some (.r i)) → (backE as ss e)[i]? = e[i]?
  | [], ss, e, i, h => by unfold backE; rfl
  | .v d :: as, [], e, i, h => by unfold backE; rfl
  | .r k :: as, [], e, i, h => by unfold backE; rfl
  | .v d :: as, s :: ss, e, i, h => by
    unfold backE
    exact back_none fun j => by simpa using h (j + 1)
  | .r k :: as, s :: ss, e, i, h => by
    have hk : k ≠ i := fun z => h 0 (by rw [z]; rfl)
    unfold backE
    rw [back_none fun j => by simpa using h (j + 1)]
    split
    · exact List.getElem?_set_ne hk
    · rfl
theorem back_some : ∀ {as : List Ar} {ss e : Ev} {i j : Nat} {s t : Sl}, (∀ (j j' i : Nat), as[j]? = some (.r i) → as[j']? = some (.r i) → j = j') → as[j]? = some (.r i) → ss[j]? = some s → e[i]? = some t → (backE as ss e)[i]? = some (conv s t)
  | [], ss, e, i, j, s, t, _, h, _, _ => by simp at h
  | _ :: as, [], e, i, j, s, t, _, h, h2, _ => by simp at h2
  | .v d :: as, s0 :: ss, e, i, j, s, t, nd, h, h2, h3 => by
    cases j with
    | zero => simp at h
    | succ j =>
      unfold backE
      exact back_some (fun j j' i a b => by have := nd (j + 1) (j' + 1) i (by simpa using a) (by simpa using b); omega) (by simpa using h) (by simpa using h2) h3
  | .r k :: as, s0 :: ss, e, i, j, s, t, nd, h, h2, h3 => by
    cases j with
    | zero =>
      simp at h; subst h
      simp at h2; subst h2
      unfold backE
      rw [back_none fun j a => by have := nd 0 (j + 1) k rfl (by simpa using a); omega, h3]
      simp only
      exact List.getElem?_set_self (List.getElem?_eq_some_iff.mp h3).1
    | succ j =>
      have hk : k ≠ i := fun z => by have := nd 0 (j + 1) k rfl (by rw [z]; exact h); omega
      unfold backE
      refine back_some (fun j j' i a b => by have := nd (j + 1) (j' + 1) i (by simpa using a) (by simpa using b); omega) (by simpa using h) (by simpa using h2) ?_
      split
      · rw [List.getElem?_set_ne hk]; exact h3
      · exact h3
theorem back_len : ∀ (as : List Ar) (ss e : Ev), (backE as ss e).length = e.length
  | [], ss, e => by unfold backE; rfl
  | .v d :: as, [], e => by unfold backE; rfl
  | .r k :: as, [], e => by unfold backE; rfl
  | .v d :: as, s :: ss, e => by unfold backE; exact back_len as ss e
  | .r k :: as, s :: ss, e => by
    unfold backE
    rw [back_len as ss]
    split
    · exact List.length_set
    · rfl

def borL (as : List Ar) (vs : List V) : List (Nat × Addr) := (List.range as.length).filterMap fun (j : Nat) => match as[j]?, vs[j]? with
  | some (.r _), some (.ref a) => some (j, a)
  | _, _ => none
theorem mem_borL {as : List Ar} {vs : List V} {j : Nat} {a : Addr} : (j, a) ∈ borL as vs ↔ ∃ i, as[j]? = some (.r i) ∧ vs[j]? = some (.ref a) := by
  unfold borL
  rw [List.mem_filterMap]
  constructor
  · rintro ⟨m, _, e⟩
    split at e
    · rename_i i b h1 h2
      cases e
      exact ⟨i, h1, h2⟩
    · cases e
  · rintro ⟨i, h1, h2⟩
    refine ⟨j, List.mem_range.mpr (List.getElem?_eq_some_iff.mp h1).1, ?_⟩
    rw [h1, h2]
theorem ArRep.at {K : PySem.W.Frag} {G : Hp} {σ : St} : ∀ {as : List Ar} {vs : List V}, ArRep K G σ as vs → vs.length = as.length ∧ ∀ (j : Nat), (∀ d, as[j]? = some (.v d) → ∃ v, vs[j]? = some v ∧ Rep K G d v) ∧ ∀ i, as[j]? = some (.r i) → ∃ v, vs[j]? = some v ∧ σ[i]? = some (some v)
  | [], vs, h => by cases h; exact ⟨rfl, fun j => ⟨fun d z => by simp at z, fun d z => by simp at z⟩⟩
  | .v d :: r, _, ⟨u, us, rfl, h1, h2⟩ => by
    obtain ⟨l, q⟩ := ArRep.at h2
    refine ⟨by simp [l], fun j => ?_⟩
    cases j with
    | zero => exact ⟨fun d' z => by simp at z; subst z; exact ⟨u, rfl, h1⟩, fun i z => by simp at z⟩
    | succ j => exact ⟨fun d' z => by simpa using (q j).1 d' (by simpa using z), fun i z => by simpa using (q j).2 i (by simpa using z)⟩
  | .r k :: r, _, ⟨u, us, rfl, h1, h2⟩ => by
    obtain ⟨l, q⟩ := ArRep.at h2
    refine ⟨by simp [l], fun j => ?_⟩
    cases j with
    | zero => exact ⟨fun d' z => by simp at z, fun i z => by simp at z; subst z; exact ⟨u, rfl, h1⟩⟩
    | succ j => exact ⟨fun d' z => by simpa using (q j).1 d' (by simpa using z), fun i z => by simpa using (q j).2 i (by simpa using z)⟩

section
variable {K : PySem.W.Frag} {mg : Str → Option Value} {Wx : WX} {Γ : Ct} {σ : St} {env : Ev} {G H : Hp}
def ctC (G H : Hp) (as : List Ar) (vs : List V) : Ct := ⟨H, G, borL as vs, fun i a b h1 h2 => by
  obtain ⟨_, _, e1⟩ := mem_borL.mp h1
  obtain ⟨_, _, e2⟩ := mem_borL.mp h2
  rw [e1] at e2; cases e2; rfl⟩
theorem bs_at (en : En K Γ G H σ env) {as : List Ar} {vs : List V} {args : Ev} (ra : ArRep K G σ as vs) (ha : argE as env = some args) {a : Addr} (h : a ∈ (ctC G H as vs).bs) :
    ∃ (i j : Nat) (b : Bool) (o : OD), as[j]? = some (.r i) ∧ vs[j]? = some (.ref a) ∧ env[i]? = some (.own b o) ∧ σ[i]? = some (some (.ref a)) := by
  obtain ⟨p, hp, e⟩ := List.mem_map.mp h
  obtain ⟨j, a'⟩ := p
  cases e
  obtain ⟨i, h1, h2⟩ := mem_borL.mp (show (j, a') ∈ borL as vs from hp)
  obtain ⟨l, at_⟩ := argE_at ha
  have hj : j < args.length := by rw [l]; exact (List.getElem?_eq_some_iff.mp h1).1
  rcases at_ j _ (List.getElem?_eq_getElem hj) with ⟨d, z, _⟩ | ⟨i', b, o, z, z2, _⟩
  · rw [h1] at z; cases z
  · rw [h1] at z; cases z
    obtain ⟨v, e1, e2⟩ := (ra.at.2 j).2 i h1
    rw [h2] at e1; cases e1
    exact ⟨i, j, b, o, h1, h2, z2, e2⟩
theorem call_en (en : En K Γ G H σ env) {as : List Ar} {vs : List V} {args : Ev} (ra : ArRep K G σ as vs) (ha : argE as env = some args) : En K (ctC G H as vs) G H (vs.map some) args := by
  obtain ⟨l, at_⟩ := argE_at ha
  obtain ⟨lv, av⟩ := ra.at
  refine ⟨en.sub, Same.refl _, fun a o h => .inl h, fun a o h _ => h, fun a h => ?_, by rw [List.length_map, l, lv], fun j s e => ?_, fun p hp => ?_, fun j j' b b' o o' a e1 e2 e3 e4 => ?_, en.hz⟩
  · obtain ⟨i, j, b, o, _, _, h3, h4⟩ := bs_at en ra ha h
    obtain ⟨c, e1, _, ow, _⟩ := en.sl i _ h3
    rw [h4] at e1; cases e1
    exact ⟨ow.ne, ow.ne⟩
  · rw [List.getElem?_map]
    rcases at_ j s e with ⟨d, h1, rfl⟩ | ⟨i, b, o, h1, h2, rfl⟩
    · obtain ⟨v, e1, r⟩ := (av j).1 d h1
      rw [e1]
      exact ⟨v, rfl, r⟩
    · obtain ⟨v, e1, e2⟩ := (av j).2 i h1
      obtain ⟨c, e3, g, ow, _⟩ := en.sl i _ h2
      rw [e2] at e3; cases e3
      rw [e1]
      exact ⟨c, rfl, g, ow, (fun z => nomatch z), fun _ => mem_borL.mpr ⟨i, h1, e1⟩⟩
  · obtain ⟨j, a⟩ := p
    obtain ⟨i, h1, h2⟩ := mem_borL.mp (show (j, a) ∈ borL as vs from hp)
    have hj : j < args.length := by rw [l]; exact (List.getElem?_eq_some_iff.mp h1).1
    rcases at_ j _ (List.getElem?_eq_getElem hj) with ⟨d, z, _⟩ | ⟨i', b, o, z, z2, z3⟩
    · rw [h1] at z; cases z
    · exact .inl ⟨o, by rw [List.getElem?_eq_getElem hj, z3]⟩
  · rw [List.getElem?_map] at e3 e4
    rcases at_ j _ e1 with ⟨d, _, z⟩ | ⟨i, b1, o1, h1, h2, _⟩
    · cases z
    · rcases at_ j' _ e2 with ⟨d, _, z⟩ | ⟨i', b2, o2, h1', h2', _⟩
      · cases z
      · obtain ⟨v, f1, f2⟩ := (av j).2 i h1
        obtain ⟨v', f1', f2'⟩ := (av j').2 i' h1'
        rw [f1] at e3; rw [f1'] at e4
        cases e3; cases e4
        have ei := en.dis i i' _ _ _ _ a h2 h2' f2 f2'
        subst ei
        exact argE_nd ha j j' i h1 h1'
theorem conv_le {s t : Sl} (hs : okSl s = false) (b : Bool) (o : OD) (ht : t = .own b o) : SlEv t (conv s t) ∧ (okSl t = false → okSl (conv s t) = false) := by
  subst ht
  cases s with
  | no => cases hs
  | val d => cases hs
  | own b' o' => exact ⟨.own _ _ _, fun h => by cases b <;> first | rfl | cases h⟩
  | bval d =>
    cases b with
    | true => exact ⟨.bfz _ _, fun _ => rfl⟩
    | false => exact ⟨.fz _ _, fun h => by cases h⟩
theorem call_post (en : En K Γ G H σ env) {as : List Ar} {vs : List V} {args : Ev} (ra : ArRep K G σ as vs) (ha : argE as env = some args) {G' H' : Hp} {e2 : Ev} (fp : FPost K (ctC G H as vs) G' H' e2) : Post K Γ σ env G H (backE as e2 env) G' H' := by
  obtain ⟨lv, av⟩ := ra.at
  have nd := argE_nd ha
  have own_bs : ∀ {a : Addr}, a ∈ (ctC G H as vs).bs → Owned σ env a := fun h => by
    obtain ⟨i, j, b, o, _, _, h3, h4⟩ := bs_at en ra ha h
    exact ⟨i, b, o, h3, h4⟩
  have own_h0 : ∀ {a : Addr}, Owned σ env a → Γ.H0 a = none ∨ a ∈ Γ.bs := fun ⟨i, b, o, h1, h2⟩ => by
    obtain ⟨c, e1, _, _, z, m⟩ := en.sl i _ h1
    rw [h2] at e1; cases e1
    cases b with
    | false => exact .inl (z rfl)
    | true => exact .inr (List.mem_map.mpr ⟨_, m rfl, rfl⟩)
  have gg : Same G G' := fp.gg
  have nw : ∀ a o, G' a = some o → G a = some o ∨ H a = none ∨ a ∈ (ctC G H as vs).bs := fp.nw
  have fr : ∀ a o, H a = some o → a ∉ (ctC G H as vs).bs → H' a = some o := fp.fr
  have al : ∀ a, H a ≠ none → H' a ≠ none := fun a h => by
    by_cases hb : a ∈ (ctC G H as vs).bs
    · exact fp.bh a hb
    · cases q : H a with
      | none => exact absurd q h
      | some u => exact ne_none (fr a u q hb)
  -- a slot lent, a slot kept
  have two : ∀ (i : Nat), (∀ j : Nat, as[j]? ≠ some (.r i)) ∨ ∃ j : Nat, as[j]? = some (.r i) := fun i => by
    by_cases h : ∃ j : Nat, as[j]? = some (.r i)
    · exact .inr h
    · exact .inl fun j z => h ⟨j, z⟩
  have lent : ∀ {i j : Nat}, as[j]? = some (.r i) → ∃ a b o s, vs[j]? = some (.ref a) ∧ env[i]? = some (.own b o) ∧ σ[i]? = some (some (.ref a)) ∧ e2[j]? = some s ∧ SlOk K (ctC G H as vs) G' H' j (some (some (.ref a))) s ∧ okSl s = false ∧ (backE as e2 env)[i]? = some (conv s (.own b o)) := fun {i j} hj => by
    obtain ⟨l, at_⟩ := argE_at ha
    have hlt : j < args.length := by rw [l]; exact (List.getElem?_eq_some_iff.mp hj).1
    rcases at_ j _ (List.getElem?_eq_getElem hlt) with ⟨d, z, _⟩ | ⟨i', b, o, z, z2, _⟩
    · rw [hj] at z; cases z
    · rw [hj] at z; cases z
      obtain ⟨v, e1, e3⟩ := (av j).2 i hj
      obtain ⟨c, e4, g, ow, _⟩ := en.sl i _ z2
      rw [e3] at e4; cases e4
      obtain ⟨s, q1, q2, q3⟩ := fp.sl (j, c) (mem_borL.mpr ⟨i, hj, e1⟩)
      exact ⟨c, b, o, s, e1, z2, e3, q1, q2, q3, back_some nd hj q1 z2⟩
  have le : EvLe env (backE as e2 env) := ⟨back_len _ _ _, fun i s' q => by
    rcases two i with h | ⟨j, hj⟩
    · rw [back_none h] at q; exact ⟨s', q, .refl _⟩
    · obtain ⟨a, b, o, s, _, h2, _, _, _, h6, h7⟩ := lent hj
      rw [h7] at q; cases q
      exact ⟨_, h2, (conv_le h6 b o rfl).1⟩⟩
  refine ⟨⟨fp.sub, en.g0.trans gg, fun a o h => ?_, fun a o h n => ?_, fun a h => ⟨al a (en.bh a h).1, (en.bh a h).2⟩, le.len.trans en.len, fun i s q => ?_, fun p hp => ?_, fun i i' b b' o o' a e1 e3 e4 e5 => ?_, fp.hz⟩, ⟨gg, fun a o h n => fr a o h fun z => n (own_bs z), fun a o h => ?_, al⟩, le⟩
  · rcases nw a o h with q | q | q
    · exact en.nw a o q
    · exact .inr (.inl (en.h0 q))
    · exact .inr (own_h0 (own_bs q))
  · refine fr a o (en.fr a o h n) fun z => ?_
    rcases own_h0 (own_bs z) with q | q
    · rw [h] at q; cases q
    · exact n q
  · rcases two i with hn | ⟨j, hj⟩
    · rw [back_none hn] at q
      have z := en.sl i s q
      cases s with
      | no => trivial
      | val d => obtain ⟨v, e1, r⟩ := z; exact ⟨v, e1, r.mono gg⟩
      | bval d => obtain ⟨a, e1, r, m⟩ := z; exact ⟨a, e1, r.mono gg, m⟩
      | own b o =>
        obtain ⟨c, e1, g, ow, m⟩ := z
        have nb : c ∉ (ctC G H as vs).bs := fun hb => by
          obtain ⟨i', j', b', o', h1, _, h3, h4⟩ := bs_at en ra ha hb
          have ei := en.dis i i' _ _ _ _ c q h3 e1 h4
          subst ei
          exact hn j' h1
        refine ⟨c, e1, ?_, ow.mono gg fun o h => fr c o h nb, m⟩
        cases hq : G' c with
        | none => rfl
        | some u =>
          rcases nw c u hq with y | y | y
          · rw [g] at y; cases y
          · exact absurd y ow.ne
          · exact absurd y nb
    · obtain ⟨a, b, o, t, h1, h2, h3, h4, h5, h6, h7⟩ := lent hj
      rw [h7] at q; cases q
      obtain ⟨c, e1, g, ow, z, m⟩ := en.sl i _ h2
      rw [h3] at e1; cases e1
      cases t with
      | no => cases h6
      | val d => cases h6
      | own b' o' =>
        obtain ⟨c', f1, f2, f3, _⟩ := h5
        cases f1
        exact ⟨a, h3, f2, f3, z, m⟩
      | bval d =>
        obtain ⟨c', f1, f2, _⟩ := h5
        cases f1
        cases b with
        | true => exact ⟨a, h3, f2, m rfl⟩
        | false => exact ⟨_, h3, f2⟩
  · have hb := en.bo p hp
    rcases two p.1 with hn | ⟨j, hj⟩
    · rw [back_none hn]; exact hb
    · obtain ⟨a, b, o, t, h1, h2, h3, h4, h5, h6, h7⟩ := lent hj
      rw [h7]
      have bt : b = true := by
        rcases hb with ⟨o', e⟩ | ⟨d, e⟩
        · rw [h2] at e; cases e; rfl
        · rw [h2] at e; cases e
      subst bt
      cases t with
      | no => cases h6
      | val d => cases h6
      | own b' o' => exact .inl ⟨_, rfl⟩
      | bval d => exact .inr ⟨_, rfl⟩
  · obtain ⟨s1, q1, v1⟩ := le.sl i _ e1
    obtain ⟨s2, q2, v2⟩ := le.sl i' _ e3
    cases v1 <;> cases v2 <;> exact en.dis i i' _ _ _ _ a q1 q2 e4 e5
  · rcases nw a o h with q | q | q
    · exact .inl q
    · exact .inr (.inl q)
    · exact .inr (.inr (own_bs q))
/-- the callee's promise, from the caller's state -/
theorem call_sp {den : Ev → R W} {n : Nat} {Q : VK} {as : List Ar} {vs : List V} (en : En K Γ G H σ env) (ra : ArRep K G σ as vs) (hn : as.length = n)
    (h : Aft K mg Wx Γ σ env G H (fun w env' G' H' => ∀ v, WRep K Γ G' H' σ env' w v → New H w v → Q v H') (match argE as env with
      | none => .bad
      | some args => match den args with
        | .ok w e2 => .ok w (backE as e2 env)
        | .exc x e2 => .exc x (backE as e2 env)
        | .bad => R.bad)) : spD K mg n den vs H Q fun cls d H' => Wx cls d σ H' := by
  cases ha : argE as env with
  | none => rw [ha] at h; exact h.elim
  | some args =>
    simp only [ha] at h
    refine ⟨ctC G H as vs, args, rfl, call_en en ra ha, ra.at.1.trans hn, ?_⟩
    cases hd : den args with
    | bad => rw [hd] at h; exact h
    | exc x e2 =>
      rw [hd] at h
      exact fun G' H' cls d fp xr => h G' H' cls d (call_post en ra ha fp) xr
    | ok w e2 =>
      rw [hd] at h
      intro G' H' v fp wr
      have p := call_post en ra ha fp
      refine h G' H' p v ?_ ?_
      · cases w with
        | val d => exact wr
        | own o =>
          obtain ⟨a, e, n, g, ow⟩ := wr
          refine ⟨a, e, g, ow, en.h0 n, fun z => ?_⟩
          obtain ⟨i, b, o', e1, e3⟩ := p.le.owned z
          obtain ⟨c, e4, _, ow', _⟩ := en.sl i _ e1
          rw [e3] at e4; cases e4
          exact ow'.ne n
        | loc i => exact wr.elim
      · intro o a e1 e2
        subst e1
        obtain ⟨a', e, n, _⟩ := wr
        rw [e] at e2; cases e2
        exact n
end
section
variable {X : Cx} {Wx : WX} {k : Nat} {f : Addr} {fd : FuncData} {ps : List Str} {den : Ev → R W} {x : Str} {p pos : Pos} {e : Expr} {es : List Expr} {fa : Ev → R (List Ar)}
/-- the callee runs -/
theorem run_fnD {pins : List (Addr × Obj)} {σ : St} {H : Hp} {s : Shared} {Q : VK} {us : List Value} {vs : List V} (F : FnD X.prog X.w X.K X.mg X.base k f fd ps den) (hr : RoomD k X.A) (hb : Binds X.K fd ps []) (tk : Takes X Wx)
    (I : Inv X pins σ H s) (r : Vals vs us) (h : spD X.K X.mg ps.length den vs H Q fun cls d H' => Wx cls d σ H') : wpAny (model X.prog X.w) X.A (call (.ref f) us) (EP X pins σ Q) X.xe s := by
  have hl : us.length = ps.length := by
    obtain ⟨_, _, _, _, hl, _⟩ := h
    rw [← r.length]; exact hl
  have b := hb s us I.kIn (by rw [List.append_nil]; exact hl)
  rw [List.append_nil] at b
  refine wpAny_call (codeAny_mono (F.run X.A X.stack s H ⟨us, []⟩ us vs Q (fun cls d H' => Wx cls d σ H') hr I.env0 b r h) fun res s' hq => ?_)
  match res, hq with
  | .error ex, hq => exact tk ex s' (XE.of_call I (fun _ _ _ z => z) hq)
  | .ok (.ret u), hq => exact I.after hq
  | .ok .next, hq => exact hq.elim
  | .ok .brk, hq => exact hq.elim
  | .ok .cont, hq => exact hq.elim
theorem d_fn (F : FnD X.prog X.w X.K X.mg X.base k f fd ps den) (hr : RoomD k X.A) (hm : X.mg x = some (.ref f)) (hk : PySem.W.keepIn X.K (.ref f) = true) (hb : Binds X.K fd ps []) (tk : Takes X Wx)
    (ha : DA X Wx (e :: es) fa) (hn : ∀ env as e1, fa env = .ok as e1 → as.length = ps.length) (hg : Gl X x := by rfl) (hdb : (x == ("__debug__" : Str)) = false := by decide) (he : starEach (e :: es) X.env = (false, eval e X.env) :: starEach es X.env := by rfl) (hpl : (backTo pos (starEach es X.env)).any (·.1) = false := by rfl) :
    DE X Wx (.Call (.Name x p) (e :: es) [] pos) (apF den fa) := ⟨fun pins s σ H Q I h => by
  obtain ⟨Γ, G, env, en, h⟩ := h
  refine wpAny_Call_Name_kw (ld_glob I hg hm ?_ hdb)
  have rd : tDA X.K X.mg Wx fa σ H fun vs H1 => spD X.K X.mg ps.length den vs H1 Q fun cls d H' => Wx cls d σ H' := by
    refine ⟨Γ, G, env, en, ?_⟩
    have h2 := h.two
    cases hf : fa env with
    | bad => rw [hf] at h2; exact h2
    | exc x e => rw [hf] at h2; exact h2
    | ok as e1 =>
      rw [hf] at h2
      intro G1 H1 p1 vs ra
      obtain ⟨_, q⟩ := h2 G1 H1 p1
      refine call_sp p1.en ra (hn env as e1 hf) (q.imp fun w e' G' H' _ z v wr nn => ?_)
      exact z.2 v wr (nn.back p1.kp.al)
  refine PySem.W.callWith_K (h₀ := X.base) I.ok.mod.kin hk (thn (ha.run pos pins s σ H _ I rd) fun us s1 ⟨vs, H1, I1, r, q⟩ => ⟨I1.kIn, ?_⟩) he hpl
  exact run_fnD F hr hb tk I1 r q⟩
theorem d_fn0 (F : FnD X.prog X.w X.K X.mg X.base k f fd [] den) (hr : RoomD k X.A) (hm : X.mg x = some (.ref f)) (hk : PySem.W.keepIn X.K (.ref f) = true) (hb : Binds X.K fd [] []) (tk : Takes X Wx)
    (hg : Gl X x := by rfl) (hdb : (x == ("__debug__" : Str)) = false := by decide) : DE X Wx (.Call (.Name x p) [] [] pos) (apF den aNil) := ⟨fun pins s σ H Q I h => by
  obtain ⟨Γ, G, env, en, h⟩ := h
  refine wpAny_Call_Name_kw (ld_glob I hg hm ?_ hdb)
  refine PySem.W.callWith_K0 I.kIn hk (run_fnD (us := []) (vs := []) F hr hb tk I .nil ?_)
  exact call_sp (as := []) en rfl rfl h⟩
end
/-! ### slots of a comprehension's own names -/
def wipeE (e : Ev) : List Nat → Ev
  | [] => e
  | v :: vs => (wipeE e vs).set v .no
def restE (e0 e : Ev) : List Nat → Ev
  | [] => e
  | v :: vs => (restE e0 e vs).set v (e0.getD v .no)
def plainE (e : Ev) (vs : List Nat) : Bool := vs.all fun v => match e[v]? with
  | some (.own _ _) => false
  | some (.bval _) => false
  | _ => true
theorem wipeE_len (e : Ev) : ∀ vs : List Nat, (wipeE e vs).length = e.length
  | [] => rfl
  | v :: vs => by unfold wipeE; rw [List.length_set, wipeE_len e vs]
theorem restE_len (e0 e : Ev) : ∀ vs : List Nat, (restE e0 e vs).length = e.length
  | [] => rfl
  | v :: vs => by unfold restE; rw [List.length_set, restE_len e0 e vs]
theorem wipeE_out {e : Ev} {i : Nat} : ∀ {vs : List Nat}, i ∉ vs → (wipeE e vs)[i]? = e[i]?
  | [], _ => rfl
  | v :: vs, h => by
    unfold wipeE
    rw [List.getElem?_set_ne fun z => h (by rw [z]; exact List.mem_cons_self)]
    exact wipeE_out fun z => h (List.mem_cons_of_mem _ z)
theorem wipeE_in {e : Ev} {i : Nat} {s : Sl} : ∀ {vs : List Nat}, i ∈ vs → (wipeE e vs)[i]? = some s → s = .no
  | [], h, _ => nomatch h
  | v :: vs, h, q => by
    unfold wipeE at q
    rcases set_get q with ⟨_, z⟩ | ⟨n, q⟩
    · exact z
    · exact wipeE_in ((List.mem_cons.mp h).resolve_left n) q
theorem restE_out {e0 e : Ev} {i : Nat} : ∀ {vs : List Nat}, i ∉ vs → (restE e0 e vs)[i]? = e[i]?
  | [], _ => rfl
  | v :: vs, h => by
    unfold restE
    rw [List.getElem?_set_ne fun z => h (by rw [z]; exact List.mem_cons_self)]
    exact restE_out fun z => h (List.mem_cons_of_mem _ z)
theorem restE_in {e0 e : Ev} {i : Nat} {s : Sl} : ∀ {vs : List Nat}, i ∈ vs → (restE e0 e vs)[i]? = some s → s = e0.getD i .no
  | [], h, _ => nomatch h
  | v :: vs, h, q => by
    unfold restE at q
    rcases set_get q with ⟨z1, z⟩ | ⟨n, q⟩
    · rw [z1]; exact z
    · exact restE_in ((List.mem_cons.mp h).resolve_left n) q
theorem wipe_out' {σ : St} {i : Nat} : ∀ {vs : List Nat}, i ∉ vs → (L2.wipe σ vs)[i]? = σ[i]?
  | [], _ => rfl
  | v :: vs, h => by
    unfold L2.wipe
    rw [List.getElem?_set_ne fun z => h (by rw [z]; exact List.mem_cons_self)]
    exact wipe_out' fun z => h (List.mem_cons_of_mem _ z)
theorem wipe_in' {σ : St} {i : Nat} {s : Option V} : ∀ {vs : List Nat}, i ∈ vs → (L2.wipe σ vs)[i]? = some s → s = none
  | [], h, _ => nomatch h
  | v :: vs, h, q => by
    unfold L2.wipe at q
    rcases set_get q with ⟨_, z⟩ | ⟨n, q⟩
    · exact z
    · exact wipe_in' ((List.mem_cons.mp h).resolve_left n) q
theorem wipe_eq {σ τ : St} {vs : List Nat} (hl : σ.length = τ.length) (h : ∀ i : Nat, i ∉ vs → σ[i]? = τ[i]?) : L2.wipe σ vs = L2.wipe τ vs := by
  apply List.ext_getElem?
  intro i
  by_cases hi : i ∈ vs
  · have l1 : (L2.wipe σ vs).length = σ.length := wipe_length σ vs
    have l2 : (L2.wipe τ vs).length = τ.length := wipe_length τ vs
    cases q : (L2.wipe σ vs)[i]? with
    | none =>
      have : τ.length ≤ i := by rw [← hl, ← l1]; exact List.getElem?_eq_none_iff.mp q
      rw [List.getElem?_eq_none (by rw [l2]; exact this)]
    | some s =>
      have hlt : i < (L2.wipe τ vs).length := by rw [l2, ← hl, ← l1]; exact (List.getElem?_eq_some_iff.mp q).1
      rw [wipe_in' hi q, List.getElem?_eq_getElem hlt, wipe_in' hi (List.getElem?_eq_getElem hlt)]
  · rw [wipe_out' hi, wipe_out' hi, h i hi]

section
variable {K : PySem.W.Frag} {mg : Str → Option Value} {Wx : WX} {Γ : Ct} {σ : St} {env : Ev} {G H : Hp}
theorem plain_at {e : Ev} {vs : List Nat} (h : plainE e vs = true) {i : Nat} (hi : i ∈ vs) {s : Sl} (q : e[i]? = some s) : s = .no ∨ ∃ d, s = .val d := by
  have := List.all_eq_true.mp h i hi
  rw [q] at this
  cases s with
  | no => exact .inl rfl
  | val d => exact .inr ⟨d, rfl⟩
  | own _ _ => cases this
  | bval _ => cases this
theorem plain_of {e : Ev} {vs : List Nat} (h : ∀ i ∈ vs, ∀ s, e[i]? = some s → s = .no ∨ ∃ d, s = .val d) : plainE e vs = true := by
  refine List.all_eq_true.mpr fun i hi => ?_
  cases q : e[i]? with
  | none => rfl
  | some s => rcases h i hi s q with rfl | ⟨d, rfl⟩ <;> rfl
theorem En.wipe (en : En K Γ G H σ env) {vs : List Nat} (h : plainE env vs = true) : En K Γ G H (L2.wipe σ vs) (wipeE env vs) := by
  have out : ∀ {i : Nat} {s : Sl}, (wipeE env vs)[i]? = some s → s ≠ .no → i ∉ vs ∧ env[i]? = some s ∧ (L2.wipe σ vs)[i]? = σ[i]? := fun {i s} q n => by
    by_cases hi : i ∈ vs
    · exact absurd (wipeE_in hi q) n
    · rw [wipeE_out hi] at q; exact ⟨hi, q, wipe_out' hi⟩
  refine ⟨en.sub, en.g0, en.nw, en.fr, en.bh, by rw [wipeE_len, wipe_length]; exact en.len, fun i s q => ?_, fun p hp => ?_, fun i j b b' o o' a e1 e2 e3 e4 => ?_, en.hz⟩
  · cases s with
    | no => trivial
    | val d => obtain ⟨_, q1, q2⟩ := out q (fun z => nomatch z); rw [q2]; exact en.sl i _ q1
    | bval d => obtain ⟨_, q1, q2⟩ := out q (fun z => nomatch z); rw [q2]; exact en.sl i _ q1
    | own b o => obtain ⟨_, q1, q2⟩ := out q (fun z => nomatch z); rw [q2]; exact en.sl i _ q1
  · have n : p.1 ∉ vs := fun hi => by
      rcases en.bo p hp with ⟨o, e⟩ | ⟨d, e⟩
      · rcases plain_at h hi e with z | ⟨_, z⟩ <;> cases z
      · rcases plain_at h hi e with z | ⟨_, z⟩ <;> cases z
    rw [wipeE_out n]
    exact en.bo p hp
  · obtain ⟨_, q1, r1⟩ := out e1 (fun z => nomatch z)
    obtain ⟨_, q2, r2⟩ := out e2 (fun z => nomatch z)
    rw [r1] at e3; rw [r2] at e4
    exact en.dis i j b b' o o' a q1 q2 e3 e4
theorem owned_wipe {vs : List Nat} {a : Addr} (o : Owned (L2.wipe σ vs) (wipeE env vs) a) : Owned σ env a := by
  obtain ⟨i, b, o, h1, h2⟩ := o
  by_cases hi : i ∈ vs
  · cases wipeE_in hi h1
  · rw [wipeE_out hi] at h1; rw [wipe_out' hi] at h2
    exact ⟨i, b, o, h1, h2⟩
/-- back in the frame behind a comprehension -/
theorem rest_post {vs : List Nat} {envF : Ev} {G' H' : Hp} (en : En K Γ G H σ env) (h : plainE env vs = true) (en' : En K Γ G' H' (L2.wipe σ vs) envF) (kp : Kp (L2.wipe σ vs) (wipeE env vs) G H G' H') (le : EvLe (wipeE env vs) envF) :
    Post K Γ σ env G H (restE env envF vs) G' H' := by
  have inn : ∀ {i : Nat} {s : Sl}, i ∈ vs → (restE env envF vs)[i]? = some s → env[i]? = some s := fun {i s} hi q => by
    have e := restE_in hi q
    have hlt : i < env.length := by
      have := (List.getElem?_eq_some_iff.mp q).1
      rw [restE_len, le.len, wipeE_len] at this
      exact this
    rw [e, List.getD_eq_getElem?_getD, List.getElem?_eq_getElem hlt]
    rfl
  have le' : EvLe env (restE env envF vs) := ⟨by rw [restE_len, le.len, wipeE_len], fun i s q => by
    by_cases hi : i ∈ vs
    · exact ⟨s, inn hi q, .refl _⟩
    · rw [restE_out hi] at q
      obtain ⟨t, q1, v⟩ := le.sl i s q
      rw [wipeE_out hi] at q1
      exact ⟨t, q1, v⟩⟩
  have noown : ∀ {i : Nat} {b : Bool} {o : OD}, (restE env envF vs)[i]? = some (.own b o) → i ∉ vs ∧ envF[i]? = some (.own b o) := fun {i b o} q => by
    by_cases hi : i ∈ vs
    · rcases plain_at h hi (inn hi q) with z | ⟨_, z⟩ <;> cases z
    · rw [restE_out hi] at q; exact ⟨hi, q⟩
  refine ⟨⟨en'.sub, en'.g0, en'.nw, en'.fr, en'.bh, ?_, fun i s q => ?_, fun p hp => ?_, fun i j b b' o o' a e1 e2 e3 e4 => ?_, en'.hz⟩, ⟨kp.gg, fun a o e n => kp.kp a o e fun z => n (owned_wipe z), fun a o e => (kp.nw a o e).imp id (Or.imp id owned_wipe), kp.al⟩, le'⟩
  · rw [le'.len]; exact en.len
  · by_cases hi : i ∈ vs
    · have q1 := inn hi q
      have z := en.sl i s q1
      rcases plain_at h hi q1 with rfl | ⟨d, rfl⟩
      · trivial
      · obtain ⟨v, e, r⟩ := z
        exact ⟨v, e, r.mono kp.gg⟩
    · rw [restE_out hi] at q
      have z := en'.sl i s q
      rw [wipe_out' hi] at z
      exact z
  · have n : p.1 ∉ vs := fun hi => by
      rcases en.bo p hp with ⟨o, e⟩ | ⟨d, e⟩
      · rcases plain_at h hi e with z | ⟨_, z⟩ <;> cases z
      · rcases plain_at h hi e with z | ⟨_, z⟩ <;> cases z
    rw [restE_out n]
    exact en'.bo p hp
  · obtain ⟨n1, f1⟩ := noown e1
    obtain ⟨n2, f2⟩ := noown e2
    exact en'.dis i j b b' o o' a f1 f2 (by rw [wipe_out' n1]; exact e3) (by rw [wipe_out' n2]; exact e4)
/-- a thing that nobody here knows is changed -/
theorem En.aside (en : En K Γ G H σ env) {p : Addr} {u : HO} (g : G p = none) (h0 : Γ.H0 p = none) (nO : ¬ Owned σ env p) (z : HpOk K (L2.upd H p u)) : En K Γ G (L2.upd H p u) σ env := by
  refine ⟨fun a o e => ?_, en.g0, en.nw, fun a o e n => ?_, fun a ha => ⟨?_, (en.bh a ha).2⟩, en.len, fun i s q => ?_, en.bo, en.dis, z⟩
  · rw [upd_ne (ne_of_none e g)]; exact en.sub a o e
  · rw [upd_ne (ne_of_none e h0)]; exact en.fr a o e n
  · have n : a ≠ p := fun z => (en.bh a ha).2 (by rw [z]; exact h0)
    rw [upd_ne n]; exact (en.bh a ha).1
  · have y := en.sl i s q
    cases s with
    | no => trivial
    | val d => exact y
    | bval d => exact y
    | own b o =>
      obtain ⟨c, e1, g1, ow, m⟩ := y
      have n : c ≠ p := fun z => nO ⟨i, b, o, q, by rw [← z]; exact e1⟩
      exact ⟨c, e1, g1, ow.mono (Same.refl _) fun o e => by rw [upd_ne n]; exact e, m⟩
theorem HpOk.set {p : Addr} {xs : List V} (z : HpOk K H) (h : ∀ ys, (∃ o, H p = some (.frz o (.lst ys)) ∨ H p = some (.frz o (.tup ys))) → False) (l : xs.length ≤ sizeLine) : HpOk K (L2.upd H p (.lst xs)) := by
  refine ⟨fun a ys q => ?_, fun a ys q => ?_⟩
  · rcases q with (q | ⟨ob, q⟩) | q
    · by_cases hb : a = p
      · subst hb; rw [upd_same] at q; cases q; exact l
      · rw [upd_ne hb] at q; exact z.l a ys (.inl (.inl q))
    · by_cases hb : a = p
      · subst hb; rw [upd_same] at q; cases q
      · rw [upd_ne hb] at q; exact z.l a ys (.inl (.inr ⟨ob, q⟩))
    · exact z.l a ys (.inr q)
  · rcases q with (q | ⟨ob, q⟩) | q
    · by_cases hb : a = p
      · subst hb; rw [upd_same] at q; cases q
      · rw [upd_ne hb] at q; exact z.t a ys (.inl (.inl q))
    · by_cases hb : a = p
      · subst hb; rw [upd_same] at q; cases q
      · rw [upd_ne hb] at q; exact z.t a ys (.inl (.inr ⟨ob, q⟩))
    · exact z.t a ys (.inr q)
theorem HpOk.setL {p : Addr} {xs ys : List V} (z : HpOk K H) (h : H p = some (.lst ys)) (l : xs.length ≤ sizeLine) : HpOk K (L2.upd H p (.lst xs)) := z.set (fun _ ⟨_, e⟩ => by rcases e with e | e <;> (rw [h] at e; cases e)) l
end

/-! ### list comprehensions -/
abbrev Wn : WX := fun _ _ _ _ => False
def tT : Ev → R Bool := fun e => .ok true e
def lcL (vs : List Nat) (g : D → Ev → Option Ev) (t : Ev → R Bool) (fe : Ev → R D) : List D → Ev → R (List D)
  | [], e => .ok [] e
  | d :: r, e => match g d e with
    | none => .bad
    | some e1 => (t e1).bind fun b e2 => if b = true then (fe e2).bind fun y e3 => (lcL vs g t fe r (wipeE e3 vs)).bind fun ys e4 => .ok (y :: ys) e4 else lcL vs g t fe r (wipeE e2 vs)
def lcF (vs : List Nat) (f : Ev → R (List D)) (g : D → Ev → Option Ev) (t : Ev → R Bool) (fe : Ev → R D) : Ev → R W := fun e => (f e).bind fun ds e1 => if plainE e1 vs = true then (match lcL vs g t fe ds (wipeE e1 vs) with
  | .ok out e2 => .ok (.own (.lst out)) (restE e1 e2 vs)
  | _ => .bad) else .bad
section
variable {K : PySem.W.Frag} {mg : Str → Option Value} {Wx : WX}
theorem Kp.weak {σ τ : St} {e e' : Ev} {G H G' H' : Hp} (k : Kp τ e' G H G' H') (h : ∀ a, Owned τ e' a → Owned σ e a) : Kp σ e G H G' H' :=
  ⟨k.gg, fun a o q n => k.kp a o q fun z => n (h a z), fun a o q => (k.nw a o q).imp id (Or.imp id (h a)), k.al⟩
theorem lc_read {vs ts : List Nat} {f : Ev → R (List D)} {g : D → Ev → Option Ev} {t : Ev → R Bool} {fe : Ev → R D} (tsub : ∀ i ∈ ts, i ∈ vs) (gok : GOk g ts) {σ : St} {H : Hp} {Q : VK} (h : tD K mg Wx (lcF vs f g t fe) σ H Q) :
    tLc (tDI K mg Wx f) (tDG K g ts) (tDT K mg Wn t) (tDV K mg Wn fe) vs σ H Q := by
  obtain ⟨Γ, G, env, en, h⟩ := h
  refine ⟨Γ, G, env, en, h.two.imp fun ds e1 G1 H1 _ ⟨p1, q⟩ J y D hD => ?_⟩
  cases hpl : plainE e1 vs with
  | false => rw [hpl] at q; exact q.elim
  | true =>
  rw [hpl, if_pos rfl] at q
  cases hL : lcL vs g t fe ds (wipeE e1 vs) with
  | bad => rw [hL] at q; exact q.elim
  | exc x e => rw [hL] at q; exact q.elim
  | ok total eF =>
  rw [hL] at q
  have gD1 : G1 D = none := p1.en.sub.free hD
  have h0D : Γ.H0 D = none := p1.en.h0 hD
  have nOD : ¬ Owned (L2.wipe σ vs) (wipeE e1 vs) D := fun z => by
    obtain ⟨i, b, o, e2, e3⟩ := owned_wipe z
    obtain ⟨c, e4, _, ow, _⟩ := p1.en.sl i _ e2
    rw [e3] at e4; cases e4
    exact ow.ne hD
  let Inv' : Nat → Hp → Prop := fun i H => ∃ G2 env2 acc accV, En K Γ G2 H (L2.wipe σ vs) env2 ∧ Kp (L2.wipe σ vs) (wipeE e1 vs) G1 H1 G2 H ∧ EvLe (wipeE e1 vs) env2 ∧ H D = some (.lst accV) ∧ RepL K G2 acc accV ∧ G2 D = none ∧ acc.length ≤ i ∧ i ≤ ds.length ∧
    ∃ out, lcL vs g t fe (ds.drop i) env2 = .ok out eF ∧ acc ++ out = total
  refine ⟨fun i m H => m = ds.length - i ∧ Inv' i H, ⟨_, rfl, G1, wipeE e1 vs, [], [], ?_, ?_, .refl _, upd_same, rfl, gD1, Nat.zero_le _, Nat.zero_le _, total, hL, rfl⟩, ?_⟩
  · exact (p1.en.wipe hpl).aside gD1 h0D nOD (p1.en.hz.upd hD fun xs z => by rcases z with z | z | ⟨ob, z | z⟩ <;> first | (cases z; exact Nat.zero_le _) | cases z)
  · exact ⟨Same.refl _, fun a o e _ => by rw [upd_ne (ne_of_none e hD)]; exact e, fun a o e => .inl e, fun a e => by
      by_cases hb : a = D
      · rw [hb, upd_same]; exact fun z => nomatch z
      · rw [upd_ne hb]; exact e⟩
  rintro i m H2 ⟨rfl, G2, env2, acc, accV, en2, kp2, le2, hD2, rp2, gD2, al2, hi2, out, hout, htot⟩
  by_cases hlt : i < ds.length
  · have hd : ds[i]? = some ds[i] := List.getElem?_eq_getElem hlt
    rw [List.drop_eq_getElem_cons hlt] at hout
    obtain ⟨go, yl⟩ := y.go i ds[i] G2 H2 kp2.gg en2.sub en2.hz hd
    refine .inr ⟨go, fun H' => Inv' (i + 1) H', fun H' hN => ⟨_, by omega, rfl, hN⟩, fun x H' hy => ?_⟩
    obtain ⟨G3, gr, rp3⟩ := yl x H' hy
    have p3 := gr.post en2
    have nOD2 : ¬ Owned (L2.wipe σ vs) env2 D := fun z => nOD (le2.owned z)
    unfold lcL at hout
    cases hg3 : g ds[i] env2 with
    | none => simp only [hg3] at hout; cases hout
    | some e3 =>
    simp only [hg3] at hout
    obtain ⟨l3, f3⟩ := gok _ _ _ hg3
    refine ⟨Γ, G3, env2, ds[i], e3, p3.en, rp3, hg3, fun σ4 en4 l4 f4 => ?_⟩
    have hw : L2.wipe σ4 vs = L2.wipe σ vs := by
      refine wipe_eq (by rw [l4, wipe_length]) fun j hj => ?_
      rw [f4 j fun z => hj (tsub j z), wipe_out' hj]
    have own4 : ∀ {e : Ev} {a : Addr}, EvLe e3 e → Owned σ4 e a → Owned (L2.wipe σ vs) env2 a := fun {e a} le z => by
      obtain ⟨j, b, o, e5, e6⟩ := le.owned z
      rcases f3 j _ e5 with ⟨n, q1⟩ | ⟨_, d', z⟩
      · rw [f4 j n] at e6; exact ⟨j, b, o, q1, e6⟩
      · cases z
    have no2 : ∀ {j : Nat} {s : Sl}, j ∈ vs → env2[j]? = some s → s = .no := fun {j s} hj q => by
      obtain ⟨t', q1, v⟩ := le2.sl j s q
      have := wipeE_in hj q1
      subst this
      cases v
      rfl
    have pl : ∀ {e : Ev}, EvLe e3 e → plainE e vs = true := fun {e} le => plain_of fun j hj s q => by
      obtain ⟨t', q1, v⟩ := le.sl j s q
      rcases f3 j t' q1 with ⟨n, q2⟩ | ⟨_, d', z⟩
      · have := no2 hj q2; subst this; cases v; exact .inl rfl
      · subst z; cases v; exact .inr ⟨_, rfl⟩
    have evle : ∀ {e : Ev}, EvLe e3 e → EvLe (wipeE e1 vs) (wipeE e vs) := fun {e} le => by
      refine ⟨by rw [wipeE_len, le.len, l3, le2.len], fun j s q => ?_⟩
      by_cases hj : j ∈ vs
      · have := wipeE_in hj q
        subst this
        have hlt' : j < (wipeE e1 vs).length := by
          have := (List.getElem?_eq_some_iff.mp q).1
          rw [wipeE_len, le.len, l3, le2.len] at this
          exact this
        have q2 := List.getElem?_eq_getElem hlt'
        rw [wipeE_in hj q2] at q2
        exact ⟨.no, q2, .refl _⟩
      · rw [wipeE_out hj] at q
        obtain ⟨t', q1, v⟩ := le.sl j s q
        rcases f3 j t' q1 with ⟨n, q2⟩ | ⟨m, _⟩
        · obtain ⟨t2, q3, v2⟩ := le2.sl j t' q2
          exact ⟨t2, q3, v2.trans v⟩
        · exact absurd (tsub j m) hj
    refine ⟨hw, Γ, G3, e3, en4, ?_⟩
    have kp3 : Kp (L2.wipe σ vs) (wipeE e1 vs) G1 H1 G3 H' := kp2.trans p3.kp le2
    cases ht : t e3 with
    | bad => rw [ht] at hout; cases hout
    | exc x e => rw [ht] at hout; cases hout
    | ok b e5 =>
    rw [ht] at hout
    intro G5 H5 p5
    have kp5 : Kp (L2.wipe σ vs) (wipeE e1 vs) G1 H1 G5 H5 := kp3.trans (p5.kp.weak fun a z => own4 (.refl _) z) le2
    have hD5 : H5 D = some (.lst accV) := p5.kp.kp D _ (gr.hh _ _ hD2) fun z => nOD2 (own4 (.refl _) z)
    have gD5 : G5 D = none := by
      cases hq : G5 D with
      | none => rfl
      | some u =>
        rcases kp5.nw D u hq with z | z | z
        · rw [gD1] at z; cases z
        · rcases p5.kp.nw D u hq with z2 | z2 | z2
          · rcases gr.nw D u z2 with z3 | z3
            · rw [gD2] at z3; cases z3
            · rw [hD2] at z3; cases z3
          · rw [gr.hh _ _ hD2] at z2; cases z2
          · exact absurd (own4 (.refl _) z2) nOD2
        · exact absurd z nOD
    cases b with
    | false =>
      refine iteF ?_
      have hout : lcL vs g t fe (ds.drop (i + 1)) (wipeE e5 vs) = .ok out eF := hout
      exact ⟨G5, wipeE e5 vs, acc, accV, by rw [← hw]; exact p5.en.wipe (pl p5.le), kp5, evle p5.le, hD5, rp2.mono (gr.gg.trans p5.kp.gg), gD5, by omega, hlt, out, hout, htot⟩
    | true =>
      refine iteT ?_
      have hout : (fe e5).bind (fun y e3 => (lcL vs g t fe (ds.drop (i + 1)) (wipeE e3 vs)).bind fun ys e4 => .ok (y :: ys) e4) = R.ok out eF := hout
      refine ⟨Γ, G5, e5, p5.en, ?_⟩
      cases hf : fe e5 with
      | bad => rw [hf] at hout; cases hout
      | exc x e => rw [hf] at hout; cases hout
      | ok yv e6 =>
      rw [hf] at hout
      have hout : (lcL vs g t fe (ds.drop (i + 1)) (wipeE e6 vs)).bind (fun ys e4 => .ok (yv :: ys) e4) = R.ok out eF := hout
      cases hr : lcL vs g t fe (ds.drop (i + 1)) (wipeE e6 vs) with
      | bad => rw [hr] at hout; cases hout
      | exc x e => rw [hr] at hout; cases hout
      | ok out' eF' =>
      rw [hr] at hout
      cases hout
      intro G6 H6 p6 v rv
      have le6 : EvLe e3 e6 := p5.le.trans p6.le
      have kp6 : Kp (L2.wipe σ vs) (wipeE e1 vs) G1 H1 G6 H6 := kp5.trans (p6.kp.weak fun a z => own4 p5.le z) le2
      have hD6 : H6 D = some (.lst accV) := p6.kp.kp D _ hD5 fun z => nOD2 (own4 p5.le z)
      have gD6 : G6 D = none := by
        cases hq : G6 D with
        | none => rfl
        | some u =>
          rcases p6.kp.nw D u hq with z2 | z2 | z2
          · rw [gD5] at z2; cases z2
          · rw [hD5] at z2; cases z2
          · exact absurd (own4 p5.le z2) nOD2
      have la : accV.length < sizeLine := by
        have := rp2.length
        have := y.len
        omega
      refine ⟨accV, hD6, la, G6, wipeE e6 vs, acc ++ [yv], accV ++ [v], ?_, ?_, evle le6, upd_same, ?_, gD6, by rw [List.length_append]; show acc.length + 1 ≤ _; omega, hlt, out', hr, by rw [List.append_assoc]; exact htot⟩
      · rw [← hw]
        refine (p6.en.wipe (pl le6)).aside gD6 h0D (fun z => nOD2 (own4 le6 (owned_wipe z))) (p6.en.hz.setL hD6 ?_)
        rw [List.length_append]
        show accV.length + 1 ≤ _
        omega
      · exact ⟨kp6.gg, fun a o e n => by rw [upd_ne (ne_of_none e hD)]; exact kp6.kp a o e n, kp6.nw, fun a e => by
          by_cases hb : a = D
          · rw [hb, upd_same]; exact fun z => nomatch z
          · rw [upd_ne hb]; exact kp6.al a e⟩
      · exact ((rp2.mono (gr.gg.trans p5.kp.gg)).mono p6.kp.gg).append (RepL.single rv)
  · refine .inl ⟨y.stop i G2 H2 kp2.gg en2.sub (Nat.le_of_not_lt hlt), ?_⟩
    rw [List.drop_eq_nil_of_le (Nat.le_of_not_lt hlt)] at hout
    cases hout
    rw [List.append_nil] at htot
    subst htot
    have pF := rest_post p1.en hpl en2 kp2 le2
    refine (q G2 H2 pF).2 (.ref D) ⟨D, rfl, gD2, ⟨accV, hD2, rp2⟩, h0D, fun z => ?_⟩ fun o a e2 e3 => ?_
    · obtain ⟨i', b, o, e2, e3⟩ := pF.le.owned z
      obtain ⟨c, e4, _, ow, _⟩ := p1.en.sl i' _ e2
      rw [e3] at e4; cases e4
      exact ow.ne hD
    · cases e3
      cases hq : H D with
      | none => rfl
      | some u => exact absurd hD (p1.kp.al D (ne_none hq))
end
section
variable {X : Cx} {Wx : WX} {pos : Pos} {elt tg iter c : Expr} {ifs : List Expr} {scope : Scope} {own : List (Str × Nat)} {f : Ev → R (List D)} {g : D → Ev → Option Ev} {t : Ev → R Bool} {fe : Ev → R D} {ts : List Nat}
def DTs (X : Cx) (Wx : WX) (ifs : List Expr) (t : Ev → R Bool) : Prop := PTs X ifs (tDT X.K X.mg Wx t)
theorem pts_imp {X : Cx} {e : List Expr} {t t' : TT} (h : PTs X e t) (i : ∀ σ H Q, t' σ H Q → t σ H Q) : PTs X e t' := ⟨fun pins s σ H Q I q => h.run pins s σ H Q I (i σ H Q q)⟩
theorem dts_nil : DTs X Wx [] tT := pts_imp pts_nil fun σ H Q h => by
  obtain ⟨Γ, G, env, en, h⟩ := h
  exact h G H (.refl en)
theorem dts_one (h : DT X Wx c t) : DTs X Wx [c] t := pts_one h
theorem d_lc (hc : X.calm = true) (hN : X.N.Nodup) (ok : BlkOk X.N X.env.scope scope own) (hi : DI X Wx tg iter f)
    (hg : ∀ (s : Shared) (H : Hp) (C : Addr) (cl : List (Str × Addr)) (fp : List Addr), DG (X.blk s H scope (compEnvC scope cl C X.env) fp) tg g ts)
    (ht : ∀ (s : Shared) (H : Hp) (C : Addr) (cl : List (Str × Addr)) (fp : List Addr), DTs (X.blk s H scope (compEnvC scope cl C X.env) fp) Wn ifs t)
    (he : ∀ (s : Shared) (H : Hp) (C : Addr) (cl : List (Str × Addr)) (fp : List Addr), DV (X.blk s H scope (compEnvC scope cl C X.env) fp) Wn elt fe)
    (tsub : ∀ i ∈ ts, i ∈ own.map (·.2) := by decide) (hs : ∀ x, foldedSetIterable iter X.env x = pure x := by intro _; rfl) : DE X Wx (.ListComp elt [⟨tg, iter, ifs, 0⟩] scope pos) (lcF (own.map (·.2)) f g t fe) :=
  ⟨fun pins s σ H Q I h => (pe_lc (tt := tDT X.K X.mg Wn t) (te := tDV X.K X.mg Wn fe) (g := tDG X.K g ts) hc hN hi ok (fun s H C cl fp => (hg s H C cl fp).pg) (fun s H C cl fp => ht s H C cl fp) (fun s H C cl fp => he s H C cl fp) hs).run pins s σ H Q I (lc_read tsub (hg s H 0 [] []).ok h)⟩
end
def chars (x : Str) : List D := x.cps.toList.map fun c => .str ⟨#[c]⟩
def seqD : D → Option (List D)
  | .lst ds => some ds
  | .scr ds => some ds
  | .tup ds => some ds
  | .str x => if x.length ≤ sizeLine then some (chars x) else none
  | _ => none
def itF (f : Ev → R D) : Ev → R (List D) := fun e => (f e).bind fun d e1 => match seqD d with
  | some ds => .ok ds e1
  | none => .bad
section
variable {K : PySem.W.Frag} {mg : Str → Option Value} {Wx : WX} {Γ : Ct} {σ : St} {env : Ev} {G H : Hp}
theorem sqL_inj {K : PySem.W.Frag} {H : Hp} {a : Addr} {xs ys : List V} (h : SqL K H a xs) (h' : Rd H a (.lst xs)) (h2 : Rd H a (.lst ys)) : xs = ys := by
  rcases h' with h' | ⟨o, h'⟩ <;> rcases h2 with h2 | ⟨o', h2⟩ <;> rw [h'] at h2 <;> cases h2 <;> rfl
/-- the list at a as it is read through a walk -/
theorem yields_lst {a : Addr} {vs : List V} {ds : List D} {G1 H1 : Hp} (s : Same G1 H1) (z : HpOk K H1) (q : SqL K G1 a vs) (r : RepL K G1 ds vs) : Yields K (Itl K a) G1 ds := by
  refine ⟨by rw [r.length]; exact z.l a vs (s.seq q), fun i d G H s1 s2 z2 hd => ?_, fun i G H s1 s2 hi => ⟨vs, (s1.trans s2).seq q, by rw [← r.length]; exact hi⟩⟩
  obtain ⟨v, hv, rp⟩ := r.getD hd
  refine ⟨⟨vs, v, (s1.trans s2).seq q, hv⟩, fun x H' hy => ?_⟩
  obtain ⟨rfl, hx⟩ := hy
  have e := hx vs ((s1.trans s2).seq q)
  rw [hv] at e; cases e
  exact ⟨G, Grow.refl s2 z2, rp.mono s1⟩
theorem yields_tup {a : Addr} {vs : List V} {ds : List D} {G1 H1 : Hp} (s : Same G1 H1) (z : HpOk K H1) (q : SqT K G1 a vs) (r : RepL K G1 ds vs) : Yields K (Itt K a) G1 ds := by
  refine ⟨by rw [r.length]; exact z.t a vs (Same.tup s q), fun i d G H s1 s2 z2 hd => ?_, fun i G H s1 s2 hi => ⟨vs, Same.tup (s1.trans s2) q, by rw [← r.length]; exact hi⟩⟩
  obtain ⟨v, hv, rp⟩ := r.getD hd
  refine ⟨⟨vs, v, Same.tup (s1.trans s2) q, hv⟩, fun x H' hy => ?_⟩
  obtain ⟨rfl, hx⟩ := hy
  have e := hx vs (Same.tup (s1.trans s2) q)
  rw [hv] at e; cases e
  exact ⟨G, Grow.refl s2 z2, rp.mono s1⟩
theorem chars_len (x : Str) : (chars x).length = x.cps.size := by unfold chars; rw [List.length_map, Array.length_toList]
theorem yields_str {x : Str} {G1 : Hp} (l : x.length ≤ sizeLine) : Yields K (Its x) G1 (chars x) := by
  refine ⟨by rw [chars_len]; exact l, fun i d G H s1 s2 z2 hd => ?_, fun i G H s1 s2 hi => by rw [chars_len] at hi; exact hi⟩
  unfold chars at hd
  rw [List.getElem?_map] at hd
  cases q : x.cps.toList[i]? with
  | none => rw [q] at hd; cases hd
  | some c =>
    rw [q] at hd
    cases hd
    have q' : x.cps[i]? = some c := by rw [← Array.getElem?_toList]; exact q
    refine ⟨(Array.getElem?_eq_some_iff.mp q').1, fun v H' hy => ?_⟩
    obtain ⟨rfl, c', e, rfl⟩ := hy
    rw [q'] at e; cases e
    exact ⟨G, Grow.refl s2 z2, rfl⟩
theorem yields_rng {lo : Int} {n : Nat} {G1 : Hp} (l : n ≤ sizeLine) : Yields K (Itr lo n) G1 ((List.range n).map fun (i : Nat) => D.int (lo + i)) := by
  refine ⟨by rw [List.length_map, List.length_range]; exact l, fun i d G H s1 s2 z2 hd => ?_, fun i G H s1 s2 hi => by rw [List.length_map, List.length_range] at hi; exact hi⟩
  rw [List.getElem?_map] at hd
  cases q : (List.range n)[i]? with
  | none => rw [q] at hd; cases hd
  | some c =>
    rw [q] at hd
    cases hd
    have hi : i < n := by
      have := (List.getElem?_eq_some_iff.mp q).1
      rw [List.length_range] at this; exact this
    have ec : c = i := by
      have := (List.getElem?_eq_some_iff.mp q).2
      rw [List.getElem_range] at this; exact this.symm
    subst ec
    refine ⟨hi, fun v H' hy => ?_⟩
    obtain ⟨rfl, rfl⟩ := hy
    exact ⟨G, Grow.refl s2 z2, rfl⟩
theorem yields_rngc {lo c : Int} {n : Nat} {G1 : Hp} (l : n ≤ sizeLine) : Yields K (Itc lo c n) G1 ((List.range n).map fun (i : Nat) => D.int (lo + i * c)) := by
  refine ⟨by rw [List.length_map, List.length_range]; exact l, fun i d G H s1 s2 z2 hd => ?_, fun i G H s1 s2 hi => by rw [List.length_map, List.length_range] at hi; exact hi⟩
  rw [List.getElem?_map] at hd
  cases q : (List.range n)[i]? with
  | none => rw [q] at hd; cases hd
  | some c =>
    rw [q] at hd
    cases hd
    have hi : i < n := by
      have := (List.getElem?_eq_some_iff.mp q).1
      rw [List.length_range] at this; exact this
    have ec : c = i := by
      have := (List.getElem?_eq_some_iff.mp q).2
      rw [List.getElem_range] at this; exact this.symm
    subst ec
    refine ⟨hi, fun v H' hy => ?_⟩
    obtain ⟨rfl, rfl⟩ := hy
    exact ⟨G, Grow.refl s2 z2, rfl⟩
/-- a new pair each -/
theorem pair_grow {x y : V} {dx dy : D} {T : Addr} (s : Same G H) (z : HpOk K H) (n : H T = none) (rx : Rep K G dx x) (ry : Rep K G dy y) :
    ∃ G', Grow K G H G' (L2.upd H T (.tup [x, y])) ∧ Rep K G' (.tup [dx, dy]) (.ref T) := by
  obtain ⟨gr, wr⟩ := Grow.tup (ds := [dx, dy]) s z n ⟨x, [y], rfl, rx, y, [], rfl, ry, rfl⟩ (by show 2 ≤ sizeLine; decide)
  exact ⟨_, gr, wr⟩
theorem zip_at {xs ys : List D} {i : Nat} {d : D} (h : (List.zipWith (fun a b => D.tup [a, b]) xs ys)[i]? = some d) : ∃ a b, xs[i]? = some a ∧ ys[i]? = some b ∧ d = .tup [a, b] := by
  rw [List.getElem?_zipWith] at h
  cases h1 : xs[i]? with
  | none => rw [h1] at h; cases h
  | some a =>
    cases h2 : ys[i]? with
    | none => rw [h1, h2] at h; cases h
    | some b => rw [h1, h2] at h; cases h; exact ⟨a, b, rfl, rfl, rfl⟩
theorem zip_stop {xs ys : List D} {i : Nat} (h : (List.zipWith (fun a b => D.tup [a, b]) xs ys).length ≤ i) : xs.length ≤ i ∨ ys.length ≤ i := by
  rw [List.length_zipWith] at h
  omega
theorem yields_zip {a b : Addr} {vs us : List V} {ds es : List D} {G1 H1 : Hp} (s : Same G1 H1) (z : HpOk K H1) (q : SqL K G1 a vs) (q' : SqL K G1 b us) (r : RepL K G1 ds vs) (r' : RepL K G1 es us) :
    Yields K (Itz K a b) G1 (List.zipWith (fun a b => D.tup [a, b]) ds es) := by
  refine ⟨?_, fun i d G H s1 s2 z2 hd => ?_, fun i G H s1 s2 hi => ⟨vs, us, (s1.trans s2).seq q, (s1.trans s2).seq q', by rw [← r.length, ← r'.length]; exact zip_stop hi⟩⟩
  · rw [List.length_zipWith]
    have := z.l a vs (s.seq q)
    have := r.length
    omega
  · obtain ⟨x, y, h1, h2, rfl⟩ := zip_at hd
    obtain ⟨v, hv, rp⟩ := r.getD h1
    obtain ⟨u, hu, rp'⟩ := r'.getD h2
    refine ⟨⟨vs, us, v, u, (s1.trans s2).seq q, (s1.trans s2).seq q', hv, hu⟩, fun x' H' hy => ?_⟩
    obtain ⟨T, v', u', rfl, nT, rfl, f1, f2⟩ := hy
    have e1 := f1 vs ((s1.trans s2).seq q)
    have e2 := f2 us ((s1.trans s2).seq q')
    rw [hv] at e1; cases e1
    rw [hu] at e2; cases e2
    exact pair_grow s2 z2 nT (rp.mono s1) (rp'.mono s1)
theorem yields_zipT {a b : Addr} {vs us : List V} {ds es : List D} {G1 H1 : Hp} (s : Same G1 H1) (z : HpOk K H1) (q : SqT K G1 a vs) (q' : SqT K G1 b us) (r : RepL K G1 ds vs) (r' : RepL K G1 es us) :
    Yields K (RZ.ItzT K a b) G1 (List.zipWith (fun a b => D.tup [a, b]) ds es) := by
  refine ⟨?_, fun i d G H s1 s2 z2 hd => ?_, fun i G H s1 s2 hi => ⟨vs, us, Same.tup (s1.trans s2) q, Same.tup (s1.trans s2) q', by rw [← r.length, ← r'.length]; exact zip_stop hi⟩⟩
  · rw [List.length_zipWith]
    have := z.t a vs (Same.tup s q)
    have := r.length
    omega
  · obtain ⟨x, y, h1, h2, rfl⟩ := zip_at hd
    obtain ⟨v, hv, rp⟩ := r.getD h1
    obtain ⟨u, hu, rp'⟩ := r'.getD h2
    refine ⟨⟨vs, us, v, u, Same.tup (s1.trans s2) q, Same.tup (s1.trans s2) q', hv, hu⟩, fun x' H' hy => ?_⟩
    obtain ⟨T, v', u', rfl, nT, rfl, f1, f2⟩ := hy
    have e1 := f1 vs (Same.tup (s1.trans s2) q)
    have e2 := f2 us (Same.tup (s1.trans s2) q')
    rw [hv] at e1; cases e1
    rw [hu] at e2; cases e2
    exact pair_grow s2 z2 nT (rp.mono s1) (rp'.mono s1)
def enumD (ds : List D) : List D := (List.range ds.length).zipWith (fun (i : Nat) d => D.tup [.int i, d]) ds
theorem enum_at {ds : List D} {i : Nat} {d : D} (h : (enumD ds)[i]? = some d) : ∃ a, ds[i]? = some a ∧ d = .tup [.int i, a] := by
  unfold enumD at h
  rw [List.getElem?_zipWith] at h
  cases h2 : ds[i]? with
  | none =>
    rw [h2] at h
    cases h1 : (List.range ds.length)[i]? <;> (rw [h1] at h; cases h)
  | some b =>
    have hi := (List.getElem?_eq_some_iff.mp h2).1
    rw [h2, List.getElem?_range hi] at h
    cases h
    exact ⟨b, rfl, rfl⟩
theorem enum_len (ds : List D) : (enumD ds).length = ds.length := by unfold enumD; rw [List.length_zipWith, List.length_range, Nat.min_self]
theorem yields_enum {a : Addr} {vs : List V} {ds : List D} {G1 H1 : Hp} (s : Same G1 H1) (z : HpOk K H1) (q : SqL K G1 a vs) (r : RepL K G1 ds vs) : Yields K (Ite K a) G1 (enumD ds) := by
  refine ⟨by rw [enum_len, r.length]; exact z.l a vs (s.seq q), fun i d G H s1 s2 z2 hd => ?_, fun i G H s1 s2 hi => ⟨vs, (s1.trans s2).seq q, by rw [enum_len] at hi; rw [← r.length]; exact hi⟩⟩
  obtain ⟨x, h1, rfl⟩ := enum_at hd
  obtain ⟨v, hv, rp⟩ := r.getD h1
  refine ⟨⟨vs, v, (s1.trans s2).seq q, hv⟩, fun x' H' hy => ?_⟩
  obtain ⟨T, v', rfl, nT, rfl, f1⟩ := hy
  have e1 := f1 vs ((s1.trans s2).seq q)
  rw [hv] at e1; cases e1
  exact pair_grow (dx := .int i) s2 z2 nT rfl (rp.mono s1)

def iOr (t u : TI) : TI := fun σ H R => t σ H R ∨ u σ H R
theorem pi_or {X : Cx} {tg e : Expr} {t u : TI} (h : PI X tg e t) (h' : PI X tg e u) : PI X tg e (iOr t u) := ⟨fun pins s σ H R I q => q.elim (h.run pins s σ H R I) (h'.run pins s σ H R I)⟩
theorem it_read {f : Ev → R D} {R : It → Hp → Prop} (h : tDI K mg Wx (itF f) σ H R) : iOr (iList K (tDV K mg Wx f)) (iOr (iTup K (tDV K mg Wx f)) (iStr (tDV K mg Wx f))) σ H R := by
  obtain ⟨Γ, G, env, en, h⟩ := h
  have h2 := h.two
  cases hf : f env with
  | bad => rw [hf] at h2; exact h2.elim
  | exc x e => refine .inl ⟨Γ, G, env, en, ?_⟩; rw [hf] at h2 ⊢; exact h2
  | ok d e1 =>
    cases d with
    | lst ds =>
      refine .inl ⟨Γ, G, env, en, ?_⟩
      rw [hf] at h2 ⊢
      intro G1 H1 p1 v rp
      obtain ⟨_, q⟩ := h2 G1 H1 p1
      obtain ⟨a, vs, rfl, sq, rl⟩ := rp
      exact ⟨a, rfl, ⟨vs, .inl (.inl (p1.en.sub _ _ sq))⟩, (q G1 H1 (.refl p1.en)).2 _ (yields_lst p1.en.sub p1.en.hz (.inl (.inl sq)) rl)⟩
    | scr ds =>
      refine .inl ⟨Γ, G, env, en, ?_⟩
      rw [hf] at h2 ⊢
      intro G1 H1 p1 v rp
      obtain ⟨_, q⟩ := h2 G1 H1 p1
      obtain ⟨a, vs, rfl, sq, rl⟩ := rp
      exact ⟨a, rfl, ⟨vs, p1.en.sub.seq sq⟩, (q G1 H1 (.refl p1.en)).2 _ (yields_lst p1.en.sub p1.en.hz sq rl)⟩
    | tup ds =>
      refine .inr (.inl ⟨Γ, G, env, en, ?_⟩)
      rw [hf] at h2 ⊢
      intro G1 H1 p1 v rp
      obtain ⟨_, q⟩ := h2 G1 H1 p1
      obtain ⟨a, vs, rfl, sq, rl⟩ := rp
      exact ⟨a, rfl, ⟨vs, Same.tup p1.en.sub sq⟩, (q G1 H1 (.refl p1.en)).2 _ (yields_tup p1.en.sub p1.en.hz sq rl)⟩
    | str x =>
      refine .inr (.inr ⟨Γ, G, env, en, ?_⟩)
      rw [hf] at h2 ⊢
      intro G1 H1 p1 v rp
      obtain ⟨_, q⟩ := h2 G1 H1 p1
      have q : Aft K mg Wx Γ σ e1 G1 H1 _ (match (if x.length ≤ sizeLine then some (chars x) else none) with
        | some ds => DL.R.ok ds e1
        | none => DL.R.bad) := q
      by_cases hl : x.length ≤ sizeLine
      · rw [if_pos hl] at q
        have rp' : v = .str x := rp
        exact ⟨x, rp', (q G1 H1 (.refl p1.en)).2 _ (yields_str hl)⟩
      · rw [if_neg hl] at q; exact q.elim
    | _ => unfold itF at h; rw [hf] at h; exact h.elim
end
section
variable {X : Cx} {Wx : WX} {tg e e2 : Expr} {p pos : Pos} {f : Ev → R D} {fa : Ev → R (List Ar)}
theorem di_it (he : DV X Wx e f) : DI X Wx tg e (itF f) := pi_imp (pi_or (pi_list he) (pi_or (pi_tup he) (pi_str he))) fun σ H R h => it_read h
/-- range -/
def rngF (fa : Ev → R (List Ar)) : Ev → R (List D) := fun e => (fa e).bind fun as e1 => match vals as with
  | some [.int j] => if -(2 ^ 62) ≤ j ∧ j ≤ sizeLine then .ok ((List.range j.toNat).map fun (i : Nat) => D.int (0 + i)) e1 else .bad
  | some [.int i, .int j] => if (-(2 ^ 62) ≤ i ∧ i < 2 ^ 62 ∧ -(2 ^ 62) ≤ j ∧ j < 2 ^ 62) ∧ j - i ≤ sizeLine then .ok ((List.range (j - i).toNat).map fun (k : Nat) => D.int (i + k)) e1 else .bad
  | _ => .bad
theorem ints1 {K : PySem.W.Frag} {G : Hp} {j : Int} {vs : List V} (h : RepL K G [.int j] vs) : vs = [.int j] := by
  obtain ⟨v, rfl, r⟩ := h.one
  have r' : v = .int j := r
  rw [r']
theorem ints2 {K : PySem.W.Frag} {G : Hp} {i j : Int} {vs : List V} (h : RepL K G [.int i, .int j] vs) : vs = [.int i, .int j] := RepL.ints (ns := [i, j]) h
theorem rng1_read {K : PySem.W.Frag} {mg : Str → Option Value} {σ : St} {H : Hp} {R : It → Hp → Prop} (n1 : ∀ env as e1, fa env = .ok as e1 → as.length = 1) (h : tDI K mg Wx (rngF fa) σ H R) : iRng1 (tDA K mg Wx fa) σ H R := by
  obtain ⟨Γ, G, env, en, h⟩ := h
  refine ⟨Γ, G, env, en, ?_⟩
  have h2 := h.two
  cases hf : fa env with
  | bad => rw [hf] at h2; exact h2
  | exc x e => rw [hf] at h2; exact h2
  | ok as e1 =>
    have hl := n1 _ _ _ hf
    rw [hf] at h2
    intro G1 H1 p1 vs ra
    obtain ⟨_, q⟩ := h2 G1 H1 p1
    cases hv : vals as with
    | none => simp only [hv] at q; exact q.elim
    | some ds =>
      have rl := ra.vals hv
      have l2 : ds.length = 1 := by rw [rl.length, ra.at.1, hl]
      match ds, l2, hv, rl with
      | [d], _, hv, rl =>
        simp only [hv] at q
        cases d with
        | int j =>
          by_cases hc : -(2 ^ 62) ≤ j ∧ j ≤ (sizeLine : Int)
          · simp only [hc, and_self, if_true] at q
            have sl : sizeLine = 16777216 := sizeLine_eq
            refine ⟨j, ints1 rl, hc.1, by omega, (q G1 H1 (.refl p1.en)).2 _ ?_⟩
            exact yields_rng (by omega)
          · simp only [hc, if_false] at q; exact q.elim
        | _ => exact q.elim
theorem rng2_read {K : PySem.W.Frag} {mg : Str → Option Value} {σ : St} {H : Hp} {R : It → Hp → Prop} (n1 : ∀ env as e1, fa env = .ok as e1 → as.length = 2) (h : tDI K mg Wx (rngF fa) σ H R) : iRng2 (tDA K mg Wx fa) σ H R := by
  obtain ⟨Γ, G, env, en, h⟩ := h
  refine ⟨Γ, G, env, en, ?_⟩
  have h2 := h.two
  cases hf : fa env with
  | bad => rw [hf] at h2; exact h2
  | exc x e => rw [hf] at h2; exact h2
  | ok as e1 =>
    have hl := n1 _ _ _ hf
    rw [hf] at h2
    intro G1 H1 p1 vs ra
    obtain ⟨_, q⟩ := h2 G1 H1 p1
    cases hv : vals as with
    | none => simp only [hv] at q; exact q.elim
    | some ds =>
      have rl := ra.vals hv
      have l2 : ds.length = 2 := by rw [rl.length, ra.at.1, hl]
      match ds, l2, hv, rl with
      | [d, d'], _, hv, rl =>
        simp only [hv] at q
        cases d with
        | int i =>
          cases d' with
          | int j =>
            by_cases hc : (-(2 ^ 62) ≤ i ∧ i < 2 ^ 62 ∧ -(2 ^ 62) ≤ j ∧ j < 2 ^ 62) ∧ j - i ≤ (sizeLine : Int)
            · simp only [hc, and_self, if_true] at q
              have sl : sizeLine = 16777216 := sizeLine_eq
              refine ⟨i, j, ints2 rl, hc.1, (q G1 H1 (.refl p1.en)).2 _ ?_⟩
              exact yields_rng (by omega)
            · simp only [hc, if_false] at q; exact q.elim
          | _ => exact q.elim
        | _ => exact q.elim
theorem di_rng1 {a : Expr} (hm : X.mg "range" = none) (ha : DA X Wx [a] fa) (n1 : ∀ env as e1, fa env = .ok as e1 → as.length = 1) (hg : Gl X "range" := by rfl) (hs : starEach [a] X.env = [(false, eval a X.env)] := by rfl) : DI X Wx tg (.Call (.Name "range" p) [a] [] pos) (rngF fa) :=
  pi_imp (pi_range1 hg hm ha hs) fun σ H R h => rng1_read n1 h
theorem di_rng2 {a b : Expr} (hm : X.mg "range" = none) (ha : DA X Wx [a, b] fa) (n1 : ∀ env as e1, fa env = .ok as e1 → as.length = 2) (hg : Gl X "range" := by rfl) (hs : starEach [a, b] X.env = [(false, eval a X.env), (false, eval b X.env)] := by rfl) (hs2 : starEach [b] X.env = [(false, eval b X.env)] := by rfl) :
    DI X Wx tg (.Call (.Name "range" p) [a, b] [] pos) (rngF fa) := pi_imp (pi_range2 hg hm ha hs hs2) fun σ H R h => rng2_read n1 h
/-- zip of two of a kind -/
def zipD : D → D → Option (List D)
  | .lst xs, .lst ys => some (List.zipWith (fun a b => D.tup [a, b]) xs ys)
  | .tup xs, .tup ys => some (List.zipWith (fun a b => D.tup [a, b]) xs ys)
  | _, _ => none
def zipF (fa : Ev → R (List Ar)) : Ev → R (List D) := fun e => (fa e).bind fun as e1 => match vals as with
  | some [a, b] => (match zipD a b with
    | some ds => .ok ds e1
    | none => .bad)
  | _ => .bad
theorem zip_read {K : PySem.W.Frag} {mg : Str → Option Value} {σ : St} {H : Hp} {R : It → Hp → Prop} (h : tDI K mg Wx (zipF fa) σ H R) : RZ.iZipA K (tDA K mg Wx fa) σ H R := by
  obtain ⟨Γ, G, env, en, h⟩ := h
  refine ⟨Γ, G, env, en, h.two.imp fun as e1 G1 H1 _ ⟨p1, q⟩ vs ra => ?_⟩
  cases hv : vals as with
  | none => simp only [hv] at q; exact q.elim
  | some ds =>
    have rl := ra.vals hv
    match ds, hv, rl with
    | [a, b], hv, rl =>
      simp only [hv] at q
      obtain ⟨va, r1, rfl, ra', rb'⟩ := rl
      obtain ⟨vb, rfl, rbb⟩ := rb'.one
      cases a with
      | lst xs =>
        cases b with
        | lst ys =>
          obtain ⟨a1, vs1, rfl, q1, l1⟩ := ra'
          obtain ⟨a2, vs2, rfl, q2, l2⟩ := rbb
          exact ⟨a1, a2, vs1, vs2, rfl, .inl ⟨.inl (.inl (p1.en.sub _ _ q1)), .inl (.inl (p1.en.sub _ _ q2)), (q G1 H1 (.refl p1.en)).2 _ (yields_zip p1.en.sub p1.en.hz (.inl (.inl q1)) (.inl (.inl q2)) l1 l2)⟩⟩
        | _ => exact q.elim
      | tup xs =>
        cases b with
        | tup ys =>
          obtain ⟨a1, vs1, rfl, q1, l1⟩ := ra'
          obtain ⟨a2, vs2, rfl, q2, l2⟩ := rbb
          exact ⟨a1, a2, vs1, vs2, rfl, .inr ⟨Same.tup p1.en.sub q1, Same.tup p1.en.sub q2, (q G1 H1 (.refl p1.en)).2 _ (yields_zipT p1.en.sub p1.en.hz q1 q2 l1 l2)⟩⟩
        | _ => exact q.elim
      | _ => exact q.elim
    | [], hv, rl => simp only [hv] at q; exact q.elim
    | [_], hv, rl => simp only [hv] at q; exact q.elim
    | _ :: _ :: _ :: _, hv, rl => simp only [hv] at q; exact q.elim
theorem di_zip {elts : List Expr} {kk : Nat} {tpos : Pos} (hm : X.mg "zip" = none) (ha : DA X Wx [e, e2] fa) (hg : Gl X "zip" := by rfl) (hs : starEach [e, e2] X.env = (false, eval e X.env) :: starEach [e2] X.env := by rfl) (hpl : (backTo pos (starEach [e2] X.env)).any (·.1) = false := by rfl) :
    DI X Wx (.Tuple elts kk tpos) (.Call (.Name "zip" p) [e, e2] [] pos) (zipF fa) := pi_imp (RZ.pi_zipA hg hm ha hs hpl) fun σ H R h => zip_read h
end
def ror (r r' : R2) : R2 := fun x y H Q => r x y H Q ∨ r' x y H Q
theorem opr_or {X : Cx} {f : Value → Value → Sem Value} {r r' : R2} (h : OpR X f r) (h' : OpR X f r') : OpR X f (ror r r') := fun pins s σ H x y v u Q I rx ry q => q.elim (h pins s σ H x y v u Q I rx ry) (h' pins s σ H x y v u Q I rx ry)
theorem opok_or {K : PySem.W.Frag} {r r' : R2} {φ ψ : D → D → Option W} (h : OpOk K r φ) (h' : OpOk K r' ψ) : OpOk K (ror r r') (fun a b => match φ a b with
    | some w => some w
    | none => ψ a b) := fun G H dx dy x y Q z s px py ⟨w, e, q⟩ => by
  cases hφ : φ dx dy with
  | some w' =>
    simp only [hφ] at e
    cases e
    exact .inl (h G H dx dy x y Q z s px py ⟨w, hφ, q⟩)
  | none =>
    simp only [hφ] at e
    exact .inr (h' G H dx dy x y Q z s px py ⟨w, e, q⟩)
section
variable {K : PySem.W.Frag}
theorem opok_imp {r : R2} {φ ψ : D → D → Option W} (h : OpOk K r φ) (e : ∀ a b w, ψ a b = some w → φ a b = some w) : OpOk K r ψ := fun G H dx dy x y Q z s px py ⟨w, e', q⟩ => h G H dx dy x y Q z s px py ⟨w, e _ _ _ e', q⟩
/-- ints in, a value out -/
theorem opok_ints {C : Int → Int → Prop} [∀ i j, Decidable (C i j)] {g : Int → Int → V} {gd : Int → Int → D} (hg : ∀ G i j, Rep K G (gd i j) (g i j)) : OpOk K (rI C g) (fun a b => match a, b with
    | .int i, .int j => if C i j then some (.val (gd i j)) else none
    | _, _ => none) := fun G H dx dy x y Q z s px py ⟨w, e, q⟩ => by
  cases dx with
  | int i =>
    cases dy with
    | int j =>
      have e : (if C i j then some (W.val (gd i j)) else none) = some w := e
      by_cases hc : C i j
      · rw [if_pos hc] at e
        cases e
        exact ⟨i, j, px.int, py.int, hc, q _ G H (Grow.refl s z) (hg G i j)⟩
      · rw [if_neg hc] at e; cases e
    | _ => cases e
  | _ => cases e
theorem opok_ints0 {g : Int → Int → V} {gd : Int → Int → D} (hg : ∀ G i j, Rep K G (gd i j) (g i j)) : OpOk K (rI0 g) (fun a b => match a, b with
    | .int i, .int j => some (.val (gd i j))
    | _, _ => none) := fun G H dx dy x y Q z s px py ⟨w, e, q⟩ => by
  cases dx with
  | int i =>
    cases dy with
    | int j =>
      cases e
      exact ⟨i, j, px.int, py.int, q _ G H (Grow.refl s z) (hg G i j)⟩
    | _ => cases e
  | _ => cases e

/-! ### + - * // % -/
def addD : D → D → Option W
  | .int i, .int j => some (.val (.int (i + j)))
  | .str x, .str y => if x.length + y.length ≤ sizeLine then some (.val (.str (x ++ y))) else none
  | .lst xs, .lst ys => if xs.length + ys.length ≤ sizeLine then some (.own (.lst (xs ++ ys))) else none
  | .tup xs, .tup ys => if xs.length + ys.length ≤ sizeLine then some (.val (.tup (xs ++ ys))) else none
  | _, _ => none
def rAddD (K : PySem.W.Frag) : R2 := ror (rI0 fun i j => .int (i + j)) (ror (fun x y H Q => ∃ i j, x = .str i ∧ y = .str j ∧ i.length + j.length ≤ sizeLine ∧ Q (.str (i ++ j)) H) (ror rCat (rCatA K)))
theorem op_addD {X : Cx} : OpR X (binaryOp .Add) (rAddD X.K) := opr_or op_add (opr_or op_add_str (opr_or op_cat op_catA))
theorem ok_add : OpOk K (rAddD K) addD := fun G H dx dy x y Q z s px py ⟨w, e, q⟩ => by
  cases dx with
  | int i =>
    cases dy with
    | int j => cases e; exact .inl ⟨i, j, px.int, py.int, q _ G H (Grow.refl s z) rfl⟩
    | _ => cases e
  | str i =>
    cases dy with
    | str j =>
      have e : (if i.length + j.length ≤ sizeLine then some (W.val (.str (i ++ j))) else none) = some w := e
      by_cases hl : i.length + j.length ≤ sizeLine
      · rw [if_pos hl] at e; cases e
        exact .inr (.inl ⟨i, j, px.str, py.str, hl, q _ G H (Grow.refl s z) rfl⟩)
      · rw [if_neg hl] at e; cases e
    | _ => cases e
  | lst xs =>
    cases dy with
    | lst ys =>
      have e : (if xs.length + ys.length ≤ sizeLine then some (W.own (.lst (xs ++ ys))) else none) = some w := e
      by_cases hl : xs.length + ys.length ≤ sizeLine
      · rw [if_pos hl] at e; cases e
        obtain ⟨a, vs, rfl, h1, r1⟩ := px.lst s
        obtain ⟨b, us, rfl, h2, r2⟩ := py.lst s
        have l1 := r1.length
        have l2 := r2.length
        refine .inr (.inr (.inl ⟨a, b, vs, us, rfl, rfl, h1, h2, by omega, fun p np => ?_⟩))
        obtain ⟨gr, wr⟩ := Grow.lst s z np (r1.append r2) (by rw [List.length_append]; omega)
        exact q _ _ _ gr wr
      · rw [if_neg hl] at e; cases e
    | _ => cases e
  | tup xs =>
    cases dy with
    | tup ys =>
      have e : (if xs.length + ys.length ≤ sizeLine then some (W.val (.tup (xs ++ ys))) else none) = some w := e
      by_cases hl : xs.length + ys.length ≤ sizeLine
      · rw [if_pos hl] at e; cases e
        obtain ⟨a, vs, rfl, h1, r1⟩ := px.tup
        obtain ⟨b, us, rfl, h2, r2⟩ := py.tup
        have l1 := r1.length
        have l2 := r2.length
        refine .inr (.inr (.inr ⟨a, b, vs, us, rfl, rfl, Same.tup s h1, Same.tup s h2, by omega, fun hx => ?_, fun _ hy => ?_, fun _ _ p np => ?_⟩))
        · subst hx
          have : xs = [] := List.eq_nil_of_length_eq_zero (by rw [l1]; rfl)
          subst this
          exact q _ G H (Grow.refl s z) ⟨b, us, rfl, h2, r2⟩
        · subst hy
          have : ys = [] := List.eq_nil_of_length_eq_zero (by rw [l2]; rfl)
          subst this
          rw [List.append_nil] at q
          exact q _ G H (Grow.refl s z) ⟨a, vs, rfl, h1, r1⟩
        · obtain ⟨gr, wr⟩ := Grow.tup s z np (r1.append r2) (by rw [List.length_append]; omega)
          exact q _ _ _ gr wr
      · rw [if_neg hl] at e; cases e
    | _ => cases e
  | _ => cases e
def subD : D → D → Option W
  | .int i, .int j => some (.val (.int (i - j)))
  | _, _ => none
theorem ok_sub : OpOk K (rI0 fun i j => .int (i - j)) subD := opok_imp (opok_ints0 (gd := fun i j => .int (i - j)) fun _ _ _ => rfl) fun a b w e => by
  cases a <;> cases b <;> first | exact e | cases e
instance (i j : Int) : Decidable (CMul i j) := by unfold CMul; infer_instance
instance (i j : Int) : Decidable (CMulW i j) := by unfold CMulW; infer_instance
instance (i j : Int) : Decidable (CDivN i j) := by unfold CDivN; infer_instance
instance (i j : Int) : Decidable (CDivW i j) := by unfold CDivW; infer_instance
def mulOk (i j : Int) : Bool := decide (CMul i j) || decide (CMulW i j)
def mulD : D → D → Option W
  | .int i, .int j => if mulOk i j then some (.val (.int (i * j))) else none
  | .lst xs, .int k => if -(2 ^ 63) ≤ k ∧ k < 2 ^ 63 ∧ xs.length * k.toNat ≤ sizeLine then some (.own (.lst (List.replicate k.toNat xs).flatten)) else none
  | _, _ => none
theorem RepL.rep {G : Hp} {ds : List D} {vs : List V} (h : RepL K G ds vs) : ∀ k : Nat, RepL K G (List.replicate k ds).flatten (List.replicate k vs).flatten
  | 0 => rfl
  | k + 1 => by
    rw [List.replicate_succ, List.flatten_cons, List.replicate_succ, List.flatten_cons]
    exact h.append (RepL.rep h k)
theorem len_rep {α : Type} (xs : List α) : ∀ k : Nat, (List.replicate k xs).flatten.length = xs.length * k
  | 0 => by simp
  | k + 1 => by rw [List.replicate_succ, List.flatten_cons, List.length_append, len_rep xs k, Nat.mul_succ, Nat.add_comm]
def rMulD : R2 := ror (rI CMul fun i j => .int (i * j)) (ror (rI CMulW fun i j => .int (i * j)) rRep)
theorem op_mulD {X : Cx} : OpR X (binaryOp .Mult) rMulD := opr_or op_mul (opr_or op_mulW op_rep)
theorem ok_mul : OpOk K rMulD mulD := fun G H dx dy x y Q z s px py ⟨w, e, q⟩ => by
  cases dx with
  | int i =>
    cases dy with
    | int j =>
      have e : (if mulOk i j = true then some (W.val (.int (i * j))) else none) = some w := e
      by_cases hl : mulOk i j = true
      · rw [if_pos hl] at e; cases e
        unfold mulOk at hl
        rcases Bool.or_eq_true_iff.mp hl with h | h
        · exact .inl ⟨i, j, px.int, py.int, of_decide_eq_true h, q _ G H (Grow.refl s z) rfl⟩
        · exact .inr (.inl ⟨i, j, px.int, py.int, of_decide_eq_true h, q _ G H (Grow.refl s z) rfl⟩)
      · rw [if_neg hl] at e; cases e
    | _ => cases e
  | lst xs =>
    cases dy with
    | int k =>
      have e : (if -(2 ^ 63) ≤ k ∧ k < 2 ^ 63 ∧ xs.length * k.toNat ≤ sizeLine then some (W.own (.lst (List.replicate k.toNat xs).flatten)) else none) = some w := e
      by_cases hl : -(2 ^ 63) ≤ k ∧ k < 2 ^ 63 ∧ xs.length * k.toNat ≤ sizeLine
      · rw [if_pos hl] at e; cases e
        obtain ⟨a, vs, rfl, h1, r1⟩ := px.lst s
        have l1 := r1.length
        refine .inr (.inr ⟨a, k, vs, rfl, py.int, h1, hl.1, hl.2.1, by rw [← l1]; exact hl.2.2, fun p np => ?_⟩)
        obtain ⟨gr, wr⟩ := Grow.lst s z np (r1.rep k.toNat) (by rw [len_rep, ← l1]; exact hl.2.2)
        exact q _ _ _ gr wr
      · rw [if_neg hl] at e; cases e
    | _ => cases e
  | _ => cases e
def fdivD : D → D → Option W
  | .int i, .int j => if CDivN i j ∨ CDivW i j then some (.val (.int (i.fdiv j))) else none
  | _, _ => none
def rFdivD : R2 := ror (rI CDivN fun i j => .int (i.fdiv j)) (rI CDivW fun i j => .int (i / j))
theorem op_fdivD {X : Cx} : OpR X (binaryOp .FloorDiv) rFdivD := opr_or op_fdivN op_fdivW
theorem ok_fdiv : OpOk K rFdivD fdivD := fun G H dx dy x y Q z s px py ⟨w, e, q⟩ => by
  cases dx with
  | int i =>
    cases dy with
    | int j =>
      have e : (if CDivN i j ∨ CDivW i j then some (W.val (.int (i.fdiv j))) else none) = some w := e
      by_cases hl : CDivN i j ∨ CDivW i j
      · rw [if_pos hl] at e; cases e
        rcases hl with h | h
        · exact .inl ⟨i, j, px.int, py.int, h, q _ G H (Grow.refl s z) rfl⟩
        · refine .inr ⟨i, j, px.int, py.int, h, q _ G H (Grow.refl s z) ?_⟩
          rw [Int.fdiv_eq_ediv_of_nonneg i (Int.le_of_lt h.1)]
          rfl
      · rw [if_neg hl] at e; cases e
    | _ => cases e
  | _ => cases e
def modD : D → D → Option W
  | .int i, .int j => if j ≠ 0 then some (.val (.int (i.fmod j))) else none
  | _, _ => none
theorem ok_mod : OpOk K (rI (fun _ j => j ≠ 0) fun i j => .int (i.fmod j)) modD := opok_imp (opok_ints (C := fun _ j => j ≠ 0) (gd := fun i j => .int (i.fmod j)) fun _ _ _ => rfl) fun a b w e => by
  cases a <;> cases b <;> first | exact e | cases e
def negD : D → Option W
  | .int i => some (.val (.int (-i)))
  | _ => none

/-! ### comparisons -/
def ltD : D → D → Option W
  | .int i, .int j => some (.val (.bl (decide (i < j))))
  | .str i, .str j => some (.val (.bl (decide (i.cps.toList < j.cps.toList))))
  | .tup xs, .tup ys => ltT xs ys
  | _, _ => none
where
  asInts : List D → Option (List Int)
    | [] => some []
    | .int i :: r => (asInts r).map (i :: ·)
    | _ :: _ => none
  ltT (xs ys : List D) : Option W := match asInts xs, asInts ys with
    | some ns, some ms => some (.val (.bl (HT.lexLt ns ms)))
    | _, _ => none
theorem asInts_map : ∀ {ds : List D} {ns : List Int}, ltD.asInts ds = some ns → ds = ns.map D.int
  | [], ns, e => by cases e; rfl
  | .int i :: r, ns, e => by
    have e : (ltD.asInts r).map (i :: ·) = some ns := e
    cases q : ltD.asInts r with
    | none => rw [q] at e; cases e
    | some ms => rw [q] at e; cases e; rw [asInts_map q]; rfl
  | .non :: _, _, e => nomatch e
  | .bl _ :: _, _, e => nomatch e
  | .str _ :: _, _, e => nomatch e
  | .tup _ :: _, _, e => nomatch e
  | .lst _ :: _, _, e => nomatch e
  | .scr _ :: _, _, e => nomatch e
  | .dk _ _ :: _, _, e => nomatch e
  | .dt _ _ :: _, _, e => nomatch e
  | .ref _ :: _, _, e => nomatch e
  | .ty _ :: _, _, e => nomatch e
theorem asInts_ints : ∀ ns : List Int, ltD.asInts (ns.map D.int) = some ns
  | [] => rfl
  | i :: ns => by
    show (ltD.asInts (ns.map D.int)).map (i :: ·) = _
    rw [asInts_ints ns]; rfl
def rLtD (K : PySem.W.Frag) : R2 := ror (rI0 fun i j => .bl (decide (i < j))) (ror (fun x y H Q => ∃ i j, x = .str i ∧ y = .str j ∧ Q (.bl (decide (i.cps.toList < j.cps.toList))) H) (rLtT K))
theorem op_ltD {X : Cx} (hu : X.A.units < cLine) : OpR X (compareOp .Lt) (rLtD X.K) := opr_or op_lt (opr_or op_lt_str (op_ltT hu))
theorem ok_lt : OpOk K (rLtD K) ltD := fun G H dx dy x y Q z s px py ⟨w, e, q⟩ => by
  cases dx with
  | int i =>
    cases dy with
    | int j => cases e; exact .inl ⟨i, j, px.int, py.int, q _ G H (Grow.refl s z) rfl⟩
    | _ => cases e
  | str i =>
    cases dy with
    | str j => cases e; exact .inr (.inl ⟨i, j, px.str, py.str, q _ G H (Grow.refl s z) rfl⟩)
    | _ => cases e
  | tup xs =>
    cases dy with
    | tup ys =>
      have e : ltD.ltT xs ys = some w := e
      unfold ltD.ltT at e
      cases h1 : ltD.asInts xs with
      | none => rw [h1] at e; cases e
      | some ns =>
        cases h2 : ltD.asInts ys with
        | none => rw [h1, h2] at e; cases e
        | some ms =>
          rw [h1, h2] at e
          cases e
          have e1 := asInts_map h1
          have e2 := asInts_map h2
          subst e1 e2
          obtain ⟨a, vs, rfl, q1, r1⟩ := px.tup
          obtain ⟨b, us, rfl, q2, r2⟩ := py.tup
          rw [r1.ints] at q1
          rw [r2.ints] at q2
          exact .inr (.inr ⟨a, b, ns, ms, rfl, rfl, Same.tup s q1, Same.tup s q2, q _ G H (Grow.refl s z) rfl⟩)
    | _ => cases e
  | _ => cases e
def leD : D → D → Option W
  | .int i, .int j => some (.val (.bl (decide (i ≤ j))))
  | .str i, .str j => some (.val (.bl (!decide (j.cps.toList < i.cps.toList))))
  | _, _ => none
def rLeD : R2 := ror (rI0 fun i j => .bl (decide (i ≤ j))) (fun x y H Q => ∃ i j, x = .str i ∧ y = .str j ∧ Q (.bl (!decide (j.cps.toList < i.cps.toList))) H)
theorem op_leD {X : Cx} : OpR X (compareOp .LtE) rLeD := opr_or op_le op_le_str
theorem ok_le : OpOk K rLeD leD := fun G H dx dy x y Q z s px py ⟨w, e, q⟩ => by
  cases dx with
  | int i =>
    cases dy with
    | int j => cases e; exact .inl ⟨i, j, px.int, py.int, q _ G H (Grow.refl s z) rfl⟩
    | _ => cases e
  | str i =>
    cases dy with
    | str j => cases e; exact .inr ⟨i, j, px.str, py.str, q _ G H (Grow.refl s z) rfl⟩
    | _ => cases e
  | _ => cases e
def gtD : D → D → Option W
  | .int i, .int j => some (.val (.bl (decide (j < i))))
  | _, _ => none
theorem ok_gt : OpOk K (rI0 fun i j => .bl (decide (j < i))) gtD := opok_imp (opok_ints0 (gd := fun i j => .bl (decide (j < i))) fun _ _ _ => rfl) fun a b w e => by
  cases a <;> cases b <;> first | exact e | cases e
def geD : D → D → Option W
  | .int i, .int j => some (.val (.bl (decide (j ≤ i))))
  | _, _ => none
theorem ok_ge : OpOk K (rI0 fun i j => .bl (decide (j ≤ i))) geD := opok_imp (opok_ints0 (gd := fun i j => .bl (decide (j ≤ i))) fun _ _ _ => rfl) fun a b w e => by
  cases a <;> cases b <;> first | exact e | cases e

/-! ### == at any depth -/
mutual
def toPy : D → Option PyData
  | .non => some .none
  | .bl b => some (.bool b)
  | .int i => some (.int i)
  | .str x => some (.str x)
  | .tup xs => (toPyL xs).map .tuple
  | .lst xs => (toPyL xs).map .list
  | _ => none
def toPyL : List D → Option (List PyData)
  | [] => some []
  | x :: xs => match toPy x, toPyL xs with
    | some d, some ds => some (d :: ds)
    | _, _ => none
end
mutual
theorem Rep.dp {G H : Hp} (s : Same G H) : ∀ {d : D} {v : V} {p : PyData}, Rep K G d v → toPy d = some p → Dp K H v p
  | .non, v, p, h, e => by cases e; have h' : v = .non := h; subst h'; exact .non
  | .bl b, v, p, h, e => by cases e; have h' : v = .bl b := h; subst h'; exact .bl b
  | .int b, v, p, h, e => by cases e; have h' : v = .int b := h; subst h'; exact .int b
  | .str b, v, p, h, e => by cases e; have h' : v = .str b := h; subst h'; exact .str b
  | .tup xs, v, p, h, e => by
    obtain ⟨a, vs, rfl, q, r⟩ := h
    have e : (toPyL xs).map PyData.tuple = some p := e
    cases hp : toPyL xs with
    | none => rw [hp] at e; cases e
    | some ds => rw [hp] at e; cases e; exact .tup (Same.tup s q) (RepL.dp s r hp)
  | .lst xs, v, p, h, e => by
    obtain ⟨a, vs, rfl, q, r⟩ := h
    have e : (toPyL xs).map PyData.list = some p := e
    cases hp : toPyL xs with
    | none => rw [hp] at e; cases e
    | some ds => rw [hp] at e; cases e; exact .lst (.inl (.inl (s _ _ q))) (RepL.dp s r hp)
  | .scr _, v, p, h, e => nomatch e
  | .dk _ _, v, p, h, e => nomatch e
  | .dt _ _, v, p, h, e => nomatch e
  | .ref _, v, p, h, e => nomatch e
  | .ty _, v, p, h, e => nomatch e
theorem RepL.dp {G H : Hp} (s : Same G H) : ∀ {ds : List D} {vs : List V} {ps : List PyData}, RepL K G ds vs → toPyL ds = some ps → DpAll K H vs ps
  | [], vs, ps, h, e => by cases h; cases e; exact .nil
  | d :: ds, vs, ps, h, e => by
    obtain ⟨v, r, rfl, h1, h2⟩ := h
    unfold toPyL at e
    cases hp : toPy d with
    | none => rw [hp] at e; cases e
    | some p =>
      cases hq : toPyL ds with
      | none => rw [hp, hq] at e; cases e
      | some qs => rw [hp, hq] at e; cases e; exact .cons (Rep.dp s h1 hp) (RepL.dp s h2 hq)
end
theorem Pk.dp {G H : Hp} {d : D} {v : V} {p : PyData} (s : Same G H) (h : Pk K G H d v) (e : toPy d = some p) : Dp K H v p := by
  rcases h with h | ⟨a, o, rfl, rfl, g, ow⟩
  · exact h.dp s e
  · cases o with
    | lst xs =>
      obtain ⟨vs, q, r⟩ := ow
      have e : (toPyL xs).map PyData.list = some p := e
      cases hp : toPyL xs with
      | none => rw [hp] at e; cases e
      | some ds => rw [hp] at e; cases e; exact .lst (.inl (.inl q)) (RepL.dp s r hp)
    | dk _ _ => cases e
    | dt _ _ => cases e
def pyOf (d : D) : Option PyData := match toPy d with
  | some p => if SeqAt.shaped p then some p else none
  | none => none
theorem pyOf_some {d : D} {p : PyData} (h : pyOf d = some p) : toPy d = some p ∧ SeqAt.shaped p = true := by
  unfold pyOf at h
  cases e : toPy d with
  | none => rw [e] at h; cases h
  | some q =>
    rw [e] at h
    by_cases hs : SeqAt.shaped q = true
    · simp only [hs, if_true] at h; cases h; exact ⟨rfl, hs⟩
    · simp only [hs] at h; cases h
def strB : D → D → Option Bool
  | .str x, .str y => some (decide (x = y))
  | _, _ => none
def eqD (a b : D) : Option W := match strB a b with
  | some r => some (.val (.bl r))
  | none => match pyOf a, pyOf b with
    | some p, some q => some (.val (.bl (PyData.eqv p q)))
    | _, _ => none
def neD (a b : D) : Option W := match strB a b with
  | some r => some (.val (.bl (!r)))
  | none => match pyOf a, pyOf b with
    | some p, some q => some (.val (.bl (!PyData.eqv p q)))
    | _, _ => none
def rEqA (K : PySem.W.Frag) : R2 := ror rEq (rEqD K)
def rNeA (K : PySem.W.Frag) : R2 := ror rNe (rNeD K)
theorem op_eqA {X : Cx} (hu : X.A.units + 64 < cLine) : OpR X (compareOp .Eq) (rEqA X.K) := opr_or op_eq (op_eqD hu)
theorem op_neA {X : Cx} (hu : X.A.units + 64 < cLine) : OpR X (compareOp .NotEq) (rNeA X.K) := opr_or op_ne (op_neD hu)
theorem strB_some {a b : D} {r : Bool} (h : strB a b = some r) : ∃ x y, a = .str x ∧ b = .str y ∧ r = decide (x = y) := by
  cases a with
  | str x => cases b with
    | str y => cases h; exact ⟨x, y, rfl, rfl, rfl⟩
    | _ => cases h
  | _ => cases h
theorem dec_str {x y : Str} : decide (V.str x = V.str y) = decide (x = y) := by
  by_cases h : x = y
  · simp [h]
  · simp [h]
theorem ok_eq : OpOk K (rEqA K) eqD := fun G H dx dy x y Q z s px py ⟨w, e, q⟩ => by
  unfold eqD at e
  cases hs : strB dx dy with
  | some r =>
    rw [hs] at e; cases e
    obtain ⟨a, b, rfl, rfl, rfl⟩ := strB_some hs
    refine .inl ⟨?_, ?_⟩
    · rw [px.str, py.str]; rfl
    · rw [px.str, py.str, dec_str]; exact q _ G H (Grow.refl s z) rfl
  | none =>
    rw [hs] at e
    simp only at e
    cases h1 : pyOf dx with
    | none => rw [h1] at e; cases e
    | some p1 =>
      cases h2 : pyOf dy with
      | none => rw [h1, h2] at e; cases e
      | some p2 =>
        rw [h1, h2] at e; cases e
        obtain ⟨t1, s1⟩ := pyOf_some h1
        obtain ⟨t2, s2⟩ := pyOf_some h2
        exact .inr ⟨p1, p2, px.dp s t1, py.dp s t2, s1, s2, q _ G H (Grow.refl s z) rfl⟩
theorem ok_ne : OpOk K (rNeA K) neD := fun G H dx dy x y Q z s px py ⟨w, e, q⟩ => by
  unfold neD at e
  cases hs : strB dx dy with
  | some r =>
    rw [hs] at e; cases e
    obtain ⟨a, b, rfl, rfl, rfl⟩ := strB_some hs
    refine .inl ⟨?_, ?_⟩
    · rw [px.str, py.str]; rfl
    · rw [px.str, py.str, dec_str]; exact q _ G H (Grow.refl s z) rfl
  | none =>
    rw [hs] at e
    simp only at e
    cases h1 : pyOf dx with
    | none => rw [h1] at e; cases e
    | some p1 =>
      cases h2 : pyOf dy with
      | none => rw [h1, h2] at e; cases e
      | some p2 =>
        rw [h1, h2] at e; cases e
        obtain ⟨t1, s1⟩ := pyOf_some h1
        obtain ⟨t2, s2⟩ := pyOf_some h2
        exact .inr ⟨p1, p2, px.dp s t1, py.dp s t2, s1, s2, q _ G H (Grow.refl s z) rfl⟩

/-! ### in, is -/
def flatD : D → Option V
  | .non => some .non
  | .bl b => some (.bl b)
  | .int i => some (.int i)
  | .str x => some (.str x)
  | _ => none
def flatL : List D → Option (List V)
  | [] => some []
  | d :: ds => match flatD d, flatL ds with
    | some v, some vs => some (v :: vs)
    | _, _ => none
theorem flatD_rep {G : Hp} {d : D} {v u : V} (h : flatD d = some v) (r : Rep K G d u) : u = v ∧ flatV v = true := by
  cases d <;> first | (cases h; exact ⟨r, rfl⟩) | cases h
theorem flatD_pk {G H : Hp} {d : D} {v u : V} (h : flatD d = some v) (r : Pk K G H d u) : u = v ∧ flatV v = true := by
  rcases r with r | ⟨a, o, rfl, rfl, g, ow⟩
  · exact flatD_rep h r
  · cases o <;> cases h
theorem flatL_rep {G : Hp} : ∀ {ds : List D} {vs us : List V}, flatL ds = some vs → RepL K G ds us → us = vs ∧ vs.all flatV = true
  | [], vs, us, h, r => by cases h; cases r; exact ⟨rfl, rfl⟩
  | d :: ds, vs, us, h, r => by
    obtain ⟨v, r', rfl, h1, h2⟩ := r
    unfold flatL at h
    cases hp : flatD d with
    | none => rw [hp] at h; cases h
    | some p =>
      cases hq : flatL ds with
      | none => rw [hp, hq] at h; cases h
      | some qs =>
        rw [hp, hq] at h; cases h
        obtain ⟨e1, f1⟩ := flatD_rep hp h1
        obtain ⟨e2, f2⟩ := flatL_rep hq h2
        exact ⟨by rw [e1, e2], by rw [List.all_cons, f1, f2]; rfl⟩
def inB (x : D) (xs : List D) : Option Bool := match flatD x, flatL xs with
  | some v, some vs => some (inV v vs)
  | _, _ => none
def inPy (x : D) (xs : List D) : Option Bool := match pyOf x, pyOf (.lst xs) with
  | some d, some (.list ds) => some (ds.any fun z => PyData.eqv z d)
  | _, _ => none
def inD (x y : D) : Option W := match y with
  | .lst xs => ((inB x xs).orElse fun _ => inPy x xs).map fun b => .val (.bl b)
  | .tup xs => (inB x xs).map fun b => .val (.bl b)
  | .str z => match x with
    | .str y => some (.val (.bl (!(Builtin.Str.occurrences z y 0 z.length 1).isEmpty)))
    | _ => none
  | _ => none
def notInD (x y : D) : Option W := match y with
  | .lst xs => ((inB x xs).orElse fun _ => inPy x xs).map fun b => .val (.bl (!b))
  | .tup xs => (inB x xs).map fun b => .val (.bl (!b))
  | .str z => match x with
    | .str y => some (.val (.bl (!(!(Builtin.Str.occurrences z y 0 z.length 1).isEmpty))))
    | _ => none
  | _ => none
def rInAll (K : PySem.W.Frag) : R2 := ror (rIn K false) (ror (rInD K) fun x y H Q => ∃ i j, x = .str i ∧ y = .str j ∧ Q (.bl (!(Builtin.Str.occurrences j i 0 j.length 1).isEmpty)) H)
def rNotInAll (K : PySem.W.Frag) : R2 := ror (rIn K true) (ror (rNotInD K) fun x y H Q => ∃ i j, x = .str i ∧ y = .str j ∧ Q (.bl (!(!(Builtin.Str.occurrences j i 0 j.length 1).isEmpty))) H)
theorem op_inAll {X : Cx} (hu : X.A.units + 65 < cLine) : OpR X (compareOp .In) (rInAll X.K) := opr_or op_in_seq (opr_or (op_inD hu) op_in_str)
theorem op_notInAll {X : Cx} (hu : X.A.units + 65 < cLine) : OpR X (compareOp .NotIn) (rNotInAll X.K) := opr_or op_notIn_seq (opr_or (op_notInD hu) op_notIn_str)
theorem inB_at {G H : Hp} {x : D} {xs : List D} {v : V} {vs : List V} {b : Bool} (e : inB x xs = some b) (px : Pk K G H x v) (r : RepL K G xs vs) : flatV v = true ∧ vs.all flatV = true ∧ inV v vs = b := by
  unfold inB at e
  cases h1 : flatD x with
  | none => rw [h1] at e; cases e
  | some u =>
    cases h2 : flatL xs with
    | none => rw [h1, h2] at e; cases e
    | some us =>
      rw [h1, h2] at e; cases e
      obtain ⟨rfl, f1⟩ := flatD_pk h1 px
      obtain ⟨rfl, f2⟩ := flatL_rep h2 r
      exact ⟨f1, f2, rfl⟩
theorem inPy_at {G H : Hp} {x : D} {xs : List D} {v u : V} {b : Bool} (s : Same G H) (e : inPy x xs = some b) (px : Pk K G H x v) (py : Pk K G H (.lst xs) u) :
    ∃ d ds, Dp K H v d ∧ Dp K H u (.list ds) ∧ SeqAt.shaped d = true ∧ SeqAt.shaped (.list ds) = true ∧ (ds.any fun z => PyData.eqv z d) = b := by
  unfold inPy at e
  cases h1 : pyOf x with
  | none => rw [h1] at e; cases e
  | some d =>
    cases h2 : pyOf (.lst xs) with
    | none => rw [h1, h2] at e; cases e
    | some p =>
      rw [h1, h2] at e
      cases p with
      | list ds =>
        cases e
        obtain ⟨t1, s1⟩ := pyOf_some h1
        obtain ⟨t2, s2⟩ := pyOf_some h2
        exact ⟨d, ds, px.dp s t1, py.dp s t2, s1, s2, rfl⟩
      | _ => cases e
theorem ok_in : OpOk K (rInAll K) inD := fun G H dx dy x y Q z s px py ⟨w, e, q⟩ => by
  cases dy with
  | lst xs =>
    have e : ((inB dx xs).orElse fun _ => inPy dx xs).map (fun b => W.val (.bl b)) = some w := e
    obtain ⟨a, vs, rfl, h1, r1⟩ := py.lst s
    cases hb : inB dx xs with
    | some b =>
      rw [hb] at e; cases e
      obtain ⟨f1, f2, e3⟩ := inB_at hb px r1
      refine .inl ⟨a, vs, rfl, .inl (.inl (.inl h1)), f1, f2, ?_⟩
      rw [if_neg Bool.false_ne_true, e3]
      exact q _ G H (Grow.refl s z) rfl
    | none =>
      rw [hb] at e
      have e : (inPy dx xs).map (fun b => W.val (.bl b)) = some w := e
      cases hp : inPy dx xs with
      | none => rw [hp] at e; cases e
      | some b =>
        rw [hp] at e; cases e
        obtain ⟨d, ds, d1, d2, s1, s2, e3⟩ := inPy_at s hp px py
        refine .inr (.inl ⟨d, ds, d1, d2, s1, s2, ?_⟩)
        rw [e3]
        exact q _ G H (Grow.refl s z) rfl
  | tup xs =>
    have e : (inB dx xs).map (fun b => W.val (.bl b)) = some w := e
    obtain ⟨a, vs, rfl, h1, r1⟩ := py.tup
    cases hb : inB dx xs with
    | some b =>
      rw [hb] at e; cases e
      obtain ⟨f1, f2, e3⟩ := inB_at hb px r1
      refine .inl ⟨a, vs, rfl, .inr (Same.tup s h1), f1, f2, ?_⟩
      rw [if_neg Bool.false_ne_true, e3]
      exact q _ G H (Grow.refl s z) rfl
    | none => rw [hb] at e; cases e
  | str j =>
    cases dx with
    | str i => cases e; exact .inr (.inr ⟨i, j, px.str, py.str, q _ G H (Grow.refl s z) rfl⟩)
    | _ => cases e
  | _ => cases e
theorem ok_notIn : OpOk K (rNotInAll K) notInD := fun G H dx dy x y Q z s px py ⟨w, e, q⟩ => by
  cases dy with
  | lst xs =>
    have e : ((inB dx xs).orElse fun _ => inPy dx xs).map (fun b => W.val (.bl (!b))) = some w := e
    obtain ⟨a, vs, rfl, h1, r1⟩ := py.lst s
    cases hb : inB dx xs with
    | some b =>
      rw [hb] at e; cases e
      obtain ⟨f1, f2, e3⟩ := inB_at hb px r1
      refine .inl ⟨a, vs, rfl, .inl (.inl (.inl h1)), f1, f2, ?_⟩
      rw [if_pos rfl, e3]
      exact q _ G H (Grow.refl s z) rfl
    | none =>
      rw [hb] at e
      have e : (inPy dx xs).map (fun b => W.val (.bl (!b))) = some w := e
      cases hp : inPy dx xs with
      | none => rw [hp] at e; cases e
      | some b =>
        rw [hp] at e; cases e
        obtain ⟨d, ds, d1, d2, s1, s2, e3⟩ := inPy_at s hp px py
        refine .inr (.inl ⟨d, ds, d1, d2, s1, s2, ?_⟩)
        rw [e3]
        exact q _ G H (Grow.refl s z) rfl
  | tup xs =>
    have e : (inB dx xs).map (fun b => W.val (.bl (!b))) = some w := e
    obtain ⟨a, vs, rfl, h1, r1⟩ := py.tup
    cases hb : inB dx xs with
    | some b =>
      rw [hb] at e; cases e
      obtain ⟨f1, f2, e3⟩ := inB_at hb px r1
      refine .inl ⟨a, vs, rfl, .inr (Same.tup s h1), f1, f2, ?_⟩
      rw [if_pos rfl, e3]
      exact q _ G H (Grow.refl s z) rfl
    | none => rw [hb] at e; cases e
  | str j =>
    cases dx with
    | str i => cases e; exact .inr (.inr ⟨i, j, px.str, py.str, q _ G H (Grow.refl s z) rfl⟩)
    | _ => cases e
  | _ => cases e
def isNonD : D → Bool
  | .non => true
  | _ => false
def isD : D → D → Option W
  | d, .non => some (.val (.bl (isNonD d)))
  | .bl a, .bl b => some (.val (.bl (decide (a = b))))
  | _, _ => none
def isNotD : D → D → Option W
  | d, .non => some (.val (.bl (!isNonD d)))
  | .bl a, .bl b => some (.val (.bl (!decide (a = b))))
  | _, _ => none
theorem isNon_pk {G H : Hp} {d : D} {v : V} (h : Pk K G H d v) : decide (v = .non) = isNonD d := by
  rcases h with h | ⟨a, o, rfl, rfl, g, ow⟩
  · cases d with
    | non => have h' : v = .non := h; subst h'; rfl
    | bl b => have h' : v = .bl b := h; subst h'; rfl
    | int b => have h' : v = .int b := h; subst h'; rfl
    | str b => have h' : v = .str b := h; subst h'; rfl
    | ref b => have h' : v = .ref b := h; subst h'; rfl
    | ty b => have h' : v = .ty b := h; subst h'; rfl
    | tup _ => obtain ⟨_, _, rfl, _⟩ := h; rfl
    | lst _ => obtain ⟨_, _, rfl, _⟩ := h; rfl
    | scr _ => obtain ⟨_, _, rfl, _⟩ := h; rfl
    | dk _ _ => obtain ⟨_, _, rfl, _⟩ := h; rfl
    | dt _ _ => obtain ⟨_, _, rfl, _⟩ := h; rfl
  · cases o <;> rfl
def rIsA : R2 := ror (fun x y H Q => y = .non ∧ Q (.bl (decide (x = .non))) H) (fun x y H Q => ∃ a b, x = .bl a ∧ y = .bl b ∧ Q (.bl (decide (a = b))) H)
def rIsNotA : R2 := ror (fun x y H Q => y = .non ∧ Q (.bl (!decide (x = .non))) H) (fun x y H Q => ∃ a b, x = .bl a ∧ y = .bl b ∧ Q (.bl (!decide (a = b))) H)
end
section
variable {K : PySem.W.Frag}
theorem op_isA {X : Cx} : OpR X (compareOp .Is) rIsA := opr_or op_isN op_is_bl
theorem op_isNotA {X : Cx} : OpR X (compareOp .IsNot) rIsNotA := opr_or op_notN op_isnot_bl
theorem ok_is : OpOk K rIsA isD := fun G H dx dy x y Q z s px py ⟨w, e, q⟩ => by
  by_cases hd : dy = .non
  · subst hd
    have e : some (W.val (.bl (isNonD dx))) = some w := by rw [← e]; cases dx <;> rfl
    cases e
    refine .inl ⟨py.non, ?_⟩
    rw [isNon_pk px]
    exact q _ G H (Grow.refl s z) rfl
  · cases dx with
    | bl a =>
      cases dy with
      | bl b => cases e; exact .inr ⟨a, b, px.bl, py.bl, q _ G H (Grow.refl s z) rfl⟩
      | non => exact absurd rfl hd
      | _ => cases e
    | _ => cases dy <;> first | exact absurd rfl hd | cases e
theorem ok_isNot : OpOk K rIsNotA isNotD := fun G H dx dy x y Q z s px py ⟨w, e, q⟩ => by
  by_cases hd : dy = .non
  · subst hd
    have e : some (W.val (.bl (!isNonD dx))) = some w := by rw [← e]; cases dx <;> rfl
    cases e
    refine .inl ⟨py.non, ?_⟩
    rw [isNon_pk px]
    exact q _ G H (Grow.refl s z) rfl
  · cases dx with
    | bl a =>
      cases dy with
      | bl b => cases e; exact .inr ⟨a, b, px.bl, py.bl, q _ G H (Grow.refl s z) rfl⟩
      | non => exact absurd rfl hd
      | _ => cases e
    | _ => cases dy <;> first | exact absurd rfl hd | cases e

/-! ### subscripts -/
def ixD : D → D → Option W
  | .lst xs, .int i => (atI xs i).map .val
  | .tup xs, .int i => (atI xs i).map .val
  | .str x, .int i => if x.length ≤ sizeLine then (atI x.cps.toList i).map fun c => .val (.str ⟨#[c]⟩) else none
  | _, _ => none
theorem atI_rep {G : Hp} {ds : List D} {vs : List V} {i : Int} {d : D} (r : RepL K G ds vs) (h : atI ds i = some d) : ∃ v, atI vs i = some v ∧ Rep K G d v := by
  unfold atI at h ⊢
  rw [← r.length]
  cases hq : ixN ds.length i with
  | none => rw [hq] at h; cases h
  | some j =>
    rw [hq] at h
    obtain ⟨v, hv, rp⟩ := r.getD (show ds[j]? = some d from h)
    exact ⟨v, hv, rp⟩
theorem ok_ix : OpOk K (rIx K) ixD := fun G H dx dy x y Q z s px py ⟨w, e, q⟩ => by
  cases dx with
  | lst xs =>
    cases dy with
    | int i =>
      have e : (atI xs i).map W.val = some w := e
      cases ha : atI xs i with
      | none => rw [ha] at e; cases e
      | some d =>
        rw [ha] at e; cases e
        obtain ⟨a, vs, rfl, h1, r1⟩ := px.lst s
        obtain ⟨v, hv, rp⟩ := atI_rep r1 ha
        exact .inl ⟨a, vs, i, v, rfl, py.int, .inl (.inl h1), hv, q v G H (Grow.refl s z) rp⟩
    | _ => cases e
  | tup xs =>
    cases dy with
    | int i =>
      have e : (atI xs i).map W.val = some w := e
      cases ha : atI xs i with
      | none => rw [ha] at e; cases e
      | some d =>
        rw [ha] at e; cases e
        obtain ⟨a, vs, rfl, h1, r1⟩ := px.tup
        obtain ⟨v, hv, rp⟩ := atI_rep r1 ha
        exact .inr (.inl ⟨a, vs, i, v, rfl, py.int, Same.tup s h1, hv, q v G H (Grow.refl s z) rp⟩)
    | _ => cases e
  | str t =>
    cases dy with
    | int i =>
      have e : (if t.length ≤ sizeLine then (atI t.cps.toList i).map fun c => W.val (.str ⟨#[c]⟩) else none) = some w := e
      by_cases hl : t.length ≤ sizeLine
      · rw [if_pos hl] at e
        cases ha : atI t.cps.toList i with
        | none => rw [ha] at e; cases e
        | some c =>
          rw [ha] at e; cases e
          exact .inr (.inr ⟨t, i, c, px.str, py.int, hl, ha, q _ G H (Grow.refl s z) rfl⟩)
      · rw [if_neg hl] at e; cases e
    | _ => cases e
  | _ => cases e

/-! ### slices -/
def cutD (xs : List D) (lo hi : Option Int) : List D := (xs.drop (HT.sIx xs.length 0 lo)).take (HT.sIx xs.length xs.length hi - HT.sIx xs.length 0 lo)
def slD (d : D) (lo hi : Option Int) : Option W := match d with
  | .lst xs => some (.own (.lst (cutD xs lo hi)))
  | .tup xs => some (.val (.tup (cutD xs lo hi)))
  | .str x => if x.length ≤ sizeLine then some (.val (.str (cutS x lo hi))) else none
  | _ => none
theorem cut_rep {G : Hp} {ds : List D} {vs : List V} (r : RepL K G ds vs) (lo hi : Option Int) : RepL K G (cutD ds lo hi) (cutV vs lo hi) := by
  unfold cutD cutV
  rw [r.length]
  exact (r.drop _).take _
def rSlAll (K : PySem.W.Frag) : V → Option Int → Option Int → Hp → VK → Prop := fun x lo hi H Q => rSlL K x lo hi H Q ∨ (rSlA K x lo hi H Q ∨ rSlS x lo hi H Q)
theorem sl_all {X : Cx} : SlR X (rSlAll X.K) := sl_list.or (sl_tupA.or sl_str)
theorem sl_ok {G H : Hp} {d : D} {x : V} {lo hi : Option Int} {Q : VK} {w : W} (z : HpOk K H) (s : Same G H) (px : Pk K G H d x) (e : slD d lo hi = some w) (q : ∀ v G' H', Grow K G H G' H' → WRes K G' H' H w v → Q v H') : rSlAll K x lo hi H Q := by
  cases d with
  | lst xs =>
    cases e
    obtain ⟨a, vs, rfl, h1, r1⟩ := px.lst s
    refine .inl ⟨a, vs, rfl, .inl (.inl h1), fun p np => ?_⟩
    obtain ⟨gr, wr⟩ := Grow.lst s z np (cut_rep r1 lo hi) (Nat.le_trans (cutV_length _ _ _) (z.l a vs (.inl (.inl h1))))
    exact q _ _ _ gr wr
  | tup xs =>
    cases e
    obtain ⟨a, vs, rfl, h1, r1⟩ := px.tup
    have h2 := Same.tup s h1
    refine .inr (.inl ⟨a, vs, rfl, h2, fun hw => ?_, fun _ p np => ?_⟩)
    · have e2 : cutD xs lo hi = xs := by
        unfold cutD
        rw [r1.length, hw.1, hw.2, List.drop_zero, Nat.sub_zero, ← r1.length, List.take_length]
      rw [e2] at q
      exact q _ G H (Grow.refl s z) ⟨a, vs, rfl, h1, r1⟩
    · obtain ⟨gr, wr⟩ := Grow.tup s z np (cut_rep r1 lo hi) (Nat.le_trans (cutV_length _ _ _) (z.t a vs h2))
      exact q _ _ _ gr wr
  | str t =>
    have e : (if t.length ≤ sizeLine then some (W.val (.str (cutS t lo hi))) else none) = some w := e
    by_cases hl : t.length ≤ sizeLine
    · rw [if_pos hl] at e; cases e
      exact .inr (.inr ⟨t, px.str, hl, q _ G H (Grow.refl s z) rfl⟩)
    · rw [if_neg hl] at e; cases e
  | _ => cases e
end
section
variable {X : Cx} {Wx : WX} {pos p2 : Pos} {e : Expr} {fa : Ev → R W}
/-- a part of a slice -/
def DO (X : Cx) (Wx : WX) (o : Option Expr) (f : Ev → R (Option Int)) : Prop := PO X o fun σ H Q => ∃ Γ G env, En X.K Γ G H σ env ∧ Aft X.K X.mg Wx Γ σ env G H (fun i _ _ H' => Q i H') (f env)
def oN : Ev → R (Option Int) := fun e => .ok none e
def oS (f : Ev → R W) : Ev → R (Option Int) := fun e => (f e).bind fun w e1 => match w with
  | .val (.int i) => .ok (some i) e1
  | _ => .bad
theorem po_imp {X : Cx} {o : Option Expr} {t t' : TO} (h : PO X o t) (i : ∀ σ H Q, t' σ H Q → t σ H Q) : PO X o t' := ⟨fun pins s σ H Q I q => h.run pins s σ H Q I (i σ H Q q)⟩
theorem do_none : DO X Wx none oN := po_imp po_none fun σ H Q ⟨Γ, G, env, en, h⟩ => h G H (.refl en)
theorem do_some (h : DE X Wx e fa) : DO X Wx (some e) (oS fa) := po_imp (po_some h) fun σ H Q ⟨Γ, G, env, en, h⟩ => ⟨Γ, G, env, en, h.two.imp fun w e1 G1 H1 _ ⟨p1, q⟩ v r n => by
  cases w with
  | own o => exact q.elim
  | loc i => exact q.elim
  | val d =>
    cases d with
    | int i =>
      have r' : v = .int i := r
      exact ⟨i, r', (q G1 H1 (.refl p1.en)).2⟩
    | _ => exact q.elim⟩
def slF (fa : Ev → R W) (fl fh : Ev → R (Option Int)) : Ev → R W := fun e => (fa e).bind fun w e1 => (fl e1).bind fun lo e2 => (fh e2).bind fun hi e3 => match (rd w e3).bind fun d => slD d lo hi with
  | some w' => .ok w' e3
  | none => .bad
theorem d_sl {lo hi : Option Expr} {fl fh : Ev → R (Option Int)} (ha : DE X Wx e fa) (hl : DO X Wx lo fl) (hh : DO X Wx hi fh) : DE X Wx (.Subscript e (.Slice lo hi none p2) pos) (slF fa fl fh) := pe_imp (pe_slice sl_all ha hl hh) fun σ H Q h => by
  obtain ⟨Γ, G, env, en, h⟩ := h
  refine ⟨Γ, G, env, en, h.two.imp fun w e1 G1 H1 _ ⟨p1, q⟩ v r n => ⟨Γ, G1, e1, p1.en, q.two.imp fun l e2 G2 H2 _ ⟨p2', q2⟩ => ⟨Γ, G2, e2, p2'.en, q2.two.imp fun h e3 G3 H3 _ ⟨p3, q3⟩ => ?_⟩⟩⟩
  cases hd : (rd w e3).bind fun d => slD d l h with
  | none => rw [hd] at q3; exact q3.elim
  | some w' =>
    rw [hd] at q3
    cases hr : rd w e3 with
    | none => rw [hr] at hd; cases hd
    | some d =>
      rw [hr] at hd
      refine sl_ok p3.en.hz p3.en.sub (rd_pk p3.en ((r.mono p2').mono p3) hr) hd fun v2 G4 H4 gr wr => ?_
      obtain ⟨wp, nn⟩ := wr.rep p3.en
      refine (q3 _ _ (gr.post p3.en)).2.2.2 _ wp ?_
      exact ((nn.back p3.kp.al).back p2'.kp.al).back p1.kp.al
/-- a unary operation -/
theorem d_neg (ha : DE X Wx e fa) : DE X Wx (.UnaryOp .USub e pos) (c1F negD fa) := pe_imp (pe_un un_neg ha) fun σ H Q h => by
  obtain ⟨Γ, G, env, en, h⟩ := h
  refine ⟨Γ, G, env, en, h.two.imp fun w e1 G1 H1 _ ⟨p1, q⟩ v r n => ?_⟩
  refine ap1_read (r := rU fun i => .int (-i)) (φ := negD) (fun G H d x Q z s px ⟨w, e, q⟩ => ?_) p1 r (q.imp fun _ _ _ _ _ z => z.2)
  cases d with
  | int i => cases e; exact ⟨i, px.int, q _ G H (Grow.refl s z) rfl⟩
  | _ => cases e
end

/-! ### built-ins -/
section
variable {K : PySem.W.Frag}
def lenD : D → Option W
  | .str x => if x.length ≤ sizeLine then some (.val (.int x.length)) else none
  | .lst xs => some (.val (.int xs.length))
  | .scr xs => some (.val (.int xs.length))
  | .tup xs => some (.val (.int xs.length))
  | _ => none
theorem ok_len : C1Ok K (fun xs H Q => ∃ x n, xs = [x] ∧ LenV K x H n ∧ Q (.int n) H) lenD := fun G H d x Q z s px ⟨w, e, q⟩ => by
  cases d with
  | str t =>
    have e : (if t.length ≤ sizeLine then some (W.val (.int t.length)) else none) = some w := e
    by_cases hl : t.length ≤ sizeLine
    · rw [if_pos hl] at e; cases e
      exact ⟨x, t.length, rfl, by rw [px.str]; exact ⟨hl, rfl⟩, q _ G H (Grow.refl s z) rfl⟩
    · rw [if_neg hl] at e; cases e
  | lst xs =>
    cases e
    obtain ⟨a, vs, rfl, h1, r1⟩ := px.lst s
    exact ⟨_, xs.length, rfl, .inl ⟨vs, .inl (.inl h1), r1.length⟩, q _ G H (Grow.refl s z) rfl⟩
  | scr xs =>
    cases e
    obtain ⟨a, vs, rfl, h1, r1⟩ := px.scr
    exact ⟨_, xs.length, rfl, .inl ⟨vs, s.seq h1, r1.length⟩, q _ G H (Grow.refl s z) rfl⟩
  | tup xs =>
    cases e
    obtain ⟨a, vs, rfl, h1, r1⟩ := px.tup
    exact ⟨_, xs.length, rfl, .inr ⟨vs, Same.tup s h1, r1.length⟩, q _ G H (Grow.refl s z) rfl⟩
  | _ => cases e
def absD : D → Option W
  | .int i => some (.val (.int (if i < 0 then -i else i)))
  | _ => none
theorem ok_abs : C1Ok K (fun xs H Q => ∃ i, xs = [.int i] ∧ Q (.int (if i < 0 then -i else i)) H) absD := fun G H d x Q z s px ⟨w, e, q⟩ => by
  cases d with
  | int i => cases e; exact ⟨i, by rw [px.int], q _ G H (Grow.refl s z) rfl⟩
  | _ => cases e
def intD : D → Option W
  | .int i => some (.val (.int i))
  | .bl k => some (.val (.int (if k then 1 else 0)))
  | .str x => if x.length ≤ 640 then (PySem.intText? x).map fun n => .val (.int n) else none
  | _ => none
def rIntA : List V → Hp → VK → Prop := fun xs H Q => ((∃ i, xs = [.int i] ∧ Q (.int i) H) ∨ ∃ k, xs = [.bl k] ∧ Q (.int (if k then 1 else 0)) H) ∨ ∃ a n, xs = [.str a] ∧ PySem.intText? a = some n ∧ a.length ≤ 640 ∧ Q (.int n) H
theorem call_intA {X : Cx} : CallR X (.type "int") rIntA := call_int1.or call_int_str
theorem ok_int : C1Ok K rIntA intD := fun G H d x Q z s px ⟨w, e, q⟩ => by
  cases d with
  | int i => cases e; exact .inl (.inl ⟨i, by rw [px.int], q _ G H (Grow.refl s z) rfl⟩)
  | bl i => cases e; exact .inl (.inr ⟨i, by rw [px.bl], q _ G H (Grow.refl s z) rfl⟩)
  | str t =>
    have e : (if t.length ≤ 640 then (PySem.intText? t).map fun n => W.val (.int n) else none) = some w := e
    by_cases hl : t.length ≤ 640
    · rw [if_pos hl] at e
      cases hn : PySem.intText? t with
      | none => rw [hn] at e; cases e
      | some n => rw [hn] at e; cases e; exact .inr ⟨t, n, by rw [px.str], hn, hl, q _ G H (Grow.refl s z) rfl⟩
    · rw [if_neg hl] at e; cases e
  | _ => cases e
def tupleD : D → Option W
  | .lst xs => some (.val (.tup xs))
  | .tup xs => some (.val (.tup xs))
  | _ => none
theorem ok_tuple : C1Ok K (fun xs H Q => ∃ p ys, xs = [.ref p] ∧ ((SqL K H p ys ∧ ∀ l, H l = none → Q (.ref l) (upd H l (.tup ys))) ∨ (SqT K H p ys ∧ Q (.ref p) H))) tupleD := fun G H d x Q z s px ⟨w, e, q⟩ => by
  cases d with
  | lst xs =>
    cases e
    obtain ⟨a, vs, rfl, h1, r1⟩ := px.lst s
    refine ⟨a, vs, rfl, .inl ⟨.inl (.inl h1), fun p np => ?_⟩⟩
    obtain ⟨gr, wr⟩ := Grow.tup s z np r1 (z.l a vs (.inl (.inl h1)))
    exact q _ _ _ gr wr
  | tup xs =>
    cases e
    obtain ⟨a, vs, rfl, h1, r1⟩ := px.tup
    exact ⟨a, vs, rfl, .inr ⟨Same.tup s h1, q _ G H (Grow.refl s z) ⟨a, vs, rfl, h1, r1⟩⟩⟩
  | _ => cases e
def listD : D → Option W
  | .lst xs => some (.own (.lst xs))
  | .tup xs => some (.own (.lst xs))
  | .scr xs => some (.own (.lst xs))
  | _ => none
theorem ok_list : C1Ok K (fun xs H Q => ∃ p ys, xs = [.ref p] ∧ (SqL K H p ys ∨ SqT K H p ys) ∧ ∀ l, H l = none → Q (.ref l) (upd H l (.lst ys))) listD := fun G H d x Q z s px ⟨w, e, q⟩ => by
  cases d with
  | lst xs =>
    cases e
    obtain ⟨a, vs, rfl, h1, r1⟩ := px.lst s
    refine ⟨a, vs, rfl, .inl (.inl (.inl h1)), fun p np => ?_⟩
    obtain ⟨gr, wr⟩ := Grow.lst s z np r1 (z.l a vs (.inl (.inl h1)))
    exact q _ _ _ gr wr
  | scr xs =>
    cases e
    obtain ⟨a, vs, rfl, h1, r1⟩ := px.scr
    refine ⟨a, vs, rfl, .inl (s.seq h1), fun p np => ?_⟩
    obtain ⟨gr, wr⟩ := Grow.lst s z np r1 (z.l a vs (s.seq h1))
    exact q _ _ _ gr wr
  | tup xs =>
    cases e
    obtain ⟨a, vs, rfl, h1, r1⟩ := px.tup
    refine ⟨a, vs, rfl, .inr (Same.tup s h1), fun p np => ?_⟩
    obtain ⟨gr, wr⟩ := Grow.lst s z np r1 (z.t a vs (Same.tup s h1))
    exact q _ _ _ gr wr
  | _ => cases e
def sumD : D → Option W
  | .lst xs => (ltD.asInts xs).map fun ns => .val (.int ns.sum)
  | _ => none
theorem lst_ints {G H : Hp} {xs : List D} {x : V} {ns : List Int} (s : Same G H) (px : Pk K G H (.lst xs) x) (h : ltD.asInts xs = some ns) : ∃ a, x = .ref a ∧ H a = some (.lst (ns.map V.int)) := by
  obtain ⟨a, vs, rfl, h1, r1⟩ := px.lst s
  have e := asInts_map h
  subst e
  rw [r1.ints] at h1
  exact ⟨a, rfl, h1⟩
theorem ok_sum : C1Ok K (rSum K) sumD := fun G H d x Q z s px ⟨w, e, q⟩ => by
  cases d with
  | lst xs =>
    have e : (ltD.asInts xs).map (fun ns => W.val (.int ns.sum)) = some w := e
    cases hi : ltD.asInts xs with
    | none => rw [hi] at e; cases e
    | some ns =>
      rw [hi] at e; cases e
      obtain ⟨a, rfl, h1⟩ := lst_ints s px hi
      exact ⟨a, ns, rfl, .inl (.inl h1), q _ G H (Grow.refl s z) rfl⟩
  | _ => cases e
def maxL : List Int → Option Int
  | [] => none
  | x :: r => some (r.foldl max x)
def minL : List Int → Option Int
  | [] => none
  | x :: r => some (r.foldl min x)
theorem foldl_max : ∀ (r : List Int) (x : Int), (r.foldl max x = x ∨ r.foldl max x ∈ r) ∧ x ≤ r.foldl max x ∧ ∀ y ∈ r, y ≤ r.foldl max x
  | [], x => ⟨.inl rfl, Int.le_refl _, fun y h => nomatch h⟩
  | a :: r, x => by
    obtain ⟨h1, h2, h3⟩ := foldl_max r (max x a)
    have ha : a ≤ max x a := Int.le_max_right _ _
    have hx : x ≤ max x a := Int.le_max_left _ _
    refine ⟨?_, Int.le_trans hx h2, fun y hy => ?_⟩
    · rcases h1 with h1 | h1
      · rw [List.foldl_cons, h1]
        by_cases c : x ≤ a
        · exact .inr (by rw [Int.max_eq_right c]; exact List.mem_cons_self)
        · exact .inl (Int.max_eq_left (by omega))
      · exact .inr (List.mem_cons_of_mem _ h1)
    · rcases List.mem_cons.mp hy with rfl | hy
      · exact Int.le_trans ha h2
      · exact h3 y hy
theorem foldl_min : ∀ (r : List Int) (x : Int), (r.foldl min x = x ∨ r.foldl min x ∈ r) ∧ r.foldl min x ≤ x ∧ ∀ y ∈ r, r.foldl min x ≤ y
  | [], x => ⟨.inl rfl, Int.le_refl _, fun y h => nomatch h⟩
  | a :: r, x => by
    obtain ⟨h1, h2, h3⟩ := foldl_min r (min x a)
    have ha : min x a ≤ a := Int.min_le_right _ _
    have hx : min x a ≤ x := Int.min_le_left _ _
    refine ⟨?_, Int.le_trans h2 hx, fun y hy => ?_⟩
    · rcases h1 with h1 | h1
      · rw [List.foldl_cons, h1]
        by_cases c : x ≤ a
        · exact .inl (Int.min_eq_left c)
        · exact .inr (by rw [Int.min_eq_right (by omega)]; exact List.mem_cons_self)
      · exact .inr (List.mem_cons_of_mem _ h1)
    · rcases List.mem_cons.mp hy with rfl | hy
      · exact Int.le_trans h2 ha
      · exact h3 y hy
theorem maxL_eq {ns : List Int} {m k : Int} (h : maxL ns = some k) (h1 : m ∈ ns) (h2 : ∀ y ∈ ns, y ≤ m) : m = k := by
  cases ns with
  | nil => cases h
  | cons x r =>
    cases h
    obtain ⟨f1, f2, f3⟩ := foldl_max r x
    have a1 : r.foldl max x ≤ m := by
      rcases f1 with f1 | f1
      · rw [f1]; exact h2 _ List.mem_cons_self
      · exact h2 _ (List.mem_cons_of_mem _ f1)
    have a2 : m ≤ r.foldl max x := by
      rcases List.mem_cons.mp h1 with rfl | h1
      · exact f2
      · exact f3 _ h1
    omega
theorem minL_eq {ns : List Int} {m k : Int} (h : minL ns = some k) (h1 : m ∈ ns) (h2 : ∀ y ∈ ns, m ≤ y) : m = k := by
  cases ns with
  | nil => cases h
  | cons x r =>
    cases h
    obtain ⟨f1, f2, f3⟩ := foldl_min r x
    have a1 : m ≤ r.foldl min x := by
      rcases f1 with f1 | f1
      · rw [f1]; exact h2 _ List.mem_cons_self
      · exact h2 _ (List.mem_cons_of_mem _ f1)
    have a2 : r.foldl min x ≤ m := by
      rcases List.mem_cons.mp h1 with rfl | h1
      · exact f2
      · exact f3 _ h1
    omega
def maxD : D → Option W
  | .lst xs => (ltD.asInts xs).bind fun ns => (maxL ns).map fun m => .val (.int m)
  | _ => none
def minD : D → Option W
  | .lst xs => (ltD.asInts xs).bind fun ns => (minL ns).map fun m => .val (.int m)
  | _ => none
theorem ok_max : C1Ok K (rMax K) maxD := fun G H d x Q z s px ⟨w, e, q⟩ => by
  cases d with
  | lst xs =>
    have e : (ltD.asInts xs).bind (fun ns => (maxL ns).map fun m => W.val (.int m)) = some w := e
    cases hi : ltD.asInts xs with
    | none => rw [hi] at e; cases e
    | some ns =>
      rw [hi] at e
      have e : (maxL ns).map (fun m => W.val (.int m)) = some w := e
      cases hm : maxL ns with
      | none => rw [hm] at e; cases e
      | some m =>
        rw [hm] at e; cases e
        obtain ⟨a, rfl, h1⟩ := lst_ints s px hi
        refine ⟨a, ns, rfl, .inl (.inl h1), ?_, fun k k1 k2 => ?_⟩
        · cases ns with
          | nil => cases hm
          | cons _ _ => exact Nat.succ_pos _
        · rw [maxL_eq hm k1 k2]
          exact q _ G H (Grow.refl s z) rfl
  | _ => cases e
theorem ok_min : C1Ok K (rMin K) minD := fun G H d x Q z s px ⟨w, e, q⟩ => by
  cases d with
  | lst xs =>
    have e : (ltD.asInts xs).bind (fun ns => (minL ns).map fun m => W.val (.int m)) = some w := e
    cases hi : ltD.asInts xs with
    | none => rw [hi] at e; cases e
    | some ns =>
      rw [hi] at e
      have e : (minL ns).map (fun m => W.val (.int m)) = some w := e
      cases hm : minL ns with
      | none => rw [hm] at e; cases e
      | some m =>
        rw [hm] at e; cases e
        obtain ⟨a, rfl, h1⟩ := lst_ints s px hi
        refine ⟨a, ns, rfl, .inl (.inl h1), ?_, fun k k1 k2 => ?_⟩
        · cases ns with
          | nil => cases hm
          | cons _ _ => exact Nat.succ_pos _
        · rw [minL_eq hm k1 k2]
          exact q _ G H (Grow.refl s z) rfl
  | _ => cases e
def max2D : List D → Option W
  | [.int i, .int j] => some (.val (.int (if j > i then j else i)))
  | _ => none
def min2D : List D → Option W
  | [.int i, .int j] => some (.val (.int (if j < i then j else i)))
  | _ => none
theorem ok_max2 : CnOk K (fun xs H Q => ∃ i j, xs = [.int i, .int j] ∧ Q (.int (if j > i then j else i)) H) max2D := fun G H ds xs Q z s r ⟨w, e, q⟩ => by
  unfold max2D at e
  split at e
  · rename_i i j
    cases e
    exact ⟨_, _, ints2 r, q _ G H (Grow.refl s z) rfl⟩
  · cases e
theorem ok_min2 : CnOk K (fun xs H Q => ∃ i j, xs = [.int i, .int j] ∧ Q (.int (if j < i then j else i)) H) min2D := fun G H ds xs Q z s r ⟨w, e, q⟩ => by
  unfold min2D at e
  split at e
  · rename_i i j
    cases e
    exact ⟨_, _, ints2 r, q _ G H (Grow.refl s z) rfl⟩
  · cases e
def asBls : List D → Option (List Bool)
  | [] => some []
  | .bl i :: r => (asBls r).map (i :: ·)
  | _ :: _ => none
theorem asBls_map : ∀ {ds : List D} {ns : List Bool}, asBls ds = some ns → ds = ns.map D.bl
  | [], ns, e => by cases e; rfl
  | .bl i :: r, ns, e => by
    have e : (asBls r).map (i :: ·) = some ns := e
    cases q : asBls r with
    | none => rw [q] at e; cases e
    | some ms => rw [q] at e; cases e; rw [asBls_map q]; rfl
  | .non :: _, _, e => nomatch e
  | .int _ :: _, _, e => nomatch e
  | .str _ :: _, _, e => nomatch e
  | .tup _ :: _, _, e => nomatch e
  | .lst _ :: _, _, e => nomatch e
  | .scr _ :: _, _, e => nomatch e
  | .dk _ _ :: _, _, e => nomatch e
  | .dt _ _ :: _, _, e => nomatch e
  | .ref _ :: _, _, e => nomatch e
  | .ty _ :: _, _, e => nomatch e
theorem asBls_bls : ∀ ns : List Bool, asBls (ns.map D.bl) = some ns
  | [] => rfl
  | i :: ns => by
    show (asBls (ns.map D.bl)).map (i :: ·) = _
    rw [asBls_bls ns]; rfl
theorem RepL.bls {G : Hp} : ∀ {ns : List Bool} {vs : List V}, RepL K G (ns.map D.bl) vs → vs = ns.map V.bl
  | [], _, h => h
  | _ :: _, _, h => by
    obtain ⟨v', r, rfl, h1, h2⟩ := h
    have h1' : v' = .bl _ := h1
    rw [h1', RepL.bls h2]; rfl
def allD : D → Option W
  | .lst xs => (asBls xs).map fun bs => .val (.bl (bs.all id))
  | _ => none
def anyD : D → Option W
  | .lst xs => (asBls xs).map fun bs => .val (.bl (bs.any id))
  | _ => none
theorem ok_all : C1Ok K (rAll K) allD := fun G H d x Q z s px ⟨w, e, q⟩ => by
  cases d with
  | lst xs =>
    have e : (asBls xs).map (fun bs => W.val (.bl (bs.all id))) = some w := e
    cases hi : asBls xs with
    | none => rw [hi] at e; cases e
    | some ns =>
      rw [hi] at e; cases e
      obtain ⟨a, vs, rfl, h1, r1⟩ := px.lst s
      have e := asBls_map hi
      subst e
      rw [r1.bls] at h1
      exact ⟨a, ns, rfl, .inl (.inl h1), q _ G H (Grow.refl s z) rfl⟩
  | _ => cases e
theorem ok_any : C1Ok K (rAny K) anyD := fun G H d x Q z s px ⟨w, e, q⟩ => by
  cases d with
  | lst xs =>
    have e : (asBls xs).map (fun bs => W.val (.bl (bs.any id))) = some w := e
    cases hi : asBls xs with
    | none => rw [hi] at e; cases e
    | some ns =>
      rw [hi] at e; cases e
      obtain ⟨a, vs, rfl, h1, r1⟩ := px.lst s
      have e := asBls_map hi
      subst e
      rw [r1.bls] at h1
      exact ⟨a, ns, rfl, .inl (.inl h1), q _ G H (Grow.refl s z) rfl⟩
  | _ => cases e
def strD : D → Option W
  | .int i => if i.natAbs.log2 < 1920 then some (.val (.str (toString i))) else none
  | .str x => some (.val (.str x))
  | _ => none
def rStrA : List V → Hp → VK → Prop := fun xs H Q => (∃ i, xs = [.int i] ∧ i.natAbs.log2 < 1920 ∧ Q (.str (toString i)) H) ∨ ∃ a, xs = [.str a] ∧ Q (.str a) H
theorem call_strA {X : Cx} : CallR X (.type "str") rStrA := call_str_int.or SkE.call_str_str
theorem ok_str : C1Ok K rStrA strD := fun G H d x Q z s px ⟨w, e, q⟩ => by
  cases d with
  | int i =>
    have e : (if i.natAbs.log2 < 1920 then some (W.val (.str (toString i))) else none) = some w := e
    by_cases hl : i.natAbs.log2 < 1920
    · rw [if_pos hl] at e; cases e
      exact .inl ⟨i, by rw [px.int], hl, q _ G H (Grow.refl s z) rfl⟩
    · rw [if_neg hl] at e; cases e
  | str t => cases e; exact .inr ⟨t, by rw [px.str], q _ G H (Grow.refl s z) rfl⟩
  | _ => cases e

/-! ### repr -/
def rReprD (K : PySem.W.Frag) : List V → Hp → VK → Prop := fun xs H Q => ∃ x p, xs = [x] ∧ Dp K H x p ∧ p.showable = true ∧ SeqAt.shaped p = true ∧ p.shown.length ≤ sizeLine ∧ Q (.str p.shown) H
theorem call_reprD {X : Cx} (hg : X.A.guards = some []) (hu : X.A.units + 66 < cLine) : CallR X (.builtin "repr") (rReprD X.K) := by
  intro pins s σ H xs us Q I r h
  obtain ⟨x, p, rfl, hd, hs, hsh, hz, q⟩ := h
  obtain ⟨u, rfl, rx⟩ := vals1 r
  have fin : ∀ (h' : Heap) (t : Tok) (tk : Nat), (∀ b o, s.heap.get? b = some o → h'.get? b = some o) → EP X pins σ Q (.str p.shown t) { s with heap := h', toks := tk } := fun h' t tk hk => ⟨.str p.shown, H, I.kept hk, ⟨t, rfl⟩, q⟩
  obtain ⟨as, rs⟩ := Dp.reads I p x u hd rx
  have hdep := SeqAt.depth_of_shaped hsh
  have nodict : p.hasDict = true → sysModules ∉ as := PyData.noDict_hsm (PyData.hasDict_of_canLay p (SeqAt.canLay_of_shaped hsh))
  have refd : ∀ a : Addr, u = .ref a → wpAny (model X.prog X.w) X.A (call (.builtin "repr") [u]) (EP X pins σ Q) X.xe s := fun a e => by
    subst e
    exact repr_of_reads' rs hs nodict hg (by omega) (fun _ _ e => e) (fun h' t tk hk => fin h' t tk hk) hz
  cases hd with
  | non => cases rx; exact P.repr_of_none (fin s.heap _ _ fun _ _ e => e)
  | bl b => cases rx; exact P.repr_of_bool (fin s.heap _ _ fun _ _ e => e)
  | int i =>
    obtain ⟨t, rfl⟩ := rx
    exact P.repr_of_int (of_decide_eq_true hs) (fin s.heap _ _ fun _ _ e => e)
  | str y =>
    obtain ⟨t, rfl⟩ := rx
    exact P.repr_of_str (fin s.heap _ _ fun _ _ e => e) hz
  | lst hq ha => exact refd _ rx
  | tup hq ha => exact refd _ rx
def reprD (d : D) : Option W := match pyOf d with
  | some p => if p.showable ∧ p.shown.length ≤ sizeLine then some (.val (.str p.shown)) else none
  | none => none
theorem ok_repr : C1Ok K (rReprD K) reprD := fun G H d x Q z s px ⟨w, e, q⟩ => by
  unfold reprD at e
  cases hp : pyOf d with
  | none => rw [hp] at e; cases e
  | some p =>
    rw [hp] at e
    have e : (if p.showable = true ∧ p.shown.length ≤ sizeLine then some (W.val (.str p.shown)) else none) = some w := e
    by_cases hl : p.showable = true ∧ p.shown.length ≤ sizeLine
    · rw [if_pos hl] at e; cases e
      obtain ⟨t1, s1⟩ := pyOf_some hp
      exact ⟨x, p, rfl, px.dp s t1, hl.1, s1, hl.2, q _ G H (Grow.refl s z) rfl⟩
    · rw [if_neg hl] at e; cases e
end
/-! ### an owned thing is changed -/
section
variable {K : PySem.W.Frag} {mg : Str → Option Value} {Wx : WX} {Γ : Ct} {σ : St} {env : Ev} {G H : Hp}
theorem En.chg (en : En K Γ G H σ env) {i : Nat} {b : Bool} {o o' : OD} {a : Addr} {u : HO} (h : env[i]? = some (.own b o)) (hσ : σ[i]? = some (some (.ref a))) (ow : OwnAt K G (L2.upd H a u) a o') (z : HpOk K (L2.upd H a u)) :
    Post K Γ σ env G H (env.set i (.own b o')) G (L2.upd H a u) := by
  obtain ⟨a', e1, g, ow0, z0, m⟩ := en.sl i _ h
  rw [hσ] at e1; cases e1
  have oa : Owned σ env a := ⟨i, b, o, h, hσ⟩
  refine ⟨⟨fun c x e => ?_, en.g0, en.nw, fun c x e n => ?_, fun c hc => ?_, by rw [List.length_set]; exact en.len, fun j t q => ?_, fun p hp => ?_, fun j j' b1 b2 o1 o2 c e1 e2 e3 e4 => ?_, z⟩, ⟨Same.refl _, fun c x e n => ?_, fun c x e => .inl e, fun c e => ?_⟩, EvLe.set h (.own _ _ _)⟩
  · rw [upd_ne (ne_of_none e g)]; exact en.sub c x e
  · have nc : c ≠ a := fun q => by
      subst q
      cases b with
      | false => rw [z0 rfl] at e; cases e
      | true => exact n (List.mem_map.mpr ⟨_, m rfl, rfl⟩)
    rw [upd_ne nc]; exact en.fr c x e n
  · refine ⟨?_, (en.bh c hc).2⟩
    by_cases q : c = a
    · rw [q, upd_same]; exact fun z => nomatch z
    · rw [upd_ne q]; exact (en.bh c hc).1
  · rcases set_get q with ⟨rfl, rfl⟩ | ⟨n, q⟩
    · exact ⟨a, hσ, g, ow, z0, m⟩
    · have y := en.sl j t q
      cases t with
      | no => trivial
      | val d => exact y
      | bval d => exact y
      | own b' o'' =>
        obtain ⟨c, e1, g1, ow1, m1⟩ := y
        have nc : c ≠ a := fun z => n (by subst z; exact en.dis j i _ _ _ _ c q h e1 hσ)
        exact ⟨c, e1, g1, ow1.mono (Same.refl _) (fun o e => by rw [upd_ne nc]; exact e), m1⟩
  · have hb := en.bo p hp
    by_cases hi : p.1 = i
    · rcases hb with ⟨o1, e⟩ | ⟨d, e⟩
      · rw [hi, h] at e; cases e
        exact .inl ⟨o', by rw [hi]; exact List.getElem?_set_self (List.getElem?_eq_some_iff.mp h).1⟩
      · rw [hi, h] at e; cases e
    · rw [List.getElem?_set_ne fun z => hi z.symm]; exact hb
  · have old : ∀ {j : Nat} {bb : Bool} {oo : OD}, (env.set i (.own b o'))[j]? = some (.own bb oo) → ∃ b2 o2, env[j]? = some (.own b2 o2) := fun {j bb oo} e => by
      rcases set_get e with ⟨rfl, _⟩ | ⟨_, e⟩
      · exact ⟨_, _, h⟩
      · exact ⟨_, _, e⟩
    obtain ⟨_, _, f1⟩ := old e1
    obtain ⟨_, _, f2⟩ := old e2
    exact en.dis j j' _ _ _ _ c f1 f2 e3 e4
  · have nc : c ≠ a := fun q => n (by rw [q]; exact oa)
    rw [upd_ne nc]; exact e
  · by_cases q : c = a
    · rw [q, upd_same]; exact fun z => nomatch z
    · rw [upd_ne q]; exact e
theorem own_at (en : En K Γ G H σ env) {i : Nat} {b : Bool} {xs : List D} (h : env[i]? = some (.own b (.lst xs))) : ∃ a vs, σ[i]? = some (some (.ref a)) ∧ H a = some (.lst vs) ∧ RepL K G xs vs := by
  obtain ⟨a, e1, g, ⟨vs, h1, r⟩, _⟩ := en.sl i _ h
  exact ⟨a, vs, e1, h1, r⟩
theorem En.lst (en : En K Γ G H σ env) {i : Nat} {b : Bool} {xs ys : List D} {a : Addr} {vs us : List V} (h : env[i]? = some (.own b (.lst xs))) (hσ : σ[i]? = some (some (.ref a))) (hH : H a = some (.lst vs)) (r : RepL K G ys us) (l : us.length ≤ sizeLine) :
    Post K Γ σ env G H (env.set i (.own b (.lst ys))) G (L2.upd H a (.lst us)) := en.chg h hσ ⟨us, upd_same, r⟩ (en.hz.setL hH l)
end

/-- a method that changes its list -/
def MutOk (K : PySem.W.Frag) (r : V → List V → Hp → VK → Prop) (φ : List D → List D → Option (List D × D)) : Prop := ∀ (G H : Hp) (a : Addr) (xs ds xs' : List D) (vs us : List V) (d : D) (Q : VK), Same G H → HpOk K H → H a = some (.lst vs) → RepL K G xs vs → RepL K G ds us → φ xs ds = some (xs', d) →
  (∀ v vs', RepL K G xs' vs' → vs'.length ≤ sizeLine → Rep K G d v → Q v (L2.upd H a (.lst vs'))) → r (.ref a) us H Q
def mutF (i : Nat) (φ : List D → List D → Option (List D × D)) (f : Ev → R (List Ar)) : Ev → R W := fun e => match e[i]? with
  | some (.own _ (.lst _)) => (f e).bind fun as e1 => match vals as, e1[i]? with
    | some ds, some (.own b (.lst xs)) => (match φ xs ds with
      | some (xs', d) => .ok (.val d) (e1.set i (.own b (.lst xs')))
      | none => .bad)
    | _, _ => .bad
  | _ => .bad
section
variable {X : Cx} {Wx : WX} {apos pos opos : Pos} {e : Expr} {es : List Expr} {f : Ev → R (List Ar)} {name x : Str} {id : String} {r : V → List V → Hp → VK → Prop} {φ : List D → List D → Option (List D × D)} {i : Nat}
theorem mut_read {K : PySem.W.Frag} {mg : Str → Option Value} {σ : St} {H : Hp} (ro : MutOk K r φ) {Q : VK} (h : tD K mg Wx (mutF i φ f) σ H Q) : tBM K "list" r (tVar i) (tDA K mg Wx f) σ H Q := by
  obtain ⟨Γ, G, env, en, h⟩ := h
  unfold mutF at h
  cases hs : env[i]? with
  | none => rw [hs] at h; exact h.elim
  | some s =>
    rw [hs] at h
    cases s with
    | no => exact h.elim
    | val d => exact h.elim
    | bval d => exact h.elim
    | own b o =>
      cases o with
      | dk _ _ => exact h.elim
      | dt _ _ => exact h.elim
      | lst xs0 =>
        obtain ⟨a, vs0, hσ, hH0, _⟩ := own_at en hs
        refine ⟨.ref a, hσ, .inl ⟨rfl, vs0, .inl (.inl hH0)⟩, Γ, G, env, en, Aft.imp (Aft.two h) fun as e1 G1 H1 _ ⟨p1, q⟩ us ra => ?_⟩
        cases hv : vals as with
        | none => simp only [hv] at q; exact q.elim
        | some ds =>
          simp only [hv] at q
          cases h1 : e1[i]? with
          | none => simp only [h1] at q; exact q.elim
          | some s1 =>
            simp only [h1] at q
            cases s1 with
            | no => exact q.elim
            | val d => exact q.elim
            | bval d => exact q.elim
            | own b1 o1 =>
              cases o1 with
              | dk _ _ => exact q.elim
              | dt _ _ => exact q.elim
              | lst xs =>
                cases hφ : φ xs ds with
                | none => simp only [hφ] at q; exact q.elim
                | some p =>
                  obtain ⟨xs', d⟩ := p
                  simp only [hφ] at q
                  obtain ⟨a1, vs, hσ1, hH, rl⟩ := own_at p1.en h1
                  rw [hσ] at hσ1; cases hσ1
                  refine ro G1 H1 a xs ds xs' vs us d _ p1.en.sub p1.en.hz hH rl (ra.vals hv) hφ fun v vs' r' l' rd' => ?_
                  exact (q _ _ (p1.en.lst h1 hσ hH r' l')).2 v rd' fun _ _ z => nomatch z
theorem d_mut (pa : PlainAttrs "list") (slot : Slot "list" name id) (hty : typeOf (.builtin id) = pure (.type "method_descriptor")) (hm : MtR X id r) (ro : MutOk X.K r φ) (i : Nat) (ha : DA X Wx (e :: es) f)
    (hN : X.N[i]? = some x := by rfl) (hv : Vis X.env.scope x := by first | exact Or.inl rfl | exact Or.inr (Or.inl rfl) | exact Or.inr (Or.inr rfl)) (hd : (x == ("__debug__" : Str)) = false := by decide) (hcd : (x == ("__classdict__" : Str)) = false := by decide)
    (hbase : attributeBase (.Name x opos) name X.env (eval (.Name x opos) X.env) = eval (.Name x opos) X.env := by rfl)
    (hfew : ((backTo pos (starEach (e :: es) X.env)).all (fun x => !x.1) && (backToKw pos (keywordEach [] X.env)).all (fun x => x.1.isSome)
      && decide ((e :: es).length + ([] : List Keyword).length + (if ([] : List Keyword).isEmpty then 0 else 1) < 30)) = true := by rfl)
    (hline : (apos.endLine == pos.line) = true := by rfl) (hs : starEach (e :: es) X.env = (false, eval e X.env) :: starEach es X.env := by rfl) (hplain : (backTo pos (starEach es X.env)).any (·.1) = false := by rfl) :
    DE X Wx (.Call (.Attribute (.Name x opos) name apos) (e :: es) [] pos) (mutF i φ f) := pe_imp (pe_bm pa slot hty hm (pe_var hN hv hd hcd) ha hbase hfew hline hs hplain) fun σ H Q h => mut_read ro h
theorem d_mut0 (pa : PlainAttrs "list") (slot : Slot "list" name id) (hty : typeOf (.builtin id) = pure (.type "method_descriptor")) (hm : MtR X id r) (ro : MutOk X.K r φ) (i : Nat)
    (hN : X.N[i]? = some x := by rfl) (hv : Vis X.env.scope x := by first | exact Or.inl rfl | exact Or.inr (Or.inl rfl) | exact Or.inr (Or.inr rfl)) (hd : (x == ("__debug__" : Str)) = false := by decide) (hcd : (x == ("__classdict__" : Str)) = false := by decide)
    (hbase : attributeBase (.Name x opos) name X.env (eval (.Name x opos) X.env) = eval (.Name x opos) X.env := by rfl) (hline : (apos.endLine == pos.line) = true := by rfl) :
    DE X Wx (.Call (.Attribute (.Name x opos) name apos) [] [] pos) (mutF i φ aNil) := pe_imp (pe_bm0 pa slot hty hm (pe_var hN hv hd hcd) hbase hline) fun σ H Q h => by
  obtain ⟨v, hv', ty, Γ, G, env, en, q⟩ := mut_read ro h
  exact ⟨v, hv', ty, q G H (.refl en) [] rfl⟩
end
section
variable {K : PySem.W.Frag}
def appD : List D → List D → Option (List D × D)
  | xs, [d] => if xs.length < sizeLine then some (xs ++ [d], .non) else none
  | _, _ => none
theorem mok_append : MutOk K rAppend appD := fun G H a xs ds xs' vs us d Q s z hH r rd e q => by
  match ds, e, rd with
  | [y], e, rd =>
    have e : (if xs.length < sizeLine then some (xs ++ [y], D.non) else none) = some (xs', d) := e
    by_cases hl : xs.length < sizeLine
    · rw [if_pos hl] at e
      cases e
      obtain ⟨v, rfl, rv⟩ := rd.one
      have l := r.length
      refine ⟨a, vs, v, rfl, rfl, hH, by omega, q _ _ (r.append (RepL.single rv)) ?_ rfl⟩
      rw [List.length_append]; show vs.length + 1 ≤ _; omega
    · rw [if_neg hl] at e; cases e
  | [], e, rd => cases e
  | _ :: _ :: _, e, rd => cases e
def extD : List D → List D → Option (List D × D)
  | xs, [.lst ys] => if xs.length + ys.length ≤ sizeLine then some (xs ++ ys, .non) else none
  | _, _ => none
theorem mok_extend : MutOk K rExtend extD := fun G H a xs ds xs' vs us d Q s z hH r rd e q => by
  match ds, e, rd with
  | [y], e, rd =>
    obtain ⟨v, rfl, rv⟩ := rd.one
    cases y with
    | lst ys =>
      have e : (if xs.length + ys.length ≤ sizeLine then some (xs ++ ys, D.non) else none) = some (xs', d) := e
      by_cases hl : xs.length + ys.length ≤ sizeLine
      · rw [if_pos hl] at e
        cases e
        obtain ⟨b, ws, rfl, hb, rb⟩ := rv
        have l := r.length
        have l2 := rb.length
        refine ⟨a, b, vs, ws, rfl, rfl, hH, s _ _ hb, by omega, q _ _ (r.append rb) ?_ rfl⟩
        rw [List.length_append]; omega
      · rw [if_neg hl] at e; cases e
    | _ => cases e
  | [], e, rd => cases e
  | y :: _ :: _, e, rd => cases y <;> cases e
def popD : List D → List D → Option (List D × D)
  | xs, [] => (xs[xs.length - 1]?).map fun d => (xs.dropLast, d)
  | _, _ => none
theorem RepL.dropLast {G : Hp} {ds : List D} {vs : List V} (h : RepL K G ds vs) : RepL K G ds.dropLast vs.dropLast := by
  rw [List.dropLast_eq_take, List.dropLast_eq_take, h.length]
  exact h.take _
theorem mok_pop : MutOk K rPop popD := fun G H a xs ds xs' vs us d Q s z hH r rd e q => by
  match ds, e, rd with
  | [], e, rd =>
    have e : (xs[xs.length - 1]?).map (fun d => (xs.dropLast, d)) = some (xs', d) := e
    cases hx : xs[xs.length - 1]? with
    | none => rw [hx] at e; cases e
    | some y =>
      rw [hx] at e; cases e
      cases rd
      obtain ⟨v, hv, rv⟩ := r.getD hx
      have l := r.length
      have zl := z.l a vs (.inl (.inl hH))
      exact ⟨a, vs, v, rfl, rfl, hH, by rw [← l]; exact hv, q _ _ r.dropLast (by rw [List.length_dropLast]; omega) rv⟩
  | _ :: _, e, rd => cases e
def revD : List D → List D → Option (List D × D)
  | xs, [] => some (xs.reverse, .non)
  | _, _ => none
theorem mok_reverse : MutOk K rReverse revD := fun G H a xs ds xs' vs us d Q s z hH r rd e q => by
  match ds, e, rd with
  | [], e, rd =>
    cases e
    cases rd
    have zl := z.l a vs (.inl (.inl hH))
    exact ⟨a, vs, rfl, rfl, hH, q _ _ r.reverse (by rw [List.length_reverse]; exact zl) rfl⟩
  | _ :: _, e, rd => cases e
end

/-! ### x[i] = v -/
def sStore (j : Nat) (fi : Ev → R W) (fv : Ev → R D) : Ev → R Fl := fun e => (fv e).bind fun d e1 => match e1[j]? with
  | some (.own _ (.lst _)) => (fi e1).bind fun wi e2 => (match wi, e2[j]? with
    | .val (.int k), some (.own b (.lst xs)) => (match ixN xs.length k with
      | some n => .ok .next (e2.set j (.own b (.lst (xs.set n d))))
      | none => .bad)
    | _, _ => .bad)
  | _ => .bad
section
variable {X : Cx} {Wx : WX} {pos opos spos : Pos} {e ei : Expr} {x : Str}
theorem ds_store {fi : Ev → R W} {fv : Ev → R D} (j : Nat) (hv : DV X Wx e fv) (hi : DE X Wx ei fi) (hN : X.N[j]? = some x := by rfl) (hvis : Vis X.env.scope x := by first | exact Or.inl rfl | exact Or.inr (Or.inl rfl) | exact Or.inr (Or.inr rfl))
    (ha : ∀ v, assign (.Subscript (.Name x opos) ei spos) X.env v = (do
      let ov ← holding [v] (eval (.Name x opos) X.env)
      let iv ← holding [v, ov] (eval ei X.env)
      standAt spos
      holding [v, ov, iv] (setItem ov iv v)
      release [v, ov, iv] []) := by intro _; rfl)
    (hd : (x == ("__debug__" : Str)) = false := by decide) (hcd : (x == ("__classdict__" : Str)) = false := by decide) (hs : swapsWithSole [.Subscript (.Name x opos) ei spos] e pos.line X.env = pure false := by rfl) (hw : swappedStores [.Subscript (.Name x opos) ei spos] e X.env = pure none := by rfl)
    (h1 : (assignEach [.Subscript (.Name x opos) ei spos] X.env).map (·.2) = [assign (.Subscript (.Name x opos) ei spos) X.env] := by rfl) : DS X Wx (.Assign [.Subscript (.Name x opos) ei spos] e pos) (sStore j fi fv) :=
  ps_imp (ps_asg hv (pg_sub (pe_var hN hvis hd hcd) hi set_list ha) hs hw h1) fun D σ H ⟨Γ, G, env, en, h⟩ => ⟨Γ, G, env, en, (Aft.stmt h).imp fun d e1 G1 H1 _ ⟨p, q⟩ v rv => by
    cases hj : e1[j]? with
    | none => simp only [hj] at q; exact q.elim
    | some s =>
      simp only [hj] at q
      cases s with
      | no => exact q.elim
      | val d => exact q.elim
      | bval d => exact q.elim
      | own b o =>
        cases o with
        | dk _ _ => exact q.elim
        | dt _ _ => exact q.elim
        | lst xs0 =>
          obtain ⟨a, vs0, hσ, hH0, _⟩ := own_at p.en hj
          refine ⟨.ref a, hσ, Γ, G1, e1, p.en, (Aft.stmt q).imp fun wi e2 G2 H2 _ ⟨p2, q2⟩ vi ri _ => ?_⟩
          cases wi with
          | own o => exact q2.elim
          | loc k => exact q2.elim
          | val di =>
            cases di with
            | int k =>
              have ri' : vi = .int k := ri
              subst ri'
              cases h2 : e2[j]? with
              | none => simp only [h2] at q2; exact q2.elim
              | some s2 =>
                simp only [h2] at q2
                cases s2 with
                | no => exact q2.elim
                | val d => exact q2.elim
                | bval d => exact q2.elim
                | own b2 o2 =>
                  cases o2 with
                  | dk _ _ => exact q2.elim
                  | dt _ _ => exact q2.elim
                  | lst xs =>
                    simp only at q2
                    cases hn : ixN xs.length k with
                    | none => simp only [hn] at q2; exact q2.elim
                    | some n =>
                      simp only [hn] at q2
                      obtain ⟨a2, vs, hσ2, hH, rl⟩ := own_at p2.en h2
                      rw [hσ] at hσ2; cases hσ2
                      have l := rl.length
                      have zl := p2.en.hz.l a vs (.inl (.inl hH))
                      refine ⟨a, vs, k, n, rfl, rfl, hH, by rw [← l]; exact hn, ?_⟩
                      exact q2 G2 _ σ (Same.refl _) (p2.en.lst h2 hσ hH (RepL.set (rv.mono p2.kp.gg) n rl) (by rw [List.length_set]; exact zl)).en
            | _ => exact q2.elim⟩
end

/-! ### several names at once: what is owned stays owned -/
def WL (K : PySem.W.Frag) (Γ : Ct) (G H : Hp) (σ : St) (env : Ev) (H0 : Hp) : List W → List V → Prop
  | [], vs => vs = []
  | w :: ws, vs => ∃ v r, vs = v :: r ∧ WRep K Γ G H σ env w v ∧ New H0 w v ∧ (∀ i, w ≠ .loc i) ∧ (∀ o a, w = .own o → v = .ref a → ∀ (j : Nat) o', ws[j]? = some (.own o') → r[j]? ≠ some (.ref a)) ∧ WL K Γ G H σ env H0 ws r
def tDO (K : PySem.W.Frag) (mg : Str → Option Value) (Wx : WX) (f : Ev → R (List W)) : TA := fun σ H Q => ∃ Γ G env, En K Γ G H σ env ∧
  Aft K mg Wx Γ σ env G H (fun ws env' G' H' => ∀ vs, WL K Γ G' H' σ env' H ws vs → Q vs H') (f env)
def DOs (X : Cx) (Wx : WX) (es : List Expr) (f : Ev → R (List W)) : Prop := PA X es (tDO X.K X.mg Wx f)
def oNil : Ev → R (List W) := fun e => .ok [] e
/-- a list that has a name is shared, a new one is not -/
def unl (w : W) (e : Ev) : Option (W × Ev) := match w with
  | .loc i => (frz i e).map fun p => (.val p.1, p.2)
  | w => some (w, e)
def oCons (f : Ev → R W) (r : Ev → R (List W)) : Ev → R (List W) := fun e => (f e).bind fun w e1 => match unl w e1 with
  | none => .bad
  | some (w', e2) => (r e2).bind fun ws e3 => .ok (w' :: ws) e3
section
variable {K : PySem.W.Frag} {mg : Str → Option Value} {Wx : WX} {Γ : Ct} {σ : St} {env : Ev} {G H : Hp}
theorem WL.mono {env' : Ev} {G' H' H0 : Hp} (p : Post K Γ σ env G H env' G' H') : ∀ {ws : List W} {vs : List V}, WL K Γ G H σ env H0 ws vs → WL K Γ G' H' σ env' H0 ws vs
  | [], _, h => h
  | _ :: _, _, ⟨v, r, e, h1, h2, h3, h4, h5⟩ => ⟨v, r, e, h1.mono p, h2, h3, h4, WL.mono p h5⟩
theorem WL.new {H0 : Hp} : ∀ {ws : List W} {vs : List V}, WL K Γ G H σ env H0 ws vs → ∀ (j : Nat) o a, ws[j]? = some (.own o) → vs[j]? = some (.ref a) → H0 a = none
  | [], _, h, j, o, a, e, _ => by simp at e
  | w :: ws, _, ⟨v, r, e, h1, h2, h3, h4, h5⟩, 0, o, a, e1, e2 => by
    subst e
    simp at e1 e2
    exact h2 o a e1 e2
  | w :: ws, _, ⟨v, r, e, h1, h2, h3, h4, h5⟩, j + 1, o, a, e1, e2 => by
    subst e
    exact WL.new h5 j o a (by simpa using e1) (by simpa using e2)
theorem WL.back {H0 H1 : Hp} (al : ∀ a, H0 a ≠ none → H1 a ≠ none) : ∀ {ws : List W} {vs : List V}, WL K Γ G H σ env H1 ws vs → WL K Γ G H σ env H0 ws vs
  | [], _, h => h
  | _ :: _, _, ⟨v, r, e, h1, h2, h3, h4, h5⟩ => ⟨v, r, e, h1, h2.back al, h3, h4, WL.back al h5⟩
end
section
variable {K : PySem.W.Frag} {mg : Str → Option Value} {Wx : WX} {Γ : Ct} {σ : St} {env : Ev} {G H : Hp}
theorem Aft.fr {α : Type} {ok : α → Ev → Hp → Hp → Prop} {r : R α} {e1 : Ev} {G1 H1 : Hp} (h : Aft K mg Wx Γ σ env G H ok r) (p : Post K Γ σ env G H e1 G1 H1) : Aft K mg Wx Γ σ e1 G1 H1 ok r := by
  cases r with
  | ok a e => exact fun G' H' q => h G' H' (p.trans q)
  | exc x e => exact fun G' H' c d q => h G' H' c d (p.trans q)
  | bad => exact h
end
section
variable {X : Cx} {Wx : WX} {pos : Pos} {a : Expr} {es : List Expr}
theorem do_nil : DOs X Wx [] oNil := pa_imp pa_nil fun σ H Q h => by
  obtain ⟨Γ, G, env, en, h⟩ := h
  exact h G H (.refl en) [] rfl
theorem do_cons {f : Ev → R W} {r : Ev → R (List W)} (h : DE X Wx a f) (hr : DOs X Wx es r) (hs : starEach (a :: es) X.env = (false, eval a X.env) :: starEach es X.env := by rfl) : DOs X Wx (a :: es) (oCons f r) :=
  pa_imp (pa_cons h hr hs) fun σ H Q q => by
    obtain ⟨Γ, G, env, en, q⟩ := q
    refine ⟨Γ, G, env, en, q.two.imp fun w e1 G1 H1 _ ⟨p1, q1⟩ v rp nw => ?_⟩
    cases hu : unl w e1 with
    | none => rw [hu] at q1; exact q1.elim
    | some z =>
      obtain ⟨w', e2⟩ := z
      rw [hu] at q1
      have step : ∃ G2, Post X.K Γ σ env G H e2 G2 H1 ∧ WRep X.K Γ G2 H1 σ e2 w' v ∧ New H w' v ∧ (∀ i, w' ≠ .loc i) ∧ Post X.K Γ σ e1 G1 H1 e2 G2 H1 := by
        cases w with
        | val d => cases hu; exact ⟨G1, p1, rp, nw, (fun i z => nomatch z), .refl p1.en⟩
        | own o => cases hu; exact ⟨G1, p1, rp, nw, (fun i z => nomatch z), .refl p1.en⟩
        | loc i =>
          have hu : (frz i e1).map (fun p => (W.val p.1, p.2)) = some (w', e2) := hu
          cases hf : frz i e1 with
          | none => rw [hf] at hu; cases hu
          | some p =>
            rw [hf] at hu; cases hu
            obtain ⟨G2, p2, rp2⟩ := frz_ok p1.en rp.1 hf
            exact ⟨G2, p1.trans p2, rp2, (fun _ _ z => nomatch z), (fun i z => nomatch z), p2⟩
      obtain ⟨G2, p2, rp2, nw2, nl, pp⟩ := step
      have q1 : Aft X.K X.mg Wx Γ σ e1 G1 H1 _ ((r e2).bind fun ws e3 => .ok (w' :: ws) e3) := q1
      refine ⟨Γ, G2, e2, p2.en, (q1.fr pp).two.imp fun ws e3 G3 H3 _ ⟨p3, q3⟩ vs rw' => ?_⟩
      refine (q3 G3 H3 (.refl p3.en)).2.2 _ ⟨v, vs, rfl, rp2.mono p3, nw2, nl, fun o a e1 e2 j o' e3 e4 => ?_, rw'.back p2.kp.al⟩
      have n := rw'.new j o' a e3 e4
      subst e1
      obtain ⟨a', e5, _, ow, _⟩ := rp2
      rw [e2] at e5; cases e5
      exact ow.ne n
end
/-! targets that take them -/
def pNil : List W → Ev → R Fl := fun ws e => match ws with
  | [] => .ok .next e
  | _ => .bad
def pN (i : Nat) (r : List W → Ev → R Fl) : List W → Ev → R Fl := fun ws e => match ws with
  | [] => .bad
  | w :: ws => match setSl i w e with
    | some e1 => r ws e1
    | none => .bad
def subF (j : Nat) (fi : Ev → R W) (d : D) : Ev → R Fl := fun e1 => match e1[j]? with
  | some (.own _ (.lst _)) => (fi e1).bind fun wi e2 => (match wi, e2[j]? with
    | .val (.int k), some (.own b (.lst xs)) => (match ixN xs.length k with
      | some n => .ok .next (e2.set j (.own b (.lst (xs.set n d))))
      | none => .bad)
    | _, _ => .bad)
  | _ => .bad
def pS (j : Nat) (fi : Ev → R W) (r : List W → Ev → R Fl) : List W → Ev → R Fl := fun ws e => match ws with
  | [] => .bad
  | w :: ws => match shr w e with
    | none => .bad
    | some (d, e1) => match subF j fi d e1 with
      | .ok .next e2 => r ws e2
      | .exc x e2 => .exc x e2
      | _ => .bad
def En2 (Q : St → Hp → Prop) : Ends := { nx := Q, rt := fun _ _ => False, bk := fun _ _ => False, ct := fun _ _ => False }
def tGW (K : PySem.W.Frag) (mg : Str → Option Value) (Wx : WX) (g : List W → Ev → R Fl) : TGs := fun vs σ H Q => ∃ Γ G env ws H0, En K Γ G H σ env ∧ WL K Γ G H σ env H0 ws vs ∧ AftS K mg Wx Γ (En2 Q) G (g ws env)
def DGW (X : Cx) (Wx : WX) (es : List Expr) (g : List W → Ev → R Fl) : Prop := PGs X es (tGW X.K X.mg Wx g)
section
variable {K : PySem.W.Frag} {mg : Str → Option Value} {Wx : WX} {Γ : Ct} {σ : St} {env : Ev} {G H : Hp}
theorem gwNil {vs : List V} {Q : St → Hp → Prop} (h : tGW K mg Wx pNil vs σ H Q) : gNil vs σ H Q := by
  obtain ⟨Γ, G, env, ws, H0, en, wl, h⟩ := h
  cases ws with
  | nil => exact ⟨wl, h G H σ (Same.refl _) en⟩
  | cons w ws => exact h.elim
theorem WL.put {H0 : Hp} {G' : Hp} {σ' : St} {env' : Ev} {v : V} {w0 : W} {H1 : Hp} (sm : Same G G')
    (nw : ∀ a, G' a ≠ none → G a ≠ none ∨ H1 a ≠ none) (ow : ∀ a, Owned σ' env' a → Owned σ env a ∨ (v = .ref a ∧ ∃ o, w0 = .own o)) (en : En K Γ G H σ env) :
    ∀ {ws : List W} {vs : List V}, (∀ o a, w0 = .own o → v = .ref a → ∀ (j : Nat) o', ws[j]? = some (.own o') → vs[j]? ≠ some (.ref a)) → (∀ (j : Nat) o a, ws[j]? = some (.own o) → vs[j]? = some (.ref a) → H1 a = none) → WL K Γ G H σ env H0 ws vs → WL K Γ G' H σ' env' H0 ws vs
  | [], _, _, _, h => h
  | w :: ws, _, hd, hn, ⟨u, r, e, h1, h2, h3, h4, h5⟩ => by
    subst e
    refine ⟨u, r, rfl, ?_, h2, h3, h4, WL.put sm nw ow en (fun o a e1 e2 j o' e3 => by have := hd o a e1 e2 (j + 1) o' (by simpa using e3); simpa using this) (fun j o a e1 e2 => hn (j + 1) o a (by simpa using e1) (by simpa using e2)) h5⟩
    cases w with
    | val d => exact Rep.mono sm h1
    | loc i => exact absurd rfl (h3 i)
    | own o =>
      obtain ⟨a, rfl, g, owA, z, no⟩ := h1
      have g' : G' a = none := by
        cases q : G' a with
        | none => rfl
        | some x =>
          rcases nw a (by rw [q]; exact fun z => nomatch z) with y | y
          · exact absurd g y
          · exact absurd (hn 0 o a rfl rfl) y
      refine ⟨a, rfl, g', owA.mono sm (fun _ e => e), z, fun y => ?_⟩
      rcases ow a y with y | ⟨y, o', y2⟩
      · exact no y
      · exact hd o' a y2 y 0 o rfl rfl
theorem gwN {i : Nat} {r : List W → Ev → R Fl} {vs : List V} {Q : St → Hp → Prop} (h : tGW K mg Wx (pN i r) vs σ H Q) : ∃ v us, vs = v :: us ∧ tGW K mg Wx r us (σ.set i (some v)) H Q := by
  obtain ⟨Γ, G, env, ws, H0, en, wl, h⟩ := h
  cases ws with
  | nil => exact h.elim
  | cons w ws =>
    obtain ⟨v, us, rfl, h1, h2, h3, h4, h5⟩ := wl
    have h : AftS K mg Wx Γ (En2 Q) G (match setSl i w env with
      | some e1 => r ws e1
      | none => .bad) := h
    cases hs : setSl i w env with
    | none => rw [hs] at h; exact h.elim
    | some e1 =>
      rw [hs] at h
      refine ⟨v, us, rfl, Γ, ?_⟩
      have h3' := h3
      unfold setSl at hs
      cases h0 : env[i]? with
      | none => rw [h0] at hs; cases hs
      | some s0 =>
        rw [h0] at hs
        have hk : okSl s0 = true := by
          cases q : okSl s0 with
          | true => rfl
          | false => simp [q] at hs
        simp only [hk, if_true] at hs
        have own' : ∀ {s : Sl}, (∀ b o, s = .own b o → ∃ o, w = .own o) → ∀ a, Owned (σ.set i (some v)) (env.set i s) a → Owned σ env a ∨ (v = .ref a ∧ ∃ o, w = .own o) := fun {s} hb a ⟨j, b, o, e1, e2⟩ => by
          rcases set_get e1 with ⟨rfl, q⟩ | ⟨n, q⟩
          · rcases set_get e2 with ⟨_, q2⟩ | ⟨n, _⟩
            · exact .inr ⟨(Option.some.inj q2).symm, hb b o q.symm⟩
            · exact absurd rfl n
          · rcases set_get e2 with ⟨q2, _⟩ | ⟨_, q2⟩
            · exact absurd q2 n
            · exact .inl ⟨j, b, o, q, q2⟩
        cases w with
        | val d =>
          cases hs
          refine ⟨G, _, ws, H0, en.put (s := .val d) h0 hk rfl ⟨v, rfl, h1⟩ (fun b o a z => nomatch z), ?_, h⟩
          exact WL.put (H1 := fun _ => none) (w0 := .val d) (Same.refl _) (fun a y => .inl y) (own' (s := .val d) (fun b o z => nomatch z)) en (fun o a z => (nomatch z)) (fun _ _ _ _ _ => rfl) h5
        | own o =>
          cases hs
          obtain ⟨a, rfl, g, ow, z, no⟩ := h1
          refine ⟨G, _, ws, H0, en.put (s := .own false o) h0 hk rfl ⟨a, rfl, g, ow, fun _ => z, fun z => nomatch z⟩ (fun b o' a' e1 e2 => by cases e2; exact no), ?_, h⟩
          exact WL.put (H1 := fun _ => none) (w0 := .own o) (Same.refl _) (fun a y => .inl y) (own' (fun b o z => ⟨_, rfl⟩)) en h4 (fun _ _ _ _ _ => rfl) h5
        | loc j => exact absurd rfl (h3 j)
end
section
variable {X : Cx} {Wx : WX} {pos : Pos} {es : List Expr}
theorem dgw_nil : DGW X Wx [] pNil := pgs_imp pgs_nil fun _ _ _ _ h => gwNil h
theorem dgw_name {r : List W → Ev → R Fl} (i : Nat) {x : Str} (hN : X.N.Nodup) (hr : DGW X Wx es r) (hi : X.N[i]? = some x := by rfl) (hx : Loc X.env.scope x := by first | exact Or.inl rfl | exact Or.inr rfl) (hf : X.fn x = true ∨ X.env.scope.names.lookup x = some .local := by first | exact .inl rfl | exact .inr rfl | assumption)
    (hs : (assignEach (.Name x pos :: es) X.env).map (·.2) = assign (.Name x pos) X.env :: (assignEach es X.env).map (·.2) := by rfl) : DGW X Wx (.Name x pos :: es) (pN i r) :=
  pgs_imp (pgs_cons (pg_name hN hi hx hf) hr hs) fun vs σ H Q h => gwN h
/-- a, b = x, y with plain local names -/
def sPar (f : Ev → R (List W)) (g : List W → Ev → R Fl) : Ev → R Fl := fun e => (f e).bind fun ws e1 => g ws e1
theorem par_read {K : PySem.W.Frag} {mg : Str → Option Value} {D : Ends} {σ : St} {H : Hp} {f : Ev → R (List W)} {g : List W → Ev → R Fl} (hg : ∀ ws e, (∃ e', g ws e = .ok .next e') ∨ g ws e = .bad ∨ ∃ x e', g ws e = .exc x e')
    (h : tDS K mg Wx (sPar f g) D σ H) : tDO K mg Wx f σ H fun vs H1 => tGW K mg Wx g vs σ H1 D.nx := by
  obtain ⟨Γ, G, env, en, h⟩ := h
  refine ⟨Γ, G, env, en, (Aft.stmt h).imp fun ws e1 G1 H1 _ ⟨p, q⟩ vs wl => ⟨Γ, G1, e1, ws, H, p.en, wl, ?_⟩⟩
  rcases hg ws e1 with ⟨e', z⟩ | z | ⟨x, e', z⟩
  · rw [z] at q ⊢; exact q
  · rw [z] at q; exact q.elim
  · rw [z] at q ⊢; exact q
def nxt (g : List W → Ev → R Fl) : Prop := ∀ ws e, (∃ e', g ws e = .ok .next e') ∨ g ws e = .bad ∨ ∃ x e', g ws e = .exc x e'
theorem nxt_nil : nxt pNil := fun ws e => by
  cases ws with
  | nil => exact .inl ⟨e, rfl⟩
  | cons w ws => exact .inr (.inl rfl)
theorem nxt_n {i : Nat} {r : List W → Ev → R Fl} (h : nxt r) : nxt (pN i r) := fun ws e => by
  cases ws with
  | nil => exact .inr (.inl rfl)
  | cons w ws =>
    unfold pN
    simp only
    cases setSl i w e with
    | none => exact .inr (.inl rfl)
    | some e1 => exact h ws e1
theorem nxt_s {j : Nat} {fi : Ev → R W} {r : List W → Ev → R Fl} (h : nxt r) : nxt (pS j fi r) := fun ws e => by
  cases ws with
  | nil => exact .inr (.inl rfl)
  | cons w ws =>
    unfold pS
    simp only
    cases shr w e with
    | none => exact .inr (.inl rfl)
    | some z =>
      obtain ⟨d, e1⟩ := z
      simp only
      cases subF j fi d e1 with
      | ok fl e2 => cases fl <;> first | exact h ws e2 | exact .inr (.inl rfl)
      | exc x e2 => exact .inr (.inr ⟨x, e2, rfl⟩)
      | bad => exact .inr (.inl rfl)
theorem do_imp {K : PySem.W.Frag} {mg : Str → Option Value} {f : Ev → R (List W)} {σ : St} {H : Hp} {Q Q' : List V → Hp → Prop} (i : ∀ v H, Q v H → Q' v H) (h : tDO K mg Wx f σ H Q) : tDO K mg Wx f σ H Q' := by
  obtain ⟨Γ, G, env, en, h⟩ := h
  exact ⟨Γ, G, env, en, h.imp fun ws e1 G1 H1 _ q vs wl => i _ _ (q vs wl)⟩
theorem ds_par2 {i j : Nat} {x y : Str} {a b : Expr} {f : Ev → R (List W)} {px py pt : Pos} {kt k2 pt2} (hc : X.calm = true) (hN : X.N.Nodup) (ha : DOs X Wx [a, b] f) (hi : X.N[i]? = some x := by rfl) (hj : X.N[j]? = some y := by rfl) (hij : i ≠ j := by decide)
    (hx : X.env.scope.names.lookup x = some .local := by rfl) (hy : X.env.scope.names.lookup y = some .local := by rfl)
    (hw : swappedStores [.Tuple [.Name x px, .Name y py] kt pt] (.Tuple [a, b] k2 pt2) X.env = pure (some [x, y]) := by rfl)
    (hs : swapsWithSole [.Tuple [.Name x px, .Name y py] kt pt] (.Tuple [a, b] k2 pt2) pos.line X.env = pure false := by rfl) :
    DS X Wx (.Assign [.Tuple [.Name x px, .Name y py] kt pt] (.Tuple [a, b] k2 pt2) pos) (sPar f (pN i (pN j pNil))) :=
  ps_imp (ps_par hc hN hi hj hij hx hy ha hw hs) fun D σ H h => do_imp (fun vs H1 q => by
    obtain ⟨v, us1, rfl, q1⟩ := gwN q
    obtain ⟨w, us2, rfl, q2⟩ := gwN q1
    obtain ⟨rfl, q3⟩ := gwNil q2
    exact ⟨v, w, rfl, q3⟩) (par_read (nxt_n (nxt_n nxt_nil)) h)
theorem ds_par3 {i j l : Nat} {x y z : Str} {a b c : Expr} {f : Ev → R (List W)} {px py pz pt : Pos} {kt k2 pt2} (hc : X.calm = true) (hN : X.N.Nodup) (ha : DOs X Wx [a, b, c] f) (hi : X.N[i]? = some x := by rfl) (hj : X.N[j]? = some y := by rfl) (hl : X.N[l]? = some z := by rfl)
    (hij : i ≠ j := by decide) (hil : i ≠ l := by decide) (hjl : j ≠ l := by decide)
    (hx : X.env.scope.names.lookup x = some .local := by rfl) (hy : X.env.scope.names.lookup y = some .local := by rfl) (hz : X.env.scope.names.lookup z = some .local := by rfl)
    (hw : swappedStores [.Tuple [.Name x px, .Name y py, .Name z pz] kt pt] (.Tuple [a, b, c] k2 pt2) X.env = pure (some [x, y, z]) := by rfl)
    (hs : swapsWithSole [.Tuple [.Name x px, .Name y py, .Name z pz] kt pt] (.Tuple [a, b, c] k2 pt2) pos.line X.env = pure false := by rfl) :
    DS X Wx (.Assign [.Tuple [.Name x px, .Name y py, .Name z pz] kt pt] (.Tuple [a, b, c] k2 pt2) pos) (sPar f (pN i (pN j (pN l pNil)))) :=
  ps_imp (ps_par3 hc hN hi hj hl hij hil hjl hx hy hz ha hw hs) fun D σ H h => do_imp (fun vs H1 q => by
    obtain ⟨u, us0, rfl, q0⟩ := gwN q
    obtain ⟨v, us1, rfl, q1⟩ := gwN q0
    obtain ⟨w, us2, rfl, q2⟩ := gwN q1
    obtain ⟨rfl, q3⟩ := gwNil q2
    exact ⟨u, v, w, rfl, q3⟩) (par_read (nxt_n (nxt_n (nxt_n nxt_nil))) h)
end
/-! ### the law's own call -/
def scrS (ns : List Int) : Sl := .val (.scr (ns.map D.int))
section
variable {K : PySem.W.Frag}
theorem repL_ints {G : Hp} : ∀ ns : List Int, RepL K G (ns.map D.int) (ns.map V.int)
  | [] => rfl
  | n :: ns => ⟨.int n, ns.map V.int, rfl, rfl, repL_ints ns⟩
/-- the abstract heap at the start: the script alone, unless the module's part holds it -/
def H1st (K : PySem.W.Frag) (a : Addr) (o : Obj) (ns : List Int) : Hp := fun b => if b = a ∧ (K.lookup a).isNone = true then some (.frz o (.lst (ns.map V.int))) else none
theorem H1st_cases {a b : Addr} {o : Obj} {ns : List Int} : (H1st K a o ns b = none ∧ (b = a → (K.lookup a).isNone = false)) ∨ (b = a ∧ K.lookup a = none ∧ H1st K a o ns b = some (.frz o (.lst (ns.map V.int)))) := by
  unfold H1st
  by_cases h : b = a ∧ (K.lookup a).isNone = true
  · exact .inr ⟨h.1, Option.isNone_iff_eq_none.mp h.2, if_pos h⟩
  · refine .inl ⟨if_neg h, fun e => ?_⟩
    cases q : (K.lookup a).isNone with
    | false => rfl
    | true => exact absurd ⟨e, q⟩ h
theorem H1st_ok {a : Addr} {o : Obj} {ns : List Int} (l : ns.length ≤ sizeLine) : HpOk K (H1st K a o ns) := by
  have no : ∀ (b : Addr) (u : HO), H1st K a o ns b = some u → u = .frz o (.lst (ns.map V.int)) := fun b u e => by
    rcases H1st_cases (K := K) (a := a) (b := b) (o := o) (ns := ns) with ⟨z, _⟩ | ⟨_, _, z⟩
    · rw [z] at e; cases e
    · rw [z] at e; cases e; rfl
  refine ⟨fun b xs h => ?_, fun b xs h => ?_⟩
  · rcases h with (h | ⟨ob, h⟩) | h
    · cases no _ _ h
    · have := no _ _ h; cases this; rw [List.length_map]; exact l
    · obtain ⟨_, _, _, _, _, _, _, hl, hv⟩ := h
      rw [hv.length]; simpa using hl
  · rcases h with (h | ⟨ob, h⟩) | h
    · cases no _ _ h
    · cases no _ _ h
    · obtain ⟨_, _, _, _, _, _, hl, hv⟩ := h
      rw [hv.length]; simpa using hl
theorem law_start {P : Program} {w : World} {mg mb : Str → Option Value} {k : Nat} {fa a : Addr} {fd : FuncData} {x : Str} {den : Ev → R W} {s₁ : Shared} {vs : List Value} {ns : List Int} {e : Ev}
    (KX : K.In s₁.heap) (hns : s₁.heap.Ns mainGlobals mg) (hb : s₁.heap.Ns builtinsNs mb) (hbb : ∀ x : Str, x ≠ "__name__" → mb x = bootBuiltins x) (hlim : s₁.heap.NoLimit) (hg : s₁.gens = #[])
    (ha : s₁.heap.get? a = some { cls := .type "list", data := .seq vs.toArray }) (hi : IntsAre vs ns) (hl : ns.length ≤ sizeLine) (hr : RoomD k callerA)
    (F : ∀ base : Heap, K.In base → base.Ns mainGlobals mg → FnD P w K mg base k fa fd [x] den) (hbind : ∀ (s : Shared) (u : Value), BindsTo s fd ⟨[u], []⟩ [(x, u)])
    (hden : den [scrS ns] = .ok (.val (.bl true)) e) :
    codeAny (model P w) callerA (.call (.ref fa) ⟨[.ref a], []⟩) (fun r s' => r = .ok (.ret (.bool true)) ∧ OldK s₁.heap s'.heap ∧ s'.os = s₁.os ∧ AllBare s'.gens) s₁ := by
  have rv := vals_ints hi
  have lenV := hi.length
  let ob : Obj := { cls := .type "list", data := .seq vs.toArray }
  let H := H1st K a ob ns
  have hobj : s₁.heap.get? a = some ob := ha
  have hN : ∀ {b : Addr} {o : Obj}, s₁.heap.get? b = some o → (∃ es ep, o.data = .dict es ep) → H b = none := fun {b o} e ⟨es, ep, d⟩ => by
    rcases H1st_cases (K := K) (a := a) (b := b) (o := ob) (ns := ns) with ⟨z, _⟩ | ⟨z, _, _⟩
    · exact z
    · subst z
      rw [hobj] at e; cases e
      cases (show Data.seq vs.toArray _ = Data.dict es ep from d)
  have keepN : ∀ {b : Addr} {m : Str → Option Value}, s₁.heap.Ns b m → (hidT s₁.heap H).Ns b m := fun {b m} z => by
    obtain ⟨o, es, ep, e, d, r⟩ := z
    exact ⟨o, es, ep, hidT_get e (hN e ⟨es, ep, d⟩), d, r⟩
  have keepK : K.In (hidT s₁.heap H) := fun b o e => hidT_get (KX b o e) (by
    rcases H1st_cases (K := K) (a := a) (b := b) (o := ob) (ns := ns) with ⟨z, _⟩ | ⟨z, z2, _⟩
    · exact z
    · rw [z, z2] at e; cases e)
  have hM : Mod K mg (hidT s₁.heap H) := by
    refine ⟨keepK, keepN hns, ⟨mb, keepN hb, hbb⟩, ?_⟩
    obtain ⟨mc, h1, h2⟩ := hlim
    exact ⟨mc, keepN h1, h2⟩
  have hok : HOk P w H s₁.heap := fun b u z => by
    rcases H1st_cases (K := K) (a := a) (b := b) (o := ob) (ns := ns) with ⟨y, _⟩ | ⟨y, _, y2⟩
    · rw [show H b = none from y] at z; cases z
    · rw [show H b = _ from y2] at z; cases z
      subst y
      exact ⟨hobj, by rw [List.length_map]; exact hl, vs, _, rv, hobj⟩
  have e0 : Env0 P w K mg (hidT s₁.heap H) callerA [] s₁ H :=
    { frames := rfl, mod := hM, bs := fun b o e => of_hidT e, bsz := Nat.le_of_eq (hidT_size _ _), funs := trivial, frf := fun b hb => (by cases hb), hok := hok, bare := .of_eq hg }
  have hS : SqL K H a (ns.map V.int) := by
    rcases H1st_cases (K := K) (a := a) (b := a) (o := ob) (ns := ns) with ⟨_, y⟩ | ⟨_, _, y2⟩
    · cases q : K.lookup a with
      | none => have := y rfl; rw [q] at this; cases this
      | some o =>
        have z := KX a o q
        rw [hobj] at z; cases z
        exact .inr ⟨_, vs.toArray, _, q, rfl, rfl, rfl, by rw [List.size_toArray, lenV]; exact hl, by simpa using rv⟩
    · exact .inl (.inr ⟨ob, y2⟩)
  have hz := H1st_ok (K := K) (a := a) (o := ob) hl
  let Γ : Ct := ⟨H, H, [], by intro i a b z; cases z⟩
  have en : En K Γ H H ([V.ref a].map some) [scrS ns] := by
    refine ⟨Same.refl _, Same.refl _, fun a o e => .inl e, fun a o e _ => e, (by intro a z; cases z), rfl, fun i s z => ?_, (by intro p z; cases z), fun i j b b' o o' c z => ?_, hz⟩
    · cases i with
      | zero => cases z; exact ⟨_, rfl, a, _, rfl, hS, repL_ints ns⟩
      | succ i => simp at z
    · cases i with
      | zero => cases z
      | succ i => simp at z
  have sp : spD K mg [x].length den [.ref a] H (fun v _ => v = .bl true) (fun _ _ _ => False) := by
    refine ⟨Γ, [scrS ns], rfl, en, rfl, ?_⟩
    rw [hden]
    exact fun G' H' v _ wr => wr
  refine codeAny_mono ((F _ keepK (keepN hns)).run callerA [] s₁ H ⟨[.ref a], []⟩ [.ref a] [.ref a] _ _ hr e0 (hbind s₁ (.ref a)) (.cons rfl .nil) sp) fun r s' h => ?_
  match r, h with
  | .error e, h => exact absurd h (by intro z; obtain ⟨_, _, _, _, _, _, _, z⟩ := z; exact z.2.2.2.2.2)
  | .ok .next, h => exact False.elim h
  | .ok .brk, h => exact False.elim h
  | .ok .cont, h => exact False.elim h
  | .ok (.ret u), h =>
    obtain ⟨v, H', os, bare, un, hok', r', q⟩ := h
    cases (show v = .bl true from q)
    cases (show u = Value.bool true from r')
    refine ⟨rfl, OldK.of_keep fun b o e => ?_, os, bare⟩
    rcases H1st_cases (K := K) (a := a) (b := b) (o := ob) (ns := ns) with ⟨y, _⟩ | ⟨_, _, y2⟩
    · exact un.keep b o e y (by intro z; cases z) (by simp)
    · have z2 := un.frzs b ob _ y2
      obtain ⟨e1, _⟩ := hok b _ y2
      obtain ⟨e2, _⟩ := hok' b _ z2
      rw [e] at e1; cases e1
      exact e2
end
/-- the goal that the head leaves -/
theorem walkD {l : PySem.W.OpenLaw} {n k : Nat} {q : Program} {loose : List Str} {XP : (Str → Option Value) → Heap → Prop} {YP : World → Heap → Prop} {d : DefRec} {K : PySem.Params → PySem.W.Frag} {x : Str} {den : Ev → R W}
    (hn : l.most = some n) (hn2 : n ≤ sizeLine) (hdf : d.params.defaults = []) (hr : RoomD k callerA) (hY : ∀ (w : World) (h : Heap), YP w h → (K w.params).In h)
    (F : ∀ (w : World) (mg : Str → Option Value) (fa : Addr) (h : Heap), (K w.params).In h → h.Ns mainGlobals mg → mg d.name = some (.ref fa) →
      ∃ fd : FuncData, (∀ (s : Shared) (u : Value), BindsTo s fd ⟨[u], []⟩ [(x, u)]) ∧ ∀ base : Heap, (K w.params).In base → base.Ns mainGlobals mg → FnD l.prog w (K w.params) mg base k fa fd [x] den)
    (hden : ∀ ns : List Int, ns.length ≤ n → ∃ e, den [scrS ns] = .ok (.val (.bl true)) e) :
    PySem.W.WalkO q loose XP YP l.row.toRowW d [] (fun f vs => PySem.call f vs) := by
  refine Att.attach_call hn hdf fun w s₀ s₁ mg mb fa o pm cd doc a vs ns G Y ho hd hcd hmg hobj hints hlen hg => ?_
  obtain ⟨fd, hb, hF⟩ := F w mg fa _ (hY w _ Y) G.T.g hmg
  obtain ⟨e, he⟩ := hden ns hlen
  exact law_start (hY w _ Y) G.T.g G.T.b G.T.builtins G.T.nolimit hg hobj hints (Nat.le_trans hlen hn2) hr hF hb he
/-! ### raise -/
structure ExcF (K : PySem.W.Frag) (mg : Str → Option Value) (x : Str) (C : Addr) : Prop where
  at_ : mg x = some (.ref C)
  ex : PySem.W.excIn K C He.veBase "ValueError.__new__" = true
  kp : PySem.W.keepIn K (.ref C) = true
  sb : PySem.W.subIn K (.ref C) (.type "BaseException") = some true
  ty : PySem.W.typeIn K (.ref C) = some (.type "type")
def sRaise (x : Str) : Ev → R Fl := fun e => .exc ⟨x, none⟩ e
section
variable {X : Cx} {Wx : WX} {pos p p2 pos2 : Pos} {x m : Str} {j : Nat} {C : Addr}
theorem ds_raise (hc : X.calm = true) (tk : Takes X Wx) (F : ExcF X.K X.mg x C) (hg : Gl X x := by rfl) (hdb : (x == ("__debug__" : Str)) = false := by decide) :
    DS X Wx (.Raise (some (.Call (.Name x p) [.Constant (.str m) j p2] [] pos)) none pos2) (sRaise x) :=
  ps_imp (ps_raise hc tk (pmk_own PySem.F.excBase_ValueError F.ex F.at_ F.kp (raises_own F.sb F.ty) hg hdb)) fun D σ H ⟨Γ, G, env, en, h⟩ => h G H σ (.ref C) none (Same.refl _) en ⟨F.at_, rfl⟩
end

/-! ### methods of texts and lists that change nothing -/
def tyD (T : String) : D → Bool
  | .str _ => T == "str"
  | .lst _ => T == "list"
  | .scr _ => T == "list"
  | _ => false
def MetOk (K : PySem.W.Frag) (T : String) (r : V → List V → Hp → VK → Prop) (φ : D → List D → Option W) : Prop := ∀ (G H : Hp) (d : D) (x : V) (ds : List D) (xs : List V) (Q : VK), HpOk K H → Same G H → Pk K G H d x → RepL K G ds xs →
  (∃ w, φ d ds = some w ∧ ∀ v G' H', Grow K G H G' H' → WRes K G' H' H w v → Q v H') → r x xs H Q
def metF (T : String) (φ : D → List D → Option W) (fo : Ev → R W) (fa : Ev → R (List Ar)) : Ev → R W := fun e => (fo e).bind fun w e1 => match rd w e1 with
  | some d0 => if tyD T d0 = true then (fa e1).bind (fun as e2 => match (rd w e2).bind fun d => (vals as).bind fun ds => φ d ds with
    | some w' => .ok w' e2
    | none => .bad) else .bad
  | none => .bad
theorem ty_pk {K : PySem.W.Frag} {G H : Hp} {T : String} {d : D} {x : V} (s : Same G H) (p : Pk K G H d x) (t : tyD T d = true) : tyV K T x H := by
  cases d with
  | str y => have e := p.str; subst e; exact beq_iff_eq.mp t
  | lst ys =>
    obtain ⟨a, vs, rfl, h, _⟩ := p.lst s
    exact .inl ⟨beq_iff_eq.mp t, vs, .inl (.inl h)⟩
  | scr ys =>
    obtain ⟨a, vs, rfl, h, _⟩ := p.scr
    exact .inl ⟨beq_iff_eq.mp t, vs, s.seq h⟩
  | _ => cases t
section
variable {X : Cx} {Wx : WX} {apos pos : Pos} {o e : Expr} {es : List Expr} {name : Str} {T id : String} {r : V → List V → Hp → VK → Prop} {φ : D → List D → Option W} {fo : Ev → R W} {fa : Ev → R (List Ar)}
theorem met_read {K : PySem.W.Frag} {mg : Str → Option Value} {σ : St} {H : Hp} (ro : MetOk K T r φ) {Q : VK} (h : tD K mg Wx (metF T φ fo fa) σ H Q) : tBM K T r (tD K mg Wx fo) (tDA K mg Wx fa) σ H Q := by
  obtain ⟨Γ, G, env, en, h⟩ := h
  refine ⟨Γ, G, env, en, h.two.imp fun w e1 G1 H1 _ ⟨p1, q⟩ v rp nw => ?_⟩
  cases h0 : rd w e1 with
  | none => simp only [h0] at q; exact q.elim
  | some d0 =>
    simp only [h0] at q
    cases ht : tyD T d0 with
    | false => simp only [ht] at q; exact (q : False).elim
    | true =>
      simp only [ht, if_true] at q
      refine ⟨ty_pk p1.en.sub (rd_pk p1.en rp h0) ht, Γ, G1, e1, p1.en, q.two.imp fun as e2 G2 H2 _ ⟨p2, q2⟩ vs ra => ?_⟩
      cases h1 : rd w e2 with
      | none => simp only [h1] at q2; exact (q2 : False).elim
      | some d =>
        cases h2 : vals as with
        | none => simp only [h1, h2] at q2; exact (q2 : False).elim
        | some ds =>
          cases h3 : φ d ds with
          | none => simp only [h1, h2, h3, Option.bind_some] at q2; exact (q2 : False).elim
          | some w' =>
            simp only [h1, h2, h3, Option.bind_some] at q2
            refine ro G2 H2 d v ds vs _ p2.en.hz p2.en.sub (rd_pk p2.en (rp.mono p2) h1) (ra.vals h2) ⟨w', h3, fun v2 G3 H3 gr wr => ?_⟩
            obtain ⟨wp, nn⟩ := wr.rep p2.en
            exact (q2 _ _ (gr.post p2.en)).2.2 v2 wp ((nn.back p2.kp.al).back p1.kp.al)
theorem d_met (pa : PlainAttrs T) (slot : Slot T name id) (hty : typeOf (.builtin id) = pure (.type "method_descriptor")) (hm : MtR X id r) (ro : MetOk X.K T r φ) (ho : DE X Wx o fo) (ha : DA X Wx (e :: es) fa)
    (hbase : attributeBase o name X.env (eval o X.env) = eval o X.env := by rfl)
    (hfew : ((backTo pos (starEach (e :: es) X.env)).all (fun x => !x.1) && (backToKw pos (keywordEach [] X.env)).all (fun x => x.1.isSome)
      && decide ((e :: es).length + ([] : List Keyword).length + (if ([] : List Keyword).isEmpty then 0 else 1) < 30)) = true := by rfl)
    (hline : (apos.endLine == pos.line) = true := by rfl) (hs : starEach (e :: es) X.env = (false, eval e X.env) :: starEach es X.env := by rfl) (hplain : (backTo pos (starEach es X.env)).any (·.1) = false := by rfl) :
    DE X Wx (.Call (.Attribute o name apos) (e :: es) [] pos) (metF T φ fo fa) := pe_imp (pe_bm pa slot hty hm ho ha hbase hfew hline hs hplain) fun σ H Q h => met_read ro h
end
section
variable {K : PySem.W.Frag}
def flatO : D → Option V
  | .non => some .non
  | .bl b => some (.bl b)
  | .int i => some (.int i)
  | .str x => some (.str x)
  | _ => none
theorem flatO_rep {G : Hp} {d : D} {v u : V} (h : flatO d = some u) (r : Rep K G d v) : v = u ∧ flatV u = true := by
  cases d with
  | non => cases h; exact ⟨r, rfl⟩
  | bl b => cases h; exact ⟨r, rfl⟩
  | int b => cases h; exact ⟨r, rfl⟩
  | str b => cases h; exact ⟨r, rfl⟩
  | _ => cases h
def flL : List D → Option (List V)
  | [] => some []
  | d :: r => match flatO d, flL r with
    | some v, some vs => some (v :: vs)
    | _, _ => none
theorem flL_rep {G : Hp} : ∀ {ds : List D} {vs us : List V}, flL ds = some us → RepL K G ds vs → vs = us ∧ us.all flatV = true
  | [], vs, us, h, r => by cases h; exact ⟨r, rfl⟩
  | d :: ds, vs, us, h, ⟨v, r, e, h1, h2⟩ => by
    unfold flL at h
    cases h3 : flatO d with
    | none => simp [h3] at h
    | some u =>
      cases h4 : flL ds with
      | none => simp [h3, h4] at h
      | some us' =>
        simp only [h3, h4, Option.some.injEq] at h
        subst h e
        obtain ⟨e1, f1⟩ := flatO_rep h3 h1
        obtain ⟨e2, f2⟩ := flL_rep h4 h2
        subst e1 e2
        exact ⟨rfl, by simp [f1, f2]⟩
def rCntF (K : PySem.W.Frag) : V → List V → Hp → VK → Prop := fun x xs H Q => ∃ (a : Addr) (ys : List V) (y : V), x = V.ref a ∧ xs = [y] ∧ SqL K H a ys ∧ flatV y = true ∧ ys.all flatV = true ∧ Q (.int (ys.countP fun z => eqV z y : Nat)) H
theorem countU {y : V} : ∀ {ys : List V} {its : List Value}, Vals ys its → ys.all flatV = true → its.countP (eqU y) = ys.countP fun z => eqV z y
  | _, _, .nil, _ => rfl
  | z :: ys, u :: its, .cons r t, f => by
    rw [List.all_cons, Bool.and_eq_true] at f
    rw [List.countP_cons, List.countP_cons, countU t f.2, eqU_of r f.1]
theorem mt_countF {X : Cx} : MtR X "list.count" (rCntF X.K) := by
  intro pins s σ H x xs v us Q I rx rxs h
  obtain ⟨a, ys, y, rfl, rfl, hs, fy, fys, q⟩ := h
  cases rx
  obtain ⟨u, rfl, ry⟩ := rxs.one
  obtain ⟨its, rv, ⟨⟨cls, dd, data, sl⟩, n, ho, hc, hdn, hd⟩, hlen⟩ := I.list hs
  simp only at hc hd
  subst hc hd
  refine call_meets PySem.F.slot_list_count ⟨_, ho, rfl⟩ PySem.F.entry_list_count (PySem.F.args_list_count_2 _ _) (SeqAt.list_countAt a its.toArray n dd sl u (eqU y))
    ⟨ho, fun u' hu' => mem_eqAt ry fy rv fys u' (by simpa using hu'), ?_⟩
  refine ⟨.int (ys.countP fun z => eqV z y : Nat), H, I.tok _, ⟨s.toks, ?_⟩, q⟩
  rw [← countU rv fys]
def cntD (d : D) (ds : List D) : Option W := match d, ds with
  | .lst xs, [y] => (match flL xs, flatO y with
    | some vs, some v => some (.val (.int (vs.countP fun z => eqV z v : Nat)))
    | _, _ => none)
  | _, _ => none
theorem ok_countF : MetOk K "list" (rCntF K) cntD := fun G H d x ds xs Q z s px rd ⟨w, e, q⟩ => by
  unfold cntD at e
  cases d with
  | lst ys =>
    match ds, e, rd with
    | [y], e, rd =>
      obtain ⟨v, rfl, rv⟩ := rd.one
      obtain ⟨a, vs, rfl, h, rl⟩ := px.lst s
      cases h1 : flL ys with
      | none => simp [h1] at e
      | some us =>
        cases h2 : flatO y with
        | none => simp [h1, h2] at e
        | some u =>
          simp only [h1, h2, Option.some.injEq] at e
          subst e
          obtain ⟨rfl, f1⟩ := flL_rep h1 rl
          obtain ⟨rfl, f2⟩ := flatO_rep h2 rv
          exact ⟨a, vs, v, rfl, rfl, .inl (.inl h), f2, f1, q _ G H (Grow.refl s z) rfl⟩
    | [], e, rd => cases e
    | _ :: _ :: _, e, rd => cases e
  | _ => cases e
def idxD (d : D) (ds : List D) : Option W := match d, ds with
  | .lst xs, [y] => (match flL xs, flatO y with
    | some vs, some v => (vs.findIdx? fun z => eqV z v).map fun n => .val (.int (n : Nat))
    | _, _ => none)
  | _, _ => none
theorem ok_indexF : MetOk K "list" (rIndex K) idxD := fun G H d x ds xs Q z s px rd ⟨w, e, q⟩ => by
  unfold idxD at e
  cases d with
  | lst ys =>
    match ds, e, rd with
    | [y], e, rd =>
      obtain ⟨v, rfl, rv⟩ := rd.one
      obtain ⟨a, vs, rfl, h, rl⟩ := px.lst s
      cases h1 : flL ys with
      | none => simp [h1] at e
      | some us =>
        cases h2 : flatO y with
        | none => simp [h1, h2] at e
        | some u =>
          simp only [h1, h2] at e
          obtain ⟨rfl, f1⟩ := flL_rep h1 rl
          obtain ⟨rfl, f2⟩ := flatO_rep h2 rv
          cases h3 : vs.findIdx? fun z => eqV z v with
          | none => rw [h3] at e; cases e
          | some n =>
            rw [h3] at e; cases e
            obtain ⟨hn, e1, e2⟩ := List.findIdx?_eq_some_iff_getElem.mp h3
            refine ⟨a, vs, v, n, vs[n], rfl, rfl, .inl (.inl h), f2, f1, List.getElem?_eq_getElem hn, e1, fun m z' hm hz => ?_, q _ G H (Grow.refl s z) rfl⟩
            obtain ⟨hm', rfl⟩ := List.getElem?_eq_some_iff.mp hz
            simpa using e2 m hm
    | [], e, rd => cases e
    | _ :: _ :: _, e, rd => cases e
  | _ => cases e
theorem repL_strs {G : Hp} : ∀ ns : List Str, RepL K G (ns.map D.str) (ns.map V.str)
  | [] => rfl
  | n :: ns => ⟨.str n, ns.map V.str, rfl, rfl, repL_strs ns⟩
def splD (d : D) (ds : List D) : Option W := match d, ds with
  | .str a, [.str b] => if (b.length == 0) = false ∧ a.length + 2 ≤ sizeLine ∧ (Txt.split a b).length ≤ sizeLine then some (.own (.lst ((Txt.split a b).map .str))) else none
  | _, _ => none
theorem ok_split : MetOk K "str" (fun x xs H Q => ∃ a b, x = .str a ∧ xs = [.str b] ∧ (b.length == 0) = false ∧ a.length + 2 ≤ sizeLine ∧ rNewStrs (Txt.split a b) H Q) splD := fun G H d x ds xs Q z s px rd ⟨w, e, q⟩ => by
  cases d with
  | str a =>
    match ds, e, rd with
    | [y], e, rd =>
      cases y with
      | str b =>
        have e : (if (b.length == 0) = false ∧ a.length + 2 ≤ sizeLine ∧ (Txt.split a b).length ≤ sizeLine then some (W.own (.lst ((Txt.split a b).map .str))) else none) = some w := e
        by_cases hl : (b.length == 0) = false ∧ a.length + 2 ≤ sizeLine ∧ (Txt.split a b).length ≤ sizeLine
        · rw [if_pos hl] at e; cases e
          obtain ⟨v, rfl, rv⟩ := rd.one
          refine ⟨a, b, px.str, by rw [show v = .str b from rv], hl.1, hl.2.1, fun p np => ?_⟩
          obtain ⟨gr, wr⟩ := Grow.lst s z np (repL_strs (G := G) (Txt.split a b)) (by rw [List.length_map]; exact hl.2.2)
          exact q _ _ _ gr wr
        · rw [if_neg hl] at e; cases e
      | _ => cases e
    | [], e, rd => cases e
    | y :: _ :: _, e, rd => cases y <;> cases e
  | _ => cases e
def strsO : List D → Option (List Str)
  | [] => some []
  | .str x :: r => (strsO r).map (x :: ·)
  | _ :: _ => none
theorem strsO_map : ∀ {ds : List D} {ns : List Str}, strsO ds = some ns → ds = ns.map D.str
  | [], ns, e => by cases e; rfl
  | d :: ds, ns, e => by
    cases d with
    | str x =>
      have e : (strsO ds).map (x :: ·) = some ns := e
      cases h : strsO ds with
      | none => rw [h] at e; cases e
      | some m => rw [h] at e; cases e; rw [strsO_map h]; rfl
    | _ => cases e
theorem RepL.strs {G : Hp} : ∀ {ns : List Str} {vs : List V}, RepL K G (ns.map D.str) vs → vs = ns.map V.str
  | [], vs, h => h
  | n :: ns, vs, ⟨v, r, e, h1, h2⟩ => by
    have h1 : v = .str n := h1
    subst e h1
    rw [RepL.strs h2]; rfl
def joinD (d : D) (ds : List D) : Option W := match d, ds with
  | .str a, [.lst xs] => (match strsO xs with
    | some ys => if (ys.map (·.length)).sum + ys.length * a.length ≤ 16777216 then some (.val (.str (Txt.join a ys))) else none
    | none => none)
  | _, _ => none
def rJoin (K : PySem.W.Frag) : V → List V → Hp → VK → Prop := fun x xs H Q => ∃ a p, ∃ ys : List Str, x = .str a ∧ xs = [.ref p] ∧ (SqL K H p (ys.map V.str) ∨ SqT K H p (ys.map V.str)) ∧
    (ys.map (·.length)).sum + ys.length * a.length ≤ 16777216 ∧ Q (.str (Txt.join a ys)) H
theorem mt_joinD {X : Cx} : MtR X "str.join" (rJoin X.K) := mt_join
theorem ok_join : MetOk K "str" (rJoin K) joinD := fun G H d x ds xs Q z s px rd ⟨w, e, q⟩ => by
  cases d with
  | str a =>
    match ds, e, rd with
    | [y], e, rd =>
      cases y with
      | lst us =>
        have e : (match strsO us with
          | some ys => if (ys.map (·.length)).sum + ys.length * a.length ≤ 16777216 then some (W.val (.str (Txt.join a ys))) else none
          | none => none) = some w := e
        cases h1 : strsO us with
        | none => rw [h1] at e; cases e
        | some ys =>
          simp only [h1] at e
          by_cases hl : (ys.map (·.length)).sum + ys.length * a.length ≤ 16777216
          · rw [if_pos hl] at e; cases e
            obtain ⟨v, rfl, b, ws, rfl, hb, rb⟩ := rd.one
            have e2 := strsO_map h1
            subst e2
            have e3 := rb.strs
            subst e3
            exact ⟨a, b, ys, px.str, rfl, .inl (.inl (.inl (s _ _ hb))), hl, q _ G H (Grow.refl s z) rfl⟩
          · rw [if_neg hl] at e; cases e
      | _ => cases e
    | [], e, rd => cases e
    | y :: _ :: _, e, rd => cases y <;> cases e
  | _ => cases e
end
/-! ### isinstance of built-in types -/
def tyN : D → Option String
  | .non => some "NoneType"
  | .bl _ => some "bool"
  | .int _ => some "int"
  | .str _ => some "str"
  | .lst _ => some "list"
  | .tup _ => some "tuple"
  | .dk _ _ => some "dict"
  | .dt _ _ => some "dict"
  | _ => none
def isiD : List D → Option W
  | [d, .ty T] => (tyN d).bind fun t => (kitB t T).map fun b => .val (.bl b)
  | _ => none
section
variable {K : PySem.W.Frag}
theorem tyN_ok {G H : Hp} (s : Same G H) {d : D} {v : V} {t : String} (r : Rep K G d v) (h : tyN d = some t) : TyX K H v (.type t) := by
  cases d with
  | non => cases h; have e : v = .non := r; subst e; exact .base .non
  | bl b => cases h; have e : v = .bl b := r; subst e; exact .base (.bl b)
  | int b => cases h; have e : v = .int b := r; subst e; exact .base (.int b)
  | str b => cases h; have e : v = .str b := r; subst e; exact .base (.str b)
  | lst xs => cases h; obtain ⟨a, vs, rfl, e, _⟩ := r; exact .base (.lst (s _ _ e))
  | tup xs =>
    cases h
    obtain ⟨a, vs, rfl, e, _⟩ := r
    rcases e with (e | ⟨ob, e⟩) | ⟨o, its, n, e, c, _⟩
    · exact .base (.tup (s _ _ e))
    · exact .fTuple (s _ _ e)
    · exact .kTuple e c
  | dk ks ds => cases h; obtain ⟨a, vs, rfl, e, _⟩ := r; exact .base (.dK (s _ _ e))
  | dt ks ds => cases h; obtain ⟨a, vs, rfl, e, _⟩ := r; exact .base (.dT (s _ _ e))
  | _ => cases h
theorem ok_isi : CnOk K (rIsi K) isiD := fun G H ds xs Q z s rd ⟨w, e, q⟩ => by
  match ds, e, rd with
  | [d, t], e, rd =>
    cases t with
    | ty T =>
      have e : ((tyN d).bind fun t => (kitB t T).map fun b => W.val (.bl b)) = some w := e
      cases h1 : tyN d with
      | none => rw [h1] at e; cases e
      | some t =>
        rw [h1] at e
        have e : (kitB t T).map (fun b => W.val (.bl b)) = some w := e
        cases h2 : kitB t T with
        | none => rw [h2] at e; cases e
        | some b =>
          rw [h2] at e; cases e
          obtain ⟨v, r, rfl, r1, u, r2, rfl, r3, rfl⟩ := rd
          cases (show u = .ty T from r3)
          exact ⟨v, .ty T, .type t, .type T, b, rfl, .ty T, tyN_ok s r1 h1, kit_ty h2, q _ G H (Grow.refl s z) rfl⟩
    | _ => cases e
  | [], e, rd => cases e
  | [_], e, rd => cases e
  | _ :: y :: _ :: _, e, rd => cases y <;> cases e
end

/-! ### which of several functions -/
def tDP (K : PySem.W.Frag) (mg : Str → Option Value) (Wx : WX) (fs : List Addr) (g : Ev → R Nat) : TE := fun σ H Q => ∃ Γ G env, En K Γ G H σ env ∧
  Aft K mg Wx Γ σ env G H (fun m _ _ H' => ∀ f, fs[m]? = some f → Q (.ref f) H') (g env)
def DP (X : Cx) (Wx : WX) (fe : Expr) (fs : List Addr) (g : Ev → R Nat) : Prop := PE X fe (tDP X.K X.mg Wx fs g)
def pickL (n : Nat) (fi : Ev → R W) : Ev → R Nat := fun e => (fi e).bind fun w e1 => match rd w e1 with
  | some (.int k) => (match ixN n k with
    | some m => .ok m e1
    | none => .bad)
  | _ => .bad
def pickK (tab : Str → Option Nat) (fi : Ev → R W) : Ev → R Nat := fun e => (fi e).bind fun w e1 => match rd w e1 with
  | some (.str z) => (match tab z with
    | some m => .ok m e1
    | none => .bad)
  | _ => .bad
section
variable {X : Cx} {Wx : WX} {pos p pos2 : Pos} {fe ei : Expr} {fs : List Addr} {g : Ev → R Nat} {fi : Ev → R W}
theorem dp_of {f : Ev → R W} (h : DE X Wx fe f) (hrel : ∀ env, match g env with
    | .ok m e1 => ∀ a, fs[m]? = some a → f env = .ok (.val (.ref a)) e1
    | .exc x e => f env = .exc x e
    | .bad => True) (hall : ∀ env m e1, g env = .ok m e1 → m < fs.length) : DP X Wx fe fs g := pe_imp h fun σ H Q q => by
  obtain ⟨Γ, G, env, en, q⟩ := q
  refine ⟨Γ, G, env, en, ?_⟩
  have z := hrel env
  cases hg : g env with
  | bad => rw [hg] at q; exact q.elim
  | exc x e => rw [hg] at z q; rw [z]; exact q
  | ok m e1 =>
    rw [hg] at z q
    have hl := hall env m e1 hg
    have ha := List.getElem?_eq_getElem hl
    rw [z _ ha]
    intro G1 H1 p1 v rv _
    cases (show v = .ref fs[m] from rv)
    exact q G1 H1 p1 _ ha
/-- [f, g, ..][i] -/
theorem dp_list {es : List Expr} {fl : Ev → R (List Ar)} (ha : DA X Wx es fl) (hi : DE X Wx ei fi) (hfl : ∀ e, lstF fl e = .ok (.own (.lst (fs.map .ref))) e) (hs : PlainIx ei := by exact fun _ _ => rfl) :
    DP X Wx (.Subscript (.List es pos) ei pos2) fs (pickL fs.length fi) := by
  refine dp_of (d_ix ix_seq ok_ix (d_lst ha) hi hs) (fun env => ?_) (fun env m e1 h => ?_)
  · unfold pickL binF
    simp only [hfl, R.bind]
    cases hf : fi env with
    | bad => trivial
    | exc x e => rfl
    | ok w e9 =>
      simp only [R.bind]
      cases hr : rd w e9 with
      | none => trivial
      | some d =>
        cases d with
        | int k =>
          simp only
          cases hx : ixN fs.length k with
          | none => trivial
          | some m =>
            intro a hm
            unfold ap2
            have e1 : ixD (D.lst (fs.map .ref)) (.int k) = some (.val (.ref a)) := by
              show (atI (fs.map D.ref) k).map W.val = _
              unfold atI
              rw [List.length_map, hx]
              show ((fs.map D.ref)[m]?).map W.val = _
              rw [List.getElem?_map, hm]; rfl
            have e2 : rd (.own (.lst (fs.map D.ref))) e9 = some (D.lst (fs.map D.ref)) := rfl
            simp only [e2, hr, e1]
        | _ => trivial
  · unfold pickL at h
    cases hf : fi env with
    | bad => rw [hf] at h; cases h
    | exc x e => rw [hf] at h; cases h
    | ok w e2 =>
      rw [hf] at h
      simp only [R.bind] at h
      cases hr : rd w e2 with
      | none => rw [hr] at h; cases h
      | some d =>
        rw [hr] at h
        cases d with
        | int k =>
          simp only at h
          cases hx : ixN fs.length k with
          | none => rw [hx] at h; cases h
          | some m' =>
            rw [hx] at h; cases h
            exact (ixN_seq hx).2.1
        | _ => cases h
/-- d[z], d a dict of the module -/
structure KTab (K : PySem.W.Frag) (w : World) (mg : Str → Option Value) (x : Str) (fs : List Addr) (tab : Str → Option Nat) : Prop where
  ex : ∃ d es n, mg x = some (.ref d) ∧ KDict K w d es n ∧ ∀ z m f, tab z = some m → fs[m]? = some f → PySem.W.nsIn K d z = some (some (.ref f))
  lt : ∀ z m, tab z = some m → m < fs.length
theorem dp_tab {x : Str} {tab : Str → Option Nat} (T : KTab X.K X.w X.mg x fs tab) (hi : DE X Wx ei fi) (hg : Gl X x := by rfl) (hd : (x == ("__debug__" : Str)) = false := by decide) (hs : PlainIx ei := by exact fun _ _ => rfl) :
    DP X Wx (.Subscript (.Name x p) ei pos) fs (pickK tab fi) := by
  obtain ⟨d, es, n, hm, hk, ht⟩ := T.ex
  refine pe_imp (pe_ix ix_kdict (pe_glob (v := .ref d) hg hm rfl hd) hi hs) fun σ H Q q => ?_
  obtain ⟨Γ, G, env, en, q⟩ := q
  refine ⟨Γ, G, env, en, Aft.imp (Aft.two q) fun w e1 G1 H1 _ ⟨p1, q1⟩ v rp nw => ?_⟩
  cases hr : rd w e1 with
  | none => rw [hr] at q1; exact q1.elim
  | some dz =>
    rw [hr] at q1
    have pk := rd_pk p1.en rp hr
    cases dz with
    | str z =>
      simp only at q1
      have e := pk.str
      subst e
      cases hz : tab z with
      | none => rw [hz] at q1; exact q1.elim
      | some m =>
        rw [hz] at q1
        have hlt := T.lt z m hz
        have hf := List.getElem?_eq_getElem hlt
        exact ⟨d, z, .ref fs[m], rfl, rfl, ⟨es, n, _, hk.at_, hk.lit, ht z m _ hz hf, rfl⟩, (q1 G1 H1 (.refl p1.en)).2 _ hf⟩
    | _ => exact q1.elim
/-- the call -/
def apP (dens : List (Ev → R W)) (g : Ev → R Nat) (fa : Ev → R (List Ar)) : Ev → R W := fun e => (g e).bind fun m e1 => match dens[m]? with
  | some den => apF den fa e1
  | none => .bad
def FnsD (X : Cx) (fs : List Addr) (dens : List (Ev → R W)) (n : Nat) : Prop := ∀ (m : Nat) f den, fs[m]? = some f → dens[m]? = some den → ∃ fd ps k, FnD X.prog X.w X.K X.mg X.base k f fd ps den ∧ RoomD k X.A ∧ PySem.W.keepIn X.K (.ref f) = true ∧ Binds X.K fd ps [] ∧ ps.length = n
theorem fns_nil {n : Nat} : FnsD X [] [] n := fun m f den h _ => by simp at h
theorem fns_cons {n k : Nat} {f : Addr} {fd : FuncData} {ps : List Str} {den : Ev → R W} {dens : List (Ev → R W)} (F : FnD X.prog X.w X.K X.mg X.base k f fd ps den) (hr : RoomD k X.A) (hk : PySem.W.keepIn X.K (.ref f) = true) (hb : Binds X.K fd ps []) (hn : ps.length = n) (r : FnsD X fs dens n) :
    FnsD X (f :: fs) (den :: dens) n := fun m f' den' h1 h2 => by
  cases m with
  | zero =>
    simp at h1 h2
    subst h1 h2
    exact ⟨fd, ps, k, F, hr, hk, hb, hn⟩
  | succ m => exact r m f' den' (by simpa using h1) (by simpa using h2)
theorem d_pick {e : Expr} {es : List Expr} {fa : Ev → R (List Ar)} {dens : List (Ev → R W)} {n : Nat} (hp : DP X Wx fe fs g) (hF : FnsD X fs dens n) (hlt : ∀ env m e1, g env = .ok m e1 → m < fs.length) (tk : Takes X Wx)
    (ha : DA X Wx (e :: es) fa) (hn : ∀ env as e1, fa env = .ok as e1 → as.length = n) (he : starEach (e :: es) X.env = (false, eval e X.env) :: starEach es X.env := by rfl) (hpl : (backTo pos (starEach es X.env)).any (·.1) = false := by rfl)
    (hcall : eval (.Call fe (e :: es) [] pos) X.env = (do callWith pos (← eval fe X.env) [] (backTo pos (starEach (e :: es) X.env)) (backToKw pos (keywordEach [] X.env))) := by rfl) :
    DE X Wx (.Call fe (e :: es) [] pos) (apP dens g fa) := ⟨fun pins s σ H Q I h => by
  obtain ⟨Γ, G, env, en, h⟩ := h
  have rd : tDP X.K X.mg Wx fs g σ H (fun v H1 => ∃ (f : Addr) (m : Nat) (den : Ev → R W), v = .ref f ∧ fs[m]? = some f ∧ dens[m]? = some den ∧ tDA X.K X.mg Wx fa σ H1 fun vs H2 => spD X.K X.mg n den vs H2 Q fun cls d H' => Wx cls d σ H') := by
    refine ⟨Γ, G, env, en, ?_⟩
    have h2 := h.two
    cases hg : g env with
    | bad => rw [hg] at h2; exact h2
    | exc x e => rw [hg] at h2; exact h2
    | ok m e1 =>
      rw [hg] at h2
      intro G1 H1 p1 f hf
      obtain ⟨_, q⟩ := h2 G1 H1 p1
      cases hd : dens[m]? with
      | none => rw [hd] at q; exact q.elim
      | some den =>
        rw [hd] at q
        refine ⟨f, m, den, rfl, hf, hd, Γ, G1, e1, p1.en, ?_⟩
        have q2 := Aft.two (show Aft X.K X.mg Wx Γ σ e1 G1 H1 _ (apF den fa e1) from q)
        cases hfa : fa e1 with
        | bad => rw [hfa] at q2; exact q2
        | exc x e => rw [hfa] at q2; exact q2
        | ok as e2 =>
          rw [hfa] at q2
          intro G2 H2 p2 vs ra
          obtain ⟨_, q3⟩ := q2 G2 H2 p2
          refine call_sp p2.en ra (hn e1 as e2 hfa) (q3.imp fun w e' G' H' _ z v wr nn => ?_)
          exact z.2.2 v wr ((nn.back p2.kp.al).back p1.kp.al)
  refine PyProof.Rows.Call_ (thn (hp.run pins s σ H _ I rd) fun u s1 ⟨v, H1, I1, r1, f, m, den, ev, hf, hd, q⟩ => ?_) hcall
  subst ev
  cases r1
  obtain ⟨fd, ps, k, F, hr, hk, hb, hps⟩ := hF m f den hf hd
  refine PySem.W.callWith_K (h₀ := X.base) I1.ok.mod.kin hk (thn (ha.run pos pins s1 σ H1 _ I1 q) fun us s2 ⟨vs, H2, I2, r, q⟩ => ⟨I2.kIn, ?_⟩) he hpl
  rw [← hps] at q
  exact run_fnD F hr hb tk I2 r q⟩
/-- z not in d -/
def ninK (tab : Str → Option Bool) (fi : Ev → R W) : Ev → R W := fun e => (fi e).bind fun w e1 => match rd w e1 with
  | some (.str z) => (match tab z with
    | some b => .ok (.val (.bl b)) e1
    | none => .bad)
  | _ => .bad
theorem nin_read {x : Str} {tab : Str → Option Bool} {d : Addr} {σ : St} {H : Hp} {Q : VK} (ht : ∀ z b, tab z = some b → ∃ r, PySem.W.nsIn X.K d z = some r ∧ r.isSome = !b) (q : tD X.K X.mg Wx (ninK tab fi) σ H Q) :
    tOp (fun x y H Q => ∃ (z : Str) (r : Option Value), x = .str z ∧ y = .ref d ∧ PySem.W.nsIn X.K d z = some r ∧ Q (.bl (!r.isSome)) H) (tD X.K X.mg Wx fi) (tC (.ref d)) σ H Q := by
  obtain ⟨Γ, G, env, en, q⟩ := q
  refine ⟨Γ, G, env, en, Aft.imp (Aft.two q) fun w e1 G1 H1 _ ⟨p1, q1⟩ v rp nw => ?_⟩
  cases hr : rd w e1 with
  | none => rw [hr] at q1; exact q1.elim
  | some dz =>
    rw [hr] at q1
    have pk := rd_pk p1.en rp hr
    cases dz with
    | str z =>
      simp only at q1
      have e := pk.str
      subst e
      cases hz : tab z with
      | none => rw [hz] at q1; exact q1.elim
      | some b =>
        rw [hz] at q1
        obtain ⟨r, e1, e2⟩ := ht z b hz
        refine ⟨z, r, rfl, rfl, e1, ?_⟩
        rw [e2]
        have q2 := (q1 G1 H1 (.refl p1.en)).2 (.bl b) rfl fun _ _ z => nomatch z
        simpa using q2
    | _ => exact q1.elim
theorem d_ninK {x : Str} {tab : Str → Option Bool} (T : ∃ d es n, X.mg x = some (.ref d) ∧ KDict X.K X.w d es n ∧ ∀ z b, tab z = some b → ∃ r, PySem.W.nsIn X.K d z = some r ∧ r.isSome = !b) (hi : DE X Wx ei fi) (hg : Gl X x := by rfl) (hd : (x == ("__debug__" : Str)) = false := by decide)
    (hm : behindInMarks .NotIn (.Name x p) = false := by first | exact nomark _ | rfl) : DE X Wx (.Compare ei [.NotIn] [.Name x p] pos) (ninK tab fi) := by
  obtain ⟨d, es, n, hmg, hk, ht⟩ := T
  exact pe_imp (pe_cmpR (op_notIn_kd hk) hi (pe_glob (v := .ref d) hg hmg rfl hd) hm) fun σ H Q q => nin_read (x := x) ht q
theorem d_tninK {x : Str} {tab : Str → Option Bool} (T : ∃ d es n, X.mg x = some (.ref d) ∧ KDict X.K X.w d es n ∧ ∀ z b, tab z = some b → ∃ r, PySem.W.nsIn X.K d z = some r ∧ r.isSome = !b) (hi : DE X Wx ei fi) (hg : Gl X x := by rfl) (hd : (x == ("__debug__" : Str)) = false := by decide)
    (hm : behindInMarks .NotIn (.Name x p) = false := by first | exact nomark _ | rfl) : DT X Wx (.Compare ei [.NotIn] [.Name x p] pos) (blF (ninK tab fi)) := by
  obtain ⟨d, es, n, hmg, hk, ht⟩ := T
  exact pt_imp (pt_cmpR (op_notIn_kd hk) hi (pe_glob (v := .ref d) hg hmg rfl hd) hm) fun σ H Q q => nin_read (x := x) ht (bl_read q)
end
/-! ### try: .. except C as error: a suite whose end hangs on the exception's class alone -/
def sTry (i : Nat) (yes : Str → Option Bool) (hd : Str → Option Fl) (b : Ev → R Fl) : Ev → R Fl := fun e => match b e with
  | .exc x e1 => (match yes x.cls with
    | some true => (match x.pay, hd x.cls, e1[i]? with
      | none, some fl, some s => if okSl s then .ok fl (e1.set i .no) else .bad
      | _, _, _ => .bad)
    | some false => .exc x e1
    | none => .bad)
  | r => r
/-- an end, later -/
def FlQ (K : PySem.W.Frag) (fl : Fl) (D : Ends) (σ : St) (H : Hp) : Prop := ∀ H', Same H H' → HpOk K H' → match fl with
  | .next => D.nx σ H'
  | .brk => D.bk σ H'
  | .cnt => D.ct σ H'
  | .ret (.val (.str s)) => D.rt (.str s) H'
  | .ret (.val (.bl b)) => D.rt (.bl b) H'
  | .ret (.val .non) => D.rt .non H'
  | _ => True
theorem En.later {K : PySem.W.Frag} {Γ : Ct} {σ : St} {env : Ev} {G H H' : Hp} (en : En K Γ G H σ env) (s : Same H H') (z : HpOk K H') : En K Γ G H' σ env :=
  (Grow.post en ⟨Same.refl _, s, en.sub.trans s, fun a o e => .inl e, z⟩).en
section
variable {X : Cx} {x n : Str} {c : Value} {i : Nat} {body suite : List Stmt} {b₀ : Stmt} {np pos pos' : Pos} {ts : Addr → Value → Option Addr → TS} {Wx : WX} {yes : Str → Option Bool} {hd : Str → Option Fl} {b : Ev → R Fl}
theorem flq_of {K : PySem.W.Frag} {mg : Str → Option Value} {Γ : Ct} {D : Ends} {G G' H' : Hp} {σ' : St} {e : Ev} {fl : Fl} {i : Nat} {s : Sl} {a : Addr} (h : AftS K mg Wx Γ D G (.ok fl (e.set i .no))) (sm : Same G G') (en : En K Γ G' H' σ' e) (h0 : e[i]? = some s) (k0 : okSl s = true) :
    FlQ K fl { nx := fun σ' H' => D.nx (σ'.set i none) H', rt := D.rt, bk := fun σ' H' => D.bk (σ'.set i none) H', ct := fun σ' H' => D.ct (σ'.set i none) H' } (σ'.set i (some (.ref a))) H' := by
  intro H2 s2 z2
  have en2 : En K Γ G' H2 (σ'.set i none) (e.set i .no) := (en.later s2 z2).put h0 k0 rfl trivial fun b o a z => nomatch z
  have e3 : (σ'.set i (some (.ref a))).set i none = σ'.set i none := List.set_set _
  cases fl with
  | next => show D.nx _ _; rw [e3]; exact h G' H2 _ sm en2
  | brk => show D.bk _ _; rw [e3]; exact h G' H2 _ sm en2
  | cnt => show D.ct _ _; rw [e3]; exact h G' H2 _ sm en2
  | ret w =>
    cases w with
    | val d =>
      cases d with
      | str t => exact h G' H2 _ (.str t) sm en2 rfl
      | bl t => exact h G' H2 _ (.bl t) sm en2 rfl
      | non => exact h G' H2 _ .non sm en2 rfl
      | _ => exact True.intro
    | own o => exact True.intro
    | loc j => exact True.intro
theorem ds_try (hs : X.stack = X.env :: X.outer) (hf : X.env.frame = some X.env.locals) (hN : X.N.Nodup) (hi : X.N[i]? = some n) (hln : X.env.kindOf n = some .local) (hc : Names X x c) (tk : Takes X Wx)
    (hb : ∀ (W : WX) (pn : List (Addr × Obj)) (xe : Value → Shared → Prop), Takes (X.tr pn xe) W → PassesOwn (model X.prog X.w) X.A X.env xe → DSs (X.tr pn xe) W body b)
    (hy : ∀ (k : Str) (cls : Value) (r : Bool), yes k = some r → X.mg k = some cls → PySem.W.exmOne X.K cls c = some r)
    (hsu : ∀ (a : Addr) (oe : Obj) (cls : Value) (d : Option Addr) (pn : List (Addr × Obj)), Zc cls d oe → (∃ vs, oe.data = .fields vs) → PSs (X.suite a ((a, oe) :: pn)) (b₀ :: suite) (ts a cls d))
    (hts : ∀ (a : Addr) (cls : Value) (d : Option Addr) (k : Ex) (fl : Fl) (D : Ends) (G H : Hp) (σ : St), XRep X.mg X.K G k cls d H → k.pay = none → yes k.cls = some true → hd k.cls = some fl → σ[i]? = some (some (.ref a)) → HpOk X.K H → H a = none → FlQ X.K fl D σ H → ts a cls d D σ H) :
    DS X Wx (.Try body [.ExceptHandler (some (.Name x np)) (some n) (b₀ :: suite) pos'] [] [] pos) (sTry i yes hd b) :=
  ps_imp (ps_try_as (tb := fun W => tDS X.K X.mg W b) hs hf hN hi hln hc tk hb hsu) fun D σ H ⟨Γ, G, env, en, h⟩ => by
    refine ⟨Γ, G, env, en, ?_⟩
    unfold sTry at h
    cases hr : b env with
    | bad => rw [hr] at h; exact h
    | ok fl e => rw [hr] at h; cases fl <;> exact h
    | exc k e1 =>
      rw [hr] at h
      simp only at h
      intro G' H' σ' cls d sm en' xr
      cases hyes : yes k.cls with
      | none => rw [hyes] at h; exact h.elim
      | some r =>
        rw [hyes] at h
        refine ⟨r, hy k.cls cls r hyes xr.1, fun er a na => ?_, fun er => ?_⟩
        · subst er
          cases hpay : k.pay with
          | some _ => simp only [hpay] at h; exact (h : False).elim
          | none =>
          cases hh : hd k.cls with
          | none => simp only [hpay, hh] at h; exact (h : False).elim
          | some fl =>
            cases h0 : e1[i]? with
            | none => simp only [hpay, hh, h0] at h; exact (h : False).elim
            | some s =>
              simp only [hpay, hh, h0] at h
              cases hk : okSl s with
              | false => simp only [hk] at h; exact (h : False).elim
              | true =>
                simp only [hk, if_true] at h
                have hlt : i < σ'.length := by rw [← en'.len]; exact (List.getElem?_eq_some_iff.mp h0).1
                exact hts a cls d k fl _ G' H' _ xr hpay hyes hh (List.getElem?_set_self hlt) en'.hz na (flq_of h sm en' h0 hk)
        · subst er
          exact h G' H' σ' cls d sm en' xr
end

/-! ### isinstance(error, C) where error is what the suite holds -/
def isE (i : Nat) (a : Addr) (b : Bool) : Ev → R W := fun e => match e[i]? with
  | some (.val (.ref a')) => if a' = a then .ok (.val (.bl b)) e else .bad
  | _ => .bad
theorem call_isH {X : Cx} {a D : Addr} {oe : Obj} (C : ExcC X.K D) (hz : Zc (.ref D) none oe) (hf : ∃ vs, oe.data = .fields vs) (hp : (a, oe) ∈ X.pn) : CallR X (.builtin "isinstance") (rIsE X.K D a) := by
  rintro pins s σ H xs us Q I r ⟨c, cv, b, rfl, hcv, e, q⟩
  obtain ⟨u1, u2, rfl, r1, r2⟩ := vals2 r
  cases (show u1 = Value.ref a from r1)
  have ec := hcv _ r2
  subst ec
  have hget := (I.pin (a, oe) (List.mem_append_left _ hp)).1
  obtain ⟨vs, hv⟩ := hf
  have J : PySem.W.InstAt s.heap a oe D none := by
    obtain ⟨oc, od, oda, osl⟩ := oe
    have h1 : oc = .ref D := hz.1
    have h2 : od = none := hz.2
    have h3 : oda = .fields vs := hv
    subst h1 h2 h3
    exact ⟨hget, rfl, rfl, trivial⟩
  refine PySem.W.kia_one (PySem.W.handS_kitx_exc C.hg C.hk C.hs C.hd C.ha C.hn C.ht C.hm) I.kIn J e (fun z => nomatch z) fun tk => ?_
  exact ⟨.bl b, H, I.kept (t' := tk) fun _ _ z => z, rfl, q⟩
section
variable {X : Cx} {Wx : WX} {p p1 p2 pos : Pos} {n y : Str} {i : Nat} {a D C : Addr} {oe : Obj} {b : Bool}
theorem d_isE (F : ExcC X.K D) (hz : Zc (.ref D) none oe) (hf : ∃ vs, oe.data = .fields vs) (hp : (a, oe) ∈ X.pn) (hm : X.mg "isinstance" = none) (hC : X.mg y = some (.ref C)) (hk : PySem.W.kitOne X.K (.ref D) (.ref C) = some b) (i : Nat)
    (hg : Gl X "isinstance" := by rfl) (hN : X.N[i]? = some n := by rfl) (hv : Vis X.env.scope n := by first | exact Or.inl rfl | exact Or.inr (Or.inl rfl) | exact Or.inr (Or.inr rfl)) (hd : (n == ("__debug__" : Str)) = false := by decide) (hcd : (n == ("__classdict__" : Str)) = false := by decide)
    (hgy : Gl X y := by rfl) (hdy : (y == ("__debug__" : Str)) = false := by decide)
    (h1 : starEach [.Name n p1, .Name y p2] X.env = (false, eval (.Name n p1) X.env) :: starEach [.Name y p2] X.env := by rfl) (h2 : starEach [.Name y p2] X.env = (false, eval (.Name y p2) X.env) :: starEach [] X.env := by rfl)
    (hpl : (backTo pos (starEach [.Name y p2] X.env)).any (·.1) = false := by rfl) :
    DE X Wx (.Call (.Name "isinstance" p) [.Name n p1, .Name y p2] [] pos) (isE i a b) :=
  pe_imp (pe_callB (call_isH F hz hf hp) hg hm PyProof.Rows.boot_isinstance (pa_cons (pe_var hN hv hd hcd) (pa_cons (pe_glob (v := .ref C) hgy hC rfl hdy) pa_nil h2) h1) (he := h1) (hpl := hpl)) fun σ H Q ⟨Γ, G, env, en, q⟩ => by
    unfold isE at q
    cases hs : env[i]? with
    | none => rw [hs] at q; exact q.elim
    | some s =>
      rw [hs] at q
      cases s with
      | val d =>
        cases d with
        | ref a' =>
          simp only at q
          by_cases ha : a' = a
          · rw [if_pos ha] at q
            subst ha
            obtain ⟨v, e1, r⟩ := en.sl i _ hs
            cases (show v = .ref a' from r)
            exact ⟨.ref a', e1, .ref C, .ref C, b, rfl, fun u z => z, hk, q G H (.refl en) (.bl b) rfl fun _ _ z => nomatch z⟩
          · rw [if_neg ha] at q; exact q.elim
        | _ => exact q.elim
      | _ => exact q.elim
end

/-! ### the def that names an exception's kind, called where the exception is held -/
structure KindD (P : Program) (w : World) (K : PySem.W.Frag) (mg : Str → Option Value) (base : Heap) (k : Nat) (f : Addr) (fd : FuncData) (kd : Str → Option Str) : Prop where
  run : ∀ (A : Around) (outer : List Env) (s : Shared) (H : Hp) (args : Args) (us : List Value) (Q : VK) (a D : Addr) (oe : Obj) (x z : Str), L2H.RoomH k A → Env0 P w K mg base A outer s H → L2H.PinOk outer H s (a, oe) →
    mg x = some (.ref D) → kd x = some z → Zc (.ref D) none oe → (∃ vs, oe.data = .fields vs) → BindsTo s fd args ((["error"] : List Str).zip us) → Vals [V.ref a] us → HpOk K H → (∀ H', Same H H' → HpOk K H' → Q (.str z) H') →
    codeAny (model P w) A (.call (.ref f) args) (CR (L2.CX P w) outer P w H s Q fun _ _ _ => False) s
theorem KindD.mono {P : Program} {w : World} {K : PySem.W.Frag} {mg : Str → Option Value} {base : Heap} {j k : Nat} {f : Addr} {fd : FuncData} {kd : Str → Option Str} (F : KindD P w K mg base j f fd kd) (h : j ≤ k) : KindD P w K mg base k f fd kd :=
  ⟨fun A outer s H args us Q a D oe x z r => F.run A outer s H args us Q a D oe x z (r.mono h)⟩
section
variable {P : Program} {w : World} {K : PySem.W.Frag} {mg : Str → Option Value} {base : Heap}
theorem kindD_of {x qual : Str} {st : Stmt} {f : Addr} {fd : FuncData} {N : List Str} {k : Nat} {g : Addr → Str → Ev → R Fl} {kd : Str → Option Str} (F : Fun K x qual st f fd) (S : FnScope N ["error"] (defScope st))
    (hbody : ∀ (cdv : Value) (A : Around) (outer : List Env) (s : Shared) (H : Hp) (a D : Addr) (oe : Obj) (y z : Str), L2H.RoomH k (A.deeper (envOfC qual (defScope st) s.heap.objs.size f cdv)) → mg y = some (.ref D) → kd y = some z → Zc (.ref D) none oe → (∃ vs, oe.data = .fields vs) →
      DSs (L2H.cxH (L2.CX P w) P w K mg base N qual (defScope st) f cdv A outer s H (fun _ _ _ => False) (a, oe)) (fun _ _ _ _ => False) (defBody st) (g a y))
    (hg : ∀ (a : Addr) (y z : Str), kd y = some z → ∃ e, g a y (.val (.ref a) :: List.replicate (N.length - 1) .no) = .ok (.ret (.val (.str z))) e) : KindD P w K mg base (k + 1) f fd kd := by
  obtain ⟨oc, od, kV, doc, pm, an, cdv, ct, osl, rfl, lk, hcd⟩ := F.ex
  refine ⟨fun A outer s H args us Q a D oe y z hr e0 hpin hy hz hzc hfl hb r hHz hq => ?_⟩
  have inK : K.In s.heap := e0.mod.kin.keeps fun b o e => (e0.bs b o e).1
  have noL : s.heap.NoLimit := e0.mod.nolimit.keeps fun b o e => (e0.bs b o e).1
  have kinds : ∀ y ∈ (["error"] : List Str).zip us, (defScope st).names.lookup y.1 = some .local ∨ ((defScope st).names.lookup y.1 = some .cell ∧ ((cellsFrom (s.heap.objs.size + 1) (defScope st).names []).lookup y.1).isSome = true) := by
    rintro ⟨n, v⟩ hy
    exact (S.par n (List.of_mem_zip hy).1).imp id fun q => ⟨q, PySem.W.cellsFrom_some _ _ _ (.inl q)⟩
  refine codeAny_call_function hr.depth (inK _ _ lk) rfl S.co S.gen rfl (PySem.W.codeRec_of inK hcd) (hb _ _ _ _ ?_)
  refine wpAny_newFunctionEnv_cells S.kind kinds fun fenv he s1 entered => ?_
  subst he
  refine ⟨noL.keeps entered.toInCall.keep, codeAny_func ?_⟩
  have body := hbody cdv A outer s H a D oe y z (hr.deeper _) hy hz hzc hfl
  have hN : 1 ≤ N.length := by
    have := congrArg List.length S.pre
    rw [List.length_take] at this
    simp at this; omega
  have I := L2H.inv_startH (CX := L2.CX P w) (P := P) (w := w) (K := K) (mg := mg) (base := base) (qual := qual) (f := f) (cd := cdv) (E := fun _ _ _ => False) S hpin e0 (vs := [V.ref a]) rfl r entered
  let Γ : Ct := ⟨H, fun _ => none, [], by intro i a b z; cases z⟩
  have en : En K Γ (fun _ => none) H (L2.start N [V.ref a]) (.val (.ref a) :: List.replicate (N.length - 1) .no) := by
    refine ⟨(fun b o e => by cases e), Same.refl _, (fun b o e => by cases e), (fun b o e _ => e), (by intro a z; cases z), ?_, ?_, (by intro p z; cases z), ?_, hHz⟩
    · unfold L2.start
      simp
    · intro i s0 z
      cases i with
      | zero =>
        simp at z
        subst z
        refine ⟨.ref a, ?_, rfl⟩
        unfold L2.start
        rfl
      | succ i =>
        have z : (List.replicate (N.length - 1) Sl.no)[i]? = some s0 := by simpa using z
        rw [List.getElem?_replicate] at z
        split at z
        · cases z; trivial
        · cases z
    · intro i j b b' o o' c z
      cases i with
      | zero => simp at z
      | succ i =>
        have z : (List.replicate (N.length - 1) Sl.no)[i]? = some (.own b o) := by simpa using z
        rw [List.getElem?_replicate] at z
        split at z <;> cases z
  obtain ⟨e, he⟩ := hg a y z hz
  have back : ∀ {σ' : St} {H' : Hp} {v : V} {u : Value} {s' : Shared}, Inv (L2H.cxH (L2.CX P w) P w K mg base N qual (defScope st) f cdv A outer s H (fun _ _ _ => False) (a, oe)) [] σ' H' s' → RelV v u → Q v H' → CE outer P w H s Q u s' :=
    fun {σ' H' v u s'} J rv q => ⟨v, H', J.os, J.bare, J.base, J.hok, rv, q⟩
  refine wpAny_mono (body.run [] s1 (L2.start N [V.ref a]) H { nx := fun _ _ => False, rt := Q } I ⟨Γ, fun _ => none, _, en, ?_⟩) (fun fl s' hs => ?_) fun e s' hs => hs
  · rw [he]
    intro G' H' σ' v _ en' wr
    cases (show v = .str z from wr)
    refine hq H' (fun b o e => ?_) en'.hz
    exact en'.fr b o e (by intro z; cases z)
  · cases fl with
    | ret u =>
      obtain ⟨v, σ', H', J, rv, q⟩ := hs
      exact back J rv q
    | next =>
      obtain ⟨_, _, _, q⟩ := hs
      exact q.elim
    | brk =>
      obtain ⟨_, _, _, q⟩ := hs
      exact q.elim
    | cont =>
      obtain ⟨_, _, _, q⟩ := hs
      exact q.elim
end
section
variable {X : Cx} {p p1 pos : Pos} {x n : Str} {i k : Nat} {a D f : Addr} {oe : Obj} {fd : FuncData} {kd : Str → Option Str} {y z : Str}
/-- its call in the suite -/
theorem pe_kind (F : KindD X.prog X.w X.K X.mg X.base k f fd kd) (hr : L2H.RoomH k X.A) (hm : X.mg x = some (.ref f)) (hkp : PySem.W.keepIn X.K (.ref f) = true) (hb : Binds X.K fd ["error"] []) (hp : (a, oe) ∈ X.pn)
    (hy : X.mg y = some (.ref D)) (hz : kd y = some z) (hzc : Zc (.ref D) none oe) (hfl : ∃ vs, oe.data = .fields vs) (i : Nat)
    (hN : X.N[i]? = some n := by rfl) (hv : Vis X.env.scope n := by first | exact Or.inl rfl | exact Or.inr (Or.inl rfl) | exact Or.inr (Or.inr rfl)) (hd : (n == ("__debug__" : Str)) = false := by decide) (hcd : (n == ("__classdict__" : Str)) = false := by decide)
    (hg : Gl X x := by rfl) (hdb : (x == ("__debug__" : Str)) = false := by decide) (he : starEach [.Name n p1] X.env = (false, eval (.Name n p1) X.env) :: starEach [] X.env := by rfl) :
    PE X (.Call (.Name x p) [.Name n p1] [] pos) (fun σ H Q => σ[i]? = some (some (.ref a)) ∧ HpOk X.K H ∧ ∀ H', Same H H' → HpOk X.K H' → Q (.str z) H') := ⟨fun pins s σ H Q I ⟨hs, hHz, hq⟩ => by
  refine wpAny_Call_Name_kw (ld_glob I hg hm ?_ hdb)
  have ha : PA X [.Name n p1] (tCons (tVar i) tNil) := pa_cons (pe_var hN hv hd hcd) pa_nil he
  refine PySem.W.callWith_K (h₀ := X.base) I.ok.mod.kin hkp (thn (ha.run pos pins s σ H (fun vs H1 => vs = [V.ref a] ∧ H1 = H) I ⟨.ref a, hs, rfl, rfl⟩) fun us s1 ⟨vs, H1, I1, r, ev, eH⟩ => ⟨I1.kIn, ?_⟩) he rfl
  subst ev
  rw [eH] at I1
  have hl : us.length = (["error"] : List Str).length := by rw [← r.length]; rfl
  have b := hb s1 us I1.kIn (by rw [List.append_nil]; exact hl)
  rw [List.append_nil] at b
  have P1 := I1.pin (a, oe) (List.mem_append_left _ hp)
  have hpin : L2H.PinOk X.stack H s1 (a, oe) := ⟨P1.1, P1.2.1, fun hm => (List.mem_cons.mp (I1.stkSub a hm)).elim P1.2.2.1 P1.2.2.2.1, P1.2.2.2.2⟩
  refine wpAny_call (codeAny_mono (F.run X.A X.stack s1 H ⟨us, []⟩ us Q a D oe y z hr I1.env0 hpin hy hz hzc hfl b r hHz hq) fun res s' hq => ?_)
  match res, hq with
  | .error ex, hq =>
    obtain ⟨_, _, _, _, _, _, _, z⟩ := hq
    exact absurd z.2.2.2.2.2 (by intro z; exact z)
  | .ok (.ret u), hq => exact I1.after hq
  | .ok .next, hq => exact hq.elim
  | .ok .brk, hq => exact hq.elim
  | .ok .cont, hq => exact hq.elim⟩
end
section
variable {X : Cx} {x n kn : Str} {C f : Addr} {i k : Nat} {body : List Stmt} {np kp ep cpos rpos pos pos' : Pos} {Wx : WX} {yes : Str → Option Bool} {b : Ev → R Fl} {fd : FuncData} {kd : Str → Option Str}
/-- what the kind's def leans on -/
structure KindF (X : Cx) (kn : Str) (f : Addr) (fd : FuncData) (k : Nat) (kd : Str → Option Str) : Prop where
  fn : KindD X.prog X.w X.K X.mg X.base k f fd kd
  rm : L2H.RoomH k X.A
  at_ : X.mg kn = some (.ref f)
  kp : PySem.W.keepIn X.K (.ref f) = true
  bd : Binds X.K fd ["error"] []
  cl : ∀ y z, kd y = some z → ∃ E : Addr, X.mg y = some (.ref E)
def hdRet (kd : Str → Option Str) : Str → Option Fl := fun y => (kd y).map fun z => .ret (.val (.str z))
def hdNe (kd : Str → Option Str) (z0 : Str) : Str → Option Fl := fun y => (kd y).map fun z => if z = z0 then .next else .ret (.val (.bl false))
def tKind (mg : Str → Option Value) (kd : Str → Option Str) (cls : Value) (d : Option Addr) (t : Addr → Str → Str → TS) : TS := fun Dn σ H => ∃ (y : Str) (E : Addr) (z : Str), cls = .ref E ∧ d = none ∧ mg y = some (.ref E) ∧ kd y = some z ∧ t E y z Dn σ H
theorem pss_kind {X' : Cx} {ss : List Stmt} {cls : Value} {d : Option Addr} {t : Addr → Str → Str → TS} (h : ∀ (E : Addr) (y z : Str), cls = .ref E → d = none → X'.mg y = some (.ref E) → kd y = some z → PSs X' ss (t E y z)) : PSs X' ss (tKind X'.mg kd cls d t) :=
  ⟨fun pins s σ H D I ⟨y, E, z, e1, e2, e3, e4, q⟩ => (h E y z e1 e2 e3 e4).run pins s σ H D I q⟩
theorem kind_x {mg : Str → Option Value} {K : PySem.W.Frag} {G H : Hp} {e : Ex} {cls : Value} {d : Option Addr} (hp : e.pay = none) (xr : XRep mg K G e cls d H) : mg e.cls = some cls ∧ d = none := by
  obtain ⟨h1, h2⟩ := xr
  rw [hp] at h2
  exact ⟨h1, h2⟩
theorem ds_tryRet (hs : X.stack = X.env :: X.outer) (hf : X.env.frame = some X.env.locals) (hN : X.N.Nodup) (hc : Names X x (.ref C)) (tk : Takes X Wx) (KF : KindF X kn f fd k kd)
    (hb : ∀ (W : WX) (pn : List (Addr × Obj)) (xe : Value → Shared → Prop), Takes (X.tr pn xe) W → PassesOwn (model X.prog X.w) X.A X.env xe → DSs (X.tr pn xe) W body b)
    (hy : ∀ (y : Str) (cls : Value) (r : Bool), yes y = some r → X.mg y = some cls → PySem.W.exmOne X.K cls (.ref C) = some r)
    (hi : X.N[i]? = some n := by rfl) (hln : X.env.kindOf n = some .local := by rfl) (hd : (n == ("__debug__" : Str)) = false := by decide) (hcd : (n == ("__classdict__" : Str)) = false := by decide)
    (hg : Gl X kn := by rfl) (hdb : (kn == ("__debug__" : Str)) = false := by decide) (he : starEach [.Name n ep] X.env = (false, eval (.Name n ep) X.env) :: starEach [] X.env := by rfl) :
    DS X Wx (.Try body [.ExceptHandler (some (.Name x np)) (some n) [.Return (some (.Call (.Name kn kp) [.Name n ep] [] cpos)) rpos] pos'] [] [] pos) (sTry i yes (hdRet kd) b) := by
  refine ds_try (ts := fun a cls d => tKind X.mg kd cls d fun E y z => tRet (fun σ H Q => σ[i]? = some (some (.ref a)) ∧ HpOk X.K H ∧ ∀ H', Same H H' → HpOk X.K H' → Q (.str z) H')) hs hf hN hi hln hc tk hb hy (fun a oe cls d pn hz hfl => ?_) fun a cls d e fl D G H σ xr hp hyes hh hσ hHz na hq => ?_
  · refine pss_kind (X' := X.suite a ((a, oe) :: pn)) fun E y z e1 e2 hmy hkd => ?_
    subst e1 e2
    exact pss_one (ps_ret (pe_kind (X := X.suite a ((a, oe) :: pn)) KF.fn ⟨KF.rm.dp, KF.rm.un⟩ KF.at_ KF.kp KF.bd List.mem_cons_self hmy hkd hz hfl i hi (.inl hln) hd hcd hg hdb he))
  · obtain ⟨h1, h2⟩ := kind_x hp xr
    cases hk : kd e.cls with
    | none => unfold hdRet at hh; rw [hk] at hh; cases hh
    | some z =>
      unfold hdRet at hh
      rw [hk] at hh
      cases hh
      obtain ⟨E, hE⟩ := KF.cl _ _ hk
      rw [hE] at h1; cases h1
      exact ⟨e.cls, E, z, rfl, h2, hE, hk, hσ, hHz, fun H' s' z' => hq H' s' z'⟩
theorem ds_tryNe {z0 : Str} {j : Nat} {zp ip fp vp : Pos} {j2 : Nat} (hs : X.stack = X.env :: X.outer) (hf : X.env.frame = some X.env.locals) (hN : X.N.Nodup) (hc : Names X x (.ref C)) (tk : Takes X Wx) (KF : KindF X kn f fd k kd)
    (hb : ∀ (W : WX) (pn : List (Addr × Obj)) (xe : Value → Shared → Prop), Takes (X.tr pn xe) W → PassesOwn (model X.prog X.w) X.A X.env xe → DSs (X.tr pn xe) W body b)
    (hy : ∀ (y : Str) (cls : Value) (r : Bool), yes y = some r → X.mg y = some cls → PySem.W.exmOne X.K cls (.ref C) = some r)
    (hi : X.N[i]? = some n := by rfl) (hln : X.env.kindOf n = some .local := by rfl) (hd : (n == ("__debug__" : Str)) = false := by decide) (hcd : (n == ("__classdict__" : Str)) = false := by decide)
    (hg : Gl X kn := by rfl) (hdb : (kn == ("__debug__" : Str)) = false := by decide) (he : starEach [.Name n ep] X.env = (false, eval (.Name n ep) X.env) :: starEach [] X.env := by rfl) :
    DS X Wx (.Try body [.ExceptHandler (some (.Name x np)) (some n) [.If (.Compare (.Call (.Name kn kp) [.Name n ep] [] cpos) [.NotEq] [.Constant (.str z0) j zp] ip) [.Return (some (.Constant (.bool false) j2 fp)) rpos] [] vp] pos'] [] [] pos) (sTry i yes (hdNe kd z0) b) := by
  refine ds_try (ts := fun a cls d => tKind X.mg kd cls d fun E y z => tIfS (tTest (tOp rNe (fun σ H Q => σ[i]? = some (some (.ref a)) ∧ HpOk X.K H ∧ ∀ H', Same H H' → HpOk X.K H' → Q (.str z) H') (tC (.str z0)))) (tRet (tC (.bl false))) tNext) hs hf hN hi hln hc tk hb hy (fun a oe cls d pn hz hfl => ?_) fun a cls d e fl D G H σ xr hp hyes hh hσ hHz na hq => ?_
  · refine pss_kind (X' := X.suite a ((a, oe) :: pn)) fun E y z e1 e2 hmy hkd => ?_
    subst e1 e2
    exact pss_one (ps_if (pt_cmpR op_ne (pe_kind (X := X.suite a ((a, oe) :: pn)) KF.fn ⟨KF.rm.dp, KF.rm.un⟩ KF.at_ KF.kp KF.bd List.mem_cons_self hmy hkd hz hfl i hi (.inl hln) hd hcd hg hdb he) pe_str rfl) (pss_one (ps_ret pe_bl)) pss_nil)
  · obtain ⟨h1, h2⟩ := kind_x hp xr
    cases hk : kd e.cls with
    | none => unfold hdNe at hh; rw [hk] at hh; cases hh
    | some z =>
      unfold hdNe at hh
      rw [hk] at hh
      cases hh
      obtain ⟨E, hE⟩ := KF.cl _ _ hk
      rw [hE] at h1; cases h1
      refine ⟨e.cls, E, z, rfl, h2, hE, hk, hσ, hHz, fun H' s' z' => ⟨rfl, _, rfl, ?_⟩⟩
      have q := hq H' s' z'
      by_cases hz : z = z0
      · subst hz
        simp only [if_true] at q
        have hn : (!decide (V.str z = V.str z)) = false := by simp
        rw [hn]
        exact q
      · simp only [hz, if_false] at q
        have hn : (!decide (V.str z = V.str z0)) = true := by simp [hz]
        rw [hn]
        exact q
end

/-! ### y = [.. for ..] -/
section
variable {X : Cx} {Wx : WX}
theorem set_read {f : Ev → R W} {i : Nat} {D : Ends} {σ : St} {H : Hp} {K : PySem.W.Frag} {mg : Str → Option Value} (h : tDS K mg Wx (sSet i f) D σ H) : tD K mg Wx f σ H fun x H1 => gName i x σ H1 D.nx := by
  obtain ⟨Γ, G, env, en, h⟩ := h
  refine ⟨Γ, G, env, en, (Aft.stmt h).imp fun w e1 G1 H1 _ ⟨p, q⟩ v r n => ?_⟩
  cases hq : setSl i w e1 with
  | none => rw [hq] at q; exact q.elim
  | some e2 =>
    rw [hq] at q
    obtain ⟨G2, s2, en2⟩ := set_ok p.en r hq
    exact q G2 H1 _ s2 en2
theorem ds_setLc {y : Str} {py spos pos : Pos} {elt tg iter : Expr} {ifs : List Expr} {scope : Scope} {own : List (Str × Nat)} {f : Ev → R (List D)} {g : D → Ev → Option Ev} {ts : List Nat} {t : Ev → R Bool} {fe : Ev → R D} {i : Nat}
    (hc : X.calm = true) (hN : X.N.Nodup) (ok : BlkOk X.N X.env.scope scope own) (hi : DI X Wx tg iter f)
    (hg : ∀ (s : Shared) (H : Hp) (C : Addr) (cl : List (Str × Addr)) (fp : List Addr), DG (X.blk s H scope (compEnvC scope cl C X.env) fp) tg g ts)
    (ht : ∀ (s : Shared) (H : Hp) (C : Addr) (cl : List (Str × Addr)) (fp : List Addr), DTs (X.blk s H scope (compEnvC scope cl C X.env) fp) Wn ifs t)
    (he : ∀ (s : Shared) (H : Hp) (C : Addr) (cl : List (Str × Addr)) (fp : List Addr), DV (X.blk s H scope (compEnvC scope cl C X.env) fp) Wn elt fe)
    (tsub : ∀ i ∈ ts, i ∈ own.map (·.2) := by decide) (hs : ∀ x, foldedSetIterable iter X.env x = pure x := by intro _; rfl)
    (hy : X.N[i]? = some y := by rfl) (hyl : X.env.scope.names.lookup y = some .local := by rfl)
    (hsw : swapsWith (.ListComp elt [⟨tg, iter, ifs, 0⟩] scope pos) (some (.Name y py)) spos.line X.env = pure true := by exact sw_true rfl rfl rfl (by decide +kernel)) :
    DS X Wx (.Assign [.Name y py] (.ListComp elt [⟨tg, iter, ifs, 0⟩] scope pos) spos) (sSet i (lcF (own.map (·.2)) f g t fe)) :=
  ps_imp (ps_setLc (tt := tDT X.K X.mg Wn t) (te := tDV X.K X.mg Wn fe) (g := tDG X.K g ts) hc hN hy hyl hsw hi ok (fun s H C cl fp => (hg s H C cl fp).pg) (fun s H C cl fp => ht s H C cl fp) (fun s H C cl fp => he s H C cl fp) hs) fun D σ H h =>
    lc_read tsub (hg X.s_0 H 0 [] []).ok (set_read h)
end
/-! ### arguments -/
/-- a name as an argument: lent if it is owned -/
def aN (i : Nat) (r : Ev → R (List Ar)) : Ev → R (List Ar) := fun e => match e[i]? with
  | some (.own _ _) => (r e).bind fun as e2 => .ok (.r i :: as) e2
  | some (.val d) => (r e).bind fun as e2 => .ok (.v d :: as) e2
  | some (.bval d) => (r e).bind fun as e2 => .ok (.v d :: as) e2
  | _ => .bad
def La (f : Ev → R (List Ar)) (n : Nat) : Prop := ∀ env as e1, f env = .ok as e1 → as.length = n
theorem la_nil : La aNil 0 := fun env as e1 h => by cases h; rfl
theorem la_v {f : Ev → R D} {r : Ev → R (List Ar)} {n : Nat} (h : La r n) : La (aV f r) (n + 1) := fun env as e1 q => by
  unfold aV at q
  cases hf : f env with
  | bad => rw [hf] at q; cases q
  | exc x e => rw [hf] at q; cases q
  | ok d e2 =>
    rw [hf] at q
    simp only [R.bind] at q
    cases hr : r e2 with
    | bad => rw [hr] at q; cases q
    | exc x e => rw [hr] at q; cases q
    | ok bs e3 =>
      rw [hr] at q; cases q
      rw [List.length_cons, h _ _ _ hr]
theorem la_n {i : Nat} {r : Ev → R (List Ar)} {n : Nat} (h : La r n) : La (aN i r) (n + 1) := fun env as e1 q => by
  unfold aN at q
  have go : ∀ a : Ar, ((r env).bind fun as e2 => DL.R.ok (a :: as) e2) = .ok as e1 → as.length = n + 1 := fun a q => by
    cases hr : r env with
    | bad => rw [hr] at q; cases q
    | exc x e => rw [hr] at q; cases q
    | ok bs e3 =>
      rw [hr] at q; cases q
      rw [List.length_cons, h _ _ _ hr]
  split at q
  · exact go _ q
  · exact go _ q
  · exact go _ q
  · cases q
section
variable {X : Cx} {Wx : WX} {pos : Pos}
theorem da_n {es : List Expr} {r : Ev → R (List Ar)} (i : Nat) {x : Str} {p : Pos} (hr : DA X Wx es r) (hs : starEach (.Name x p :: es) X.env = (false, eval (.Name x p) X.env) :: starEach es X.env := by rfl) (hN : X.N[i]? = some x := by rfl)
    (hv : Vis X.env.scope x := by first | exact Or.inl rfl | exact Or.inr (Or.inl rfl) | exact Or.inr (Or.inr rfl)) (hd : (x == ("__debug__" : Str)) = false := by decide) (hcd : (x == ("__classdict__" : Str)) = false := by decide) :
    DA X Wx (.Name x p :: es) (aN i r) := by
  have h1 := da_r (Wx := Wx) (p := p) i hr hs hN hv hd hcd
  have h2 := da_v (d_sh (d_var (Wx := Wx) (pos := p) i hN hv hd hcd)) hr hs
  refine ⟨fun apos pins s σ H Q I h => ?_⟩
  obtain ⟨Γ, G, env, en, q⟩ := h
  cases hi : env[i]? with
  | none => unfold aN at q; rw [hi] at q; exact q.elim
  | some t =>
    cases t with
    | no => unfold aN at q; rw [hi] at q; exact q.elim
    | own b o =>
      refine h1.run apos pins s σ H Q I ⟨Γ, G, env, en, ?_⟩
      have e : aN i r env = aR i r env := by unfold aN aR; rw [hi]
      rw [← e]; exact q
    | val d =>
      refine h2.run apos pins s σ H Q I ⟨Γ, G, env, en, ?_⟩
      have e : aN i r env = aV (shF (eV i)) r env := by
        have e1 : eV i env = .ok (.val d) env := by unfold eV; rw [hi]
        unfold aN aV shF
        simp only [hi, e1, R.bind, shr]
      rw [← e]; exact q
    | bval d =>
      refine h2.run apos pins s σ H Q I ⟨Γ, G, env, en, ?_⟩
      have e : aN i r env = aV (shF (eV i)) r env := by
        have e1 : eV i env = .ok (.val d) env := by unfold eV; rw [hi]
        unfold aN aV shF
        simp only [hi, e1, R.bind, shr]
      rw [← e]; exact q
end

/-! ### globals -/
section
variable {X : Cx} {Wx : WX} {pos : Pos} {x : Str}
theorem d_gi {i : Int} (h : ∃ t, X.mg x = some (.int i t)) (hg : Gl X x := by rfl) (hd : (x == ("__debug__" : Str)) = false := by decide) : DE X Wx (.Name x pos) (eC (.int i)) := by
  obtain ⟨t, h⟩ := h
  exact d_gint hg h hd
theorem d_gs {i : Str} (h : ∃ t, X.mg x = some (.str i t)) (hg : Gl X x := by rfl) (hd : (x == ("__debug__" : Str)) = false := by decide) : DE X Wx (.Name x pos) (eC (.str i)) := by
  obtain ⟨t, h⟩ := h
  exact d_gstr hg h hd
end

/-! ### defs -/
theorem RoomD.u {k : Nat} {A : Around} (r : RoomD k A) : A.units + 66 < cLine := by have := r.room.un; omega
theorem RoomD.u0 {k : Nat} {A : Around} (r : RoomD k A) : A.units < cLine := by have := r.room.un; omega
theorem RoomD.u4 {k : Nat} {A : Around} (r : RoomD k A) : A.units + 64 < cLine := by have := r.room.un; omega
theorem _root_.L2H.RoomH.u4 {k : Nat} {A : Around} (r : L2H.RoomH k A) : A.units + 64 < cLine := by have := r.un; omega
theorem RoomD.u5 {k : Nat} {A : Around} (r : RoomD k A) : A.units + 65 < cLine := by have := r.room.un; omega
structure Fn (P : Program) (w : World) (K : PySem.W.Frag) (mg : Str → Option Value) (base : Heap) (x : Str) (k n : Nat) (den : Ev → R W) : Prop where
  ex : ∃ f fd ps, ps.length = n ∧ FnD P w K mg base k f fd ps den ∧ mg x = some (.ref f) ∧ PySem.W.keepIn K (.ref f) = true ∧ Binds K fd ps []
section
variable {P : Program} {w : World} {K : PySem.W.Frag} {mg : Str → Option Value} {base : Heap}
theorem Fn.mono {x : Str} {j k n : Nat} {den : Ev → R W} (F : Fn P w K mg base x j n den) (h : j ≤ k) : Fn P w K mg base x k n den := by
  obtain ⟨f, fd, ps, h1, h2, h3⟩ := F.ex
  exact ⟨f, fd, ps, h1, h2.mono h, h3⟩
theorem Fn.eqv {x : Str} {k n : Nat} {den den' : Ev → R W} (F : Fn P w K mg base x k n den) (h : den = den') : Fn P w K mg base x k n den' := h ▸ F
/-- the bind facts of a def -/
def BindsA (st : Stmt) (x : Str) (ps : List Str) : Prop := ∀ (kV doc pm : Value) (an : Option Addr) (cdv ct : Value) (us : List Value), us.length = ps.length → bindArgs (PySem.W.fnOf x x (defArgs st) (defBody st) (defScope st) .none kV doc pm an cdv ct) ⟨us, []⟩ = pure (ps.zip us)
theorem fn_mk {x : Str} {st : Stmt} {N ps : List Str} {k : Nat} {g : Ev → R Fl} (h : ∃ f fd, Fun K x x st f fd ∧ mg x = some (.ref f)) (S : FnScope N ps (defScope st)) (hb : BindsA st x ps)
    (hbody : ∀ (f : Addr) (cdv : Value) (A : Around) (outer : List Env) (s : Shared) (H : Hp) (E : XK), RoomD k (A.deeper (envOfC x (defScope st) s.heap.objs.size f cdv)) →
      DSs (cxOf (L2.CX P w) P w K mg base N x (defScope st) f cdv A outer s H E) (fun cls d _ H' => E cls d H') (defBody st) g) : Fn P w K mg base x (k + 1) ps.length (runF ps.length N.length g) := by
  obtain ⟨f, fd, F, hm⟩ := h
  exact ⟨f, fd, ps, rfl, fnD_of F S (hbody f), hm, F.kp, F.binds hb⟩
end
section
variable {X : Cx} {Wx : WX} {pos p : Pos} {x : Str} {e : Expr} {es : List Expr} {k j n : Nat} {den : Ev → R W} {fa : Ev → R (List Ar)}
theorem d_call (F : Fn X.prog X.w X.K X.mg X.base x j n den) (hr : RoomD k X.A) (hk : j ≤ k) (tk : Takes X Wx) (ha : DA X Wx (e :: es) fa) (hn : La fa n) (hg : Gl X x := by rfl) (hdb : (x == ("__debug__" : Str)) = false := by decide)
    (he : starEach (e :: es) X.env = (false, eval e X.env) :: starEach es X.env := by rfl) (hpl : (backTo pos (starEach es X.env)).any (·.1) = false := by rfl) : DE X Wx (.Call (.Name x p) (e :: es) [] pos) (apF den fa) := by
  obtain ⟨f, fd, ps, h1, h2, h3, h4, h5⟩ := F.ex
  exact d_fn h2 (hr.mono hk) h3 h4 h5 tk ha (fun env as e1 q => by rw [h1]; exact hn env as e1 q) hg hdb he hpl
theorem d_call0 (F : Fn X.prog X.w X.K X.mg X.base x j 0 den) (hr : RoomD k X.A) (hk : j ≤ k) (tk : Takes X Wx) (hg : Gl X x := by rfl) (hdb : (x == ("__debug__" : Str)) = false := by decide) : DE X Wx (.Call (.Name x p) [] [] pos) (apF den aNil) := by
  obtain ⟨f, fd, ps, h1, h2, h3, h4, h5⟩ := F.ex
  cases ps with
  | nil => exact d_fn0 h2 (hr.mono hk) h3 h4 h5 tk hg hdb
  | cons a b => cases h1
end

/-! ### from the head's facts -/
section
variable {fa : List He.Fa} {fn : List He.FnD} {K : PySem.W.Frag} {h : Heap} {mg : Str → Option Value}
def fD (x : Str) (st : Stmt) : He.FnD := ⟨(x, none), x, x, defArgs st, defBody st, defScope st⟩
theorem fun_of (c : He.SaysE fa fn K) (X : K.In h) (G : h.Ns mainGlobals mg) {x : Str} {st : Stmt} (i j l : Nat) (hd : fn[i]? = some (fD x st) := by rfl) (hg : fa[j]? = some (.glo x) := by rfl) (hk : fa[l]? = some (.keep x) := by rfl) : ∃ f fd, Fun K x x st f fd ∧ mg x = some (.ref f) := by
  obtain ⟨oc, od, osl, kV, doc, pm, an, cdv, ct, e1, e2⟩ := c.def_ i hd
  exact ⟨_, _, fun_mk (st := st) e1 e2 (c.fact l hk), He.glo_ok X G (c.fact j hg)⟩
theorem free_of (c : He.SaysE fa fn K) (X : K.In h) (G : h.Ns mainGlobals mg) {x : Str} (i : Nat) (hg : fa[i]? = some (.free x) := by rfl) : mg x = none := He.free_ok X G (c.fact i hg)
theorem int_of (c : He.SaysE fa fn K) (X : K.In h) (G : h.Ns mainGlobals mg) {x : Str} {n : Int} (i : Nat) (hg : fa[i]? = some (.int x n) := by rfl) : ∃ t, mg x = some (.int n t) := He.int_ok X G (c.fact i hg)
theorem str_of (c : He.SaysE fa fn K) (X : K.In h) (G : h.Ns mainGlobals mg) {x z : Str} (i : Nat) (hg : fa[i]? = some (.str x z) := by rfl) : ∃ t, mg x = some (.str z t) := He.str_ok X G (c.fact i hg)
theorem glo_of (c : He.SaysE fa fn K) (X : K.In h) (G : h.Ns mainGlobals mg) {x : Str} (i : Nat) (hg : fa[i]? = some (.glo x) := by rfl) : mg x = some (.ref (He.ga K x)) := He.glo_ok X G (c.fact i hg)
theorem exc_of (c : He.SaysE fa fn K) (X : K.In h) (G : h.Ns mainGlobals mg) {x : Str} (i j : Nat) (hg : fa[i]? = some (.glo x) := by rfl) (hx : fa[j]? = some (.exc x) := by rfl) : ExcF K mg x (He.ga K x) := by
  obtain ⟨h1, h2, h3, h4⟩ := He.exc_ok (c.fact j hx)
  exact ⟨He.glo_ok X G (c.fact i hg), h1, h2, h3, h4⟩
end
/-- which classes a clause catches -/
def yesL (l : List (Str × Bool)) (y : Str) : Option Bool := l.lookup y
theorem lookup_mem {β : Type} {y : Str} {b : β} : ∀ {l : List (Str × β)}, l.lookup y = some b → (y, b) ∈ l
  | [], h => by cases h
  | (z, c) :: r, h => by
    rw [List.lookup_cons] at h
    by_cases e : (y == z) = true
    · rw [e] at h
      have e' : y = z := by simpa using e
      cases h; subst e'; exact List.mem_cons_self
    · have e' : (y == z) = false := by simpa using e
      rw [e'] at h
      exact List.mem_cons_of_mem _ (lookup_mem h)
theorem yes_of {K : PySem.W.Frag} {mg : Str → Option Value} {c : Str} {l : List (Str × Bool)} (h1 : ∀ p ∈ l, mg p.1 = some (.ref (He.ga K p.1))) (h2 : (l.all fun p => (He.Fa.exm p.1 c p.2).ok K) = true) :
    ∀ (y : Str) (cls : Value) (r : Bool), yesL l y = some r → mg y = some cls → PySem.W.exmOne K cls (.ref (He.ga K c)) = some r := fun y cls r h hm => by
  have m := lookup_mem h
  have e := h1 _ m
  rw [hm] at e
  cases e
  exact He.exm_ok (List.all_eq_true.mp h2 _ m)
/-- what isinstance asks of an exception's class -/
def excB (K : PySem.W.Frag) (D : Addr) : Bool := He.eqO (PySem.W.findIn K (.ref D) "__getattribute__") (some (some (.builtin "BaseException.__getattribute__"))) && (He.eqO (PySem.W.findIn K (.ref D) "__getattr__") (some none) &&
  (decide (PySem.W.subIn K (.ref D) (.type "BaseException") = some true) && (PySem.W.hasDictIn K D && (He.eqO (PySem.W.findIn K (.ref D) "__class__") (some (some (.builtin "object.__class__"))) &&
  (He.eqO (PySem.W.specialIn K (.builtin "object.__class__") "__get__") (some (some (.builtin "getset_descriptor.__get__"))) && (decide (PySem.W.takesIn K (.builtin "object.__class__") = some true) && decide (PySem.W.mroIn K D (.type "object") = some true)))))))
theorem excB_ok {K : PySem.W.Frag} {D : Addr} (h : excB K D = true) : ExcC K D := by
  obtain ⟨h1, h⟩ := He.ba h
  obtain ⟨h2, h⟩ := He.ba h
  obtain ⟨h3, h⟩ := He.ba h
  obtain ⟨h4, h⟩ := He.ba h
  obtain ⟨h5, h⟩ := He.ba h
  obtain ⟨h6, h⟩ := He.ba h
  obtain ⟨h7, h8⟩ := He.ba h
  exact ⟨He.eqO_ok h1, He.eqO_ok h2, of_decide_eq_true h3, h4, He.eqO_ok h5, He.eqO_ok h6, of_decide_eq_true h7, of_decide_eq_true h8⟩
/-- isinstance(an exception of class x, y) -/
def kitB2 (K : PySem.W.Frag) (x y : Str) (b : Bool) : Bool := decide (PySem.W.kitOne K (.ref (He.ga K x)) (.ref (He.ga K y)) = some b)
theorem kitB2_ok {K : PySem.W.Frag} {x y : Str} {b : Bool} (h : kitB2 K x y b = true) : PySem.W.kitOne K (.ref (He.ga K x)) (.ref (He.ga K y)) = some b := of_decide_eq_true h

/-! ### calls of one of several defs -/
def adr (mg : Str → Option Value) (x : Str) : Addr := match mg x with
  | some (.ref a) => a
  | _ => 0
def FnsN (X : Cx) (names : List Str) (dens : List (Ev → R W)) (k n : Nat) : Prop := ∀ (m : Nat) (x : Str) (den : Ev → R W), names[m]? = some x → dens[m]? = some den → Fn X.prog X.w X.K X.mg X.base x k n den
theorem fsn_nil {X : Cx} {k n : Nat} : FnsN X [] [] k n := fun m x den h => by simp at h
theorem fsn_cons {X : Cx} {names : List Str} {dens : List (Ev → R W)} {j k n : Nat} {x : Str} {den : Ev → R W} (F : Fn X.prog X.w X.K X.mg X.base x j n den) (hk : j ≤ k) (r : FnsN X names dens k n) : FnsN X (x :: names) (den :: dens) k n := fun m y d h1 h2 => by
  cases m with
  | zero => simp at h1 h2; subst h1 h2; exact F.mono hk
  | succ m => exact r m y d (by simpa using h1) (by simpa using h2)
theorem fns_of {X : Cx} {names : List Str} {dens : List (Ev → R W)} {k n : Nat} (h : FnsN X names dens k n) (hr : RoomD k X.A) : FnsD X (names.map (adr X.mg)) dens n := fun m f den h1 h2 => by
  rw [List.getElem?_map] at h1
  cases hx : names[m]? with
  | none => rw [hx] at h1; cases h1
  | some x =>
    rw [hx] at h1
    obtain ⟨f', fd, ps, e1, e2, e3, e4, e5⟩ := (h m x den hx h2).ex
    have ef : f = f' := by
      have : adr X.mg x = f := Option.some.inj h1
      rw [← this]; unfold adr; rw [e3]
    subst ef
    exact ⟨fd, ps, k, e2, hr, e4, e5, e1⟩
inductive NE (X : Cx) : List Expr → List Str → Prop
  | nil : NE X [] []
  | cons {x : Str} {p : Pos} {es : List Expr} {ns : List Str} (hg : Gl X x) (hm : ∃ a : Addr, X.mg x = some (.ref a)) (hd : (x == ("__debug__" : Str)) = false) (r : NE X es ns) : NE X (.Name x p :: es) (x :: ns)
section
variable {X : Cx} {Wx : WX} {pos p pos2 : Pos} {ei : Expr} {fi : Ev → R W}
theorem ne_da {es : List Expr} {ns : List Str} (h : NE X es ns) : ∃ fl, DA X Wx es fl ∧ ∀ e, fl e = .ok (ns.map fun x => Ar.v (.ref (adr X.mg x))) e := by
  induction h with
  | nil => exact ⟨aNil, da_nil, fun e => rfl⟩
  | @cons x p es ns hg hm hd r ih =>
    obtain ⟨fl, h1, h2⟩ := ih
    obtain ⟨a, ha⟩ := hm
    refine ⟨_, da_v (d_sh (d_gref (pos := p) hg ha hd)) h1, fun e => ?_⟩
    have e1 : adr X.mg x = a := by unfold adr; rw [ha]
    unfold aV shF eC
    simp only [R.bind, shr, h2, List.map_cons, e1]
theorem vals_refs {α : Type} (g : α → Addr) : ∀ ns : List α, vals (ns.map fun x => Ar.v (.ref (g x))) = some ((ns.map g).map D.ref)
  | [] => rfl
  | n :: ns => by
    have := vals_refs g ns
    simp only [List.map_cons, vals, this]
    rfl
theorem lt_pickL {n : Nat} {env e1 : Ev} {m : Nat} (h : pickL n fi env = .ok m e1) : m < n := by
  unfold pickL at h
  cases hf : fi env with
  | bad => rw [hf] at h; cases h
  | exc x e => rw [hf] at h; cases h
  | ok w e2 =>
    rw [hf] at h
    simp only [R.bind] at h
    cases hr : rd w e2 with
    | none => rw [hr] at h; cases h
    | some d =>
      rw [hr] at h
      cases d with
      | int k =>
        simp only at h
        cases hx : ixN n k with
        | none => rw [hx] at h; cases h
        | some m' => rw [hx] at h; cases h; exact (ixN_seq hx).2.1
      | _ => cases h
theorem lt_pickK {tab : Str → Option Nat} {n : Nat} (ht : ∀ z m, tab z = some m → m < n) {env e1 : Ev} {m : Nat} (h : pickK tab fi env = .ok m e1) : m < n := by
  unfold pickK at h
  cases hf : fi env with
  | bad => rw [hf] at h; cases h
  | exc x e => rw [hf] at h; cases h
  | ok w e2 =>
    rw [hf] at h
    simp only [R.bind] at h
    cases hr : rd w e2 with
    | none => rw [hr] at h; cases h
    | some d =>
      rw [hr] at h
      cases d with
      | str k =>
        simp only at h
        cases hx : tab k with
        | none => rw [hx] at h; cases h
        | some m' => rw [hx] at h; cases h; exact ht _ _ hx
      | _ => cases h
theorem d_pickL {names : List Str} {dens : List (Ev → R W)} {k n : Nat} {ns : List Expr} {e : Expr} {es : List Expr} {fa : Ev → R (List Ar)} (hF : FnsN X names dens k n) (hr : RoomD k X.A) (hes : NE X ns names) (hsz : names.length ≤ 1000) (hi : DE X Wx ei fi) (tk : Takes X Wx) (ha : DA X Wx (e :: es) fa) (hn : La fa n)
    (he : starEach (e :: es) X.env = (false, eval e X.env) :: starEach es X.env := by rfl) (hpl : (backTo pos (starEach es X.env)).any (·.1) = false := by rfl)
    (hcall : eval (.Call (.Subscript (.List ns p) ei pos2) (e :: es) [] pos) X.env = (do callWith pos (← eval (.Subscript (.List ns p) ei pos2) X.env) [] (backTo pos (starEach (e :: es) X.env)) (backToKw pos (keywordEach [] X.env))) := by rfl) (hs : PlainIx ei := by exact fun _ _ => rfl) :
    DE X Wx (.Call (.Subscript (.List ns p) ei pos2) (e :: es) [] pos) (apP dens (pickL names.length fi) fa) := by
  obtain ⟨fl, h1, h2⟩ := ne_da (Wx := Wx) hes
  have hl : (names.map (adr X.mg)).length = names.length := List.length_map _
  rw [← hl]
  refine d_pick (dp_list h1 hi (fun e => ?_) hs) (fns_of hF hr) (fun env m e1 h => lt_pickL h) tk ha hn he hpl hcall
  unfold lstF
  rw [h2]
  have hz : names.length ≤ sizeLine := by rw [sizeLine_eq]; omega
  simp only [R.bind, vals_refs, List.length_map, hz, if_true]
structure KTabN (K : PySem.W.Frag) (w : World) (mg : Str → Option Value) (x : Str) (names : List Str) (tab : Str → Option Nat) : Prop where
  tb : KTab K w mg x (names.map (adr mg)) tab
theorem d_pickT {x : Str} {names : List Str} {tab : Str → Option Nat} {dens : List (Ev → R W)} {k n : Nat} {e : Expr} {es : List Expr} {fa : Ev → R (List Ar)} (T : KTabN X.K X.w X.mg x names tab) (hF : FnsN X names dens k n) (hr : RoomD k X.A) (hi : DE X Wx ei fi) (tk : Takes X Wx) (ha : DA X Wx (e :: es) fa) (hn : La fa n)
    (hg : Gl X x := by rfl) (hd : (x == ("__debug__" : Str)) = false := by decide) (he : starEach (e :: es) X.env = (false, eval e X.env) :: starEach es X.env := by rfl) (hpl : (backTo pos (starEach es X.env)).any (·.1) = false := by rfl)
    (hcall : eval (.Call (.Subscript (.Name x p) ei pos2) (e :: es) [] pos) X.env = (do callWith pos (← eval (.Subscript (.Name x p) ei pos2) X.env) [] (backTo pos (starEach (e :: es) X.env)) (backToKw pos (keywordEach [] X.env))) := by rfl) (hs : PlainIx ei := by exact fun _ _ => rfl) :
    DE X Wx (.Call (.Subscript (.Name x p) ei pos2) (e :: es) [] pos) (apP dens (pickK tab fi) fa) :=
  d_pick (dp_tab T.tb hi hg hd hs) (fns_of hF hr) (fun env m e1 h => lt_pickK T.tb.lt h) tk ha hn he hpl hcall
end
/-! a table of the module, its keys' answers -/
def tabL (l : List (Str × Nat)) (z : Str) : Option Nat := l.lookup z
def ninL (l : List (Str × Bool)) (z : Str) : Option Bool := l.lookup z
def tabB (K : PySem.W.Frag) (d : Addr) (names : List Str) (l : List (Str × Nat)) : Bool := l.all fun p => match names[p.2]? with
  | some x => He.eqO (PySem.W.nsIn K d p.1) (some (some (.ref (He.ga K x))))
  | none => false
theorem tabN_of {K : PySem.W.Frag} {w : World} {mg : Str → Option Value} {x : Str} {names : List Str} {l : List (Str × Nat)} {ks : List Str} (hm : mg x = some (.ref (He.ga K x))) (hn : ∀ y ∈ names, mg y = some (.ref (He.ga K y)))
    (hd : He.dicW K (He.ga K x) = some (He.keysIn w.params ks)) (ht : tabB K (He.ga K x) names l = true) : KTabN K w mg x names (tabL l) := by
  obtain ⟨es, n, kd⟩ := He.dicW_ok hd
  have at_ : ∀ z m, tabL l z = some m → ∃ y, names[m]? = some y ∧ PySem.W.nsIn K (He.ga K x) z = some (some (.ref (He.ga K y))) := fun z m h => by
    have q := List.all_eq_true.mp ht _ (lookup_mem h)
    simp only at q
    cases hy : names[m]? with
    | none => rw [hy] at q; cases q
    | some y => rw [hy] at q; exact ⟨y, rfl, He.eqO_ok q⟩
  refine ⟨⟨He.ga K x, es, n, hm, kd, fun z m f h1 h2 => ?_⟩, fun z m h1 => ?_⟩
  · obtain ⟨y, e1, e2⟩ := at_ z m h1
    rw [List.getElem?_map, e1] at h2
    have : adr mg y = f := Option.some.inj h2
    rw [← this, e2]
    unfold adr
    rw [hn y (List.mem_of_getElem? e1)]
  · obtain ⟨y, e1, _⟩ := at_ z m h1
    rw [List.length_map]
    exact (List.getElem?_eq_some_iff.mp e1).1
def ninB (K : PySem.W.Frag) (d : Addr) (l : List (Str × Bool)) : Bool := l.all fun p => match PySem.W.nsIn K d p.1 with
  | some r => r.isSome == !p.2
  | none => false
theorem nin_of {K : PySem.W.Frag} {w : World} {mg : Str → Option Value} {x : Str} {l : List (Str × Bool)} {ks : List Str} (hm : mg x = some (.ref (He.ga K x))) (hd : He.dicW K (He.ga K x) = some (He.keysIn w.params ks)) (ht : ninB K (He.ga K x) l = true) :
    ∃ d es n, mg x = some (.ref d) ∧ KDict K w d es n ∧ ∀ z b, ninL l z = some b → ∃ r, PySem.W.nsIn K d z = some r ∧ r.isSome = !b := by
  obtain ⟨es, n, kd⟩ := He.dicW_ok hd
  refine ⟨He.ga K x, es, n, hm, kd, fun z b h => ?_⟩
  have q := List.all_eq_true.mp ht _ (lookup_mem h)
  simp only at q
  cases hr : PySem.W.nsIn K (He.ga K x) z with
  | none => rw [hr] at q; cases q
  | some r => rw [hr] at q; exact ⟨r, rfl, by simpa using q⟩

/-! ### ends -/
theorem binds_law {K : PySem.W.Frag} {x : Str} {st : Stmt} {f : Addr} {fd : FuncData} {p : Str} (F : Fun K x x st f fd) (hb : BindsA st x [p]) (s : Shared) (u : Value) : BindsTo s fd ⟨[u], []⟩ [(p, u)] := by
  obtain ⟨oc, od, kV, doc, pm, an, cdv, ct, osl, rfl, lk, hcd⟩ := F.ex
  exact .of_eq (hb kV doc pm an cdv ct [u] rfl)
theorem fn_bad {P : Program} {w : World} {K : PySem.W.Frag} {mg : Str → Option Value} {base : Heap} {k : Nat} {x : Str} {st : Stmt} {N ps : List Str} (h : ∃ f fd, Fun K x x st f fd ∧ mg x = some (.ref f)) (_S : FnScope N ps (defScope st)) (hb : BindsA st x ps) : Fn P w K mg base x k ps.length (fun _ => .bad) := by
  obtain ⟨f, fd, F, hm⟩ := h
  refine ⟨f, fd, ps, rfl, ⟨fun A outer s H args us vs Q E hr e0 hbb r hsp => ?_⟩, hm, F.kp, F.binds hb⟩
  obtain ⟨Γ, av, h0, en, hl, hq⟩ := hsp
  exact hq.elim
/-! ### plain laws about the plain functions: how they run -/
section
variable {α β : Type} (e : Ev)
@[simp] theorem x_bind_ok (a : α) (k : α → Ev → R β) : (DL.R.ok a e).bind k = k a e := rfl
@[simp] theorem x_bind_exc (x : Ex) (k : α → Ev → R β) : (DL.R.exc x e : R α).bind k = .exc x e := rfl
@[simp] theorem x_bind_bad (k : α → Ev → R β) : (DL.R.bad : R α).bind k = .bad := rfl
@[simp] theorem x_eC (d : D) : eC d e = .ok (.val d) e := rfl
@[simp] theorem x_eV (i : Nat) : eV i e = match e[i]? with
  | some (.val d) => .ok (.val d) e
  | some (.bval d) => .ok (.val d) e
  | some (.own _ _) => .ok (.loc i) e
  | _ => .bad := rfl
@[simp] theorem x_binF (φ : D → D → Option W) (fa fb : Ev → R W) : binF φ fa fb e = (fa e).bind fun w1 e1 => (fb e1).bind fun w2 e2 => ap2 φ w1 w2 e2 := rfl
@[simp] theorem x_rdv (d : D) : rd (.val d) e = some d := rfl
@[simp] theorem x_rdo (o : OD) : rd (.own o) e = some o.toD := rfl
@[simp] theorem x_rdl (i : Nat) : rd (.loc i) e = match e[i]? with
  | some (.own _ o) => some o.toD
  | some (.val d) => some d
  | some (.bval d) => some d
  | _ => none := rfl
@[simp] theorem x_toDl (xs : List D) : (OD.lst xs).toD = .lst xs := rfl
@[simp] theorem x_ap2 (φ : D → D → Option W) (w1 w2 : W) : ap2 φ w1 w2 e = match rd w1 e, rd w2 e with
  | some a, some b => (match φ a b with
    | some w => .ok w e
    | none => .bad)
  | _, _ => .bad := rfl
@[simp] theorem x_ap1 (φ : D → Option W) (w : W) : ap1 φ w e = match (rd w e).bind φ with
  | some w' => .ok w' e
  | none => .bad := rfl
@[simp] theorem x_c1F (φ : D → Option W) (f : Ev → R W) : c1F φ f e = (f e).bind fun w e1 => ap1 φ w e1 := rfl
@[simp] theorem x_cnF (φ : List D → Option W) (f : Ev → R (List Ar)) : cnF φ f e = (f e).bind fun as e1 => match (vals as).bind φ with
  | some w' => .ok w' e1
  | none => .bad := rfl
@[simp] theorem x_shv (d : D) : shr (.val d) e = some (d, e) := rfl
@[simp] theorem x_sho (o : OD) : shr (.own o) e = some (o.toD, e) := rfl
@[simp] theorem x_shl (i : Nat) : shr (.loc i) e = frz i e := rfl
@[simp] theorem x_shF (f : Ev → R W) : shF f e = (f e).bind fun w e1 => match shr w e1 with
  | some (d, e2) => .ok d e2
  | none => .bad := rfl
@[simp] theorem x_vF (f : Ev → R D) : vF f e = (f e).bind fun d e1 => .ok (.val d) e1 := rfl
@[simp] theorem x_aNil : aNil e = .ok [] e := rfl
@[simp] theorem x_aV (f : Ev → R D) (r : Ev → R (List Ar)) : aV f r e = (f e).bind fun d e1 => (r e1).bind fun as e2 => .ok (.v d :: as) e2 := rfl
@[simp] theorem x_aN (i : Nat) (r : Ev → R (List Ar)) : aN i r e = match e[i]? with
  | some (.own _ _) => (r e).bind fun as e2 => .ok (.r i :: as) e2
  | some (.val d) => (r e).bind fun as e2 => .ok (.v d :: as) e2
  | some (.bval d) => (r e).bind fun as e2 => .ok (.v d :: as) e2
  | _ => .bad := rfl
@[simp] theorem x_valsN : vals [] = some [] := rfl
@[simp] theorem x_valsV (d : D) (r : List Ar) : vals (.v d :: r) = (vals r).map (d :: ·) := rfl
@[simp] theorem x_truF (f : Ev → R W) : truF f e = (f e).bind fun w e1 => match (rd w e1).bind truD with
  | some b => .ok b e1
  | none => .bad := rfl
@[simp] theorem x_notF (f : Ev → R Bool) : notF f e = (f e).bind fun b e1 => .ok (!b) e1 := rfl
@[simp] theorem x_andF (f g : Ev → R Bool) : andF f g e = (f e).bind fun b e1 => if b = true then g e1 else .ok false e1 := rfl
@[simp] theorem x_orF (f g : Ev → R Bool) : orF f g e = (f e).bind fun b e1 => if b = true then .ok true e1 else g e1 := rfl
@[simp] theorem x_sSeq (f g : Ev → R Fl) : sSeq f g e = match f e with
  | .ok .next e1 => g e1
  | r => r := rfl
@[simp] theorem x_sNext : sNext e = .ok .next e := rfl
@[simp] theorem x_sBrk : sBrk e = .ok .brk e := rfl
@[simp] theorem x_sCnt : sCnt e = .ok .cnt e := rfl
@[simp] theorem x_sExpr (f : Ev → R W) : sExpr f e = (f e).bind fun _ e1 => .ok .next e1 := rfl
@[simp] theorem x_sRet (f : Ev → R W) : sRet f e = (f e).bind fun w e1 => .ok (.ret w) e1 := rfl
@[simp] theorem x_sRetN : sRetN e = .ok (.ret (.val .non)) e := rfl
@[simp] theorem x_sIf (t : Ev → R Bool) (f g : Ev → R Fl) : sIf t f g e = (t e).bind fun b e1 => if b = true then f e1 else g e1 := rfl
@[simp] theorem x_sRaise (x : Str) : sRaise x e = .exc ⟨x, none⟩ e := rfl
@[simp] theorem x_setSl (i : Nat) (w : W) : setSl i w e = match e[i]? with
  | none => none
  | some s => if okSl s then (match w with
    | .val d => some (e.set i (.val d))
    | .own o => some (e.set i (.own false o))
    | .loc j => (frz j e).map fun p => p.2.set i (.val p.1)) else none := rfl
@[simp] theorem x_ok1 : okSl .no = true := rfl
@[simp] theorem x_ok2 (d : D) : okSl (.val d) = true := rfl
@[simp] theorem x_ok3 (o : OD) : okSl (.own false o) = true := rfl
@[simp] theorem x_sSet (i : Nat) (f : Ev → R W) : sSet i f e = (f e).bind fun w e1 => match setSl i w e1 with
  | some e2 => .ok .next e2
  | none => .bad := rfl
@[simp] theorem x_gN (i : Nat) (d : D) : gN i d e = setSl i (.val d) e := rfl
@[simp] theorem x_sFor (f : Ev → R (List D)) (g : D → Ev → Option Ev) (b : Ev → R Fl) : sFor f g b e = (f e).bind fun ds e1 => forL (turnF g b) ds e1 := rfl
@[simp] theorem x_forN (k : D → Ev → R Fl) : forL k [] e = .ok .next e := rfl
@[simp] theorem x_turnF (g : D → Ev → Option Ev) (b : Ev → R Fl) (d : D) : turnF g b d e = match g d e with
  | some e1 => b e1
  | none => .bad := rfl
@[simp] theorem x_mutF (i : Nat) (φ : List D → List D → Option (List D × D)) (f : Ev → R (List Ar)) : mutF i φ f e = match e[i]? with
  | some (.own _ (.lst _)) => (f e).bind fun as e1 => match vals as, e1[i]? with
    | some ds, some (.own b (.lst xs)) => (match φ xs ds with
      | some (xs', d) => .ok (.val d) (e1.set i (.own b (.lst xs')))
      | none => .bad)
    | _, _ => .bad
  | _ => .bad := rfl
@[simp] theorem x_apF (den : Ev → R W) (f : Ev → R (List Ar)) : apF den f e = (f e).bind fun as e1 => match argE as e1 with
  | none => .bad
  | some args => match den args with
    | .ok w e2 => .ok w (backE as e2 e1)
    | .exc x e2 => .exc x (backE as e2 e1)
    | .bad => .bad := rfl
@[simp] theorem x_argN : argE [] e = some [] := rfl
@[simp] theorem x_argV (d : D) (r : List Ar) : argE (.v d :: r) e = (argE r e).map (.val d :: ·) := rfl
@[simp] theorem x_argR (i : Nat) (r : List Ar) : argE (.r i :: r) e = if r.any (isR i) then none else match e[i]? with
    | some (.own _ o) => (argE r e).map (.own true o :: ·)
    | _ => none := rfl
@[simp] theorem x_isRv (i : Nat) (d : D) : isR i (.v d) = false := rfl
@[simp] theorem x_backN (e0 : Ev) : backE [] e0 e = e := by
  unfold backE; rfl
@[simp] theorem x_backV (d : D) (r : List Ar) (s : Sl) (ss : Ev) : backE (.v d :: r) (s :: ss) e = backE r ss e := rfl
@[simp] theorem x_backR (i : Nat) (r : List Ar) (s : Sl) (ss : Ev) : backE (.r i :: r) (s :: ss) e = backE r ss (match e[i]? with
    | some t => e.set i (conv s t)
    | none => e) := rfl
@[simp] theorem x_convO (b b' : Bool) (o o' : OD) : conv (.own b o) (.own b' o') = .own b' o := rfl
@[simp] theorem x_convT (d : D) (o : OD) : conv (.bval d) (.own true o) = .bval d := rfl
@[simp] theorem x_convF (d : D) (o : OD) : conv (.bval d) (.own false o) = .val d := rfl
@[simp] theorem x_runF (n m : Nat) (g : Ev → R Fl) : runF n m g e = match g (e ++ List.replicate (m - n) .no) with
  | .ok .next e => .ok (.val .non) e
  | .ok (.ret w) e => retW w e
  | .exc x e => .exc x e
  | _ => .bad := rfl
@[simp] theorem x_retV (d : D) : retW (.val d) e = .ok (.val d) e := rfl
@[simp] theorem x_retO (o : OD) : retW (.own o) e = .ok (.own o) e := rfl
@[simp] theorem x_retL (i : Nat) : retW (.loc i) e = match e[i]? with
    | some (.own false o) => .ok (.own o) e
    | some (.own true o) => .ok (.val o.toD) (e.set i (.bval o.toD))
    | some (.val d) => .ok (.val d) e
    | some (.bval d) => .ok (.val d) e
    | _ => .bad := rfl
@[simp] theorem x_lstF (f : Ev → R (List Ar)) : lstF f e = (f e).bind fun as e1 => match vals as with
  | some ds => if ds.length ≤ sizeLine then .ok (.own (.lst ds)) e1 else .bad
  | none => .bad := rfl
@[simp] theorem x_tupF (f : Ev → R (List Ar)) : tupF f e = (f e).bind fun as e1 => match vals as with
  | some ds => if ds.length ≤ sizeLine then .ok (.val (.tup ds)) e1 else .bad
  | none => .bad := rfl
@[simp] theorem x_blF (f : Ev → R W) : blF f e = (f e).bind fun w e1 => match w with
  | .val (.bl b) => .ok b e1
  | _ => .bad := rfl
end

section
variable (e : Ev)
@[simp] theorem x_lcF (vs : List Nat) (f : Ev → R (List D)) (g : D → Ev → Option Ev) (t : Ev → R Bool) (fe : Ev → R D) : lcF vs f g t fe e = (f e).bind fun ds e1 => if plainE e1 vs = true then (match lcL vs g t fe ds (wipeE e1 vs) with
  | .ok out e2 => .ok (.own (.lst out)) (restE e1 e2 vs)
  | _ => .bad) else .bad := rfl
@[simp] theorem x_itF (f : Ev → R D) : itF f e = (f e).bind fun d e1 => match seqD d with
  | some ds => .ok ds e1
  | none => .bad := rfl
@[simp] theorem x_seqL (xs : List D) : seqD (.lst xs) = some xs := rfl
@[simp] theorem x_seqT (xs : List D) : seqD (.tup xs) = some xs := rfl
@[simp] theorem x_metF (T : String) (φ : D → List D → Option W) (fo : Ev → R W) (fa : Ev → R (List Ar)) : metF T φ fo fa e = (fo e).bind fun w e1 => match rd w e1 with
  | some d0 => if tyD T d0 = true then (fa e1).bind (fun as e2 => match (rd w e2).bind fun d => (vals as).bind fun ds => φ d ds with
    | some w' => .ok w' e2
    | none => .bad) else .bad
  | none => .bad := rfl
@[simp] theorem x_tyS (x : Str) : tyD "str" (.str x) = true := rfl
@[simp] theorem x_tyL (x : List D) : tyD "list" (.lst x) = true := rfl
@[simp] theorem x_andV (f g : Ev → R D) : andV f g e = (f e).bind fun d e1 => match truD d with
  | some true => g e1
  | some false => .ok d e1
  | none => .bad := rfl
@[simp] theorem x_orV (f g : Ev → R D) : orV f g e = (f e).bind fun d e1 => match truD d with
  | some false => g e1
  | some true => .ok d e1
  | none => .bad := rfl
@[simp] theorem x_truB (b : Bool) : truD (.bl b) = some b := rfl
@[simp] theorem x_ifV (t : Ev → R Bool) (f g : Ev → R D) : ifV t f g e = (t e).bind fun b e1 => if b = true then f e1 else g e1 := rfl
@[simp] theorem x_plN : plainE e [] = true := rfl
@[simp] theorem x_plC (v : Nat) (vs : List Nat) : plainE e (v :: vs) = ((match e[v]? with
  | some (.own _ _) => false
  | some (.bval _) => false
  | _ => true) && plainE e vs) := rfl
@[simp] theorem x_wpN : wipeE e [] = e := rfl
@[simp] theorem x_wpC (v : Nat) (vs : List Nat) : wipeE e (v :: vs) = (wipeE e vs).set v .no := rfl
@[simp] theorem x_rsN (e0 : Ev) : restE e0 e [] = e := rfl
@[simp] theorem x_rsC (e0 : Ev) (v : Nat) (vs : List Nat) : restE e0 e (v :: vs) = (restE e0 e vs).set v (e0.getD v .no) := rfl
@[simp] theorem x_chF (φ ψ : D → D → Option W) (fa fb fc : Ev → R W) : chF φ ψ fa fb fc e = (fa e).bind fun w1 e1 => (fb e1).bind fun w2 e2 => (ap2 φ w1 w2 e2).bind fun w3 e3 => match w3 with
  | .val (.bl true) => (fc e3).bind fun w4 e4 => ap2 ψ w2 w4 e4
  | .val (.bl false) => .ok (.val (.bl false)) e3
  | _ => .bad := rfl
@[simp] theorem x_oN : oN e = .ok none e := rfl
@[simp] theorem x_oS (f : Ev → R W) : oS f e = (f e).bind fun w e1 => match w with
  | .val (.int i) => .ok (some i) e1
  | _ => .bad := rfl
@[simp] theorem x_slF (fa : Ev → R W) (fl fh : Ev → R (Option Int)) : slF fa fl fh e = (fa e).bind fun w e1 => (fl e1).bind fun lo e2 => (fh e2).bind fun hi e3 => match (rd w e3).bind fun d => slD d lo hi with
  | some w' => .ok w' e3
  | none => .bad := rfl
@[simp] theorem x_notV (f : Ev → R W) : notV f e = (truF f e).bind fun b e1 => .ok (.val (.bl (!b))) e1 := rfl
@[simp] theorem x_tT : tT e = .ok true e := rfl
end

/-! ### the draws -/
/-- a list of draws -/
def Dr (l : List D) : Prop := l.length ≤ 100000 ∧ ∀ d ∈ l, ∃ i : Int, d = .int i ∧ 0 ≤ i ∧ i < 1000
def nx (l : List D) : Int := match l.getLast? with
  | some (.int i) => i
  | _ => 0
def tl (l : List D) : List D := l.dropLast
theorem Dr.tl {l : List D} (h : Dr l) : Dr (tl l) := ⟨by unfold DL.tl; rw [List.length_dropLast]; have := h.1; omega, fun d hd => h.2 d ((List.dropLast_sublist l).subset hd)⟩
theorem nx_ge {l : List D} (h : Dr l) : 0 ≤ nx l ∧ nx l < 1000 := by
  unfold nx
  cases e : l.getLast? with
  | none => exact ⟨by decide, by decide⟩
  | some d =>
    obtain ⟨i, rfl, h1, h2⟩ := h.2 d (List.mem_of_getLast? e)
    exact ⟨h1, h2⟩
theorem sz {n : Nat} (h : n ≤ 1000000) : n ≤ sizeLine := by rw [sizeLine_eq]; omega
def cNumber : Ev → R W := runF 1 1 (sSeq (sIf (blF (binF ltD (eV 0) (eC (.int 0)))) (sRet (binF subD (eC (.int 0)) (eV 0))) (sNext)) (sRet (eV 0)))
theorem run_number (c : Int) : cNumber [.val (.int c)] = .ok (.val (.int (if c < 0 then 0 - c else c))) [.val (.int c)] := by
  unfold cNumber
  by_cases h : c < 0
  · simp [ltD, subD, h]
  · simp [ltD, subD, h]
def cNext : Ev → R W := runF 1 1 (sSeq (sIf (truF (eV 0)) (sRet (mutF 0 popD aNil)) (sNext)) (sRet (eC (.int 0))))
theorem run_next {l : List D} (h : Dr l) (b : Bool) : cNext [.own b (.lst l)] = .ok (.val (.int (nx l))) [.own b (.lst (tl l))] := by
  unfold cNext nx tl
  cases l with
  | nil => simp [truD]
  | cons x r =>
    have e : (x :: r).getLast? = some ((x :: r).getLast (List.cons_ne_nil x r)) := List.getLast?_eq_some_getLast (List.cons_ne_nil x r)
    obtain ⟨i, hi, _⟩ := h.2 _ (List.getLast_mem (List.cons_ne_nil x r))
    have e2 : (x :: r)[(x :: r).length - 1]? = some (.int i) := by rw [← List.getLast?_eq_getElem?, e, hi]
    simp only [List.length_cons, Nat.add_sub_cancel] at e2
    rw [hi] at e
    have e3 := (List.getElem?_eq_some_iff.mp e2).2
    simp [truD, popD, e, e3]

/-! ### loops -/
/-- a loop whose turns all go on -/
theorem forL_go {k : D → Ev → R Fl} {S : Type} (E : S → Ev) (step : S → D → S) (P : S → Prop) : ∀ (ds : List D) (s : S), P s → (∀ s d, P s → d ∈ ds → k d (E s) = .ok .next (E (step s d)) ∧ P (step s d)) →
    forL k ds (E s) = .ok .next (E (ds.foldl step s)) ∧ P (ds.foldl step s)
  | [], s, p, _ => ⟨rfl, p⟩
  | d :: ds, s, p, h => by
    obtain ⟨h1, h2⟩ := h s d p List.mem_cons_self
    obtain ⟨h3, h4⟩ := forL_go E step P ds (step s d) h2 fun s' d' p' m => h s' d' p' (List.mem_cons_of_mem _ m)
    refine ⟨?_, h4⟩
    show (match k d (E s) with
      | .ok .next e1 => forL k ds e1
      | .ok .cnt e1 => forL k ds e1
      | .ok .brk e1 => .ok .next e1
      | x => x) = _
    rw [h1]
    exact h3
/-- the same, told by what holds of the slots -/
theorem forL_inv {k : D → Ev → R Fl} (P : Nat → Ev → Prop) : ∀ (ds : List D) (i : Nat) (e : Ev), P i e → (∀ i d e, ds[i]? = some d → P i e → ∃ e', (k d e = .ok .next e' ∨ k d e = .ok .cnt e') ∧ P (i + 1) e') →
    ∀ rest, ds.drop i = rest → i ≤ ds.length → ∃ e', forL k rest e = .ok .next e' ∧ P ds.length e'
  | ds, i, e, p, h, [], hr, hi => by
    have : ds.length ≤ i := List.drop_eq_nil_iff.mp hr
    have : i = ds.length := by omega
    subst this
    exact ⟨e, rfl, p⟩
  | ds, i, e, p, h, d :: rest, hr, hi => by
    have hlt : i < ds.length := by
      have := congrArg List.length hr
      rw [List.length_drop, List.length_cons] at this; omega
    have hd : ds[i]? = some d := by
      have : (ds.drop i)[0]? = some d := by rw [hr]; rfl
      simpa using this
    obtain ⟨e1, h1, p1⟩ := h i d e hd p
    obtain ⟨e2, h2, p2⟩ := forL_inv P ds (i + 1) e1 p1 h rest (by
      have : ds.drop (i + 1) = (ds.drop i).drop 1 := by rw [List.drop_drop]
      rw [this, hr]; rfl) hlt
    refine ⟨e2, ?_, p2⟩
    show (match k d e with
      | .ok .next e1 => forL k rest e1
      | .ok .cnt e1 => forL k rest e1
      | .ok .brk e1 => .ok .next e1
      | x => x) = _
    rcases h1 with h1 | h1 <;> (rw [h1]; exact h2)
/-- a list comprehension, told by what holds of the slots -/
theorem lcL_inv {vs : List Nat} {g : D → Ev → Option Ev} {t : Ev → R Bool} {fe : Ev → R D} (P : List D → Ev → Prop) : ∀ (ds : List D) (out : List D) (e : Ev), P out e →
    (∀ d e out, d ∈ ds → P out e → ∃ e1 e2 b, g d e = some e1 ∧ t e1 = .ok b e2 ∧ (b = true → ∃ y e3, fe e2 = .ok y e3 ∧ P (out ++ [y]) (wipeE e3 vs)) ∧ (b = false → P out (wipeE e2 vs))) →
    ∃ ys e', lcL vs g t fe ds e = .ok ys e' ∧ P (out ++ ys) e'
  | [], out, e, p, _ => ⟨[], e, rfl, by simpa using p⟩
  | d :: ds, out, e, p, h => by
    obtain ⟨e1, e2, b, h1, h2, h3, h4⟩ := h d e out List.mem_cons_self p
    cases b with
    | true =>
      obtain ⟨y, e3, h5, p5⟩ := h3 rfl
      obtain ⟨ys, e4, h6, p6⟩ := lcL_inv P ds (out ++ [y]) (wipeE e3 vs) p5 fun d' e' o' m => h d' e' o' (List.mem_cons_of_mem _ m)
      refine ⟨y :: ys, e4, ?_, by simpa using p6⟩
      unfold lcL
      simp [h1, h2, h5, h6]
    | false =>
      obtain ⟨ys, e4, h6, p6⟩ := lcL_inv P ds out (wipeE e2 vs) (h4 rfl) fun d' e' o' m => h d' e' o' (List.mem_cons_of_mem _ m)
      refine ⟨ys, e4, ?_, p6⟩
      unfold lcL
      simp [h1, h2, h6]
/-- one that changes no slot -/
theorem lcL_map {vs : List Nat} {g : D → Ev → Option Ev} {fe : Ev → R D} {e : Ev} (φ : D → D) : ∀ (ds : List D), (∀ d ∈ ds, ∃ e1 e3, g d e = some e1 ∧ fe e1 = .ok (φ d) e3 ∧ wipeE e3 vs = e) → lcL vs g tT fe ds e = .ok (ds.map φ) e
  | [], _ => rfl
  | d :: ds, h => by
    obtain ⟨e1, e3, h1, h2, h3⟩ := h d List.mem_cons_self
    have ih := lcL_map φ ds fun d' m => h d' (List.mem_cons_of_mem _ m)
    unfold lcL
    simp [h1, tT, h2, h3, ih]

/-- a loop that may be left -/
theorem forL_brk {k : D → Ev → R Fl} (P : Nat → Ev → Prop) (Rr : Ev → Prop) (N : Nat) : ∀ (ds : List D) (i : Nat) (e : Ev), i + ds.length = N → P i e → (∀ i d e, i < N → d ∈ ds → P i e → ∃ e', ((k d e = .ok .next e' ∨ k d e = .ok .cnt e') ∧ P (i + 1) e') ∨ (k d e = .ok .brk e' ∧ Rr e')) → (∀ e, P N e → Rr e) →
    ∃ e', forL k ds e = .ok .next e' ∧ Rr e'
  | [], i, e, hN, p, _, h2 => ⟨e, rfl, h2 e (by rw [← hN]; exact p)⟩
  | d :: ds, i, e, hN, p, h, h2 => by
    have e0 : forL k (d :: ds) e = (match k d e with
      | .ok .next e1 => forL k ds e1
      | .ok .cnt e1 => forL k ds e1
      | .ok .brk e1 => .ok .next e1
      | x => x) := rfl
    rw [List.length_cons] at hN
    obtain ⟨e1, ⟨h1, p1⟩ | ⟨h1, r1⟩⟩ := h i d e (by omega) List.mem_cons_self p
    · obtain ⟨e2, h3, r2⟩ := forL_brk P Rr N ds (i + 1) e1 (by omega) p1 (fun i d e hi m => h i d e hi (List.mem_cons_of_mem _ m)) h2
      refine ⟨e2, ?_, r2⟩
      rw [e0]
      rcases h1 with h1 | h1 <;> (rw [h1]; exact h3)
    · exact ⟨e1, by rw [e0, h1], r1⟩

theorem lcL_len {vs : List Nat} {g : D → Ev → Option Ev} {t : Ev → R Bool} {fe : Ev → R D} : ∀ (ds : List D) (e : Ev) {ys : List D} {e' : Ev}, lcL vs g t fe ds e = .ok ys e' → ys.length ≤ ds.length
  | [], e, ys, e', h => by cases h; exact Nat.le_refl _
  | d :: ds, e, ys, e', h => by
    unfold lcL at h
    cases h1 : g d e with
    | none => simp [h1] at h
    | some e1 =>
      simp only [h1] at h
      cases h2 : t e1 with
      | bad => rw [h2] at h; cases h
      | exc x e => rw [h2] at h; cases h
      | ok b e2 =>
        rw [h2] at h
        cases b with
        | false =>
          have := lcL_len ds _ (show lcL vs g t fe ds (wipeE e2 vs) = .ok ys e' from h)
          rw [List.length_cons]; omega
        | true =>
          simp only [x_bind_ok, if_true] at h
          cases h3 : fe e2 with
          | bad => rw [h3] at h; cases h
          | exc x e => rw [h3] at h; cases h
          | ok y e3 =>
            rw [h3] at h
            simp only [x_bind_ok] at h
            cases h4 : lcL vs g t fe ds (wipeE e3 vs) with
            | bad => rw [h4] at h; cases h
            | exc x e => rw [h4] at h; cases h
            | ok zs e4 =>
              rw [h4] at h; cases h
              have := lcL_len ds _ h4
              rw [List.length_cons, List.length_cons]; omega
/-- slots without a list of their own -/
def FrP (s : Sl) : Prop := s = .no ∨ ∃ d, s = .val d
/-- a loop that may return -/
theorem forL_ret {k : D → Ev → R Fl} (P : Ev → Prop) (Qr : W → Ev → Prop) : ∀ (ds : List D) (e : Ev), P e → (∀ d e, d ∈ ds → P e → ∃ e', ((k d e = .ok .next e' ∨ k d e = .ok .cnt e') ∧ P e') ∨ ∃ w, k d e = .ok (.ret w) e' ∧ Qr w e') →
    ∃ e', (forL k ds e = .ok .next e' ∧ P e') ∨ ∃ w, forL k ds e = .ok (.ret w) e' ∧ Qr w e'
  | [], e, p, _ => ⟨e, .inl ⟨rfl, p⟩⟩
  | d :: ds, e, p, h => by
    have e0 : forL k (d :: ds) e = (match k d e with
      | .ok .next e1 => forL k ds e1
      | .ok .cnt e1 => forL k ds e1
      | .ok .brk e1 => .ok .next e1
      | x => x) := rfl
    obtain ⟨e1, ⟨h1, p1⟩ | ⟨w, h1, q1⟩⟩ := h d e List.mem_cons_self p
    · obtain ⟨e2, h3⟩ := forL_ret P Qr ds e1 p1 fun d e m => h d e (List.mem_cons_of_mem _ m)
      refine ⟨e2, ?_⟩
      rw [e0]
      rcases h1 with h1 | h1 <;> (rw [h1]; exact h3)
    · exact ⟨e1, .inr ⟨w, by rw [e0, h1], q1⟩⟩

@[simp] theorem vals_map : ∀ cs : List D, vals (cs.map Ar.v) = some cs
  | [] => rfl
  | c :: cs => by
    rw [List.map_cons, x_valsV, vals_map cs]; rfl

section
variable (e : Ev)
@[simp] theorem x_apP (dens : List (Ev → R W)) (g : Ev → R Nat) (fa : Ev → R (List Ar)) : apP dens g fa e = (g e).bind fun m e1 => match dens[m]? with
  | some den => apF den fa e1
  | none => .bad := rfl
@[simp] theorem x_pickL (n : Nat) (fi : Ev → R W) : pickL n fi e = (fi e).bind fun w e1 => match rd w e1 with
  | some (.int k) => (match ixN n k with
    | some m => .ok m e1
    | none => .bad)
  | _ => .bad := rfl
@[simp] theorem x_pickK (tab : Str → Option Nat) (fi : Ev → R W) : pickK tab fi e = (fi e).bind fun w e1 => match rd w e1 with
  | some (.str z) => (match tab z with
    | some m => .ok m e1
    | none => .bad)
  | _ => .bad := rfl
@[simp] theorem x_ninK (tab : Str → Option Bool) (fi : Ev → R W) : ninK tab fi e = (fi e).bind fun w e1 => match rd w e1 with
  | some (.str z) => (match tab z with
    | some b => .ok (.val (.bl b)) e1
    | none => .bad)
  | _ => .bad := rfl
end
/-! ### the draws of a script -/
def cDraws : Ev → R W := runF 1 7 (sSeq (sSet 1 (lstF (aNil))) (sSeq (sFor (itF (shF (eV 0))) (gN 2) (sSeq (sSet 3 (apF cNumber (aN 2 (aNil)))) (sIf (blF (binF geD (eV 3) (eC (.int 1000000000000000000)))) (sFor (rngF (aV (shF (eC (.int 60))) (aNil))) (gN 4) (sSeq (sIf (blF (binF eqD (eV 3) (eC (.int 0)))) (sBrk) (sNext)) (sSeq (sExpr (mutF 1 appD (aV (shF (binF modD (c1F intD (eV 3)) (eC (.int 1000)))) (aNil)))) (sSet 3 (binF fdivD (eV 3) (eC (.int 1000))))))) (sSeq (sSet 5 (binF modD (c1F intD (binF addD (binF mulD (eV 3) (eC (.int 48271))) (eC (.int 11)))) (eC (.int 2147483647)))) (sSeq (sSet 6 (binF modD (c1F intD (binF addD (binF mulD (eV 5) (eC (.int 69621))) (eV 3))) (eC (.int 2147483629)))) (sExpr (mutF 1 extD (aV (shF (lstF (aV (shF (binF modD (c1F intD (eV 3)) (eC (.int 1000)))) (aV (shF (binF modD (c1F intD (eV 5)) (eC (.int 1000)))) (aV (shF (binF modD (c1F intD (eV 6)) (eC (.int 1000)))) (aNil)))))) (aNil))))))))) (sSeq (sExpr (mutF 1 revD aNil)) (sRet (eV 1)))))
def cMore : Ev → R W := runF 2 5 (sSeq (sSet 2 (binF addD (binF addD (binF mulD (eC (.int 1000)) (apF cNext (aN 0 (aNil)))) (apF cNext (aN 0 (aNil)))) (eC (.int 1)))) (sSeq (sSet 3 (lstF (aNil))) (sSeq (sFor (rngF (aN 1 (aNil))) (gN 4) (sSeq (sSet 2 (binF modD (c1F intD (binF addD (binF mulD (eV 2) (eC (.int 48271))) (eC (.int 12345)))) (eC (.int 2147483647)))) (sExpr (mutF 3 appD (aV (shF (binF modD (c1F intD (binF fdivD (eV 2) (eC (.int 7)))) (eC (.int 1000)))) (aNil)))))) (sRet (binF addD (eV 3) (eV 0))))))
def cPick : Ev → R W := runF 2 2 (sRet (binF ixD (eV 1) (binF modD (c1F intD (apF cNext (aN 0 (aNil)))) (c1F lenD (eV 1)))))

theorem pyi (i : Int) : pyOf (.int i) = some (.int i) := rfl
@[simp] theorem x_eqI (i j : Int) : eqD (.int i) (.int j) = some (.val (.bl (i == j))) := by
  unfold eqD
  simp only [strB, pyi]
  rfl
@[simp] theorem x_neI (i j : Int) : neD (.int i) (.int j) = some (.val (.bl (!(i == j)))) := by
  unfold neD
  simp only [strB, pyi]
  rfl
@[simp] theorem x_addI (i j : Int) : addD (.int i) (.int j) = some (.val (.int (i + j))) := rfl
@[simp] theorem x_subI (i j : Int) : subD (.int i) (.int j) = some (.val (.int (i - j))) := rfl
@[simp] theorem x_ltI (i j : Int) : ltD (.int i) (.int j) = some (.val (.bl (decide (i < j)))) := rfl
@[simp] theorem x_leI (i j : Int) : leD (.int i) (.int j) = some (.val (.bl (decide (i ≤ j)))) := rfl
@[simp] theorem x_gtI (i j : Int) : gtD (.int i) (.int j) = some (.val (.bl (decide (j < i)))) := rfl
@[simp] theorem x_geI (i j : Int) : geD (.int i) (.int j) = some (.val (.bl (decide (j ≤ i)))) := rfl
@[simp] theorem x_intI (i : Int) : intD (.int i) = some (.val (.int i)) := rfl
theorem x_modI {i j : Int} (h : 0 < j) : modD (.int i) (.int j) = some (.val (.int (i % j))) := by
  have h0 : j ≠ 0 := by omega
  show (if j ≠ 0 then some (W.val (.int (i.fmod j))) else none) = _
  rw [if_pos h0, Int.fmod_eq_emod_of_nonneg _ (by omega)]
theorem x_mulR {i j : Int} (h : j.natAbs < 2 ^ 64) : mulD (.int i) (.int j) = some (.val (.int (i * j))) := by
  have : mulOk i j = true := by
    unfold mulOk
    rw [Bool.or_eq_true]
    exact .inl (decide_eq_true (by unfold CMul; omega))
  show (if mulOk i j = true then some (W.val (.int (i * j))) else none) = _
  rw [if_pos this]
theorem x_mulL {i j : Int} (h : i.natAbs < 2 ^ 64) : mulD (.int i) (.int j) = some (.val (.int (i * j))) := by
  have : mulOk i j = true := by
    unfold mulOk
    rw [Bool.or_eq_true]
    exact .inl (decide_eq_true (by unfold CMul; omega))
  show (if mulOk i j = true then some (W.val (.int (i * j))) else none) = _
  rw [if_pos this]
theorem x_divI {i j : Int} (h : 0 < j) (h2 : j < 2 ^ 30) : fdivD (.int i) (.int j) = some (.val (.int (i / j))) := by
  have : CDivN i j := by unfold CDivN; omega
  show (if CDivN i j ∨ CDivW i j then some (W.val (.int (i.fdiv j))) else none) = _
  rw [if_pos (.inl this), Int.fdiv_eq_ediv_of_nonneg _ (by omega)]

def DrL (l : List D) : Prop := ∀ d ∈ l, ∃ i : Int, d = .int i ∧ 0 ≤ i ∧ i < 1000
theorem drl_snoc {l : List D} {i : Int} (h : DrL l) (h1 : 0 ≤ i) (h2 : i < 1000) : DrL (l ++ [.int i]) := fun d hd => by
  rcases List.mem_append.mp hd with hd | hd
  · exact h d hd
  · rw [List.mem_singleton] at hd; exact ⟨i, hd, h1, h2⟩
theorem mod_1000 (i : Int) : 0 ≤ i % 1000 ∧ i % 1000 < 1000 := ⟨Int.emod_nonneg _ (by decide), Int.emod_lt_of_pos _ (by decide)⟩
/-- slots that may be set -/
abbrev Fr2 (s : Sl) : Prop := okSl s = true
def dIn : Ev → R Fl := sSeq (sIf (blF (binF eqD (eV 3) (eC (.int 0)))) (sBrk) (sNext)) (sSeq (sExpr (mutF 1 appD (aV (shF (binF modD (c1F intD (eV 3)) (eC (.int 1000)))) (aNil)))) (sSet 3 (binF fdivD (eV 3) (eC (.int 1000)))))
theorem inner_draws {a c s4 s5 s6 : Sl} {acc : List D} {r : Int} {n : Nat} (h4 : Fr2 s4) (hl : acc.length + 60 ≤ n) (hn : n ≤ 100000) (hd : DrL acc) :
    ∃ e', forL (turnF (gN 4) dIn) ((List.range 60).map fun (i : Nat) => D.int (0 + i)) [a, .own false (.lst acc), c, .val (.int r), s4, s5, s6] = .ok .next e' ∧ ∃ acc' d3 s4', e' = [a, .own false (.lst acc'), c, .val d3, s4', s5, s6] ∧ acc'.length ≤ n ∧ DrL acc' ∧ Fr2 s4' := by
  refine forL_brk (fun j e => ∃ acc r s4, e = [a, .own false (.lst acc), c, .val (.int r), s4, s5, s6] ∧ acc.length + 60 ≤ n + j ∧ DrL acc ∧ Fr2 s4) _ 60 _ 0 _ (by rw [List.length_map, List.length_range]) ⟨acc, r, s4, rfl, by omega, hd, h4⟩ ?_ ?_
  · rintro j d e hj hm ⟨acc, r, s4, rfl, h1, h2, h3⟩
    obtain ⟨k, _, rfl⟩ := List.mem_map.mp hm
    by_cases hr : r = 0
    · refine ⟨_, .inr ⟨?_, acc, .int r, .val (.int (0 + k)), rfl, by omega, h2, rfl⟩⟩
      simp [dIn, h3, hr]
    · have hsz : acc.length < sizeLine := by rw [sizeLine_eq]; omega
      refine ⟨_, .inl ⟨.inl ?_, acc ++ [.int (r % 1000)], r / 1000, .val (.int (0 + k)), rfl, ?_, drl_snoc h2 (mod_1000 r).1 (mod_1000 r).2, rfl⟩⟩
      · simp [dIn, h3, hr, appD, hsz, x_modI, x_divI]
      · rw [List.length_append]; simp; omega
  · rintro e ⟨acc, r, s4, rfl, h1, h2, h3⟩
    exact ⟨acc, .int r, s4, rfl, by omega, h2, h3⟩
theorem rng_60 (e : Ev) : rngF (aV (shF (eC (.int 60))) aNil) e = .ok ((List.range 60).map fun (i : Nat) => D.int (0 + i)) e := by
  unfold rngF
  have : (60 : Int) ≤ sizeLine := by rw [sizeLine_eq]; decide
  simp [this]
def dOut : Ev → R Fl := sSeq (sSet 3 (apF cNumber (aN 2 (aNil)))) (sIf (blF (binF geD (eV 3) (eC (.int 1000000000000000000)))) (sFor (rngF (aV (shF (eC (.int 60))) (aNil))) (gN 4) dIn) (sSeq (sSet 5 (binF modD (c1F intD (binF addD (binF mulD (eV 3) (eC (.int 48271))) (eC (.int 11)))) (eC (.int 2147483647)))) (sSeq (sSet 6 (binF modD (c1F intD (binF addD (binF mulD (eV 5) (eC (.int 69621))) (eV 3))) (eC (.int 2147483629)))) (sExpr (mutF 1 extD (aV (shF (lstF (aV (shF (binF modD (c1F intD (eV 3)) (eC (.int 1000)))) (aV (shF (binF modD (c1F intD (eV 5)) (eC (.int 1000)))) (aV (shF (binF modD (c1F intD (eV 6)) (eC (.int 1000)))) (aNil)))))) (aNil)))))))
theorem outer_draws {a : Sl} {ns : List Int} (hl : ns.length ≤ 1000) :
    ∃ e', forL (turnF (gN 2) dOut) (ns.map D.int) [a, .own false (.lst []), .no, .no, .no, .no, .no] = .ok .next e' ∧ ∃ acc s2 s3 s4 s5 s6, e' = [a, .own false (.lst acc), s2, s3, s4, s5, s6] ∧ acc.length ≤ 60 * ns.length ∧ DrL acc := by
  refine forL_brk (fun j e => ∃ acc s2 s3 s4 s5 s6, e = [a, .own false (.lst acc), s2, s3, s4, s5, s6] ∧ acc.length ≤ 60 * j ∧ DrL acc ∧ Fr2 s2 ∧ Fr2 s3 ∧ Fr2 s4 ∧ Fr2 s5 ∧ Fr2 s6) _ ns.length _ 0 _ (by simp) ⟨[], _, _, _, _, _, rfl, by simp, (fun d h => nomatch h), rfl, rfl, rfl, rfl, rfl⟩ ?_ ?_
  · rintro j d e hj hm ⟨acc, s2, s3, s4, s5, s6, rfl, h1, h2, k2, k3, k4, k5, k6⟩
    obtain ⟨c, _, rfl⟩ := List.mem_map.mp hm
    have run := run_number c
    generalize (if c < 0 then 0 - c else c) = r at run
    by_cases hr : (1000000000000000000 : Int) ≤ r
    · obtain ⟨e', he, acc', d3, s4', rfl, q1, q2, q3⟩ := inner_draws (a := a) (c := .val (.int c)) (s4 := s4) (s5 := s5) (s6 := s6) (acc := acc) (r := r) (n := 60 * (j + 1)) k4 (by omega) (by omega) h2
      refine ⟨_, .inl ⟨.inl ?_, acc', .val (.int c), .val d3, s4', s5, s6, rfl, q1, q2, rfl, rfl, q3, k5, k6⟩⟩
      simp only [Int.zero_add] at he
      simp [dOut, k2, k3, run, hr, rng_60, he]
    · have e3 : acc.length + 3 ≤ sizeLine := by rw [sizeLine_eq]; omega
      refine ⟨_, .inl ⟨.inl ?_, acc ++ [.int (r % 1000), .int ((r * 48271 + 11) % 2147483647 % 1000), .int (((r * 48271 + 11) % 2147483647 * 69621 + r) % 2147483629 % 1000)], .val (.int c), .val (.int r), s4, .val (.int ((r * 48271 + 11) % 2147483647)), .val (.int (((r * 48271 + 11) % 2147483647 * 69621 + r) % 2147483629)), rfl, ?_, ?_, rfl, rfl, k4, rfl, rfl⟩⟩
      · have hs3 : 3 ≤ sizeLine := by rw [sizeLine_eq]; decide
        simp [dOut, k2, k3, k5, k6, run, hr, x_modI, x_mulR, extD, e3, hs3]
      · rw [List.length_append]; simp; omega
      · intro d hd
        rcases List.mem_append.mp hd with hd | hd
        · exact h2 d hd
        · simp only [List.mem_cons, List.not_mem_nil, or_false] at hd
          rcases hd with rfl | rfl | rfl <;> exact ⟨_, rfl, mod_1000 _⟩
  · rintro e ⟨acc, s2, s3, s4, s5, s6, rfl, h1, h2, _⟩
    exact ⟨acc, s2, s3, s4, s5, s6, rfl, h1, h2⟩
theorem run_draws {ns : List Int} (hl : ns.length ≤ 63) : ∃ l e', cDraws [scrS ns] = .ok (.own (.lst l)) e' ∧ e'.length ≥ 1 ∧ l.length ≤ 3780 ∧ DrL l := by
  obtain ⟨e', he, acc, s2, s3, s4, s5, s6, rfl, h1, h2⟩ := outer_draws (a := scrS ns) (ns := ns) (by omega)
  refine ⟨acc.reverse, [scrS ns, .own false (.lst acc.reverse), s2, s3, s4, s5, s6], ?_, by simp, by rw [List.length_reverse]; omega, fun d hd => h2 d (List.mem_reverse.mp hd)⟩
  have hd : cDraws = runF 1 7 (sSeq (sSet 1 (lstF aNil)) (sSeq (sFor (itF (shF (eV 0))) (gN 2) dOut) (sSeq (sExpr (mutF 1 revD aNil)) (sRet (eV 1))))) := rfl
  rw [hd]
  unfold scrS at he ⊢
  simp [seqD, he, revD]

theorem dr_of {l : List D} (h1 : l.length ≤ 100000) (h2 : DrL l) : Dr l := ⟨h1, h2⟩
theorem tl_len (l : List D) : (tl l).length ≤ l.length := by unfold tl; rw [List.length_dropLast]; omega
def dMoreB : Ev → R Fl := sSeq (sSet 2 (binF modD (c1F intD (binF addD (binF mulD (eV 2) (eC (.int 48271))) (eC (.int 12345)))) (eC (.int 2147483647)))) (sExpr (mutF 3 appD (aV (shF (binF modD (c1F intD (binF fdivD (eV 2) (eC (.int 7)))) (eC (.int 1000)))) (aNil))))
theorem more_loop {a b : Sl} {seed : Int} (m : Nat) (hm : m ≤ 10000) : ∃ e', forL (turnF (gN 4) dMoreB) ((List.range m).map fun (i : Nat) => D.int i) [a, b, .val (.int seed), .own false (.lst []), .no] = .ok .next e' ∧ ∃ acc sd s4, e' = [a, b, .val (.int sd), .own false (.lst acc), s4] ∧ acc.length ≤ m ∧ DrL acc := by
  refine forL_brk (fun j e => ∃ acc sd s4, e = [a, b, .val (.int sd), .own false (.lst acc), s4] ∧ acc.length ≤ j ∧ DrL acc ∧ Fr2 s4) _ m _ 0 _ (by simp) ⟨[], seed, .no, rfl, by simp, (fun d h => nomatch h), rfl⟩ ?_ ?_
  · rintro j d e hj hm' ⟨acc, sd, s4, rfl, h1, h2, h4⟩
    obtain ⟨k, _, rfl⟩ := List.mem_map.mp hm'
    have hsz : acc.length < sizeLine := by rw [sizeLine_eq]; omega
    refine ⟨_, .inl ⟨.inl ?_, acc ++ [.int ((sd * 48271 + 12345) % 2147483647 / 7 % 1000)], (sd * 48271 + 12345) % 2147483647, .val (.int k), rfl, by rw [List.length_append]; simp; omega, drl_snoc h2 (mod_1000 _).1 (mod_1000 _).2, rfl⟩⟩
    simp [dMoreB, h4, x_modI, x_mulR, x_divI, appD, hsz]
  · rintro e ⟨acc, sd, s4, rfl, h1, h2, h4⟩
    exact ⟨acc, sd, s4, rfl, h1, h2⟩
theorem run_more {l : List D} (h : Dr l) (hl : l.length ≤ 5000) (b : Bool) (m : Nat) (hm : m ≤ 10000) : ∃ l' e', cMore [.own b (.lst l), .val (.int m)] = .ok (.own (.lst l')) e' ∧ (∃ l2 r, e' = .own b (.lst l2) :: r ∧ Dr l2) ∧ Dr l' := by
  obtain ⟨e', he, acc, sd, s4, rfl, h1, h2⟩ := more_loop (a := .own b (.lst (tl (tl l)))) (b := .val (.int m)) (seed := 1000 * nx l + nx (tl l) + 1) m hm
  have l1 := tl_len l
  have l2 := tl_len (tl l)
  have hsz : acc.length + (tl (tl l)).length ≤ sizeLine := by rw [sizeLine_eq]; omega
  refine ⟨acc ++ tl (tl l), [.own b (.lst (tl (tl l))), .val (.int m), .val (.int sd), .own false (.lst acc), s4], ?_, ⟨tl (tl l), _, rfl, h.tl.tl⟩, by rw [List.length_append]; omega, fun d hd => ?_⟩
  · have n1 := run_next h true
    have n2 := run_next h.tl true
    have hr : ∀ e : Ev, e[1]? = some (.val (.int m)) → rngF (aN 1 aNil) e = .ok ((List.range m).map fun (i : Nat) => D.int i) e := fun e q => by
      have : (m : Int) ≤ sizeLine := by rw [sizeLine_eq]; omega
      have h0 : (-(2 ^ 62) : Int) ≤ m := by omega
      unfold rngF
      simp [q, this, h0]
    have hd : cMore = runF 2 5 (sSeq (sSet 2 (binF addD (binF addD (binF mulD (eC (.int 1000)) (apF cNext (aN 0 (aNil)))) (apF cNext (aN 0 (aNil)))) (eC (.int 1)))) (sSeq (sSet 3 (lstF (aNil))) (sSeq (sFor (rngF (aN 1 (aNil))) (gN 4) dMoreB) (sRet (binF addD (eV 3) (eV 0)))))) := rfl
    rw [hd]
    simp [n1, n2, x_mulL, hr, he, addD, hsz]
  · rcases List.mem_append.mp hd with hd | hd
    · exact h2 d hd
    · exact h.tl.tl.2 d hd
theorem run_pick {l xs : List D} (h : Dr l) (b : Bool) (h0 : xs ≠ []) (hl : xs.length ≤ 100000) : ∃ d, d ∈ xs ∧ cPick [.own b (.lst l), .val (.lst xs)] = .ok (.val d) [.own b (.lst (tl l)), .val (.lst xs)] := by
  have hp : 0 < xs.length := List.length_pos_iff.mpr h0
  have hx : (nx l % (xs.length : Int)).toNat < xs.length := by
    have := Int.emod_lt_of_pos (nx l) (show (0 : Int) < xs.length by omega)
    have := Int.emod_nonneg (nx l) (show (xs.length : Int) ≠ 0 by omega)
    omega
  refine ⟨xs[(nx l % (xs.length : Int)).toNat], List.getElem_mem hx, ?_⟩
  have n1 := run_next h true
  have hlen : lenD (.lst xs) = some (.val (.int xs.length)) := rfl
  have h1 := Int.emod_lt_of_pos (nx l) (show (0 : Int) < xs.length by omega)
  have h2 := Int.emod_nonneg (nx l) (show (xs.length : Int) ≠ 0 by omega)
  have hix : ixD (.lst xs) (.int (nx l % xs.length)) = some (.val xs[(nx l % (xs.length : Int)).toNat]) := by
    show (atI xs _).map W.val = _
    unfold atI ixN
    rw [if_pos h2, if_pos h1]
    simp [hx]
  have hmd : modD (.int (nx l)) (.int xs.length) = some (.val (.int (nx l % xs.length))) := x_modI (by omega)
  unfold cPick
  simp [n1, hlen, hmd, hix]
theorem run_pickO {l xs : List D} (h : Dr l) (b b2 : Bool) (h0 : xs ≠ []) (hl : xs.length ≤ 100000) : ∃ d, d ∈ xs ∧ cPick [.own b (.lst l), .own b2 (.lst xs)] = .ok (.val d) [.own b (.lst (tl l)), .own b2 (.lst xs)] := by
  have hp : 0 < xs.length := List.length_pos_iff.mpr h0
  have h1 := Int.emod_lt_of_pos (nx l) (show (0 : Int) < xs.length by omega)
  have h2 := Int.emod_nonneg (nx l) (show (xs.length : Int) ≠ 0 by omega)
  have hx : (nx l % (xs.length : Int)).toNat < xs.length := by omega
  refine ⟨xs[(nx l % (xs.length : Int)).toNat], List.getElem_mem hx, ?_⟩
  have n1 := run_next h true
  have hlen : lenD (.lst xs) = some (.val (.int xs.length)) := rfl
  have hix : ixD (.lst xs) (.int (nx l % xs.length)) = some (.val xs[(nx l % (xs.length : Int)).toNat]) := by
    show (atI xs _).map W.val = _
    unfold atI ixN
    rw [if_pos h2, if_pos h1]
    simp [hx]
  have hmd : modD (.int (nx l)) (.int xs.length) = some (.val (.int (nx l % xs.length))) := x_modI (by omega)
  unfold cPick
  simp [n1, hlen, hmd, hix]
/-! ### what has a short text -/
mutual
/-- depth, sizes, a bound of the text's length -/
def fitD : Nat → D → Option Nat
  | _, .non => some 8
  | _, .bl _ => some 8
  | _, .int i => if i.natAbs.log2 < 1920 then some (i.natAbs.log2 + 8) else none
  | _, .str x => if x.cps.all (· < 0x110000) then some (10 * x.length + 2) else none
  | 0, .tup _ => none
  | 0, .lst _ => none
  | n + 1, .tup xs => (fitL n xs).map (· + 8)
  | n + 1, .lst xs => (fitL n xs).map (· + 8)
  | _, _ => none
def fitL : Nat → List D → Option Nat
  | _, [] => some 0
  | n, x :: xs => match fitD n x, fitL n xs with
    | some a, some b => some (a + 2 + b)
    | _, _ => none
end
mutual
theorem fit_ok : ∀ {n : Nat} {d : D} {k : Nat}, fitD n d = some k → ∃ p, toPy d = some p ∧ p.canLay0 = true ∧ p.depth ≤ n ∧ p.showable = true ∧ p.shown.length ≤ k
  | n, .non, k, h => by cases n <;> (cases h; exact ⟨.none, rfl, rfl, by simp [PyData.depth], rfl, by decide⟩)
  | n, .bl b, k, h => by cases n <;> (cases h; exact ⟨.bool b, rfl, rfl, by simp [PyData.depth], rfl, by cases b <;> decide⟩)
  | n, .int i, k, h => by
    have h : (if i.natAbs.log2 < 1920 then some (i.natAbs.log2 + 8) else none) = some k := by cases n <;> exact h
    by_cases hl : i.natAbs.log2 < 1920
    · rw [if_pos hl] at h; cases h
      refine ⟨.int i, rfl, rfl, by simp [PyData.depth], decide_eq_true hl, ?_⟩
      have := int_text_length_le (a := i) (k := i.natAbs.log2 + 1) (by omega) (by omega)
      have e : (PyData.int i).shown.length = (toString i).length := by
        show (Str.ofString (toString i)).length = _
        rw [PySem.ofString_length]
      rw [e]; omega
    · rw [if_neg hl] at h; cases h
  | n, .str x, k, h => by
    have h : (if x.cps.all (· < 0x110000) then some (10 * x.length + 2) else none) = some k := by cases n <;> exact h
    by_cases hl : x.cps.all (· < 0x110000) = true
    · rw [if_pos hl] at h; cases h
      refine ⟨.str x, rfl, hl, by simp [PyData.depth], rfl, ?_⟩
      show (reprText x).length ≤ _
      refine StrLaws.reprText_len x fun c hc => ?_
      have := Array.all_eq_true_iff_forall_mem.mp hl c (Array.mem_def.mpr hc)
      have := of_decide_eq_true this
      omega
    · rw [if_neg hl] at h; cases h
  | 0, .tup xs, k, h => by cases h
  | 0, .lst xs, k, h => by cases h
  | n + 1, .tup xs, k, h => by
    have h : (fitL n xs).map (· + 8) = some k := h
    cases hf : fitL n xs with
    | none => rw [hf] at h; cases h
    | some m =>
      rw [hf] at h; cases h
      obtain ⟨ps, h1, h2, h3, h4, h5⟩ := fitL_ok hf
      refine ⟨.tuple ps, ?_, ?_, ?_, ?_, ?_⟩
      · show (toPyL xs).map PyData.tuple = _
        rw [h1]; rfl
      · exact h2
      · simp only [PyData.depth]; omega
      · exact h4
      · show (tupleText (PyData.shownAll ps)).length ≤ _
        have := tupleText_len_le (PyData.shownAll ps)
        show _ ≤ m + 8
        omega
  | n + 1, .lst xs, k, h => by
    have h : (fitL n xs).map (· + 8) = some k := h
    cases hf : fitL n xs with
    | none => rw [hf] at h; cases h
    | some m =>
      rw [hf] at h; cases h
      obtain ⟨ps, h1, h2, h3, h4, h5⟩ := fitL_ok hf
      refine ⟨.list ps, ?_, ?_, ?_, ?_, ?_⟩
      · show (toPyL xs).map PyData.list = _
        rw [h1]; rfl
      · exact h2
      · simp only [PyData.depth]; omega
      · exact h4
      · show (listText (PyData.shownAll ps)).length ≤ _
        have := listText_len_le (PyData.shownAll ps)
        show _ ≤ m + 8
        omega
theorem fitL_ok : ∀ {n : Nat} {ds : List D} {k : Nat}, fitL n ds = some k → ∃ ps, toPyL ds = some ps ∧ PyData.canLayAll0 ps = true ∧ PyData.depthAll ps ≤ n ∧ PyData.showableAll ps = true ∧ ((PyData.shownAll ps).map (·.length)).sum + 2 * (PyData.shownAll ps).length ≤ k
  | n, [], k, h => by cases n <;> (cases h; exact ⟨[], rfl, rfl, by simp [PyData.depthAll], rfl, by simp [PyData.shownAll]⟩)
  | n, d :: ds, k, h => by
    have h : (match fitD n d, fitL n ds with
      | some a, some b => some (a + 2 + b)
      | _, _ => none) = some k := by cases n <;> exact h
    cases h1 : fitD n d with
    | none => rw [h1] at h; cases h
    | some a =>
      cases h2 : fitL n ds with
      | none => rw [h1, h2] at h; cases h
      | some b =>
        rw [h1, h2] at h; cases h
        obtain ⟨p, p1, p2, p3, p4, p5⟩ := fit_ok h1
        obtain ⟨ps, q1, q2, q3, q4, q5⟩ := fitL_ok h2
        refine ⟨p :: ps, ?_, ?_, ?_, ?_, ?_⟩
        · show (match toPy d, toPyL ds with
            | some d, some ds => some (d :: ds)
            | _, _ => none) = _
          rw [p1, q1]
        · simp [PyData.canLayAll0, p2, q2]
        · simp only [PyData.depthAll]; omega
        · simp [PyData.showableAll, p4, q4]
        · simp only [PyData.shownAll, List.map_cons, List.sum_cons, List.length_cons]; omega
end
theorem rep_ok {n k : Nat} {d : D} (h : fitD n d = some k) (hn : n ≤ 64) (hk : k ≤ 1000000) : ∃ p, pyOf d = some p ∧ reprD d = some (.val (.str p.shown)) := by
  obtain ⟨p, h1, h2, h3, h4, h5⟩ := fit_ok h
  have hp : pyOf d = some p := by
    unfold pyOf
    rw [h1]
    have : SeqAt.shaped p = true := by
      unfold SeqAt.shaped
      simp [h2]; omega
    simp [this]
  refine ⟨p, hp, ?_⟩
  unfold reprD
  rw [hp]
  have : p.shown.length ≤ sizeLine := by rw [sizeLine_eq]; omega
  simp [h4, this]

/-! ### texts -/
theorem fitD_str {n : Nat} {x : Str} (h : x.cps.all (· < 0x110000) = true) : fitD n (.str x) = some (10 * x.length + 2) := by
  have : fitD n (.str x) = (if x.cps.all (· < 0x110000) = true then some (10 * x.length + 2) else none) := by cases n <;> rfl
  rw [this, if_pos h]
@[simp] theorem x_eqS (a b : Str) : eqD (.str a) (.str b) = some (.val (.bl (decide (a = b)))) := rfl
@[simp] theorem x_neS (a b : Str) : neD (.str a) (.str b) = some (.val (.bl (!decide (a = b)))) := rfl
theorem ne_of_eq {a b : D} {v : Bool} (h : eqD a b = some (.val (.bl v))) : neD a b = some (.val (.bl (!v))) := by
  unfold eqD at h
  unfold neD
  cases hs : strB a b with
  | some r => rw [hs] at h; cases h; rfl
  | none =>
    rw [hs] at h
    simp only at h ⊢
    cases h1 : pyOf a with
    | none => rw [h1] at h; cases h
    | some p =>
      cases h2 : pyOf b with
      | none => rw [h1, h2] at h; cases h
      | some q => rw [h1, h2] at h; cases h; rfl
/-- the same thing is equal to itself -/
theorem ne_self {n k : Nat} {a : D} (h : fitD n a = some k) (hn : n ≤ 64) : eqD a a = some (.val (.bl true)) ∧ neD a a = some (.val (.bl false)) := by
  obtain ⟨p, h1, h2, h3, h4, h5⟩ := fit_ok h
  have hp : pyOf a = some p := by
    unfold pyOf
    rw [h1]
    have : SeqAt.shaped p = true := by
      unfold SeqAt.shaped
      simp [h2]; omega
    simp [this]
  have hr : PyData.eqv p p = true := SeqAt.eqv_refl p h2
  have e : eqD a a = some (.val (.bl true)) := by
    unfold eqD
    cases hs : strB a a with
    | some r =>
      obtain ⟨x, y, h1, h2, h3⟩ := strB_some hs
      rw [h1] at h2; cases h2
      simp [h3]
    | none => simp only [hp, hr]
  exact ⟨e, ne_of_eq e⟩

@[simp] theorem x_frz (i : Nat) (e : Ev) : frz i e = match e[i]? with
  | some (.own false o) => some (o.toD, e.set i (.val o.toD))
  | some (.own true o) => some (o.toD, e.set i (.bval o.toD))
  | some (.val d) => some (d, e)
  | some (.bval d) => some (d, e)
  | _ => none := by
  unfold frz
  cases e[i]? with
  | none => rfl
  | some s => cases s with
    | own b o => cases b <;> rfl
    | _ => rfl
/-- a short text of plain signs -/
def As (n : Nat) (s : Str) : Prop := s.length ≤ n ∧ ∀ c ∈ s.cps.toList, c < 128
theorem As.ok {n : Nat} {s : Str} (h : As n s) : s.cps.all (· < 0x110000) = true := by
  rw [Array.all_eq_true_iff_forall_mem]
  intro c hc
  have := h.2 c (Array.mem_toList_iff.mpr hc)
  exact decide_eq_true (by omega)
theorem As.len {n : Nat} {s : Str} (h : As n s) (hn : n ≤ 1000000) : s.length ≤ sizeLine := by have := h.1; rw [sizeLine_eq]; omega
theorem glued_toList (g : Array Nat) : ∀ (ps : List Str) (acc : Array Nat), (ps.foldl (fun acc p => acc ++ g ++ p.cps) acc).toList = acc.toList ++ ps.flatMap fun p => g.toList ++ p.cps.toList
  | [], acc => by simp
  | p :: ps, acc => by
    rw [List.foldl_cons, glued_toList g ps]
    simp
theorem join_empty (ls : List Str) : (Txt.join "" ls).cps.toList = ls.flatMap fun p => p.cps.toList := by
  show (Builtin.Str.glued "" ls).cps.toList = _
  unfold Builtin.Str.glued
  cases ls with
  | nil => rfl
  | cons p ps =>
    show ((ps.foldl (fun acc p => acc ++ ("" : Str).cps ++ p.cps) p.cps)).toList = _
    rw [glued_toList]
    have : ("" : Str).cps.toList = [] := by decide +kernel
    simp [this]
theorem join_as {ls : List Str} {n k : Nat} (h : ∀ p ∈ ls, As n p) (hl : ls.length ≤ k) : As (k * n) (Txt.join "" ls) := by
  have e := join_empty ls
  refine ⟨?_, fun c hc => ?_⟩
  · have e2 : (Txt.join "" ls).length = (ls.flatMap fun p => p.cps.toList).length := by
      rw [← e]; show (Txt.join "" ls).cps.size = _; simp
    rw [e2]
    have : ∀ (ls : List Str), (∀ p ∈ ls, As n p) → (ls.flatMap fun p => p.cps.toList).length ≤ ls.length * n := by
      intro ls
      induction ls with
      | nil => intro _; simp
      | cons p ps ih =>
        intro h
        have h1 := (h p List.mem_cons_self).1
        have h2 := ih fun q hq => h q (List.mem_cons_of_mem _ hq)
        have h3 : p.cps.toList.length = p.length := by show _ = p.cps.size; simp
        rw [List.flatMap_cons, List.length_append, List.length_cons, Nat.succ_mul]
        omega
    exact Nat.le_trans (this ls h) (Nat.mul_le_mul_right n hl)
  · rw [e] at hc
    obtain ⟨p, hp, hc⟩ := List.mem_flatMap.mp hc
    exact (h p hp).2 c hc
theorem sub_as {n : Nat} {s : Str} (h : As n s) (i j : Nat) : As n (Builtin.Str.strSub s i j) := by
  refine ⟨?_, fun c hc => ?_⟩
  · show (s.cps.extract i j).size ≤ n
    have := h.1
    have e : s.length = s.cps.size := rfl
    rw [Array.size_extract]; omega
  · have hc : c ∈ (s.cps.extract i j).toList := hc
    rw [Array.toList_extract] at hc
    exact h.2 c (List.mem_of_mem_drop (List.mem_of_mem_take (by simpa [List.extract_eq_take_drop] using hc)))
theorem split_as {n : Nat} {s b : Str} (h : As n s) : ∀ x ∈ Txt.split s b, As n x := by
  intro x hx
  unfold Txt.split at hx
  split at hx
  · rw [List.mem_singleton] at hx; rw [hx]; exact h
  · split at hx
    · rw [List.mem_singleton] at hx; rw [hx]; exact h
    · unfold Builtin.Str.partsBetween at hx
      obtain ⟨p, _, rfl⟩ := List.mem_map.mp hx
      exact sub_as h _ _

theorem set_same {e : Ev} {v : Nat} {s : Sl} (h : e[v]? = some s) : e.set v s = e := by
  apply List.ext_getElem?
  intro i
  by_cases hi : v = i
  · subst hi
    rw [List.getElem?_set_self (List.getElem?_eq_some_iff.mp h).1, h]
  · rw [List.getElem?_set_ne hi]
/-- a comprehension of tests over one name -/
theorem lc_bool {v : Nat} {e : Ev} {fe : Ev → R D} {f : D → Bool} (hv : e[v]? = some .no) (ds : List D) (h : ∀ d ∈ ds, fe (e.set v (.val d)) = .ok (.bl (f d)) (e.set v (.val d))) : lcL [v] (gN v) tT fe ds e = .ok (ds.map fun d => .bl (f d)) e := by
  refine lcL_map (fun d => D.bl (f d)) _ fun d hd => ⟨e.set v (.val d), e.set v (.val d), ?_, h d hd, ?_⟩
  · simp [hv]
  · show (e.set v (.val d)).set v .no = e
    rw [List.set_set]; exact set_same hv
theorem asBls_mapF (f : D → Bool) : ∀ ds : List D, asBls (ds.map fun d => .bl (f d)) = some (ds.map f)
  | [] => rfl
  | d :: ds => by
    have := asBls_mapF f ds
    show (asBls (ds.map fun d => .bl (f d))).map (f d :: ·) = _
    rw [this]; rfl
theorem all_map (f : D → Bool) (ds : List D) : allD (.lst (ds.map fun d => .bl (f d))) = some (.val (.bl (ds.all f))) := by
  show (asBls _).map _ = _
  rw [asBls_mapF]
  simp
theorem fitL_strs {m n : Nat} : ∀ {ws : List Str}, (∀ x ∈ ws, As n x) → ∃ k, fitL m (ws.map .str) = some k ∧ k ≤ ws.length * (10 * n + 4)
  | [], _ => ⟨0, by cases m <;> rfl, by simp⟩
  | x :: ws, h => by
    obtain ⟨k, h1, h2⟩ := fitL_strs (m := m) (ws := ws) fun y hy => h y (List.mem_cons_of_mem _ hy)
    have hx := h x List.mem_cons_self
    have e := fitD_str (n := m) hx.ok
    refine ⟨10 * x.length + 2 + 2 + k, ?_, ?_⟩
    · have : fitL m ((x :: ws).map .str) = (match fitD m (.str x), fitL m (ws.map .str) with
        | some a, some b => some (a + 2 + b)
        | _, _ => none) := by cases m <;> rfl
      rw [this, e, h1]
    · have := hx.1
      rw [List.length_cons, Nat.add_mul, Nat.one_mul]
      omega
/-! ### the text -/
def topS (i : Nat) : Stmt := PySem.Challenge.pw_hidessoaked_k21_lines_and_forms.main.body.getD i (.Pass ⟨0, 0, 0, 0⟩)
abbrev stL_number : Stmt := topS 23
theorem scL_number : FnScope ["cell"] ["cell"] (defScope stL_number) := ⟨rfl, rfl, rfl, by decide +kernel, rfl, by decide +kernel, by decide +kernel⟩
theorem baL_number : BindsA stL_number "_law_number" ["cell"] := fun _ _ _ _ _ _ us hl => match us, hl with | [_], _ => rfl
abbrev stL_draws : Stmt := topS 24
theorem scL_draws : FnScope ["script", "draws", "cell", "rest", "k", "once", "twice"] ["script"] (defScope stL_draws) := ⟨rfl, rfl, rfl, by decide +kernel, rfl, by decide +kernel, by decide +kernel⟩
theorem baL_draws : BindsA stL_draws "_law_draws" ["script"] := fun _ _ _ _ _ _ us hl => match us, hl with | [_], _ => rfl
abbrev stL_next : Stmt := topS 25
theorem scL_next : FnScope ["draws"] ["draws"] (defScope stL_next) := ⟨rfl, rfl, rfl, by decide +kernel, rfl, by decide +kernel, by decide +kernel⟩
theorem baL_next : BindsA stL_next "_law_next" ["draws"] := fun _ _ _ _ _ _ us hl => match us, hl with | [_], _ => rfl
abbrev stL_more : Stmt := topS 26
theorem scL_more : FnScope ["draws", "many", "seed", "more", "k"] ["draws", "many"] (defScope stL_more) := ⟨rfl, rfl, rfl, by decide +kernel, rfl, by decide +kernel, by decide +kernel⟩
theorem baL_more : BindsA stL_more "_law_more" ["draws", "many"] := fun _ _ _ _ _ _ us hl => match us, hl with | [_, _], _ => rfl
abbrev stnumber_in : Stmt := topS 21
theorem scnumber_in : FnScope ["word", "char"] ["word"] (defScope stnumber_in) := ⟨rfl, rfl, rfl, by decide +kernel, rfl, by decide +kernel, by decide +kernel⟩
theorem banumber_in : BindsA stnumber_in "number_in" ["word"] := fun _ _ _ _ _ _ us hl => match us, hl with | [_], _ => rfl
abbrev stis_name : Stmt := topS 20
theorem scis_name : FnScope ["word", "char"] ["word"] (defScope stis_name) := ⟨rfl, rfl, rfl, by decide +kernel, rfl, by decide +kernel, by decide +kernel⟩
theorem bais_name : BindsA stis_name "is_name" ["word"] := fun _ _ _ _ _ _ us hl => match us, hl with | [_], _ => rfl
abbrev stwords_of : Stmt := topS 19
theorem scwords_of : FnScope ["line", "words", "word", "char"] ["line"] (defScope stwords_of) := ⟨rfl, rfl, rfl, by decide +kernel, rfl, by decide +kernel, by decide +kernel⟩
theorem bawords_of : BindsA stwords_of "words_of" ["line"] := fun _ _ _ _ _ _ us hl => match us, hl with | [_], _ => rfl
abbrev stL_pick : Stmt := topS 27
theorem scL_pick : FnScope ["draws", "some"] ["draws", "some"] (defScope stL_pick) := ⟨rfl, rfl, rfl, by decide +kernel, rfl, by decide +kernel, by decide +kernel⟩
theorem baL_pick : BindsA stL_pick "_law_pick" ["draws", "some"] := fun _ _ _ _ _ _ us hl => match us, hl with | [_, _], _ => rfl
abbrev stL_line : Stmt := topS 29
theorem scL_line : FnScope ["line", "words", "word", "sign"] ["line"] (defScope stL_line) := ⟨rfl, rfl, rfl, by decide +kernel, rfl, by decide +kernel, by decide +kernel⟩
theorem baL_line : BindsA stL_line "_law_line" ["line"] := fun _ _ _ _ _ _ us hl => match us, hl with | [_], _ => rfl
abbrev stL_number_of : Stmt := topS 30
theorem scL_number_of : FnScope ["word", "k"] ["word"] (defScope stL_number_of) := ⟨rfl, rfl, rfl, by decide +kernel, rfl, by decide +kernel, by decide +kernel⟩
theorem baL_number_of : BindsA stL_number_of "_law_number_of" ["word"] := fun _ _ _ _ _ _ us hl => match us, hl with | [_], _ => rfl
abbrev stL_spoilt : Stmt := topS 34
theorem scL_spoilt : FnScope ["draws", "term", "at", "kind"] ["draws", "term"] (defScope stL_spoilt) := ⟨rfl, rfl, rfl, by decide +kernel, rfl, by decide +kernel, by decide +kernel⟩
theorem baL_spoilt : BindsA stL_spoilt "_law_spoilt" ["draws", "term"] := fun _ _ _ _ _ _ us hl => match us, hl with | [_, _], _ => rfl
abbrev stis_integer : Stmt := topS 9
theorem scis_integer : FnScope ["term"] ["term"] (defScope stis_integer) := ⟨rfl, rfl, rfl, by decide +kernel, rfl, by decide +kernel, by decide +kernel⟩
theorem bais_integer : BindsA stis_integer "is_integer" ["term"] := fun _ _ _ _ _ _ us hl => match us, hl with | [_], _ => rfl
abbrev stis_row : Stmt := topS 10
theorem scis_row : FnScope ["term", "entry"] ["term"] (defScope stis_row) := ⟨rfl, rfl, rfl, by decide +kernel, rfl, by decide +kernel, by decide +kernel⟩
theorem bais_row : BindsA stis_row "is_row" ["term"] := fun _ _ _ _ _ _ us hl => match us, hl with | [_], _ => rfl
abbrev stare_pairs : Stmt := topS 11
theorem scare_pairs : FnScope ["term", "entry"] ["term"] (defScope stare_pairs) := ⟨rfl, rfl, rfl, by decide +kernel, rfl, by decide +kernel, by decide +kernel⟩
theorem baare_pairs : BindsA stare_pairs "are_pairs" ["term"] := fun _ _ _ _ _ _ us hl => match us, hl with | [_], _ => rfl
abbrev stis_told_bounds : Stmt := topS 12
theorem scis_told_bounds : FnScope ["term"] ["term"] (defScope stis_told_bounds) := ⟨rfl, rfl, rfl, by decide +kernel, rfl, by decide +kernel, by decide +kernel⟩
theorem bais_told_bounds : BindsA stis_told_bounds "is_told_bounds" ["term"] := fun _ _ _ _ _ _ us hl => match us, hl with | [_], _ => rfl
abbrev stis_told_tannery : Stmt := topS 13
theorem scis_told_tannery : FnScope ["term"] ["term"] (defScope stis_told_tannery) := ⟨rfl, rfl, rfl, by decide +kernel, rfl, by decide +kernel, by decide +kernel⟩
theorem bais_told_tannery : BindsA stis_told_tannery "is_told_tannery" ["term"] := fun _ _ _ _ _ _ us hl => match us, hl with | [_], _ => rfl
abbrev sthas_form : Stmt := topS 15
theorem schas_form : FnScope ["thing", "term"] ["thing", "term"] (defScope sthas_form) := ⟨rfl, rfl, rfl, by decide +kernel, rfl, by decide +kernel, by decide +kernel⟩
theorem bahas_form : BindsA sthas_form "has_form" ["thing", "term"] := fun _ _ _ _ _ _ us hl => match us, hl with | [_, _], _ => rfl
abbrev stL_is_row : Stmt := topS 31
theorem scL_is_row : FnScope ["term", "entry"] ["term"] (defScope stL_is_row) := ⟨rfl, rfl, rfl, by decide +kernel, rfl, by decide +kernel, by decide +kernel⟩
theorem baL_is_row : BindsA stL_is_row "_law_is_row" ["term"] := fun _ _ _ _ _ _ us hl => match us, hl with | [_], _ => rfl
abbrev stL_are_pairs : Stmt := topS 32
theorem scL_are_pairs : FnScope ["term", "entry"] ["term"] (defScope stL_are_pairs) := ⟨rfl, rfl, rfl, by decide +kernel, rfl, by decide +kernel, by decide +kernel⟩
theorem baL_are_pairs : BindsA stL_are_pairs "_law_are_pairs" ["term"] := fun _ _ _ _ _ _ us hl => match us, hl with | [_], _ => rfl
abbrev stL_due : Stmt := topS 33
theorem scL_due : FnScope ["thing", "term"] ["thing", "term"] (defScope stL_due) := ⟨rfl, rfl, rfl, by decide +kernel, rfl, by decide +kernel, by decide +kernel⟩
theorem baL_due : BindsA stL_due "_law_due" ["thing", "term"] := fun _ _ _ _ _ _ us hl => match us, hl with | [_, _], _ => rfl
abbrev stlaw : Stmt := topS 35
theorem sclaw : FnScope ["script", "draws", "turn", "line", "at", "word", "small", "sign", "terms", "term", "kinds", "thing", "wrong", "error"] ["script"] (defScope stlaw) := ⟨rfl, rfl, rfl, by decide +kernel, rfl, by decide +kernel, by decide +kernel⟩
theorem balaw : BindsA stlaw "law" ["script"] := fun _ _ _ _ _ _ us hl => match us, hl with | [_], _ => rfl
abbrev stL_kind : Stmt := topS 28
theorem scL_kind : FnScope ["error", "names", "found"] ["error"] (defScope stL_kind) := ⟨rfl, rfl, rfl, by decide +kernel, rfl, by decide +kernel, by decide +kernel⟩
theorem baL_kind : BindsA stL_kind "_law_kind" ["error"] := fun _ _ _ _ _ _ us hl => match us, hl with | [_], _ => rfl
/-! ### tables -/
def t_FORMS : List (Str × Nat) := [("bounds", 0), ("tannery", 1), ("rows", 2), ("row", 3)]
def n_FORMS : List (Str × Bool) := [("bounds", false), ("tannery", false), ("rows", false), ("row", false), ("", true), ("Form", true), ("term", true)]
def k_FORMS : List Str := ["bounds", "tannery", "rows", "row"]
def v_FORMS : List Str := ["is_told_bounds", "is_told_tannery", "are_pairs", "is_row"]
def y_HideError : List (Str × Bool) := [("BadNumber", true)]
def kdT : List (Str × Str) := [("BadNumber", "!number")]
def kdL (y : Str) : Option Str := kdT.lookup y
def clsL : List Str := ["NotPlan", "NotPits", "NotPaper", "BadNumber", "NoAnswer", "TooLarge"]
def isT : List (Str × Str) := [("BadNumber", "BadNumber")]
def bsOf (y c : Str) : Bool := isT.contains (y, c)
def dKind (a : Addr) (bs : Str → Bool) : Ev → R Fl := sSeq (sSet 1 (lstF (aV (shF (eC (.str "plan"))) (aV (shF (eC (.str "pits"))) (aV (shF (eC (.str "paper"))) (aV (shF (eC (.str "number"))) (aV (shF (eC (.str "none"))) (aV (shF (eC (.str "large"))) (aNil))))))))) (sSeq (sSet 2 (lstF (aV (shF (isE 0 a (bs "NotPlan"))) (aV (shF (isE 0 a (bs "NotPits"))) (aV (shF (isE 0 a (bs "NotPaper"))) (aNil)))))) (sSeq (sSet 2 (binF addD (eV 2) (lstF (aV (shF (isE 0 a (bs "BadNumber"))) (aV (shF (isE 0 a (bs "NoAnswer"))) (aV (shF (isE 0 a (bs "TooLarge"))) (aNil))))))) (sRet (vF (ifV (blF (binF eqD (metF "list" cntD (eV 2) (aV (shF (eC (.bl true))) (aNil))) (eC (.int 1)))) (shF (binF addD (eC (.str "!")) (binF ixD (eV 1) (metF "list" idxD (eV 2) (aV (shF (eC (.bl true))) (aNil)))))) (shF (eC (.str "!other"))))))))
/-! ### what they compute -/
def dL_number : Ev → R W := runF 1 1 (sSeq (sIf (blF (binF ltD (eV 0) (eC (.int 0)))) (sRet (binF subD (eC (.int 0)) (eV 0))) (sNext)) (sRet (eV 0)))
def dL_draws : Ev → R W := runF 1 7 (sSeq (sSet 1 (lstF (aNil))) (sSeq (sFor (itF (shF (eV 0))) (gN 2) (sSeq (sSet 3 (apF dL_number (aN 2 (aNil)))) (sIf (blF (binF geD (eV 3) (eC (.int 1000000000000000000)))) (sFor (rngF (aV (shF (eC (.int 60))) (aNil))) (gN 4) (sSeq (sIf (blF (binF eqD (eV 3) (eC (.int 0)))) (sBrk) (sNext)) (sSeq (sExpr (mutF 1 appD (aV (shF (binF modD (c1F intD (eV 3)) (eC (.int 1000)))) (aNil)))) (sSet 3 (binF fdivD (eV 3) (eC (.int 1000))))))) (sSeq (sSet 5 (binF modD (c1F intD (binF addD (binF mulD (eV 3) (eC (.int 48271))) (eC (.int 11)))) (eC (.int 2147483647)))) (sSeq (sSet 6 (binF modD (c1F intD (binF addD (binF mulD (eV 5) (eC (.int 69621))) (eV 3))) (eC (.int 2147483629)))) (sExpr (mutF 1 extD (aV (shF (lstF (aV (shF (binF modD (c1F intD (eV 3)) (eC (.int 1000)))) (aV (shF (binF modD (c1F intD (eV 5)) (eC (.int 1000)))) (aV (shF (binF modD (c1F intD (eV 6)) (eC (.int 1000)))) (aNil)))))) (aNil))))))))) (sSeq (sExpr (mutF 1 revD aNil)) (sRet (eV 1)))))
def dL_next : Ev → R W := runF 1 1 (sSeq (sIf (truF (eV 0)) (sRet (mutF 0 popD aNil)) (sNext)) (sRet (eC (.int 0))))
def dL_more : Ev → R W := runF 2 5 (sSeq (sSet 2 (binF addD (binF addD (binF mulD (eC (.int 1000)) (apF dL_next (aN 0 (aNil)))) (apF dL_next (aN 0 (aNil)))) (eC (.int 1)))) (sSeq (sSet 3 (lstF (aNil))) (sSeq (sFor (rngF (aN 1 (aNil))) (gN 4) (sSeq (sSet 2 (binF modD (c1F intD (binF addD (binF mulD (eV 2) (eC (.int 48271))) (eC (.int 12345)))) (eC (.int 2147483647)))) (sExpr (mutF 3 appD (aV (shF (binF modD (c1F intD (binF fdivD (eV 2) (eC (.int 7)))) (eC (.int 1000)))) (aNil)))))) (sRet (binF addD (eV 3) (eV 0))))))
def dnumber_in : Ev → R W := runF 1 2 (sSeq (sIf (orF (notF (blF (chF leD leD (eC (.int 1)) (c1F lenD (eV 0)) (eC (.int 2))))) (notF (truF (c1F allD (lcF [1] (itF (shF (eV 0))) (gN 1) (tT) (shF (binF inD (eV 1) (eC (.str "0123456789"))))))))) (sRet (eC .non)) (sNext)) (sSeq (sIf (andF (blF (binF eqD (c1F lenD (eV 0)) (eC (.int 2)))) (blF (binF eqD (binF ixD (eV 0) (eC (.int 0))) (eC (.str "0"))))) (sRet (eC .non)) (sNext)) (sRet (c1F intD (eV 0)))))
def dis_name : Ev → R W := runF 1 2 (sRet (vF (andV (shF (chF leD leD (eC (.int 1)) (c1F lenD (eV 0)) (eC (.int 12)))) (shF (c1F allD (lcF [1] (itF (shF (eV 0))) (gN 1) (tT) (shF (binF inD (eV 1) (eC (.str "abcdefghijklmnopqrstuvwxyz"))))))))))
def dwords_of : Ev → R W := runF 1 4 (sSeq (sSet 1 (metF "str" splD (eV 0) (aV (shF (eC (.str " "))) (aNil)))) (sSeq (sFor (itF (shF (eV 1))) (gN 2) (sIf (orF (blF (binF eqD (eV 2) (eC (.str "")))) (notF (truF (c1F allD (lcF [3] (itF (shF (eV 2))) (gN 3) (tT) (shF (chF leD leD (eC (.str "!")) (eV 3) (eC (.str "~"))))))))) (sRet (eC .non)) (sNext))) (sRet (eV 1))))
def dL_pick : Ev → R W := runF 2 2 (sRet (binF ixD (eV 1) (binF modD (c1F intD (apF dL_next (aN 0 (aNil)))) (c1F lenD (eV 1)))))
def dL_line : Ev → R W := runF 1 4 (sSeq (sSet 1 (metF "str" splD (eV 0) (aV (shF (eC (.str " "))) (aNil)))) (sSeq (sFor (itF (shF (eV 1))) (gN 2) (sIf (orF (blF (binF eqD (eV 2) (eC (.str "")))) (notF (truF (c1F allD (lcF [3] (itF (shF (eV 2))) (gN 3) (tT) (shF (chF leD leD (eC (.str "!")) (eV 3) (eC (.str "~"))))))))) (sRet (eC .non)) (sNext))) (sRet (eV 1))))
def dL_number_of : Ev → R W := runF 1 2 (sRet (vF (ifV (blF (binF inD (eV 0) (lcF [1] (rngF (aV (shF (eC (.int 100))) (aNil))) (gN 1) (tT) (shF (c1F strD (eV 1)))))) (shF (c1F intD (eV 0))) (shF (eC .non)))))
def dL_spoilt : Nat → Ev → R W
  | 0 => fun _ => .bad
  | fuel + 1 => runF 2 4 (sSeq (sIf (orF (notF (truF (cnF isiD (aV (shF (eV 1)) (aV (shF (eC (.ty "tuple"))) (aNil)))))) (blF (binF eqD (binF modD (c1F intD (apF dL_next (aN 0 (aNil)))) (eC (.int 6))) (eC (.int 0))))) (sRet (apF dL_pick (aN 0 (aV (shF (lstF (aV (shF (eC .non)) (aV (shF (eC (.str "ada"))) (aV (shF (eC (.str ""))) (aV (shF (eC (.int 5))) (aV (shF (tupF (aNil))) (aV (shF (tupF (aV (shF (eC (.int 1))) (aNil)))) (aV (shF (tupF (aV (shF (tupF (aNil))) (aNil)))) (aV (shF (tupF (aV (shF (eC (.str "a"))) (aNil)))) (aV (shF (eV 1)) (aNil)))))))))))) (aNil))))) (sNext)) (sSeq (sIf (blF (binF eqD (eV 1) (tupF (aNil)))) (sRet (apF dL_pick (aN 0 (aV (shF (lstF (aV (shF (tupF (aV (shF (eC (.int 0))) (aNil)))) (aV (shF (tupF (aV (shF (eC (.str ""))) (aNil)))) (aV (shF (tupF (aV (shF (tupF (aNil))) (aNil)))) (aV (shF (eC .non)) (aNil))))))) (aNil))))) (sNext)) (sSeq (sSet 2 (binF modD (c1F intD (apF dL_next (aN 0 (aNil)))) (c1F lenD (eV 1)))) (sSeq (sSet 3 (binF modD (c1F intD (apF dL_next (aN 0 (aNil)))) (eC (.int 5)))) (sSeq (sIf (blF (binF eqD (eV 3) (eC (.int 0)))) (sRet (binF addD (slF (eV 1) (oN) (oS (eV 2))) (slF (eV 1) (oS (binF addD (eV 2) (eC (.int 1)))) (oN)))) (sNext)) (sRet (vF (ifV (blF (binF eqD (eV 3) (eC (.int 1)))) (shF (binF addD (eV 1) (slF (eV 1) (oS (eV 2)) (oS (binF addD (eV 2) (eC (.int 1))))))) (shF (binF addD (binF addD (slF (eV 1) (oN) (oS (eV 2))) (tupF (aV (shF (apF (dL_spoilt fuel) (aN 0 (aV (shF (binF ixD (eV 1) (eV 2))) (aNil))))) (aNil)))) (slF (eV 1) (oS (binF addD (eV 2) (eC (.int 1)))) (oN))))))))))))
def dis_integer : Ev → R W := runF 1 1 (sRet (cnF isiD (aV (shF (eV 0)) (aV (shF (eC (.ty "int"))) (aNil)))))
def dis_row : Ev → R W := runF 1 2 (sRet (vF (andV (shF (cnF isiD (aV (shF (eV 0)) (aV (shF (eC (.ty "tuple"))) (aNil))))) (shF (c1F allD (lcF [1] (itF (shF (eV 0))) (gN 1) (tT) (shF (apF dis_integer (aN 1 (aNil))))))))))
def dare_pairs : Ev → R W := runF 1 2 (sRet (vF (andV (shF (cnF isiD (aV (shF (eV 0)) (aV (shF (eC (.ty "tuple"))) (aNil))))) (shF (c1F allD (lcF [1] (itF (shF (eV 0))) (gN 1) (tT) (shF (apF dis_row (aN 1 (aNil))))))))))
def dis_told_bounds : Ev → R W := runF 1 1 (sRet (vF (andV (shF (cnF isiD (aV (shF (eV 0)) (aV (shF (eC (.ty "tuple"))) (aNil))))) (andV (shF (binF eqD (c1F lenD (eV 0)) (eC (.int 2)))) (andV (shF (apF dis_integer (aV (shF (binF ixD (eV 0) (eC (.int 0)))) (aNil)))) (shF (apF dare_pairs (aV (shF (binF ixD (eV 0) (eC (.int 1)))) (aNil)))))))))
def dis_told_tannery : Ev → R W := runF 1 1 (sSeq (sIf (orF (notF (truF (cnF isiD (aV (shF (eV 0)) (aV (shF (eC (.ty "tuple"))) (aNil)))))) (blF (binF neD (c1F lenD (eV 0)) (eC (.int 3))))) (sRet (eC (.bl false))) (sNext)) (sRet (vF (andV (shF (apF dare_pairs (aV (shF (binF ixD (eV 0) (eC (.int 0)))) (aNil)))) (andV (shF (apF dis_row (aV (shF (binF ixD (eV 0) (eC (.int 1)))) (aNil)))) (shF (apF dis_integer (aV (shF (binF ixD (eV 0) (eC (.int 2)))) (aNil)))))))))
def dhas_form : Ev → R W := runF 2 2 (sSeq (sIf (blF (ninK (ninL n_FORMS) (eV 0))) (sRaise "BadNumber") (sNext)) (sRet (apP [dis_told_bounds, dis_told_tannery, dare_pairs, dis_row] (pickK (tabL t_FORMS) (eV 0)) (aN 1 (aNil)))))
def dL_is_row : Ev → R W := runF 1 2 (sRet (vF (andV (shF (cnF isiD (aV (shF (eV 0)) (aV (shF (eC (.ty "tuple"))) (aNil))))) (shF (c1F allD (lcF [1] (itF (shF (eV 0))) (gN 1) (tT) (shF (cnF isiD (aV (shF (eV 1)) (aV (shF (eC (.ty "int"))) (aNil)))))))))))
def dL_are_pairs : Ev → R W := runF 1 2 (sRet (vF (andV (shF (cnF isiD (aV (shF (eV 0)) (aV (shF (eC (.ty "tuple"))) (aNil))))) (shF (c1F allD (lcF [1] (itF (shF (eV 0))) (gN 1) (tT) (shF (apF dL_is_row (aN 1 (aNil))))))))))
def dL_due : Ev → R W := runF 2 2 (sSeq (sIf (blF (binF eqD (eV 0) (eC (.str "row")))) (sRet (apF dL_is_row (aN 1 (aNil)))) (sNext)) (sSeq (sIf (blF (binF eqD (eV 0) (eC (.str "rows")))) (sRet (apF dL_are_pairs (aN 1 (aNil)))) (sNext)) (sSeq (sIf (notF (truF (cnF isiD (aV (shF (eV 1)) (aV (shF (eC (.ty "tuple"))) (aNil)))))) (sRet (eC (.bl false))) (sNext)) (sSeq (sIf (blF (binF eqD (eV 0) (eC (.str "bounds")))) (sRet (vF (andV (shF (binF eqD (c1F lenD (eV 1)) (eC (.int 2)))) (andV (shF (cnF isiD (aV (shF (binF ixD (eV 1) (eC (.int 0)))) (aV (shF (eC (.ty "int"))) (aNil))))) (shF (apF dL_are_pairs (aV (shF (binF ixD (eV 1) (eC (.int 1)))) (aNil)))))))) (sNext)) (sRet (vF (andV (shF (binF eqD (c1F lenD (eV 1)) (eC (.int 3)))) (andV (shF (apF dL_are_pairs (aV (shF (binF ixD (eV 1) (eC (.int 0)))) (aNil)))) (andV (shF (apF dL_is_row (aV (shF (binF ixD (eV 1) (eC (.int 1)))) (aNil)))) (shF (cnF isiD (aV (shF (binF ixD (eV 1) (eC (.int 2)))) (aV (shF (eC (.ty "int"))) (aNil))))))))))))))
def dlaw : Ev → R W := runF 1 14 (sSeq (sSet 1 (apF dL_draws (aN 0 (aNil)))) (sSeq (sSet 1 (apF dL_more (aN 1 (aV (shF (eC (.int 200))) (aNil))))) (sSeq (sIf (blF (binF neD (lstF (aV (shF (apF dwords_of (aV (shF (eC (.str "a b"))) (aNil)))) (aV (shF (apF dis_name (aV (shF (eC (.str "abcdefghijkl"))) (aNil)))) (aV (shF (apF dis_name (aV (shF (eC (.str "abcdefghijklm"))) (aNil)))) (aV (shF (apF dnumber_in (aV (shF (eC (.str "07"))) (aNil)))) (aV (shF (apF dnumber_in (aV (shF (eC (.str "99"))) (aNil)))) (aNil))))))) (lstF (aV (shF (lstF (aV (shF (eC (.str "a"))) (aV (shF (eC (.str "b"))) (aNil))))) (aV (shF (eC (.bl true))) (aV (shF (eC (.bl false))) (aV (shF (eC .non)) (aV (shF (eC (.int 99))) (aNil))))))))) (sRet (eC (.bl false))) (sNext)) (sSeq (sFor (rngF (aV (shF (eC (.int 6))) (aNil))) (gN 2) (sSeq (sSet 3 (metF "str" joinD (eC (.str "")) (aV (shF (lcF [4] (rngF (aV (shF (binF modD (c1F intD (apF dL_next (aN 1 (aNil)))) (eC (.int 9)))) (aNil))) (gN 4) (tT) (shF (apF dL_pick (aN 1 (aV (shF (lstF (aV (shF (eC (.str "a"))) (aV (shF (eC (.str "b"))) (aV (shF (eC (.str " "))) (aV (shF (eC (.str "0"))) (aV (shF (eC (.str "7"))) (aV (shF (eC (.str "~"))) (aV (shF (eC (.str "!"))) (aV (shF (eC (.str "("))) (aV (shF (eC (.str "A"))) (aV (shF (eC (.str "\t"))) (aV (shF (eC (.str "-"))) (aV (shF (eC (.str "z"))) (aV (shF (eC (.str "  "))) (aNil)))))))))))))))) (aNil))))))) (aNil)))) (sSeq (sIf (blF (binF neD (c1F reprD (apF dwords_of (aN 3 (aNil)))) (c1F reprD (apF dL_line (aN 3 (aNil)))))) (sRet (eC (.bl false))) (sNext)) (sSeq (sSet 5 (metF "str" joinD (eC (.str "")) (aV (shF (lcF [4] (rngF (aV (shF (binF modD (c1F intD (apF dL_next (aN 1 (aNil)))) (eC (.int 15)))) (aNil))) (gN 4) (tT) (shF (apF dL_pick (aN 1 (aV (shF (lstF (aV (shF (eC (.str "a"))) (aV (shF (eC (.str "k"))) (aV (shF (eC (.str "z"))) (aV (shF (eC (.str "9"))) (aV (shF (eC (.str "0"))) (aV (shF (eC (.str "1"))) (aV (shF (eC (.str ""))) (aV (shF (eC (.str ""))) (aV (shF (eC (.str "B"))) (aNil)))))))))))) (aNil))))))) (aNil)))) (sSeq (sSet 6 (vF (andV (shF (chF leD leD (eC (.int 1)) (c1F lenD (eV 5)) (eC (.int 12)))) (shF (c1F allD (lcF [7] (itF (shF (eV 5))) (gN 7) (tT) (shF (binF inD (eV 7) (eC (.str "abcdefghijklmnopqrstuvwxyz")))))))))) (sIf (blF (binF neD (c1F reprD (lstF (aV (shF (apF dis_name (aN 5 (aNil)))) (aV (shF (apF dnumber_in (aN 5 (aNil)))) (aNil))))) (c1F reprD (lstF (aV (shF (eV 6)) (aV (shF (apF dL_number_of (aN 5 (aNil)))) (aNil))))))) (sRet (eC (.bl false))) (sNext))))))) (sSeq (sIf (blF (binF neD (lcF [5] (itF (shF (lstF (aV (shF (eC (.str ""))) (aV (shF (eC (.str "0"))) (aV (shF (eC (.str "00"))) (aV (shF (eC (.str "100"))) (aV (shF (eC (.str "-1"))) (aV (shF (eC (.str "5"))) (aV (shF (eC (.str "+5"))) (aV (shF (eC (.str " 5"))) (aV (shF (eC (.str "5 "))) (aNil))))))))))))) (gN 5) (tT) (shF (c1F reprD (apF dnumber_in (aN 5 (aNil)))))) (lstF (aV (shF (eC (.str "None"))) (aV (shF (eC (.str "0"))) (aV (shF (eC (.str "None"))) (aV (shF (eC (.str "None"))) (aV (shF (eC (.str "None"))) (aV (shF (eC (.str "5"))) (aV (shF (eC (.str "None"))) (aV (shF (eC (.str "None"))) (aV (shF (eC (.str "None"))) (aNil))))))))))))) (sRet (eC (.bl false))) (sNext)) (sSeq (sSet 8 (lstF (aV (shF (tupF (aV (shF (eC (.int 2))) (aV (shF (tupF (aV (shF (tupF (aV (shF (eC (.int 0))) (aV (shF (eC (.int 1))) (aV (shF (eC (.int 4))) (aNil)))))) (aV (shF (tupF (aV (shF (eC (.int 1))) (aV (shF (eC (.int 0))) (aV (shF (eC (.int 2))) (aNil)))))) (aNil))))) (aNil))))) (aV (shF (tupF (aV (shF (tupF (aV (shF (tupF (aV (shF (eC (.int 5))) (aV (shF (eC (.int 9))) (aNil))))) (aNil)))) (aV (shF (tupF (aV (shF (eC (.int 1))) (aV (shF (eC (.int 1))) (aNil))))) (aV (shF (eC (.int 1))) (aNil)))))) (aV (shF (tupF (aV (shF (tupF (aV (shF (eC (.int 1))) (aV (shF (eC (.int 2))) (aNil))))) (aV (shF (tupF (aV (shF (eC (.int 3))) (aNil)))) (aNil))))) (aV (shF (tupF (aV (shF (eC (.int 0))) (aV (shF (eC (.int 1))) (aV (shF (eC (.int 1))) (aNil)))))) (aV (shF (tupF (aV (shF (tupF (aNil))) (aV (shF (tupF (aV (shF (tupF (aV (shF (eC (.int 1))) (aNil)))) (aNil)))) (aNil))))) (aV (shF (tupF (aNil))) (aNil))))))))) (sSeq (sFor (itF (shF (binF addD (binF addD (eV 8) (lcF [2] (rngF (aV (shF (eC (.int 12))) (aNil))) (gN 2) (tT) (shF (apF (dL_spoilt 6) (aN 1 (aV (shF (apF dL_pick (aN 1 (aN 8 (aNil))))) (aNil))))))) (lstF (aV (shF (tupF (aNil))) (aV (shF (eC .non)) (aV (shF (eC (.str ""))) (aV (shF (eC (.int 0))) (aNil))))))))) (gN 9) (sSeq (sSet 10 (lstF (aV (shF (eC (.str "bounds"))) (aV (shF (eC (.str "tannery"))) (aV (shF (eC (.str "rows"))) (aV (shF (eC (.str "row"))) (aNil))))))) (sIf (blF (binF neD (lcF [11] (itF (shF (eV 10))) (gN 11) (tT) (shF (apF dhas_form (aN 11 (aN 9 (aNil)))))) (lcF [11] (itF (shF (eV 10))) (gN 11) (tT) (shF (apF dL_due (aN 11 (aN 9 (aNil)))))))) (sRet (eC (.bl false))) (sNext)))) (sSeq (sFor (itF (shF (lstF (aV (shF (eC (.str ""))) (aV (shF (eC (.str "Form"))) (aV (shF (eC (.str "term"))) (aNil))))))) (gN 12) (sTry 13 (yesL y_HideError) (hdNe (kdL) "!number") (sSeq (sExpr (apF dhas_form (aN 12 (aV (shF (tupF (aNil))) (aNil))))) (sRet (eC (.bl false)))))) (sRet (eC (.bl true)))))))))))
/-! ### what the top has written -/
structure Gs (K : PySem.W.Frag) (mg : Str → Option Value) (w : World) : Prop where
  f_L_number : ∃ f fd, Fun K "_law_number" "_law_number" stL_number f fd ∧ mg "_law_number" = some (.ref f)
  f_L_draws : ∃ f fd, Fun K "_law_draws" "_law_draws" stL_draws f fd ∧ mg "_law_draws" = some (.ref f)
  f_L_next : ∃ f fd, Fun K "_law_next" "_law_next" stL_next f fd ∧ mg "_law_next" = some (.ref f)
  f_L_more : ∃ f fd, Fun K "_law_more" "_law_more" stL_more f fd ∧ mg "_law_more" = some (.ref f)
  f_number_in : ∃ f fd, Fun K "number_in" "number_in" stnumber_in f fd ∧ mg "number_in" = some (.ref f)
  f_is_name : ∃ f fd, Fun K "is_name" "is_name" stis_name f fd ∧ mg "is_name" = some (.ref f)
  f_words_of : ∃ f fd, Fun K "words_of" "words_of" stwords_of f fd ∧ mg "words_of" = some (.ref f)
  f_L_pick : ∃ f fd, Fun K "_law_pick" "_law_pick" stL_pick f fd ∧ mg "_law_pick" = some (.ref f)
  f_L_line : ∃ f fd, Fun K "_law_line" "_law_line" stL_line f fd ∧ mg "_law_line" = some (.ref f)
  f_L_number_of : ∃ f fd, Fun K "_law_number_of" "_law_number_of" stL_number_of f fd ∧ mg "_law_number_of" = some (.ref f)
  f_L_spoilt : ∃ f fd, Fun K "_law_spoilt" "_law_spoilt" stL_spoilt f fd ∧ mg "_law_spoilt" = some (.ref f)
  f_is_integer : ∃ f fd, Fun K "is_integer" "is_integer" stis_integer f fd ∧ mg "is_integer" = some (.ref f)
  f_is_row : ∃ f fd, Fun K "is_row" "is_row" stis_row f fd ∧ mg "is_row" = some (.ref f)
  f_are_pairs : ∃ f fd, Fun K "are_pairs" "are_pairs" stare_pairs f fd ∧ mg "are_pairs" = some (.ref f)
  f_is_told_bounds : ∃ f fd, Fun K "is_told_bounds" "is_told_bounds" stis_told_bounds f fd ∧ mg "is_told_bounds" = some (.ref f)
  f_is_told_tannery : ∃ f fd, Fun K "is_told_tannery" "is_told_tannery" stis_told_tannery f fd ∧ mg "is_told_tannery" = some (.ref f)
  f_has_form : ∃ f fd, Fun K "has_form" "has_form" sthas_form f fd ∧ mg "has_form" = some (.ref f)
  f_L_is_row : ∃ f fd, Fun K "_law_is_row" "_law_is_row" stL_is_row f fd ∧ mg "_law_is_row" = some (.ref f)
  f_L_are_pairs : ∃ f fd, Fun K "_law_are_pairs" "_law_are_pairs" stL_are_pairs f fd ∧ mg "_law_are_pairs" = some (.ref f)
  f_L_due : ∃ f fd, Fun K "_law_due" "_law_due" stL_due f fd ∧ mg "_law_due" = some (.ref f)
  f_law : ∃ f fd, Fun K "law" "law" stlaw f fd ∧ mg "law" = some (.ref f)
  f_L_kind : ∃ f fd, Fun K "_law_kind" "_law_kind" stL_kind f fd ∧ mg "_law_kind" = some (.ref f)
  z_int : mg "int" = none
  z_isinstance : mg "isinstance" = none
  z_tuple : mg "tuple" = none
  z_all : mg "all" = none
  z_len : mg "len" = none
  z_range : mg "range" = none
  z_str : mg "str" = none
  z_repr : mg "repr" = none
  s_SMALL : ∃ t, mg "SMALL" = some (.str "abcdefghijklmnopqrstuvwxyz" t)
  s_FIGURES : ∃ t, mg "FIGURES" = some (.str "0123456789" t)
  x_BadNumber : ExcF K mg "BadNumber" (He.ga K "BadNumber")
  c_HideError : mg "HideError" = some (.ref (He.ga K "HideError"))
  c_NotPlan : mg "NotPlan" = some (.ref (He.ga K "NotPlan"))
  c_NotPits : mg "NotPits" = some (.ref (He.ga K "NotPits"))
  c_NotPaper : mg "NotPaper" = some (.ref (He.ga K "NotPaper"))
  c_BadNumber : mg "BadNumber" = some (.ref (He.ga K "BadNumber"))
  c_NoAnswer : mg "NoAnswer" = some (.ref (He.ga K "NoAnswer"))
  c_TooLarge : mg "TooLarge" = some (.ref (He.ga K "TooLarge"))
  c_FORMS : mg "FORMS" = some (.ref (He.ga K "FORMS"))
  c_is_told_bounds : mg "is_told_bounds" = some (.ref (He.ga K "is_told_bounds"))
  c_is_told_tannery : mg "is_told_tannery" = some (.ref (He.ga K "is_told_tannery"))
  c_are_pairs : mg "are_pairs" = some (.ref (He.ga K "are_pairs"))
  c_is_row : mg "is_row" = some (.ref (He.ga K "is_row"))
  yes_HideError : ∀ (y : Str) (cls : Value) (r : Bool), yesL y_HideError y = some r → mg y = some cls → PySem.W.exmOne K cls (.ref (He.ga K "HideError")) = some r
  t_FORMS : KTabN K w mg "FORMS" v_FORMS (tabL t_FORMS)
  n_FORMS : ∃ d es n, mg "FORMS" = some (.ref d) ∧ KDict K w d es n ∧ ∀ z b, ninL n_FORMS z = some b → ∃ r, PySem.W.nsIn K d z = some r ∧ r.isSome = !b
  kx : ∀ p ∈ kdT, mg p.1 = some (.ref (He.ga K p.1)) ∧ ExcC K (He.ga K p.1) ∧ ∀ c ∈ clsL, PySem.W.kitOne K (.ref (He.ga K p.1)) (.ref (He.ga K c)) = some (bsOf p.1 c)
def faL : List He.Fa := [.glo "_law_number", .keep "_law_number", .glo "_law_draws", .keep "_law_draws", .glo "_law_next", .keep "_law_next", .glo "_law_more", .keep "_law_more", .glo "number_in", .keep "number_in", .glo "is_name", .keep "is_name", .glo "words_of", .keep "words_of", .glo "_law_pick", .keep "_law_pick", .glo "_law_line", .keep "_law_line", .glo "_law_number_of", .keep "_law_number_of", .glo "_law_spoilt", .keep "_law_spoilt", .glo "is_integer", .keep "is_integer", .glo "is_row", .keep "is_row", .glo "are_pairs", .keep "are_pairs", .glo "is_told_bounds", .keep "is_told_bounds", .glo "is_told_tannery", .keep "is_told_tannery", .glo "has_form", .keep "has_form", .glo "_law_is_row", .keep "_law_is_row", .glo "_law_are_pairs", .keep "_law_are_pairs", .glo "_law_due", .keep "_law_due", .glo "law", .keep "law", .glo "_law_kind", .keep "_law_kind", .free "int", .free "isinstance", .free "tuple", .free "all", .free "len", .free "range", .free "str", .free "repr", .str "SMALL" "abcdefghijklmnopqrstuvwxyz", .str "FIGURES" "0123456789", .glo "HideError", .glo "NotPlan", .glo "NotPits", .glo "NotPaper", .glo "BadNumber", .glo "NoAnswer", .glo "TooLarge", .glo "FORMS", .exc "BadNumber"]
def fnL : List He.FnD := [fD "_law_number" stL_number, fD "_law_draws" stL_draws, fD "_law_next" stL_next, fD "_law_more" stL_more, fD "number_in" stnumber_in, fD "is_name" stis_name, fD "words_of" stwords_of, fD "_law_pick" stL_pick, fD "_law_line" stL_line, fD "_law_number_of" stL_number_of, fD "_law_spoilt" stL_spoilt, fD "is_integer" stis_integer, fD "is_row" stis_row, fD "are_pairs" stare_pairs, fD "is_told_bounds" stis_told_bounds, fD "is_told_tannery" stis_told_tannery, fD "has_form" sthas_form, fD "_law_is_row" stL_is_row, fD "_law_are_pairs" stL_are_pairs, fD "_law_due" stL_due, fD "law" stlaw, fD "_law_kind" stL_kind]
theorem gs_of {K : PySem.W.Frag} {mg : Str → Option Value} {w : World} {h : Heap} (c : He.SaysE faL fnL K) (X : K.In h) (G : h.Ns mainGlobals mg)
    (e_HideError : (y_HideError.all fun p => (He.Fa.exm p.1 "HideError" p.2).ok K) = true)
    (d_FORMS : He.dicW K (He.ga K "FORMS") = some (He.keysIn w.params k_FORMS))
    (b_FORMS : tabB K (He.ga K "FORMS") v_FORMS t_FORMS = true)
    (m_FORMS : ninB K (He.ga K "FORMS") n_FORMS = true)
    (kq : (kdT.all fun p => excB K (He.ga K p.1) && clsL.all fun c => kitB2 K p.1 c (bsOf p.1 c)) = true) : Gs K mg w where
  f_L_number := fun_of c X G 0 0 1
  f_L_draws := fun_of c X G 1 2 3
  f_L_next := fun_of c X G 2 4 5
  f_L_more := fun_of c X G 3 6 7
  f_number_in := fun_of c X G 4 8 9
  f_is_name := fun_of c X G 5 10 11
  f_words_of := fun_of c X G 6 12 13
  f_L_pick := fun_of c X G 7 14 15
  f_L_line := fun_of c X G 8 16 17
  f_L_number_of := fun_of c X G 9 18 19
  f_L_spoilt := fun_of c X G 10 20 21
  f_is_integer := fun_of c X G 11 22 23
  f_is_row := fun_of c X G 12 24 25
  f_are_pairs := fun_of c X G 13 26 27
  f_is_told_bounds := fun_of c X G 14 28 29
  f_is_told_tannery := fun_of c X G 15 30 31
  f_has_form := fun_of c X G 16 32 33
  f_L_is_row := fun_of c X G 17 34 35
  f_L_are_pairs := fun_of c X G 18 36 37
  f_L_due := fun_of c X G 19 38 39
  f_law := fun_of c X G 20 40 41
  f_L_kind := fun_of c X G 21 42 43
  z_int := free_of c X G 44
  z_isinstance := free_of c X G 45
  z_tuple := free_of c X G 46
  z_all := free_of c X G 47
  z_len := free_of c X G 48
  z_range := free_of c X G 49
  z_str := free_of c X G 50
  z_repr := free_of c X G 51
  s_SMALL := str_of c X G 52
  s_FIGURES := str_of c X G 53
  x_BadNumber := exc_of c X G 58 62
  c_HideError := glo_of c X G 54
  c_NotPlan := glo_of c X G 55
  c_NotPits := glo_of c X G 56
  c_NotPaper := glo_of c X G 57
  c_BadNumber := glo_of c X G 58
  c_NoAnswer := glo_of c X G 59
  c_TooLarge := glo_of c X G 60
  c_FORMS := glo_of c X G 61
  c_is_told_bounds := glo_of c X G 28
  c_is_told_tannery := glo_of c X G 30
  c_are_pairs := glo_of c X G 26
  c_is_row := glo_of c X G 24
  yes_HideError := yes_of (c := "HideError") (l := y_HideError) (by
    intro p hp
    unfold y_HideError at hp
    simp only [List.mem_cons, List.not_mem_nil, or_false] at hp
    rcases hp with rfl
    · exact glo_of c X G 58) e_HideError
  t_FORMS := tabN_of (glo_of c X G 61) (by
    intro p hp
    unfold v_FORMS at hp
    simp only [List.mem_cons, List.not_mem_nil, or_false] at hp
    rcases hp with rfl | rfl | rfl | rfl
    · exact glo_of c X G 28
    · exact glo_of c X G 30
    · exact glo_of c X G 26
    · exact glo_of c X G 24) d_FORMS b_FORMS
  n_FORMS := nin_of (glo_of c X G 61) d_FORMS m_FORMS
  kx := by
    intro p hp
    obtain ⟨q1, q2⟩ := He.ba (List.all_eq_true.mp kq p hp)
    refine ⟨?_, excB_ok q1, fun c hc => kitB2_ok (List.all_eq_true.mp q2 c hc)⟩
    unfold kdT at hp
    simp only [List.mem_cons, List.not_mem_nil, or_false] at hp
    rcases hp with rfl
    · exact glo_of c X G 58
/-! ### the walk -/
section
variable {P : Program} {w : World} {K : PySem.W.Frag} {mg : Str → Option Value} {base : Heap}
structure KindG (P : Program) (w : World) (K : PySem.W.Frag) (mg : Str → Option Value) (base : Heap) (k : Nat) (kf : Addr) (kfd : FuncData) : Prop where
  fn : KindD P w K mg base k kf kfd kdL
  at_ : mg "_law_kind" = some (.ref kf)
  kp : PySem.W.keepIn K (.ref kf) = true
  bd : Binds K kfd ["error"] []
  cl : ∀ y z, kdL y = some z → ∃ E : Addr, mg y = some (.ref E)
theorem isE_here {a : Addr} {b : Bool} {r : Ev} : isE 0 a b (.val (.ref a) :: r) = .ok (.val (.bl b)) (.val (.ref a) :: r) := by
  unfold isE
  simp
theorem kind_fn (Z : Gs K mg w) : ∃ kf kfd, KindG P w K mg base 1 kf kfd := by
  obtain ⟨f, fd, F, hm⟩ := Z.f_L_kind
  refine ⟨f, fd, kindD_of (g := fun a y => dKind a (bsOf y)) F scL_kind (fun cdv A outer s H a D oe y z hr hy hz hzc hf => ?_) (fun a y z hz => ?_), hm, F.kp, F.binds baL_kind, fun y z hz => ⟨_, (Z.kx (y, z) (lookup_mem hz)).1⟩⟩
  · obtain ⟨q1, q2, q3⟩ := Z.kx (y, z) (lookup_mem hz)
    rw [hy] at q1
    cases q1
    have he := q2
    have hk := q3
    exact ss_cons (ds_set (i := 1) scL_kind.nd (d_lst (da_v (d_sh (d_str)) (da_v (d_sh (d_str)) (da_v (d_sh (d_str)) (da_v (d_sh (d_str)) (da_v (d_sh (d_str)) (da_v (d_sh (d_str)) (da_nil))))))))) (ss_cons (ds_set (i := 2) scL_kind.nd (d_lst (da_v (d_sh (d_isE he hzc hf List.mem_cons_self Z.z_isinstance (Z.c_NotPlan) (hk "NotPlan" (by decide)) 0)) (da_v (d_sh (d_isE he hzc hf List.mem_cons_self Z.z_isinstance (Z.c_NotPits) (hk "NotPits" (by decide)) 0)) (da_v (d_sh (d_isE he hzc hf List.mem_cons_self Z.z_isinstance (Z.c_NotPaper) (hk "NotPaper" (by decide)) 0)) (da_nil)))))) (ss_cons (ds_set (i := 2) scL_kind.nd (d_op op_addD ok_add (d_var 2) (d_lst (da_v (d_sh (d_isE he hzc hf List.mem_cons_self Z.z_isinstance (Z.c_BadNumber) (hk "BadNumber" (by decide)) 0)) (da_v (d_sh (d_isE he hzc hf List.mem_cons_self Z.z_isinstance (Z.c_NoAnswer) (hk "NoAnswer" (by decide)) 0)) (da_v (d_sh (d_isE he hzc hf List.mem_cons_self Z.z_isinstance (Z.c_TooLarge) (hk "TooLarge" (by decide)) 0)) (da_nil))))))) (ss_one (ds_ret (d_v (d_if (d_tcmp (op_eqA hr.u4) ok_eq (d_met PySem.F.plainAttrs_list PySem.F.slot_list_count PySem.F.type_list_count mt_countF ok_countF (d_var 2) (da_v (d_sh (d_bl)) (da_nil))) (d_int)) (d_sh (d_op op_addD ok_add (d_str) (d_ix ix_seq ok_ix (d_var 1) (d_met PySem.F.plainAttrs_list PySem.F.slot_list_index PySem.F.type_list_index mt_index ok_indexF (d_var 2) (da_v (d_sh (d_bl)) (da_nil)))))) (d_sh (d_str))))))))
  · have m := lookup_mem hz
    unfold kdT at m
    simp only [List.mem_cons, List.not_mem_nil, or_false, Prod.mk.injEq] at m
    rcases m with ⟨rfl, rfl⟩
    all_goals
      have hsz : ∀ n : Nat, n ≤ 100 → n ≤ sizeLine := fun n h => by rw [sizeLine_eq]; omega
      simp [dKind, sSeq, sSet, lstF, aV, aNil, shF, R.bind, shr, isE, vals, eC, setSl, okSl, hsz, eV, binF, ap2, rd, OD.toD, addD]
      exact ⟨_, rfl⟩
theorem fL_number (Z : Gs K mg w) : Fn P w K mg base "_law_number" 1 1 dL_number := by
  exact fn_mk (k := 0) Z.f_L_number scL_number baL_number (fun f cdv A outer s H E hr => ss_cons (ds_if (d_tcmp (op_ltD hr.u0) ok_lt (d_var 0) (d_int)) (ss_one (ds_ret (d_op op_sub ok_sub (d_int) (d_var 0)))) (ss_nil)) (ss_one (ds_ret (d_var 0))))
theorem fL_draws (Z : Gs K mg w) (FL_number : Fn P w K mg base "_law_number" 1 1 dL_number) : Fn P w K mg base "_law_draws" 2 1 dL_draws := by
  exact fn_mk (k := 1) Z.f_L_draws scL_draws baL_draws (fun f cdv A outer s H E hr => ss_cons (ds_set (i := 1) scL_draws.nd (d_lst (da_nil))) (ss_cons (ds_for (passes_of rfl) rfl (di_it (d_sh (d_var 0))) (dg_name 2 scL_draws.nd) (ss_cons (ds_set (i := 3) scL_draws.nd (d_call FL_number hr (by decide) (takes_of rfl rfl rfl rfl) (da_n 2 (da_nil)) (la_n (la_nil)))) (ss_one (ds_if (d_tcmp op_ge ok_ge (d_var 3) (d_int)) (ss_one (ds_for (passes_of rfl) rfl (di_rng1 Z.z_range (da_v (d_sh (d_int)) (da_nil)) (la_v (la_nil))) (dg_name 4 scL_draws.nd) (ss_cons (ds_if (d_tcmp (op_eqA hr.u4) ok_eq (d_var 3) (d_int)) (ss_one (ds_brk)) (ss_nil)) (ss_cons (ds_expr (d_mut PySem.F.plainAttrs_list PySem.F.slot_list_append PySem.F.type_list_append mt_append mok_append 1 (da_v (d_sh (d_op op_modN ok_mod (d_callT1 call_intA ok_int rfl Z.z_int boot_int (d_var 3)) (d_int))) (da_nil)))) (ss_one (ds_set (i := 3) scL_draws.nd (d_op op_fdivD ok_fdiv (d_var 3) (d_int)))))))) (ss_cons (ds_set (i := 5) scL_draws.nd (d_op op_modN ok_mod (d_callT1 call_intA ok_int rfl Z.z_int boot_int (d_op op_addD ok_add (d_op op_mulD ok_mul (d_var 3) (d_int)) (d_int))) (d_int))) (ss_cons (ds_set (i := 6) scL_draws.nd (d_op op_modN ok_mod (d_callT1 call_intA ok_int rfl Z.z_int boot_int (d_op op_addD ok_add (d_op op_mulD ok_mul (d_var 5) (d_int)) (d_var 3))) (d_int))) (ss_one (ds_expr (d_mut PySem.F.plainAttrs_list PySem.F.slot_list_extend PySem.F.type_list_extend mt_extend mok_extend 1 (da_v (d_sh (d_lst (da_v (d_sh (d_op op_modN ok_mod (d_callT1 call_intA ok_int rfl Z.z_int boot_int (d_var 3)) (d_int))) (da_v (d_sh (d_op op_modN ok_mod (d_callT1 call_intA ok_int rfl Z.z_int boot_int (d_var 5)) (d_int))) (da_v (d_sh (d_op op_modN ok_mod (d_callT1 call_intA ok_int rfl Z.z_int boot_int (d_var 6)) (d_int))) (da_nil)))))) (da_nil))))))))))) (ss_cons (ds_expr (d_mut0 PySem.F.plainAttrs_list PySem.F.slot_list_reverse PySem.F.type_list_reverse mt_reverse mok_reverse 1)) (ss_one (ds_ret (d_var 1))))))
theorem fL_next (Z : Gs K mg w) : Fn P w K mg base "_law_next" 1 1 dL_next := by
  exact fn_mk (k := 0) Z.f_L_next scL_next baL_next (fun f cdv A outer s H E hr => ss_cons (ds_if (d_truth (d_var 0)) (ss_one (ds_ret (d_mut0 PySem.F.plainAttrs_list PySem.F.slot_list_pop PySem.F.type_list_pop mt_pop mok_pop 0))) (ss_nil)) (ss_one (ds_ret (d_int))))
theorem fL_more (Z : Gs K mg w) (FL_next : Fn P w K mg base "_law_next" 1 1 dL_next) : Fn P w K mg base "_law_more" 2 2 dL_more := by
  exact fn_mk (k := 1) Z.f_L_more scL_more baL_more (fun f cdv A outer s H E hr => ss_cons (ds_set (i := 2) scL_more.nd (d_op op_addD ok_add (d_op op_addD ok_add (d_op op_mulD ok_mul (d_int) (d_call FL_next hr (by decide) (takes_of rfl rfl rfl rfl) (da_n 0 (da_nil)) (la_n (la_nil)))) (d_call FL_next hr (by decide) (takes_of rfl rfl rfl rfl) (da_n 0 (da_nil)) (la_n (la_nil)))) (d_int))) (ss_cons (ds_set (i := 3) scL_more.nd (d_lst (da_nil))) (ss_cons (ds_for (passes_of rfl) rfl (di_rng1 Z.z_range (da_n 1 (da_nil)) (la_n (la_nil))) (dg_name 4 scL_more.nd) (ss_cons (ds_set (i := 2) scL_more.nd (d_op op_modN ok_mod (d_callT1 call_intA ok_int rfl Z.z_int boot_int (d_op op_addD ok_add (d_op op_mulD ok_mul (d_var 2) (d_int)) (d_int))) (d_int))) (ss_one (ds_expr (d_mut PySem.F.plainAttrs_list PySem.F.slot_list_append PySem.F.type_list_append mt_append mok_append 3 (da_v (d_sh (d_op op_modN ok_mod (d_callT1 call_intA ok_int rfl Z.z_int boot_int (d_op op_fdivD ok_fdiv (d_var 2) (d_int))) (d_int))) (da_nil))))))) (ss_one (ds_ret (d_op op_addD ok_add (d_var 3) (d_var 0)))))))
theorem fnumber_in (Z : Gs K mg w) : Fn P w K mg base "number_in" 1 1 dnumber_in := by
  exact fn_mk (k := 0) Z.f_number_in scnumber_in banumber_in (fun f cdv A outer s H E hr => ss_cons (ds_if (d_w (d_tor (d_tnot (d_tchain op_leD op_leD ok_le ok_le (d_int) (d_call1 call_len ok_len rfl Z.z_len boot_len (d_var 0)) (d_int))) (d_or1 (d_tnot (d_truth (d_call1 (cr_all rfl) ok_all rfl Z.z_all boot_all (d_lc (own := [("char", 1)]) rfl scnumber_in.nd (blkOk_by (by kernel_rfl)) (di_it (d_sh (d_var 0))) (fun _ _ _ _ _ => dg_name 1 scnumber_in.nd) (fun _ _ _ _ _ => dts_nil) (fun _ _ _ _ _ => d_sh (d_cmp (op_inAll hr.u5) ok_in (d_var 1) (d_gs Z.s_FIGURES)))))))))) (ss_one (ds_ret (d_non))) (ss_nil)) (ss_cons (ds_if (d_w (d_tand (d_tcmp (op_eqA hr.u4) ok_eq (d_call1 call_len ok_len rfl Z.z_len boot_len (d_var 0)) (d_int)) (d_and1 (d_tcmp (op_eqA hr.u4) ok_eq (d_ix ix_seq ok_ix (d_var 0) (d_int)) (d_str))))) (ss_one (ds_ret (d_non))) (ss_nil)) (ss_one (ds_ret (d_callT1 call_intA ok_int rfl Z.z_int boot_int (d_var 0))))))
theorem fis_name (Z : Gs K mg w) : Fn P w K mg base "is_name" 1 1 dis_name := by
  exact fn_mk (k := 0) Z.f_is_name scis_name bais_name (fun f cdv A outer s H E hr => ss_one (ds_ret (d_v (d_and (d_sh (d_chain op_leD op_leD ok_le ok_le (d_int) (d_call1 call_len ok_len rfl Z.z_len boot_len (d_var 0)) (d_int))) (d_one (d_sh (d_call1 (cr_all rfl) ok_all rfl Z.z_all boot_all (d_lc (own := [("char", 1)]) rfl scis_name.nd (blkOk_by (by kernel_rfl)) (di_it (d_sh (d_var 0))) (fun _ _ _ _ _ => dg_name 1 scis_name.nd) (fun _ _ _ _ _ => dts_nil) (fun _ _ _ _ _ => d_sh (d_cmp (op_inAll hr.u5) ok_in (d_var 1) (d_gs Z.s_SMALL)))))))))))
theorem fwords_of (Z : Gs K mg w) : Fn P w K mg base "words_of" 1 1 dwords_of := by
  exact fn_mk (k := 0) Z.f_words_of scwords_of bawords_of (fun f cdv A outer s H E hr => ss_cons (ds_set (i := 1) scwords_of.nd (d_met PySem.F.plainAttrs_str PySem.F.slot_str_split PySem.F.type_str_split mt_split ok_split (d_var 0) (da_v (d_sh (d_str)) (da_nil)))) (ss_cons (ds_for (passes_of rfl) rfl (di_it (d_sh (d_var 1))) (dg_name 2 scwords_of.nd) (ss_one (ds_if (d_w (d_tor (d_tcmp (op_eqA hr.u4) ok_eq (d_var 2) (d_str)) (d_or1 (d_tnot (d_truth (d_call1 (cr_all rfl) ok_all rfl Z.z_all boot_all (d_lc (own := [("char", 3)]) rfl scwords_of.nd (blkOk_by (by kernel_rfl)) (di_it (d_sh (d_var 2))) (fun _ _ _ _ _ => dg_name 3 scwords_of.nd) (fun _ _ _ _ _ => dts_nil) (fun _ _ _ _ _ => d_sh (d_chain op_leD op_leD ok_le ok_le (d_str) (d_var 3) (d_str)))))))))) (ss_one (ds_ret (d_non))) (ss_nil)))) (ss_one (ds_ret (d_var 1)))))
theorem fL_pick (Z : Gs K mg w) (FL_next : Fn P w K mg base "_law_next" 1 1 dL_next) : Fn P w K mg base "_law_pick" 2 2 dL_pick := by
  exact fn_mk (k := 1) Z.f_L_pick scL_pick baL_pick (fun f cdv A outer s H E hr => ss_one (ds_ret (d_ix ix_seq ok_ix (d_var 1) (d_op op_modN ok_mod (d_callT1 call_intA ok_int rfl Z.z_int boot_int (d_call FL_next hr (by decide) (takes_of rfl rfl rfl rfl) (da_n 0 (da_nil)) (la_n (la_nil)))) (d_call1 call_len ok_len rfl Z.z_len boot_len (d_var 1))))))
theorem fL_line (Z : Gs K mg w) : Fn P w K mg base "_law_line" 1 1 dL_line := by
  exact fn_mk (k := 0) Z.f_L_line scL_line baL_line (fun f cdv A outer s H E hr => ss_cons (ds_set (i := 1) scL_line.nd (d_met PySem.F.plainAttrs_str PySem.F.slot_str_split PySem.F.type_str_split mt_split ok_split (d_var 0) (da_v (d_sh (d_str)) (da_nil)))) (ss_cons (ds_for (passes_of rfl) rfl (di_it (d_sh (d_var 1))) (dg_name 2 scL_line.nd) (ss_one (ds_if (d_w (d_tor (d_tcmp (op_eqA hr.u4) ok_eq (d_var 2) (d_str)) (d_or1 (d_tnot (d_truth (d_call1 (cr_all rfl) ok_all rfl Z.z_all boot_all (d_lc (own := [("sign", 3)]) rfl scL_line.nd (blkOk_by (by kernel_rfl)) (di_it (d_sh (d_var 2))) (fun _ _ _ _ _ => dg_name 3 scL_line.nd) (fun _ _ _ _ _ => dts_nil) (fun _ _ _ _ _ => d_sh (d_chain op_leD op_leD ok_le ok_le (d_str) (d_var 3) (d_str)))))))))) (ss_one (ds_ret (d_non))) (ss_nil)))) (ss_one (ds_ret (d_var 1)))))
theorem fL_number_of (Z : Gs K mg w) : Fn P w K mg base "_law_number_of" 1 1 dL_number_of := by
  exact fn_mk (k := 0) Z.f_L_number_of scL_number_of baL_number_of (fun f cdv A outer s H E hr => ss_one (ds_ret (d_v (d_if (d_tcmp (op_inAll hr.u5) ok_in (d_var 0) (d_lc (own := [("k", 1)]) rfl scL_number_of.nd (blkOk_by (by kernel_rfl)) (di_rng1 Z.z_range (da_v (d_sh (d_int)) (da_nil)) (la_v (la_nil))) (fun _ _ _ _ _ => dg_name 1 scL_number_of.nd) (fun _ _ _ _ _ => dts_nil) (fun _ _ _ _ _ => d_sh (d_callT1 call_strA ok_str rfl Z.z_str boot_str (d_var 1))))) (d_sh (d_callT1 call_intA ok_int rfl Z.z_int boot_int (d_var 0))) (d_sh (d_non))))))
theorem fL_spoilt (Z : Gs K mg w) (FL_next : Fn P w K mg base "_law_next" 1 1 dL_next) (FL_pick : Fn P w K mg base "_law_pick" 2 2 dL_pick) : ∀ fuel : Nat, Fn P w K mg base "_law_spoilt" (3 + fuel) 2 (dL_spoilt fuel)
  | 0 => fn_bad Z.f_L_spoilt scL_spoilt baL_spoilt
  | fuel + 1 => by
    have ih := fL_spoilt Z FL_next FL_pick fuel
    exact fn_mk (k := 3 + fuel) Z.f_L_spoilt scL_spoilt baL_spoilt (fun f cdv A outer s H E hr => ss_cons (ds_if (d_w (d_tor (d_tnot (d_truth (d_calln call_isi ok_isi rfl Z.z_isinstance PyProof.Rows.boot_isinstance (da_v (d_sh (d_var 1)) (da_v (d_sh (d_bty rfl Z.z_tuple PyProof.Rows.boot_tuple)) (da_nil)))))) (d_or1 (d_tcmp (op_eqA hr.u4) ok_eq (d_op op_modN ok_mod (d_callT1 call_intA ok_int rfl Z.z_int boot_int (d_call FL_next hr (Nat.le_trans (by decide) (Nat.le_add_right 3 fuel)) (takes_of rfl rfl rfl rfl) (da_n 0 (da_nil)) (la_n (la_nil)))) (d_int)) (d_int))))) (ss_one (ds_ret (d_call FL_pick hr (Nat.le_trans (by decide) (Nat.le_add_right 3 fuel)) (takes_of rfl rfl rfl rfl) (da_n 0 (da_v (d_sh (d_lst (da_v (d_sh (d_non)) (da_v (d_sh (d_str)) (da_v (d_sh (d_str)) (da_v (d_sh (d_int)) (da_v (d_sh (d_tup (da_nil))) (da_v (d_sh (d_tup (da_v (d_sh (d_int)) (da_nil)))) (da_v (d_sh (d_tup (da_v (d_sh (d_tup (da_nil))) (da_nil)))) (da_v (d_sh (d_tup (da_v (d_sh (d_str)) (da_nil)))) (da_v (d_sh (d_var 1)) (da_nil)))))))))))) (da_nil))) (la_n (la_v (la_nil)))))) (ss_nil)) (ss_cons (ds_if (d_tcmp (op_eqA hr.u4) ok_eq (d_var 1) (d_tup (da_nil))) (ss_one (ds_ret (d_call FL_pick hr (Nat.le_trans (by decide) (Nat.le_add_right 3 fuel)) (takes_of rfl rfl rfl rfl) (da_n 0 (da_v (d_sh (d_lst (da_v (d_sh (d_tup (da_v (d_sh (d_int)) (da_nil)))) (da_v (d_sh (d_tup (da_v (d_sh (d_str)) (da_nil)))) (da_v (d_sh (d_tup (da_v (d_sh (d_tup (da_nil))) (da_nil)))) (da_v (d_sh (d_non)) (da_nil))))))) (da_nil))) (la_n (la_v (la_nil)))))) (ss_nil)) (ss_cons (ds_set (i := 2) scL_spoilt.nd (d_op op_modN ok_mod (d_callT1 call_intA ok_int rfl Z.z_int boot_int (d_call FL_next hr (Nat.le_trans (by decide) (Nat.le_add_right 3 fuel)) (takes_of rfl rfl rfl rfl) (da_n 0 (da_nil)) (la_n (la_nil)))) (d_call1 call_len ok_len rfl Z.z_len boot_len (d_var 1)))) (ss_cons (ds_set (i := 3) scL_spoilt.nd (d_op op_modN ok_mod (d_callT1 call_intA ok_int rfl Z.z_int boot_int (d_call FL_next hr (Nat.le_trans (by decide) (Nat.le_add_right 3 fuel)) (takes_of rfl rfl rfl rfl) (da_n 0 (da_nil)) (la_n (la_nil)))) (d_int))) (ss_cons (ds_if (d_tcmp (op_eqA hr.u4) ok_eq (d_var 3) (d_int)) (ss_one (ds_ret (d_op op_addD ok_add (d_sl (d_var 1) (do_none) (do_some (d_var 2))) (d_sl (d_var 1) (do_some (d_op op_addD ok_add (d_var 2) (d_int))) (do_none))))) (ss_nil)) (ss_one (ds_ret (d_v (d_if (d_tcmp (op_eqA hr.u4) ok_eq (d_var 3) (d_int)) (d_sh (d_op op_addD ok_add (d_var 1) (d_sl (d_var 1) (do_some (d_var 2)) (do_some (d_op op_addD ok_add (d_var 2) (d_int)))))) (d_sh (d_op op_addD ok_add (d_op op_addD ok_add (d_sl (d_var 1) (do_none) (do_some (d_var 2))) (d_tup (da_v (d_sh (d_call (ih) hr (Nat.le_refl _) (takes_of rfl rfl rfl rfl) (da_n 0 (da_v (d_sh (d_ix ix_seq ok_ix (d_var 1) (d_var 2))) (da_nil))) (la_n (la_v (la_nil))))) (da_nil)))) (d_sl (d_var 1) (do_some (d_op op_addD ok_add (d_var 2) (d_int))) (do_none)))))))))))))
theorem fis_integer (Z : Gs K mg w) : Fn P w K mg base "is_integer" 1 1 dis_integer := by
  exact fn_mk (k := 0) Z.f_is_integer scis_integer bais_integer (fun f cdv A outer s H E hr => ss_one (ds_ret (d_calln call_isi ok_isi rfl Z.z_isinstance PyProof.Rows.boot_isinstance (da_v (d_sh (d_var 0)) (da_v (d_sh (d_bty rfl Z.z_int PyProof.Rows.boot_int)) (da_nil))))))
theorem fis_row (Z : Gs K mg w) (Fis_integer : Fn P w K mg base "is_integer" 1 1 dis_integer) : Fn P w K mg base "is_row" 2 1 dis_row := by
  exact fn_mk (k := 1) Z.f_is_row scis_row bais_row (fun f cdv A outer s H E hr => ss_one (ds_ret (d_v (d_and (d_sh (d_calln call_isi ok_isi rfl Z.z_isinstance PyProof.Rows.boot_isinstance (da_v (d_sh (d_var 0)) (da_v (d_sh (d_bty rfl Z.z_tuple PyProof.Rows.boot_tuple)) (da_nil))))) (d_one (d_sh (d_call1 (cr_all rfl) ok_all rfl Z.z_all boot_all (d_lc (own := [("entry", 1)]) rfl scis_row.nd (blkOk_by (by kernel_rfl)) (di_it (d_sh (d_var 0))) (fun _ _ _ _ _ => dg_name 1 scis_row.nd) (fun _ _ _ _ _ => dts_nil) (fun _ _ _ _ _ => d_sh (d_call Fis_integer hr (by decide) takes0 (da_n 1 (da_nil)) (la_n (la_nil))))))))))))
theorem fare_pairs (Z : Gs K mg w) (Fis_row : Fn P w K mg base "is_row" 2 1 dis_row) : Fn P w K mg base "are_pairs" 3 1 dare_pairs := by
  exact fn_mk (k := 2) Z.f_are_pairs scare_pairs baare_pairs (fun f cdv A outer s H E hr => ss_one (ds_ret (d_v (d_and (d_sh (d_calln call_isi ok_isi rfl Z.z_isinstance PyProof.Rows.boot_isinstance (da_v (d_sh (d_var 0)) (da_v (d_sh (d_bty rfl Z.z_tuple PyProof.Rows.boot_tuple)) (da_nil))))) (d_one (d_sh (d_call1 (cr_all rfl) ok_all rfl Z.z_all boot_all (d_lc (own := [("entry", 1)]) rfl scare_pairs.nd (blkOk_by (by kernel_rfl)) (di_it (d_sh (d_var 0))) (fun _ _ _ _ _ => dg_name 1 scare_pairs.nd) (fun _ _ _ _ _ => dts_nil) (fun _ _ _ _ _ => d_sh (d_call Fis_row hr (by decide) takes0 (da_n 1 (da_nil)) (la_n (la_nil))))))))))))
theorem fis_told_bounds (Z : Gs K mg w) (Fis_integer : Fn P w K mg base "is_integer" 1 1 dis_integer) (Fare_pairs : Fn P w K mg base "are_pairs" 3 1 dare_pairs) : Fn P w K mg base "is_told_bounds" 4 1 dis_told_bounds := by
  exact fn_mk (k := 3) Z.f_is_told_bounds scis_told_bounds bais_told_bounds (fun f cdv A outer s H E hr => ss_one (ds_ret (d_v (d_and (d_sh (d_calln call_isi ok_isi rfl Z.z_isinstance PyProof.Rows.boot_isinstance (da_v (d_sh (d_var 0)) (da_v (d_sh (d_bty rfl Z.z_tuple PyProof.Rows.boot_tuple)) (da_nil))))) (d_and (d_sh (d_cmp (op_eqA hr.u4) ok_eq (d_call1 call_len ok_len rfl Z.z_len boot_len (d_var 0)) (d_int))) (d_and (d_sh (d_call Fis_integer hr (by decide) (takes_of rfl rfl rfl rfl) (da_v (d_sh (d_ix ix_seq ok_ix (d_var 0) (d_int))) (da_nil)) (la_v (la_nil)))) (d_one (d_sh (d_call Fare_pairs hr (by decide) (takes_of rfl rfl rfl rfl) (da_v (d_sh (d_ix ix_seq ok_ix (d_var 0) (d_int))) (da_nil)) (la_v (la_nil)))))))))))
theorem fis_told_tannery (Z : Gs K mg w) (Fare_pairs : Fn P w K mg base "are_pairs" 3 1 dare_pairs) (Fis_row : Fn P w K mg base "is_row" 2 1 dis_row) (Fis_integer : Fn P w K mg base "is_integer" 1 1 dis_integer) : Fn P w K mg base "is_told_tannery" 4 1 dis_told_tannery := by
  exact fn_mk (k := 3) Z.f_is_told_tannery scis_told_tannery bais_told_tannery (fun f cdv A outer s H E hr => ss_cons (ds_if (d_w (d_tor (d_tnot (d_truth (d_calln call_isi ok_isi rfl Z.z_isinstance PyProof.Rows.boot_isinstance (da_v (d_sh (d_var 0)) (da_v (d_sh (d_bty rfl Z.z_tuple PyProof.Rows.boot_tuple)) (da_nil)))))) (d_or1 (d_tcmp (op_neA hr.u4) ok_ne (d_call1 call_len ok_len rfl Z.z_len boot_len (d_var 0)) (d_int))))) (ss_one (ds_ret (d_bl))) (ss_nil)) (ss_one (ds_ret (d_v (d_and (d_sh (d_call Fare_pairs hr (by decide) (takes_of rfl rfl rfl rfl) (da_v (d_sh (d_ix ix_seq ok_ix (d_var 0) (d_int))) (da_nil)) (la_v (la_nil)))) (d_and (d_sh (d_call Fis_row hr (by decide) (takes_of rfl rfl rfl rfl) (da_v (d_sh (d_ix ix_seq ok_ix (d_var 0) (d_int))) (da_nil)) (la_v (la_nil)))) (d_one (d_sh (d_call Fis_integer hr (by decide) (takes_of rfl rfl rfl rfl) (da_v (d_sh (d_ix ix_seq ok_ix (d_var 0) (d_int))) (da_nil)) (la_v (la_nil)))))))))))
theorem fhas_form (Z : Gs K mg w) (Fis_told_bounds : Fn P w K mg base "is_told_bounds" 4 1 dis_told_bounds) (Fis_told_tannery : Fn P w K mg base "is_told_tannery" 4 1 dis_told_tannery) (Fare_pairs : Fn P w K mg base "are_pairs" 3 1 dare_pairs) (Fis_row : Fn P w K mg base "is_row" 2 1 dis_row) : Fn P w K mg base "has_form" 5 2 dhas_form := by
  exact fn_mk (k := 4) Z.f_has_form schas_form bahas_form (fun f cdv A outer s H E hr => ss_cons (ds_if (d_tninK Z.n_FORMS (d_var 0)) (ss_one (ds_raise rfl (takes_of rfl rfl rfl rfl) Z.x_BadNumber)) (ss_nil)) (ss_one (ds_ret (d_pickT Z.t_FORMS (fsn_cons Fis_told_bounds (by decide) (fsn_cons Fis_told_tannery (by decide) (fsn_cons Fare_pairs (by decide) (fsn_cons Fis_row (by decide) (fsn_nil))))) hr (d_var 0) (takes_of rfl rfl rfl rfl) (da_n 1 (da_nil)) (la_n (la_nil))))))
theorem fL_is_row (Z : Gs K mg w) : Fn P w K mg base "_law_is_row" 1 1 dL_is_row := by
  exact fn_mk (k := 0) Z.f_L_is_row scL_is_row baL_is_row (fun f cdv A outer s H E hr => ss_one (ds_ret (d_v (d_and (d_sh (d_calln call_isi ok_isi rfl Z.z_isinstance PyProof.Rows.boot_isinstance (da_v (d_sh (d_var 0)) (da_v (d_sh (d_bty rfl Z.z_tuple PyProof.Rows.boot_tuple)) (da_nil))))) (d_one (d_sh (d_call1 (cr_all rfl) ok_all rfl Z.z_all boot_all (d_lc (own := [("entry", 1)]) rfl scL_is_row.nd (blkOk_by (by kernel_rfl)) (di_it (d_sh (d_var 0))) (fun _ _ _ _ _ => dg_name 1 scL_is_row.nd) (fun _ _ _ _ _ => dts_nil) (fun _ _ _ _ _ => d_sh (d_calln call_isi ok_isi rfl Z.z_isinstance PyProof.Rows.boot_isinstance (da_v (d_sh (d_var 1)) (da_v (d_sh (d_bty rfl Z.z_int PyProof.Rows.boot_int)) (da_nil)))))))))))))
theorem fL_are_pairs (Z : Gs K mg w) (FL_is_row : Fn P w K mg base "_law_is_row" 1 1 dL_is_row) : Fn P w K mg base "_law_are_pairs" 2 1 dL_are_pairs := by
  exact fn_mk (k := 1) Z.f_L_are_pairs scL_are_pairs baL_are_pairs (fun f cdv A outer s H E hr => ss_one (ds_ret (d_v (d_and (d_sh (d_calln call_isi ok_isi rfl Z.z_isinstance PyProof.Rows.boot_isinstance (da_v (d_sh (d_var 0)) (da_v (d_sh (d_bty rfl Z.z_tuple PyProof.Rows.boot_tuple)) (da_nil))))) (d_one (d_sh (d_call1 (cr_all rfl) ok_all rfl Z.z_all boot_all (d_lc (own := [("entry", 1)]) rfl scL_are_pairs.nd (blkOk_by (by kernel_rfl)) (di_it (d_sh (d_var 0))) (fun _ _ _ _ _ => dg_name 1 scL_are_pairs.nd) (fun _ _ _ _ _ => dts_nil) (fun _ _ _ _ _ => d_sh (d_call FL_is_row hr (by decide) takes0 (da_n 1 (da_nil)) (la_n (la_nil))))))))))))
theorem fL_due (Z : Gs K mg w) (FL_is_row : Fn P w K mg base "_law_is_row" 1 1 dL_is_row) (FL_are_pairs : Fn P w K mg base "_law_are_pairs" 2 1 dL_are_pairs) : Fn P w K mg base "_law_due" 3 2 dL_due := by
  exact fn_mk (k := 2) Z.f_L_due scL_due baL_due (fun f cdv A outer s H E hr => ss_cons (ds_if (d_tcmp (op_eqA hr.u4) ok_eq (d_var 0) (d_str)) (ss_one (ds_ret (d_call FL_is_row hr (by decide) (takes_of rfl rfl rfl rfl) (da_n 1 (da_nil)) (la_n (la_nil))))) (ss_nil)) (ss_cons (ds_if (d_tcmp (op_eqA hr.u4) ok_eq (d_var 0) (d_str)) (ss_one (ds_ret (d_call FL_are_pairs hr (by decide) (takes_of rfl rfl rfl rfl) (da_n 1 (da_nil)) (la_n (la_nil))))) (ss_nil)) (ss_cons (ds_if (d_tnot (d_truth (d_calln call_isi ok_isi rfl Z.z_isinstance PyProof.Rows.boot_isinstance (da_v (d_sh (d_var 1)) (da_v (d_sh (d_bty rfl Z.z_tuple PyProof.Rows.boot_tuple)) (da_nil)))))) (ss_one (ds_ret (d_bl))) (ss_nil)) (ss_cons (ds_if (d_tcmp (op_eqA hr.u4) ok_eq (d_var 0) (d_str)) (ss_one (ds_ret (d_v (d_and (d_sh (d_cmp (op_eqA hr.u4) ok_eq (d_call1 call_len ok_len rfl Z.z_len boot_len (d_var 1)) (d_int))) (d_and (d_sh (d_calln call_isi ok_isi rfl Z.z_isinstance PyProof.Rows.boot_isinstance (da_v (d_sh (d_ix ix_seq ok_ix (d_var 1) (d_int))) (da_v (d_sh (d_bty rfl Z.z_int PyProof.Rows.boot_int)) (da_nil))))) (d_one (d_sh (d_call FL_are_pairs hr (by decide) (takes_of rfl rfl rfl rfl) (da_v (d_sh (d_ix ix_seq ok_ix (d_var 1) (d_int))) (da_nil)) (la_v (la_nil)))))))))) (ss_nil)) (ss_one (ds_ret (d_v (d_and (d_sh (d_cmp (op_eqA hr.u4) ok_eq (d_call1 call_len ok_len rfl Z.z_len boot_len (d_var 1)) (d_int))) (d_and (d_sh (d_call FL_are_pairs hr (by decide) (takes_of rfl rfl rfl rfl) (da_v (d_sh (d_ix ix_seq ok_ix (d_var 1) (d_int))) (da_nil)) (la_v (la_nil)))) (d_and (d_sh (d_call FL_is_row hr (by decide) (takes_of rfl rfl rfl rfl) (da_v (d_sh (d_ix ix_seq ok_ix (d_var 1) (d_int))) (da_nil)) (la_v (la_nil)))) (d_one (d_sh (d_calln call_isi ok_isi rfl Z.z_isinstance PyProof.Rows.boot_isinstance (da_v (d_sh (d_ix ix_seq ok_ix (d_var 1) (d_int))) (da_v (d_sh (d_bty rfl Z.z_int PyProof.Rows.boot_int)) (da_nil))))))))))))))))
theorem flaw (Z : Gs K mg w) (FL_draws : Fn P w K mg base "_law_draws" 2 1 dL_draws) (FL_more : Fn P w K mg base "_law_more" 2 2 dL_more) (Fnumber_in : Fn P w K mg base "number_in" 1 1 dnumber_in) (Fis_name : Fn P w K mg base "is_name" 1 1 dis_name) (Fwords_of : Fn P w K mg base "words_of" 1 1 dwords_of) (FL_next : Fn P w K mg base "_law_next" 1 1 dL_next) (FL_pick : Fn P w K mg base "_law_pick" 2 2 dL_pick) (FL_line : Fn P w K mg base "_law_line" 1 1 dL_line) (FL_number_of : Fn P w K mg base "_law_number_of" 1 1 dL_number_of) (FL_spoilt : Fn P w K mg base "_law_spoilt" 9 2 (dL_spoilt 6)) (Fhas_form : Fn P w K mg base "has_form" 5 2 dhas_form) (FL_due : Fn P w K mg base "_law_due" 3 2 dL_due) (FK : ∃ kf kfd, KindG P w K mg base 1 kf kfd) {f : Addr} {fd : FuncData} (F : Fun K "law" "law" stlaw f fd) : FnD P w K mg base 10 f fd ["script"] dlaw := by
  obtain ⟨kf, kfd, Fkind⟩ := FK
  exact fnD_of (k := 9) F sclaw (fun cdv A outer s H E hr => ss_cons (ds_set (i := 1) sclaw.nd (d_call FL_draws hr (by decide) (takes_of rfl rfl rfl rfl) (da_n 0 (da_nil)) (la_n (la_nil)))) (ss_cons (ds_set (i := 1) sclaw.nd (d_call FL_more hr (by decide) (takes_of rfl rfl rfl rfl) (da_n 1 (da_v (d_sh (d_int)) (da_nil))) (la_n (la_v (la_nil))))) (ss_cons (ds_if (d_tcmp (op_neA hr.u4) ok_ne (d_lst (da_v (d_sh (d_call Fwords_of hr (by decide) (takes_of rfl rfl rfl rfl) (da_v (d_sh (d_str)) (da_nil)) (la_v (la_nil)))) (da_v (d_sh (d_call Fis_name hr (by decide) (takes_of rfl rfl rfl rfl) (da_v (d_sh (d_str)) (da_nil)) (la_v (la_nil)))) (da_v (d_sh (d_call Fis_name hr (by decide) (takes_of rfl rfl rfl rfl) (da_v (d_sh (d_str)) (da_nil)) (la_v (la_nil)))) (da_v (d_sh (d_call Fnumber_in hr (by decide) (takes_of rfl rfl rfl rfl) (da_v (d_sh (d_str)) (da_nil)) (la_v (la_nil)))) (da_v (d_sh (d_call Fnumber_in hr (by decide) (takes_of rfl rfl rfl rfl) (da_v (d_sh (d_str)) (da_nil)) (la_v (la_nil)))) (da_nil))))))) (d_lst (da_v (d_sh (d_lst (da_v (d_sh (d_str)) (da_v (d_sh (d_str)) (da_nil))))) (da_v (d_sh (d_bl)) (da_v (d_sh (d_bl)) (da_v (d_sh (d_non)) (da_v (d_sh (d_int)) (da_nil)))))))) (ss_one (ds_ret (d_bl))) (ss_nil)) (ss_cons (ds_for (passes_of rfl) rfl (di_rng1 Z.z_range (da_v (d_sh (d_int)) (da_nil)) (la_v (la_nil))) (dg_name 2 sclaw.nd) (ss_cons (ds_set (i := 3) sclaw.nd (d_met PySem.F.plainAttrs_str PySem.F.slot_str_join PySem.F.type_str_join mt_joinD ok_join (d_str) (da_v (d_sh (d_lc (own := [("at", 4)]) rfl sclaw.nd (blkOk_by (by kernel_rfl)) (di_rng1 Z.z_range (da_v (d_sh (d_op op_modN ok_mod (d_callT1 call_intA ok_int rfl Z.z_int boot_int (d_call FL_next hr (by decide) (takes_of rfl rfl rfl rfl) (da_n 1 (da_nil)) (la_n (la_nil)))) (d_int))) (da_nil)) (la_v (la_nil))) (fun _ _ _ _ _ => dg_name 4 sclaw.nd) (fun _ _ _ _ _ => dts_nil) (fun _ _ _ _ _ => d_sh (d_call FL_pick hr (by decide) takes0 (da_n 1 (da_v (d_sh (d_lst (da_v (d_sh (d_str)) (da_v (d_sh (d_str)) (da_v (d_sh (d_str)) (da_v (d_sh (d_str)) (da_v (d_sh (d_str)) (da_v (d_sh (d_str)) (da_v (d_sh (d_str)) (da_v (d_sh (d_str)) (da_v (d_sh (d_str)) (da_v (d_sh (d_str)) (da_v (d_sh (d_str)) (da_v (d_sh (d_str)) (da_v (d_sh (d_str)) (da_nil)))))))))))))))) (da_nil))) (la_n (la_v (la_nil))))))) (da_nil)))) (ss_cons (ds_if (d_tcmp (op_neA hr.u4) ok_ne (d_call1 (call_reprD hr.gd hr.u) ok_repr rfl Z.z_repr boot_repr (d_call Fwords_of hr (by decide) (takes_of rfl rfl rfl rfl) (da_n 3 (da_nil)) (la_n (la_nil)))) (d_call1 (call_reprD hr.gd hr.u) ok_repr rfl Z.z_repr boot_repr (d_call FL_line hr (by decide) (takes_of rfl rfl rfl rfl) (da_n 3 (da_nil)) (la_n (la_nil))))) (ss_one (ds_ret (d_bl))) (ss_nil)) (ss_cons (ds_set (i := 5) sclaw.nd (d_met PySem.F.plainAttrs_str PySem.F.slot_str_join PySem.F.type_str_join mt_joinD ok_join (d_str) (da_v (d_sh (d_lc (own := [("at", 4)]) rfl sclaw.nd (blkOk_by (by kernel_rfl)) (di_rng1 Z.z_range (da_v (d_sh (d_op op_modN ok_mod (d_callT1 call_intA ok_int rfl Z.z_int boot_int (d_call FL_next hr (by decide) (takes_of rfl rfl rfl rfl) (da_n 1 (da_nil)) (la_n (la_nil)))) (d_int))) (da_nil)) (la_v (la_nil))) (fun _ _ _ _ _ => dg_name 4 sclaw.nd) (fun _ _ _ _ _ => dts_nil) (fun _ _ _ _ _ => d_sh (d_call FL_pick hr (by decide) takes0 (da_n 1 (da_v (d_sh (d_lst (da_v (d_sh (d_str)) (da_v (d_sh (d_str)) (da_v (d_sh (d_str)) (da_v (d_sh (d_str)) (da_v (d_sh (d_str)) (da_v (d_sh (d_str)) (da_v (d_sh (d_str)) (da_v (d_sh (d_str)) (da_v (d_sh (d_str)) (da_nil)))))))))))) (da_nil))) (la_n (la_v (la_nil))))))) (da_nil)))) (ss_cons (ds_set (i := 6) sclaw.nd (d_v (d_and (d_sh (d_chain op_leD op_leD ok_le ok_le (d_int) (d_call1 call_len ok_len rfl Z.z_len boot_len (d_var 5)) (d_int))) (d_one (d_sh (d_call1 (cr_all rfl) ok_all rfl Z.z_all boot_all (d_lc (own := [("sign", 7)]) rfl sclaw.nd (blkOk_by (by kernel_rfl)) (di_it (d_sh (d_var 5))) (fun _ _ _ _ _ => dg_name 7 sclaw.nd) (fun _ _ _ _ _ => dts_nil) (fun _ _ _ _ _ => d_sh (d_cmp (op_inAll hr.u5) ok_in (d_var 7) (d_str)))))))))) (ss_one (ds_if (d_tcmp (op_neA hr.u4) ok_ne (d_call1 (call_reprD hr.gd hr.u) ok_repr rfl Z.z_repr boot_repr (d_lst (da_v (d_sh (d_call Fis_name hr (by decide) (takes_of rfl rfl rfl rfl) (da_n 5 (da_nil)) (la_n (la_nil)))) (da_v (d_sh (d_call Fnumber_in hr (by decide) (takes_of rfl rfl rfl rfl) (da_n 5 (da_nil)) (la_n (la_nil)))) (da_nil))))) (d_call1 (call_reprD hr.gd hr.u) ok_repr rfl Z.z_repr boot_repr (d_lst (da_v (d_sh (d_var 6)) (da_v (d_sh (d_call FL_number_of hr (by decide) (takes_of rfl rfl rfl rfl) (da_n 5 (da_nil)) (la_n (la_nil)))) (da_nil)))))) (ss_one (ds_ret (d_bl))) (ss_nil)))))))) (ss_cons (ds_if (d_tcmp (op_neA hr.u4) ok_ne (d_lc (own := [("word", 5)]) rfl sclaw.nd (blkOk_by (by kernel_rfl)) (di_it (d_sh (d_lst (da_v (d_sh (d_str)) (da_v (d_sh (d_str)) (da_v (d_sh (d_str)) (da_v (d_sh (d_str)) (da_v (d_sh (d_str)) (da_v (d_sh (d_str)) (da_v (d_sh (d_str)) (da_v (d_sh (d_str)) (da_v (d_sh (d_str)) (da_nil))))))))))))) (fun _ _ _ _ _ => dg_name 5 sclaw.nd) (fun _ _ _ _ _ => dts_nil) (fun _ _ _ _ _ => d_sh (d_call1 (call_reprD hr.gd hr.u) ok_repr rfl Z.z_repr boot_repr (d_call Fnumber_in hr (by decide) takes0 (da_n 5 (da_nil)) (la_n (la_nil)))))) (d_lst (da_v (d_sh (d_str)) (da_v (d_sh (d_str)) (da_v (d_sh (d_str)) (da_v (d_sh (d_str)) (da_v (d_sh (d_str)) (da_v (d_sh (d_str)) (da_v (d_sh (d_str)) (da_v (d_sh (d_str)) (da_v (d_sh (d_str)) (da_nil)))))))))))) (ss_one (ds_ret (d_bl))) (ss_nil)) (ss_cons (ds_set (i := 8) sclaw.nd (d_lst (da_v (d_sh (d_tup (da_v (d_sh (d_int)) (da_v (d_sh (d_tup (da_v (d_sh (d_tup (da_v (d_sh (d_int)) (da_v (d_sh (d_int)) (da_v (d_sh (d_int)) (da_nil)))))) (da_v (d_sh (d_tup (da_v (d_sh (d_int)) (da_v (d_sh (d_int)) (da_v (d_sh (d_int)) (da_nil)))))) (da_nil))))) (da_nil))))) (da_v (d_sh (d_tup (da_v (d_sh (d_tup (da_v (d_sh (d_tup (da_v (d_sh (d_int)) (da_v (d_sh (d_int)) (da_nil))))) (da_nil)))) (da_v (d_sh (d_tup (da_v (d_sh (d_int)) (da_v (d_sh (d_int)) (da_nil))))) (da_v (d_sh (d_int)) (da_nil)))))) (da_v (d_sh (d_tup (da_v (d_sh (d_tup (da_v (d_sh (d_int)) (da_v (d_sh (d_int)) (da_nil))))) (da_v (d_sh (d_tup (da_v (d_sh (d_int)) (da_nil)))) (da_nil))))) (da_v (d_sh (d_tup (da_v (d_sh (d_int)) (da_v (d_sh (d_int)) (da_v (d_sh (d_int)) (da_nil)))))) (da_v (d_sh (d_tup (da_v (d_sh (d_tup (da_nil))) (da_v (d_sh (d_tup (da_v (d_sh (d_tup (da_v (d_sh (d_int)) (da_nil)))) (da_nil)))) (da_nil))))) (da_v (d_sh (d_tup (da_nil))) (da_nil))))))))) (ss_cons (ds_for (passes_of rfl) rfl (di_it (d_sh (d_op op_addD ok_add (d_op op_addD ok_add (d_var 8) (d_lc (own := [("turn", 2)]) rfl sclaw.nd (blkOk_by (by kernel_rfl)) (di_rng1 Z.z_range (da_v (d_sh (d_int)) (da_nil)) (la_v (la_nil))) (fun _ _ _ _ _ => dg_name 2 sclaw.nd) (fun _ _ _ _ _ => dts_nil) (fun _ _ _ _ _ => d_sh (d_call FL_spoilt hr (by decide) takes0 (da_n 1 (da_v (d_sh (d_call FL_pick hr (by decide) takes0 (da_n 1 (da_n 8 (da_nil))) (la_n (la_n (la_nil))))) (da_nil))) (la_n (la_v (la_nil))))))) (d_lst (da_v (d_sh (d_tup (da_nil))) (da_v (d_sh (d_non)) (da_v (d_sh (d_str)) (da_v (d_sh (d_int)) (da_nil))))))))) (dg_name 9 sclaw.nd) (ss_cons (ds_set (i := 10) sclaw.nd (d_lst (da_v (d_sh (d_str)) (da_v (d_sh (d_str)) (da_v (d_sh (d_str)) (da_v (d_sh (d_str)) (da_nil))))))) (ss_one (ds_if (d_tcmp (op_neA hr.u4) ok_ne (d_lc (own := [("thing", 11)]) rfl sclaw.nd (blkOk_by (by kernel_rfl)) (di_it (d_sh (d_var 10))) (fun _ _ _ _ _ => dg_name 11 sclaw.nd) (fun _ _ _ _ _ => dts_nil) (fun _ _ _ _ _ => d_sh (d_call Fhas_form hr (by decide) takes0 (da_n 11 (da_n 9 (da_nil))) (la_n (la_n (la_nil)))))) (d_lc (own := [("thing", 11)]) rfl sclaw.nd (blkOk_by (by kernel_rfl)) (di_it (d_sh (d_var 10))) (fun _ _ _ _ _ => dg_name 11 sclaw.nd) (fun _ _ _ _ _ => dts_nil) (fun _ _ _ _ _ => d_sh (d_call FL_due hr (by decide) takes0 (da_n 11 (da_n 9 (da_nil))) (la_n (la_n (la_nil))))))) (ss_one (ds_ret (d_bl))) (ss_nil))))) (ss_cons (ds_for (passes_of rfl) rfl (di_it (d_sh (d_lst (da_v (d_sh (d_str)) (da_v (d_sh (d_str)) (da_v (d_sh (d_str)) (da_nil))))))) (dg_name 12 sclaw.nd) (ss_one (ds_tryNe (i := 13) rfl rfl sclaw.nd ⟨rfl, by decide, .inl Z.c_HideError⟩ (takes_of rfl rfl rfl rfl) ⟨(Fkind.fn.mono (show 1 ≤ 9 by decide)), ⟨hr.room.dp, hr.room.un⟩, Fkind.at_, Fkind.kp, Fkind.bd, Fkind.cl⟩ (fun W pn xe tk1 ps1 => ss_cons (ds_expr (d_call Fhas_form hr (by decide) tk1 (da_n 12 (da_v (d_sh (d_tup (da_nil))) (da_nil))) (la_n (la_v (la_nil))))) (ss_one (ds_ret (d_bl)))) Z.yes_HideError))) (ss_one (ds_ret (d_bl)))))))))))
theorem fn_all (Z : Gs K mg w) {f : Addr} {fd : FuncData} (F : Fun K "law" "law" stlaw f fd) : FnD P w K mg base 10 f fd ["script"] dlaw := by
  have FK := kind_fn (P := P) (base := base) Z
  have FL_number := fL_number (P := P) (base := base) Z
  have FL_draws := fL_draws (P := P) (base := base) Z FL_number
  have FL_next := fL_next (P := P) (base := base) Z
  have FL_more := fL_more (P := P) (base := base) Z FL_next
  have Fnumber_in := fnumber_in (P := P) (base := base) Z
  have Fis_name := fis_name (P := P) (base := base) Z
  have Fwords_of := fwords_of (P := P) (base := base) Z
  have FL_pick := fL_pick (P := P) (base := base) Z FL_next
  have FL_line := fL_line (P := P) (base := base) Z
  have FL_number_of := fL_number_of (P := P) (base := base) Z
  have FL_spoilt := fL_spoilt (P := P) (base := base) Z FL_next FL_pick 6
  have Fis_integer := fis_integer (P := P) (base := base) Z
  have Fis_row := fis_row (P := P) (base := base) Z Fis_integer
  have Fare_pairs := fare_pairs (P := P) (base := base) Z Fis_row
  have Fis_told_bounds := fis_told_bounds (P := P) (base := base) Z Fis_integer Fare_pairs
  have Fis_told_tannery := fis_told_tannery (P := P) (base := base) Z Fare_pairs Fis_row Fis_integer
  have Fhas_form := fhas_form (P := P) (base := base) Z Fis_told_bounds Fis_told_tannery Fare_pairs Fis_row
  have FL_is_row := fL_is_row (P := P) (base := base) Z
  have FL_are_pairs := fL_are_pairs (P := P) (base := base) Z FL_is_row
  have FL_due := fL_due (P := P) (base := base) Z FL_is_row FL_are_pairs
  exact flaw Z FL_draws FL_more Fnumber_in Fis_name Fwords_of FL_next FL_pick FL_line FL_number_of FL_spoilt Fhas_form FL_due FK F
end
theorem facts {P : Program} {w : World} {K : PySem.W.Frag} {h : Heap} {mg : Str → Option Value} {fa : Addr} (X : K.In h) (G : h.Ns mainGlobals mg) (hm : mg "law" = some (.ref fa)) (c : He.SaysE faL fnL K)
    (e_HideError : (y_HideError.all fun p => (He.Fa.exm p.1 "HideError" p.2).ok K) = true)
    (d_FORMS : He.dicW K (He.ga K "FORMS") = some (He.keysIn w.params k_FORMS))
    (b_FORMS : tabB K (He.ga K "FORMS") v_FORMS t_FORMS = true)
    (m_FORMS : ninB K (He.ga K "FORMS") n_FORMS = true)
    (kq : (kdT.all fun p => excB K (He.ga K p.1) && clsL.all fun c => kitB2 K p.1 c (bsOf p.1 c)) = true) :
    ∃ fd : FuncData, (∀ (s : Shared) (u : Value), BindsTo s fd ⟨[u], []⟩ [("script", u)]) ∧ ∀ base : Heap, K.In base → base.Ns mainGlobals mg → FnD P w K mg base 10 fa fd ["script"] dlaw := by
  have Z : Gs K mg w := gs_of c X G e_HideError d_FORMS b_FORMS m_FORMS kq
  obtain ⟨f, fd, F, hf⟩ := Z.f_law
  rw [hm] at hf
  cases hf
  exact ⟨fd, binds_law F balaw, fun base _ _ => fn_all Z F⟩
/-! ### the law in plain words -/
theorem eqNext : dL_next = cNext := rfl
theorem eqDraws : dL_draws = cDraws := rfl
theorem eqMore : dL_more = cMore := rfl
theorem eqPick : dL_pick = cPick := rfl

def g0 : Ev → R Fl := sSet 1 (apF dL_draws (aN 0 (aNil)))
def g1 : Ev → R Fl := sSet 1 (apF dL_more (aN 1 (aV (shF (eC (.int 200))) (aNil))))
def g2 : Ev → R Fl := sIf (blF (binF neD (lstF (aV (shF (apF dwords_of (aV (shF (eC (.str "a b"))) (aNil)))) (aV (shF (apF dis_name (aV (shF (eC (.str "abcdefghijkl"))) (aNil)))) (aV (shF (apF dis_name (aV (shF (eC (.str "abcdefghijklm"))) (aNil)))) (aV (shF (apF dnumber_in (aV (shF (eC (.str "07"))) (aNil)))) (aV (shF (apF dnumber_in (aV (shF (eC (.str "99"))) (aNil)))) (aNil))))))) (lstF (aV (shF (lstF (aV (shF (eC (.str "a"))) (aV (shF (eC (.str "b"))) (aNil))))) (aV (shF (eC (.bl true))) (aV (shF (eC (.bl false))) (aV (shF (eC .non)) (aV (shF (eC (.int 99))) (aNil))))))))) (sRet (eC (.bl false))) (sNext)
def g3 : Ev → R Fl := sFor (rngF (aV (shF (eC (.int 6))) (aNil))) (gN 2) (sSeq (sSet 3 (metF "str" joinD (eC (.str "")) (aV (shF (lcF [4] (rngF (aV (shF (binF modD (c1F intD (apF dL_next (aN 1 (aNil)))) (eC (.int 9)))) (aNil))) (gN 4) (tT) (shF (apF dL_pick (aN 1 (aV (shF (lstF (aV (shF (eC (.str "a"))) (aV (shF (eC (.str "b"))) (aV (shF (eC (.str " "))) (aV (shF (eC (.str "0"))) (aV (shF (eC (.str "7"))) (aV (shF (eC (.str "~"))) (aV (shF (eC (.str "!"))) (aV (shF (eC (.str "("))) (aV (shF (eC (.str "A"))) (aV (shF (eC (.str "\t"))) (aV (shF (eC (.str "-"))) (aV (shF (eC (.str "z"))) (aV (shF (eC (.str "  "))) (aNil)))))))))))))))) (aNil))))))) (aNil)))) (sSeq (sIf (blF (binF neD (c1F reprD (apF dwords_of (aN 3 (aNil)))) (c1F reprD (apF dL_line (aN 3 (aNil)))))) (sRet (eC (.bl false))) (sNext)) (sSeq (sSet 5 (metF "str" joinD (eC (.str "")) (aV (shF (lcF [4] (rngF (aV (shF (binF modD (c1F intD (apF dL_next (aN 1 (aNil)))) (eC (.int 15)))) (aNil))) (gN 4) (tT) (shF (apF dL_pick (aN 1 (aV (shF (lstF (aV (shF (eC (.str "a"))) (aV (shF (eC (.str "k"))) (aV (shF (eC (.str "z"))) (aV (shF (eC (.str "9"))) (aV (shF (eC (.str "0"))) (aV (shF (eC (.str "1"))) (aV (shF (eC (.str ""))) (aV (shF (eC (.str ""))) (aV (shF (eC (.str "B"))) (aNil)))))))))))) (aNil))))))) (aNil)))) (sSeq (sSet 6 (vF (andV (shF (chF leD leD (eC (.int 1)) (c1F lenD (eV 5)) (eC (.int 12)))) (shF (c1F allD (lcF [7] (itF (shF (eV 5))) (gN 7) (tT) (shF (binF inD (eV 7) (eC (.str "abcdefghijklmnopqrstuvwxyz")))))))))) (sIf (blF (binF neD (c1F reprD (lstF (aV (shF (apF dis_name (aN 5 (aNil)))) (aV (shF (apF dnumber_in (aN 5 (aNil)))) (aNil))))) (c1F reprD (lstF (aV (shF (eV 6)) (aV (shF (apF dL_number_of (aN 5 (aNil)))) (aNil))))))) (sRet (eC (.bl false))) (sNext))))))
def g4 : Ev → R Fl := sIf (blF (binF neD (lcF [5] (itF (shF (lstF (aV (shF (eC (.str ""))) (aV (shF (eC (.str "0"))) (aV (shF (eC (.str "00"))) (aV (shF (eC (.str "100"))) (aV (shF (eC (.str "-1"))) (aV (shF (eC (.str "5"))) (aV (shF (eC (.str "+5"))) (aV (shF (eC (.str " 5"))) (aV (shF (eC (.str "5 "))) (aNil))))))))))))) (gN 5) (tT) (shF (c1F reprD (apF dnumber_in (aN 5 (aNil)))))) (lstF (aV (shF (eC (.str "None"))) (aV (shF (eC (.str "0"))) (aV (shF (eC (.str "None"))) (aV (shF (eC (.str "None"))) (aV (shF (eC (.str "None"))) (aV (shF (eC (.str "5"))) (aV (shF (eC (.str "None"))) (aV (shF (eC (.str "None"))) (aV (shF (eC (.str "None"))) (aNil))))))))))))) (sRet (eC (.bl false))) (sNext)
def g5 : Ev → R Fl := sSet 8 (lstF (aV (shF (tupF (aV (shF (eC (.int 2))) (aV (shF (tupF (aV (shF (tupF (aV (shF (eC (.int 0))) (aV (shF (eC (.int 1))) (aV (shF (eC (.int 4))) (aNil)))))) (aV (shF (tupF (aV (shF (eC (.int 1))) (aV (shF (eC (.int 0))) (aV (shF (eC (.int 2))) (aNil)))))) (aNil))))) (aNil))))) (aV (shF (tupF (aV (shF (tupF (aV (shF (tupF (aV (shF (eC (.int 5))) (aV (shF (eC (.int 9))) (aNil))))) (aNil)))) (aV (shF (tupF (aV (shF (eC (.int 1))) (aV (shF (eC (.int 1))) (aNil))))) (aV (shF (eC (.int 1))) (aNil)))))) (aV (shF (tupF (aV (shF (tupF (aV (shF (eC (.int 1))) (aV (shF (eC (.int 2))) (aNil))))) (aV (shF (tupF (aV (shF (eC (.int 3))) (aNil)))) (aNil))))) (aV (shF (tupF (aV (shF (eC (.int 0))) (aV (shF (eC (.int 1))) (aV (shF (eC (.int 1))) (aNil)))))) (aV (shF (tupF (aV (shF (tupF (aNil))) (aV (shF (tupF (aV (shF (tupF (aV (shF (eC (.int 1))) (aNil)))) (aNil)))) (aNil))))) (aV (shF (tupF (aNil))) (aNil))))))))
def g6 : Ev → R Fl := sFor (itF (shF (binF addD (binF addD (eV 8) (lcF [2] (rngF (aV (shF (eC (.int 12))) (aNil))) (gN 2) (tT) (shF (apF (dL_spoilt 6) (aN 1 (aV (shF (apF dL_pick (aN 1 (aN 8 (aNil))))) (aNil))))))) (lstF (aV (shF (tupF (aNil))) (aV (shF (eC .non)) (aV (shF (eC (.str ""))) (aV (shF (eC (.int 0))) (aNil))))))))) (gN 9) (sSeq (sSet 10 (lstF (aV (shF (eC (.str "bounds"))) (aV (shF (eC (.str "tannery"))) (aV (shF (eC (.str "rows"))) (aV (shF (eC (.str "row"))) (aNil))))))) (sIf (blF (binF neD (lcF [11] (itF (shF (eV 10))) (gN 11) (tT) (shF (apF dhas_form (aN 11 (aN 9 (aNil)))))) (lcF [11] (itF (shF (eV 10))) (gN 11) (tT) (shF (apF dL_due (aN 11 (aN 9 (aNil)))))))) (sRet (eC (.bl false))) (sNext)))
def g7 : Ev → R Fl := sFor (itF (shF (lstF (aV (shF (eC (.str ""))) (aV (shF (eC (.str "Form"))) (aV (shF (eC (.str "term"))) (aNil))))))) (gN 12) (sTry 13 (yesL y_HideError) (hdNe (kdL) "!number") (sSeq (sExpr (apF dhas_form (aN 12 (aV (shF (tupF (aNil))) (aNil))))) (sRet (eC (.bl false)))))
def g8 : Ev → R Fl := sRet (eC (.bl true))
theorem law_parts : dlaw = runF 1 14 (sSeq g0 (sSeq g1 (sSeq g2 (sSeq g3 (sSeq g4 (sSeq g5 (sSeq g6 (sSeq g7 g8)))))))) := rfl
def h0 : Ev → R Fl := sSet 3 (metF "str" joinD (eC (.str "")) (aV (shF (lcF [4] (rngF (aV (shF (binF modD (c1F intD (apF dL_next (aN 1 (aNil)))) (eC (.int 9)))) (aNil))) (gN 4) (tT) (shF (apF dL_pick (aN 1 (aV (shF (lstF (aV (shF (eC (.str "a"))) (aV (shF (eC (.str "b"))) (aV (shF (eC (.str " "))) (aV (shF (eC (.str "0"))) (aV (shF (eC (.str "7"))) (aV (shF (eC (.str "~"))) (aV (shF (eC (.str "!"))) (aV (shF (eC (.str "("))) (aV (shF (eC (.str "A"))) (aV (shF (eC (.str "\t"))) (aV (shF (eC (.str "-"))) (aV (shF (eC (.str "z"))) (aV (shF (eC (.str "  "))) (aNil)))))))))))))))) (aNil))))))) (aNil)))
def h1 : Ev → R Fl := sIf (blF (binF neD (c1F reprD (apF dwords_of (aN 3 (aNil)))) (c1F reprD (apF dL_line (aN 3 (aNil)))))) (sRet (eC (.bl false))) (sNext)
def h2 : Ev → R Fl := sSet 5 (metF "str" joinD (eC (.str "")) (aV (shF (lcF [4] (rngF (aV (shF (binF modD (c1F intD (apF dL_next (aN 1 (aNil)))) (eC (.int 15)))) (aNil))) (gN 4) (tT) (shF (apF dL_pick (aN 1 (aV (shF (lstF (aV (shF (eC (.str "a"))) (aV (shF (eC (.str "k"))) (aV (shF (eC (.str "z"))) (aV (shF (eC (.str "9"))) (aV (shF (eC (.str "0"))) (aV (shF (eC (.str "1"))) (aV (shF (eC (.str ""))) (aV (shF (eC (.str ""))) (aV (shF (eC (.str "B"))) (aNil)))))))))))) (aNil))))))) (aNil)))
def h3 : Ev → R Fl := sSet 6 (vF (andV (shF (chF leD leD (eC (.int 1)) (c1F lenD (eV 5)) (eC (.int 12)))) (shF (c1F allD (lcF [7] (itF (shF (eV 5))) (gN 7) (tT) (shF (binF inD (eV 7) (eC (.str "abcdefghijklmnopqrstuvwxyz")))))))))
def h4 : Ev → R Fl := sIf (blF (binF neD (c1F reprD (lstF (aV (shF (apF dis_name (aN 5 (aNil)))) (aV (shF (apF dnumber_in (aN 5 (aNil)))) (aNil))))) (c1F reprD (lstF (aV (shF (eV 6)) (aV (shF (apF dL_number_of (aN 5 (aNil)))) (aNil))))))) (sRet (eC (.bl false))) (sNext)
theorem g3_parts : g3 = sFor (rngF (aV (shF (eC (.int 6))) (aNil))) (gN 2) (sSeq h0 (sSeq h1 (sSeq h2 (sSeq h3 h4)))) := rfl
theorem g2_run (e : Ev) : g2 e = .ok .next e := by kernel_rfl
section
variable {a0 a2 a3 a5 a6 a7 a8 a9 a10 a11 a12 a13 : Sl}
theorem rng_draw {l : List D} {r : Ev} {k : Int} (h : Dr l) (h1 : 0 < k) (h2 : k ≤ 1000) :
    rngF (aV (shF (binF modD (c1F intD (apF cNext (aN 1 aNil))) (eC (.int k)))) aNil) (a0 :: .own false (.lst l) :: r) = .ok ((List.range (nx l % k).toNat).map fun (i : Nat) => D.int (0 + i)) (a0 :: .own false (.lst (tl l)) :: r) := by
  have n1 := run_next h true
  have hm1 := Int.emod_lt_of_pos (nx l) h1
  have hm2 := Int.emod_nonneg (nx l) (show k ≠ 0 by omega)
  have hb : nx l % k ≤ sizeLine := by rw [sizeLine_eq]; omega
  have hc : (-(2 ^ 62) : Int) ≤ nx l % k := by omega
  unfold rngF
  simp [n1, x_modI h1, hb]
  omega
theorem comp_pick {l cs : List D} {s4 : Sl} {fl : Ev → R (List Ar)} {k : Int} (h : Dr l) (h1 : 0 < k) (h2 : k ≤ 1000) (h4 : FrP s4) (hcs : ∀ e, fl e = .ok (cs.map Ar.v) e) (h0 : cs ≠ []) (hl : cs.length ≤ 100) :
    ∃ out l', lcF [4] (rngF (aV (shF (binF modD (c1F intD (apF cNext (aN 1 aNil))) (eC (.int k)))) aNil)) (gN 4) tT (shF (apF cPick (aN 1 (aV (shF (lstF fl)) aNil))))
      [a0, .own false (.lst l), a2, a3, s4, a5, a6, a7, a8, a9, a10, a11, a12, a13] = .ok (.own (.lst out)) [a0, .own false (.lst l'), a2, a3, s4, a5, a6, a7, a8, a9, a10, a11, a12, a13] ∧ Dr l' ∧ out.length < k ∧ ∀ d ∈ out, d ∈ cs := by
  have hsz : cs.length ≤ sizeLine := by rw [sizeLine_eq]; omega
  have hr := rng_draw (a0 := a0) (r := [a2, a3, s4, a5, a6, a7, a8, a9, a10, a11, a12, a13]) h h1 h2
  obtain ⟨ys, e', q1, l', rfl, q3, q4⟩ := lcL_inv (vs := [4]) (g := gN 4) (t := tT) (fe := shF (apF cPick (aN 1 (aV (shF (lstF fl)) aNil)))) (fun out e => ∃ l', e = [a0, .own false (.lst l'), a2, a3, .no, a5, a6, a7, a8, a9, a10, a11, a12, a13] ∧ Dr l' ∧ ∀ d ∈ out, d ∈ cs)
    ((List.range (nx l % k).toNat).map fun (i : Nat) => D.int (0 + i)) [] _ ⟨tl l, rfl, h.tl, fun d hd => nomatch hd⟩ (by
      rintro d e out _ ⟨l', rfl, k1, k2⟩
      obtain ⟨y, hy, hp⟩ := run_pick k1 true h0 (by omega)
      refine ⟨[a0, .own false (.lst l'), a2, a3, .val d, a5, a6, a7, a8, a9, a10, a11, a12, a13], _, true, by simp, rfl, fun _ => ⟨y, [a0, .own false (.lst (tl l')), a2, a3, .val d, a5, a6, a7, a8, a9, a10, a11, a12, a13], ?_, tl l', by simp, k1.tl, ?_⟩, fun z => nomatch z⟩
      · simp [hcs, hp, hsz]
      · intro z hz
        rcases List.mem_append.mp hz with hz | hz
        · exact k2 z hz
        · rw [List.mem_singleton] at hz; rw [hz]; exact hy)
  have hlen := lcL_len _ _ q1
  rw [List.length_map, List.length_range] at hlen
  have hm1 := Int.emod_lt_of_pos (nx l) h1
  have hm2 := Int.emod_nonneg (nx l) (show k ≠ 0 by omega)
  refine ⟨ys, l', ?_, q3, by omega, by simpa using q4⟩
  rcases h4 with rfl | ⟨d, rfl⟩
  · rw [x_lcF, hr]
    simp only [Int.zero_add] at q1 ⊢
    simp [q1]
  · rw [x_lcF, hr]
    simp only [Int.zero_add] at q1 ⊢
    simp [q1]
end

/-! words -/
def chrB (d : D) : Bool := match d with
  | .str x => (!decide (x.cps.toList < ("!" : Str).cps.toList)) && (!decide (("~" : Str).cps.toList < x.cps.toList))
  | _ => false
def chF1 : Ev → R D := shF (chF leD leD (eC (.str "!")) (eV 3) (eC (.str "~")))
theorem chr_map {a0 a1 a2 : Sl} {x : Str} : lcL [3] (gN 3) tT chF1 (chars x) [a0, a1, a2, .no] = .ok ((chars x).map fun d => .bl (chrB d)) [a0, a1, a2, .no] := by
  refine lcL_map (fun d => D.bl (chrB d)) _ fun d hd => ?_
  unfold chars at hd
  obtain ⟨c, _, rfl⟩ := List.mem_map.mp hd
  refine ⟨[a0, a1, a2, .val (.str ⟨#[c]⟩)], [a0, a1, a2, .val (.str ⟨#[c]⟩)], by simp, ?_, by simp⟩
  have q1 : leD (.str "!") (.str ⟨#[c]⟩) = some (.val (.bl (!decide ((⟨#[c]⟩ : Str).cps.toList < ("!" : Str).cps.toList)))) := rfl
  have q2 : leD (.str ⟨#[c]⟩) (.str "~") = some (.val (.bl (!decide (("~" : Str).cps.toList < (⟨#[c]⟩ : Str).cps.toList)))) := rfl
  unfold chF1 chrB
  simp only
  generalize (!decide ((⟨#[c]⟩ : Str).cps.toList < ("!" : Str).cps.toList)) = b1 at q1 ⊢
  generalize (!decide (("~" : Str).cps.toList < (⟨#[c]⟩ : Str).cps.toList)) = b2 at q2 ⊢
  cases b1 <;> simp [q1, q2]
def wB : Ev → R Fl := sIf (orF (blF (binF eqD (eV 2) (eC (.str "")))) (notF (truF (c1F allD (lcF [3] (itF (shF (eV 2))) (gN 3) (tT) chF1))))) (sRet (eC .non)) (sNext)
theorem ok_empty : ("" : Str).cps.all (· < 0x110000) = true := by decide +kernel
theorem run_words {s : Str} {n : Nat} (h : As n s) (hn : n ≤ 1000) : ∃ w r, dwords_of [.val (.str s)] = .ok w (.val (.str s) :: r) ∧ (w = .val .non ∨ ∃ ws : List Str, w = .val (.lst (ws.map .str)) ∧ ws.length ≤ 1002 ∧ ∀ x ∈ ws, As n x) := by
  have hsl := split_as (b := " ") h
  have hlen := PyProof.Rows.split_le s " "
  have h1 := h.1
  have hd : dwords_of = runF 1 4 (sSeq (sSet 1 (metF "str" splD (eV 0) (aV (shF (eC (.str " "))) aNil))) (sSeq (sFor (itF (shF (eV 1))) (gN 2) wB) (sRet (eV 1)))) := rfl
  generalize hw : Txt.split s " " = ws at hsl hlen
  have hspl : splD (.str s) [.str " "] = some (.own (.lst (ws.map .str))) := by
    show (if ((" " : Str).length == 0) = false ∧ s.length + 2 ≤ sizeLine ∧ (Txt.split s " ").length ≤ sizeLine then some (W.own (.lst ((Txt.split s " ").map .str))) else none) = _
    rw [hw]
    have a1 : ((" " : Str).length == 0) = false := by decide +kernel
    have a2 : s.length + 2 ≤ sizeLine := by rw [sizeLine_eq]; omega
    have a3 : ws.length ≤ sizeLine := by rw [sizeLine_eq]; omega
    rw [if_pos ⟨a1, a2, a3⟩]
  obtain ⟨e', hf⟩ := forL_ret (k := turnF (gN 2) wB) (fun e => ∃ s2, e = [.val (.str s), .val (.lst (ws.map .str)), s2, .no] ∧ Fr2 s2) (fun w e => w = .val .non ∧ ∃ r, e = .val (.str s) :: r) (ws.map .str) [.val (.str s), .val (.lst (ws.map .str)), .no, .no] ⟨_, rfl, rfl⟩ (by
    rintro d e hd ⟨s2, rfl, hs2⟩
    obtain ⟨x, hx, rfl⟩ := List.mem_map.mp hd
    have hax := hsl x hx
    have he : eqD (.str x) (.str "") = some (.val (.bl (decide (x = "")))) := rfl
    generalize decide (x = "") = b1 at he
    have hxl := hax.len (by omega)
    have ha := all_map chrB (chars x)
    have hc := chr_map (a0 := .val (.str s)) (a1 := .val (.lst (ws.map .str))) (a2 := .val (.str x)) (x := x)
    cases b1 with
    | true =>
      refine ⟨[.val (.str s), .val (.lst (ws.map .str)), .val (.str x), .no], .inr ⟨.val .non, ?_, rfl, _, rfl⟩⟩
      simp [wB, hs2, he]
    | false =>
      cases hb : (chars x).all chrB with
      | true =>
        refine ⟨_, .inl ⟨.inl ?_, .val (.str x), rfl, rfl⟩⟩
        simp [wB, hs2, he, seqD, hxl, hc, ha, hb]
      | false =>
        refine ⟨[.val (.str s), .val (.lst (ws.map .str)), .val (.str x), .no], .inr ⟨.val .non, ?_, rfl, _, rfl⟩⟩
        simp [wB, hs2, he, seqD, hxl, hc, ha, hb])
  rcases hf with ⟨hf, s2, rfl, _⟩ | ⟨w, hf, rfl, r, rfl⟩
  · refine ⟨.val (.lst (ws.map .str)), [.val (.lst (ws.map .str)), s2, .no], ?_, .inr ⟨ws, rfl, by omega, hsl⟩⟩
    rw [hd]
    simp [hspl, hf]
  · refine ⟨.val .non, r, ?_, .inl rfl⟩
    rw [hd]
    simp [hspl, hf]
def fl0 : Ev → R (List Ar) := aV (shF (eC (.str "a"))) (aV (shF (eC (.str "b"))) (aV (shF (eC (.str " "))) (aV (shF (eC (.str "0"))) (aV (shF (eC (.str "7"))) (aV (shF (eC (.str "~"))) (aV (shF (eC (.str "!"))) (aV (shF (eC (.str "("))) (aV (shF (eC (.str "A"))) (aV (shF (eC (.str "\t"))) (aV (shF (eC (.str "-"))) (aV (shF (eC (.str "z"))) (aV (shF (eC (.str "  "))) (aNil)))))))))))))
def cs0 : List Str := ["a", "b", " ", "0", "7", "~", "!", "(", "A", "\t", "-", "z", "  "]
def p0 : Ev → R W := lcF [4] (rngF (aV (shF (binF modD (c1F intD (apF dL_next (aN 1 (aNil)))) (eC (.int 9)))) (aNil))) (gN 4) (tT) (shF (apF dL_pick (aN 1 (aV (shF (lstF (aV (shF (eC (.str "a"))) (aV (shF (eC (.str "b"))) (aV (shF (eC (.str " "))) (aV (shF (eC (.str "0"))) (aV (shF (eC (.str "7"))) (aV (shF (eC (.str "~"))) (aV (shF (eC (.str "!"))) (aV (shF (eC (.str "("))) (aV (shF (eC (.str "A"))) (aV (shF (eC (.str "\t"))) (aV (shF (eC (.str "-"))) (aV (shF (eC (.str "z"))) (aV (shF (eC (.str "  "))) (aNil)))))))))))))))) (aNil)))))
theorem h0_parts : h0 = sSet 3 (metF "str" joinD (eC (.str "")) (aV (shF p0) aNil)) := rfl
def fl2 : Ev → R (List Ar) := aV (shF (eC (.str "a"))) (aV (shF (eC (.str "k"))) (aV (shF (eC (.str "z"))) (aV (shF (eC (.str "9"))) (aV (shF (eC (.str "0"))) (aV (shF (eC (.str "1"))) (aV (shF (eC (.str ""))) (aV (shF (eC (.str ""))) (aV (shF (eC (.str "B"))) (aNil)))))))))
def cs2 : List Str := ["a", "k", "z", "9", "0", "1", "", "", "B"]
def p2 : Ev → R W := lcF [4] (rngF (aV (shF (binF modD (c1F intD (apF dL_next (aN 1 (aNil)))) (eC (.int 15)))) (aNil))) (gN 4) (tT) (shF (apF dL_pick (aN 1 (aV (shF (lstF (aV (shF (eC (.str "a"))) (aV (shF (eC (.str "k"))) (aV (shF (eC (.str "z"))) (aV (shF (eC (.str "9"))) (aV (shF (eC (.str "0"))) (aV (shF (eC (.str "1"))) (aV (shF (eC (.str ""))) (aV (shF (eC (.str ""))) (aV (shF (eC (.str "B"))) (aNil)))))))))))) (aNil)))))
theorem h2_parts : h2 = sSet 5 (metF "str" joinD (eC (.str "")) (aV (shF p2) aNil)) := rfl
theorem strs_of {ss : List Str} : ∀ {out : List D}, (∀ d ∈ out, d ∈ ss.map D.str) → ∃ ls : List Str, out = ls.map .str ∧ ∀ x ∈ ls, x ∈ ss
  | [], _ => ⟨[], rfl, fun x h => nomatch h⟩
  | d :: r, h => by
    obtain ⟨x, hx, rfl⟩ := List.mem_map.mp (h d List.mem_cons_self)
    obtain ⟨ls, rfl, h2⟩ := strs_of (out := r) fun d m => h d (List.mem_cons_of_mem _ m)
    refine ⟨x :: ls, rfl, fun y hy => ?_⟩
    rcases List.mem_cons.mp hy with rfl | hy
    · exact hx
    · exact h2 y hy
theorem strsO_id : ∀ ls : List Str, strsO (ls.map .str) = some ls
  | [] => rfl
  | x :: r => by
    show (strsO (r.map .str)).map (x :: ·) = _
    rw [strsO_id r]; rfl
theorem join_run {ls : List Str} {n k : Nat} (h : ∀ p ∈ ls, As n p) (hl : ls.length ≤ k) (hb : k * n ≤ 100000) : joinD (.str "") [.lst (ls.map .str)] = some (.val (.str (Txt.join "" ls))) := by
  have e : joinD (.str "") [.lst (ls.map .str)] = (match strsO (ls.map .str) with
    | some ys => if (ys.map (·.length)).sum + ys.length * ("" : Str).length ≤ 16777216 then some (W.val (.str (Txt.join "" ys))) else none
    | none => none) := rfl
  rw [e, strsO_id]
  have h0 : ("" : Str).length = 0 := by decide +kernel
  have : ∀ (ls : List Str), (∀ p ∈ ls, As n p) → (ls.map (·.length)).sum ≤ ls.length * n := by
    intro ls
    induction ls with
    | nil => intro _; simp
    | cons p ps ih =>
      intro h
      have h1 := (h p List.mem_cons_self).1
      have h2 := ih fun q hq => h q (List.mem_cons_of_mem _ hq)
      rw [List.map_cons, List.sum_cons, List.length_cons, Nat.succ_mul]
      omega
  have h3 := this ls h
  have h4 := Nat.mul_le_mul_right n hl
  have : (ls.map (·.length)).sum + ls.length * ("" : Str).length ≤ 16777216 := by rw [h0]; omega
  simp only [this, if_true]
section
variable {a0 a2 a3 a5 a6 a7 a8 a9 a10 a11 a12 a13 : Sl}
theorem h0_run {l : List D} {s4 : Sl} (h : Dr l) (h3 : Fr2 a3) (h4 : FrP s4) : ∃ s l', h0 [a0, .own false (.lst l), a2, a3, s4, a5, a6, a7, a8, a9, a10, a11, a12, a13] = .ok .next [a0, .own false (.lst l'), a2, .val (.str s), s4, a5, a6, a7, a8, a9, a10, a11, a12, a13] ∧ Dr l' ∧ As 16 s := by
  obtain ⟨out, l', q, q1, q2, q3⟩ := comp_pick (a0 := a0) (a2 := a2) (a3 := a3) (a5 := a5) (a6 := a6) (a7 := a7) (a8 := a8) (a9 := a9) (a10 := a10) (a11 := a11) (a12 := a12) (a13 := a13) (k := 9) (cs := cs0.map .str) (fl := fl0) h (by decide) (by decide) h4 (fun _ => rfl) (by decide) (by decide)
  have hq : p0 [a0, .own false (.lst l), a2, a3, s4, a5, a6, a7, a8, a9, a10, a11, a12, a13] = .ok (.own (.lst out)) [a0, .own false (.lst l'), a2, a3, s4, a5, a6, a7, a8, a9, a10, a11, a12, a13] := q
  obtain ⟨ls, rfl, hls⟩ := strs_of q3
  have has : ∀ p ∈ ls, As 2 p := fun p hp => by
    have : cs0.all (fun s => decide (s.length ≤ 2) && s.cps.toList.all (· < 128)) = true := by decide +kernel
    have := List.all_eq_true.mp this p (hls p hp)
    simp only [Bool.and_eq_true, decide_eq_true_eq, List.all_eq_true] at this
    exact ⟨this.1, this.2⟩
  have hlen : ls.length ≤ 8 := by rw [List.length_map] at q2; omega
  refine ⟨Txt.join "" ls, l', ?_, q1, join_as has hlen⟩
  have hj := join_run has hlen (by decide)
  rw [h0_parts]
  simp [hq, hj, h3]
theorem h2_run {l : List D} {s4 : Sl} (h : Dr l) (h5 : Fr2 a5) (h4 : FrP s4) : ∃ ls l', h2 [a0, .own false (.lst l), a2, a3, s4, a5, a6, a7, a8, a9, a10, a11, a12, a13] = .ok .next [a0, .own false (.lst l'), a2, a3, s4, .val (.str (Txt.join "" ls)), a6, a7, a8, a9, a10, a11, a12, a13] ∧ Dr l' ∧ ls.length ≤ 14 ∧ ∀ x ∈ ls, x ∈ cs2 := by
  obtain ⟨out, l', q, q1, q2, q3⟩ := comp_pick (a0 := a0) (a2 := a2) (a3 := a3) (a5 := a5) (a6 := a6) (a7 := a7) (a8 := a8) (a9 := a9) (a10 := a10) (a11 := a11) (a12 := a12) (a13 := a13) (k := 15) (cs := cs2.map .str) (fl := fl2) h (by decide) (by decide) h4 (fun _ => rfl) (by decide) (by decide)
  have hq : p2 [a0, .own false (.lst l), a2, a3, s4, a5, a6, a7, a8, a9, a10, a11, a12, a13] = .ok (.own (.lst out)) [a0, .own false (.lst l'), a2, a3, s4, a5, a6, a7, a8, a9, a10, a11, a12, a13] := q
  obtain ⟨ls, rfl, hls⟩ := strs_of q3
  have has : ∀ p ∈ ls, As 1 p := fun p hp => by
    have : cs2.all (fun s => decide (s.length ≤ 1) && s.cps.toList.all (· < 128)) = true := by decide +kernel
    have := List.all_eq_true.mp this p (hls p hp)
    simp only [Bool.and_eq_true, decide_eq_true_eq, List.all_eq_true] at this
    exact ⟨this.1, this.2⟩
  have hlen : ls.length ≤ 14 := by rw [List.length_map] at q2; omega
  refine ⟨ls, l', ?_, q1, hlen, hls⟩
  have hj := join_run has hlen (by decide)
  rw [h2_parts]
  simp [hq, hj, h5]
end

section
variable {a0 a2 a3 a5 a6 a7 a8 a9 a10 a11 a12 a13 : Sl}
theorem h1_run {l : List D} {s : Str} {s4 : Sl} (hs : As 16 s) : h1 [a0, .own false (.lst l), a2, .val (.str s), s4, a5, a6, a7, a8, a9, a10, a11, a12, a13] = .ok .next [a0, .own false (.lst l), a2, .val (.str s), s4, a5, a6, a7, a8, a9, a10, a11, a12, a13] := by
  obtain ⟨w, r, hw, hc⟩ := run_words hs (by decide)
  have hl : dL_line [.val (.str s)] = .ok w (.val (.str s) :: r) := hw
  have : ∃ d p, w = .val d ∧ reprD d = some (.val (.str p)) := by
    rcases hc with rfl | ⟨ws, rfl, h1, h2⟩
    · exact ⟨_, _, rfl, rfl⟩
    · obtain ⟨k, h3, h4⟩ := fitL_strs (m := 0) h2
      have hf : fitD 1 (.lst (ws.map .str)) = some (k + 8) := by
        show (fitL 0 (ws.map .str)).map (· + 8) = _
        rw [h3]; rfl
      obtain ⟨p, _, hp⟩ := rep_ok hf (by decide) (by
        have := Nat.mul_le_mul_right (10 * 16 + 4) h1
        omega)
      exact ⟨_, _, rfl, hp⟩
  obtain ⟨d, p, rfl, hp⟩ := this
  have e : h1 = sIf (blF (binF neD (c1F reprD (apF dwords_of (aN 3 aNil))) (c1F reprD (apF dL_line (aN 3 aNil))))) (sRet (eC (.bl false))) sNext := rfl
  rw [e]
  simp [hw, hl, hp]
def smB (d : D) : Bool := match d with
  | .str x => !(Builtin.Str.occurrences ("abcdefghijklmnopqrstuvwxyz" : Str) x 0 ("abcdefghijklmnopqrstuvwxyz" : Str).length 1).isEmpty
  | _ => false
def nmB (s : Str) : Bool := if 1 ≤ (s.length : Int) ∧ (s.length : Int) ≤ 12 then (chars s).all smB else false
theorem sm_map {v : Nat} {e : Ev} (hv : e[v]? = some .no) (s : Str) : lcL [v] (gN v) tT (shF (binF inD (eV v) (eC (.str "abcdefghijklmnopqrstuvwxyz")))) (chars s) e = .ok ((chars s).map fun d => .bl (smB d)) e := by
  have hlt : v < e.length := (List.getElem?_eq_some_iff.mp hv).1
  refine lc_bool hv _ fun d hd => ?_
  unfold chars at hd
  obtain ⟨c, _, rfl⟩ := List.mem_map.mp hd
  have hi : inD (.str ⟨#[c]⟩) (.str "abcdefghijklmnopqrstuvwxyz") = some (.val (.bl (smB (.str ⟨#[c]⟩)))) := rfl
  simp [hlt, hi]
theorem run_name {s : Str} {n : Nat} (hs : As n s) (hn : n ≤ 1000) : dis_name [.val (.str s)] = .ok (.val (.bl (nmB s))) [.val (.str s), .no] := by
  have hl := hs.len (by omega)
  have h1 : lenD (.str s) = some (.val (.int s.length)) := by
    show (if s.length ≤ sizeLine then some (W.val (.int s.length)) else none) = _
    rw [if_pos hl]
  have hm := sm_map (v := 1) (e := [.val (.str s), .no]) rfl s
  have ha := all_map smB (chars s)
  unfold dis_name nmB
  by_cases h2 : (1 : Int) ≤ s.length
  · by_cases h3 : (s.length : Int) ≤ 12
    · simp [h1, h2, h3, seqD, hl, hm, ha]
    · simp [h1, h2, h3]
  · simp [h1, h2]
end

/-! numbers in words -/
def fgB (d : D) : Bool := match d with
  | .str x => !(Builtin.Str.occurrences ("0123456789" : Str) x 0 ("0123456789" : Str).length 1).isEmpty
  | _ => false
def L100 : List D := (List.range 100).map fun (i : Nat) => D.str (toString (i : Int))
theorem len_str {s : Str} (h : s.length ≤ sizeLine) : lenD (.str s) = some (.val (.int s.length)) := by
  show (if s.length ≤ sizeLine then some (W.val (.int s.length)) else none) = _
  rw [if_pos h]
theorem l100_run (e0 : Sl) : lcF [1] (rngF (aV (shF (eC (.int 100))) aNil)) (gN 1) tT (shF (c1F strD (eV 1))) [e0, .no] = .ok (.own (.lst L100)) [e0, .no] := by
  have hr : rngF (aV (shF (eC (.int 100))) aNil) [e0, .no] = .ok ((List.range 100).map fun (i : Nat) => D.int (0 + i)) [e0, .no] := by
    have : (100 : Int) ≤ sizeLine := by rw [sizeLine_eq]; decide
    unfold rngF
    simp [this]
  have hm := lcL_map (vs := [1]) (g := gN 1) (fe := shF (c1F strD (eV 1))) (e := [e0, .no]) (fun d => match d with
    | .int i => .str (toString i)
    | d => d) ((List.range 100).map fun (i : Nat) => D.int (0 + i)) (fun d hd => by
      obtain ⟨i, hi, rfl⟩ := List.mem_map.mp hd
      have hi := List.mem_range.mp hi
      have hl : (0 + (i : Int)).natAbs.log2 < 1920 := by
        have : (0 + (i : Int)).natAbs < 2 ^ 1919 := Nat.lt_of_lt_of_le (show (0 + (i : Int)).natAbs < 2 ^ 7 by omega) (Nat.pow_le_pow_right (by decide) (by decide))
        by_cases h0 : (0 + (i : Int)).natAbs = 0
        · rw [h0]; decide
        · have := (Nat.log2_lt h0).mpr this
          omega
      have hs : strD (.int (0 + i)) = some (.val (.str (toString (0 + (i : Int))))) := by
        show (if (0 + (i : Int)).natAbs.log2 < 1920 then some (W.val (.str (toString (0 + (i : Int))))) else none) = _
        rw [if_pos hl]
      refine ⟨[e0, .val (.int (0 + i))], [e0, .val (.int (0 + i))], by simp, ?_, by simp⟩
      simp only [Int.zero_add] at hs ⊢
      simp [hs])
  have hl : L100 = ((List.range 100).map fun (i : Nat) => D.int (0 + i)).map (fun d => match d with
    | .int i => .str (toString i)
    | d => d) := by
    unfold L100
    rw [List.map_map]
    apply List.map_congr_left
    intro i _
    simp
  rw [x_lcF, hr]
  rw [← hl] at hm
  simp only [Int.zero_add] at hm ⊢
  simp [hm]

def L100V : List V := (List.range 100).map fun (i : Nat) => V.str (toString (i : Int))
theorem l100_flat : flatL L100 = some L100V := by kernel_rfl
theorem l100_len : (L100V.all fun v => match v with
    | .str x => decide (x.length ≤ 2)
    | _ => false) = true := by kernel_rfl
theorem l100_not {s : Str} (h : 2 < s.length) : inD (.str s) (.lst L100) = some (.val (.bl false)) := by
  have e : inD (.str s) (.lst L100) = ((inB (.str s) L100).orElse fun _ => inPy (.str s) L100).map fun b => .val (.bl b) := rfl
  have h1 : inV (.str s) L100V = false := by
    unfold inV
    rw [List.any_eq_false]
    intro v hv
    have := List.all_eq_true.mp l100_len v hv
    cases v with
    | str x =>
      have hx : x.length ≤ 2 := of_decide_eq_true this
      have : s ≠ x := fun e => by subst e; omega
      have : x ≠ s := fun e => by subst e; omega
      simp [eqV, *]
    | _ => cases this
  have h2 : inB (.str s) L100 = some false := by
    unfold inB
    rw [l100_flat]
    show some (inV (.str s) L100V) = _
    rw [h1]
  rw [e, h2]; rfl
theorem num_long {s : Str} {n : Nat} (hs : As n s) (hn : n ≤ 1000) (h : 2 < s.length) : dnumber_in [.val (.str s)] = .ok (.val .non) [.val (.str s), .no] ∧ dL_number_of [.val (.str s)] = .ok (.val .non) [.val (.str s), .no] := by
  have hl := hs.len (by omega)
  have h1 := len_str hl
  have h2 : (1 : Int) ≤ s.length := by omega
  have h3 : ¬ (s.length : Int) ≤ 2 := by omega
  constructor
  · unfold dnumber_in
    simp [h1, h2, h3]
  · have hm := l100_run (.val (.str s))
    have hi := l100_not h
    have e : dL_number_of = runF 1 2 (sRet (vF (ifV (blF (binF inD (eV 0) (lcF [1] (rngF (aV (shF (eC (.int 100))) aNil)) (gN 1) tT (shF (c1F strD (eV 1)))))) (shF (c1F intD (eV 0))) (shF (eC .non))))) := rfl
    rw [e]
    simp [hm, hi, -x_lcF]
def chkN (s : Str) : Bool := match dnumber_in [.val (.str s)], dL_number_of [.val (.str s)] with
  | .ok (.val .non) (.val (.str a) :: _), .ok (.val .non) (.val (.str b) :: _) => a == s && b == s
  | .ok (.val (.int i)) (.val (.str a) :: _), .ok (.val (.int j)) (.val (.str b) :: _) => a == s && (b == s && (i == j && decide (0 ≤ i ∧ i < 1000)))
  | _, _ => false
theorem chkN_ok {s : Str} (h : chkN s = true) : ∃ d r1 r2, dnumber_in [.val (.str s)] = .ok (.val d) (.val (.str s) :: r1) ∧ dL_number_of [.val (.str s)] = .ok (.val d) (.val (.str s) :: r2) ∧ ∃ k, fitD 1 d = some k ∧ k ≤ 1000 := by
  unfold chkN at h
  split at h
  · rename_i a r1 b r2 h1 h2
    obtain ⟨q1, q2⟩ := He.ba h
    have e1 : a = s := by simpa using q1
    have e2 : b = s := by simpa using q2
    subst e1
    exact ⟨.non, r1, r2, h1, by rw [h2, e2], 8, rfl, by decide⟩
  · rename_i i a r1 j b r2 h1 h2
    obtain ⟨q1, q⟩ := He.ba h
    obtain ⟨q2, q⟩ := He.ba q
    obtain ⟨q3, q4⟩ := He.ba q
    have e1 : a = s := by simpa using q1
    have e2 : b = s := by simpa using q2
    have e3 : i = j := by simpa using q3
    have e4 := of_decide_eq_true q4
    subst e1 e3
    have hl10 : i.natAbs.log2 < 10 := by
      by_cases h0 : i.natAbs = 0
      · rw [h0]; decide
      · exact (Nat.log2_lt h0 (k := 10)).mpr (by omega)
    have hl : i.natAbs.log2 < 1920 := by omega
    refine ⟨.int i, r1, r2, h1, by rw [h2, e2], i.natAbs.log2 + 8, ?_, by omega⟩
    show (if i.natAbs.log2 < 1920 then some (i.natAbs.log2 + 8) else none) = _
    rw [if_pos hl]
  · cases h
def alph : List Nat := [97, 107, 122, 57, 48, 49, 66]
def W2 : List Str := ⟨#[]⟩ :: (alph.map (fun a => (⟨#[a]⟩ : Str)) ++ alph.flatMap fun a => alph.map fun b => (⟨#[a, b]⟩ : Str))
theorem W2_ok : W2.all chkN = true := by kernel_rfl
theorem num_eq {ls : List Str} (hl : ls.length ≤ 14) (hx : ∀ x ∈ ls, x ∈ cs2) : ∃ d r1 r2, dnumber_in [.val (.str (Txt.join "" ls))] = .ok (.val d) (.val (.str (Txt.join "" ls)) :: r1) ∧ dL_number_of [.val (.str (Txt.join "" ls))] = .ok (.val d) (.val (.str (Txt.join "" ls)) :: r2) ∧ ∃ k, fitD 1 d = some k ∧ k ≤ 1000 := by
  have hc : ∀ c ∈ (Txt.join "" ls).cps.toList, c ∈ alph := fun c hc => by
    rw [join_empty] at hc
    obtain ⟨p, hp, hc⟩ := List.mem_flatMap.mp hc
    have : cs2.all (fun s => s.cps.toList.all fun c => alph.contains c) = true := by decide +kernel
    have := List.all_eq_true.mp (List.all_eq_true.mp this p (hx p hp)) c hc
    simpa using this
  have has : ∀ p ∈ ls, As 1 p := fun p hp => by
    have : cs2.all (fun s => decide (s.length ≤ 1) && s.cps.toList.all (· < 128)) = true := by decide +kernel
    have := List.all_eq_true.mp this p (hx p hp)
    simp only [Bool.and_eq_true, decide_eq_true_eq, List.all_eq_true] at this
    exact ⟨this.1, this.2⟩
  have hs := join_as has hl
  generalize Txt.join "" ls = s at hc hs
  by_cases h : 2 < s.length
  · obtain ⟨h1, h2⟩ := num_long hs (by decide) h
    exact ⟨.non, _, _, h1, h2, 8, rfl, by decide⟩
  · have : s ∈ W2 := by
      obtain ⟨⟨l⟩⟩ := s
      have hl : l.length ≤ 2 := by
        have : (⟨⟨l⟩⟩ : Str).length = l.length := rfl
        omega
      match l, hl, hc with
      | [], _, _ => exact List.mem_cons_self
      | [a], _, hc =>
        refine List.mem_cons_of_mem _ (List.mem_append_left _ (List.mem_map.mpr ⟨a, hc a (by simp), rfl⟩))
      | [a, b], _, hc =>
        refine List.mem_cons_of_mem _ (List.mem_append_right _ (List.mem_flatMap.mpr ⟨a, hc a (by simp), List.mem_map.mpr ⟨b, hc b (by simp), rfl⟩⟩))
      | _ :: _ :: _ :: _, hl, _ => simp at hl
    exact chkN_ok (List.all_eq_true.mp W2_ok s this)

section
variable {a0 a2 a3 a5 a6 a7 a8 a9 a10 a11 a12 a13 : Sl}
theorem h3_run {l : List D} {s : Str} {s4 s6 s7 : Sl} {n : Nat} (hs : As n s) (hn : n ≤ 1000) (h6 : Fr2 s6) (h7 : FrP s7) : h3 [a0, .own false (.lst l), a2, a3, s4, .val (.str s), s6, s7, a8, a9, a10, a11, a12, a13] = .ok .next [a0, .own false (.lst l), a2, a3, s4, .val (.str s), .val (.bl (nmB s)), s7, a8, a9, a10, a11, a12, a13] := by
  have hl := hs.len (by omega)
  have h1 := len_str hl
  have hm := sm_map (v := 7) (e := [a0, .own false (.lst l), a2, a3, s4, .val (.str s), s6, .no, a8, a9, a10, a11, a12, a13]) rfl s
  have ha := all_map smB (chars s)
  unfold h3 nmB
  by_cases h2 : (1 : Int) ≤ s.length
  · by_cases h3 : (s.length : Int) ≤ 12
    · rcases h7 with rfl | ⟨d, rfl⟩ <;> simp [h1, h2, h3, seqD, hl, hm, ha, h6]
    · simp [h1, h2, h3, h6]
  · simp [h1, h2, h6]
theorem h4_run {l : List D} {ls : List Str} {s4 : Sl} (hl : ls.length ≤ 14) (hx : ∀ x ∈ ls, x ∈ cs2) (hs : As 14 (Txt.join "" ls)) : h4 [a0, .own false (.lst l), a2, a3, s4, .val (.str (Txt.join "" ls)), .val (.bl (nmB (Txt.join "" ls))), a7, a8, a9, a10, a11, a12, a13] =
    .ok .next [a0, .own false (.lst l), a2, a3, s4, .val (.str (Txt.join "" ls)), .val (.bl (nmB (Txt.join "" ls))), a7, a8, a9, a10, a11, a12, a13] := by
  obtain ⟨d, r1, r2, n1, n2, k, hk, hk2⟩ := num_eq hl hx
  have hn := run_name hs (by decide)
  generalize Txt.join "" ls = s at *
  generalize nmB s = b at *
  have hf : fitD 2 (.lst [.bl b, d]) = some (8 + 2 + (k + 2 + 0) + 8) := by
    show (match fitD 1 (D.bl b), (match fitD 1 d, fitL 1 [] with
      | some a, some b => some (a + 2 + b)
      | _, _ => none) with
      | some a, some b => some (a + 2 + b)
      | _, _ => none).map (· + 8) = _
    rw [hk]; rfl
  obtain ⟨p, _, hp⟩ := rep_ok hf (by decide) (by omega)
  have hsz : 2 ≤ sizeLine := by rw [sizeLine_eq]; decide
  have e : h4 = sIf (blF (binF neD (c1F reprD (lstF (aV (shF (apF dis_name (aN 5 aNil))) (aV (shF (apF dnumber_in (aN 5 aNil))) aNil)))) (c1F reprD (lstF (aV (shF (eV 6)) (aV (shF (apF dL_number_of (aN 5 aNil))) aNil)))))) (sRet (eC (.bl false))) sNext := rfl
  rw [e]
  simp [hn, n1, n2, hp, hsz]
/-- the first loop -/
theorem g3_run {l : List D} (h : Dr l) : ∃ e', g3 [a0, .own false (.lst l), .no, .no, .no, .no, .no, .no, .no, .no, .no, .no, .no, .no] = .ok .next e' ∧ ∃ l' s2 s3 s4 s5 s6 s7, e' = [a0, .own false (.lst l'), s2, s3, s4, s5, s6, s7, .no, .no, .no, .no, .no, .no] ∧ Dr l' ∧ FrP s2 ∧ FrP s5 := by
  obtain ⟨e', he, hr⟩ := forL_brk (k := turnF (gN 2) (sSeq h0 (sSeq h1 (sSeq h2 (sSeq h3 h4))))) (fun _ e => ∃ l' s2 s3 s4 s5 s6 s7, e = [a0, .own false (.lst l'), s2, s3, s4, s5, s6, s7, .no, .no, .no, .no, .no, .no] ∧ Dr l' ∧ FrP s2 ∧ FrP s3 ∧ FrP s4 ∧ FrP s5 ∧ FrP s6 ∧ FrP s7)
    (fun e => ∃ l' s2 s3 s4 s5 s6 s7, e = [a0, .own false (.lst l'), s2, s3, s4, s5, s6, s7, .no, .no, .no, .no, .no, .no] ∧ Dr l' ∧ FrP s2 ∧ FrP s5) 6 ((List.range 6).map fun (i : Nat) => D.int (0 + i)) 0 [a0, .own false (.lst l), .no, .no, .no, .no, .no, .no, .no, .no, .no, .no, .no, .no] (by simp) ⟨l, _, _, _, _, _, _, rfl, h, .inl rfl, .inl rfl, .inl rfl, .inl rfl, .inl rfl, .inl rfl⟩ (by
      rintro i d e hi hd ⟨l, s2, s3, s4, s5, s6, s7, rfl, k1, k2, k3, k4, k5, k6, k7⟩
      have fr : ∀ {s : Sl}, FrP s → Fr2 s := fun h => by rcases h with rfl | ⟨d, rfl⟩ <;> rfl
      obtain ⟨s, l1, q1, q2, q3⟩ := h0_run (a0 := a0) (a2 := .val d) (a5 := s5) (a6 := s6) (a7 := s7) (a8 := .no) (a9 := .no) (a10 := .no) (a11 := .no) (a12 := .no) (a13 := .no) k1 (fr k3) k4
      have q4 := h1_run (a0 := a0) (a2 := .val d) (a5 := s5) (a6 := s6) (a7 := s7) (a8 := .no) (a9 := .no) (a10 := .no) (a11 := .no) (a12 := .no) (a13 := .no) (l := l1) (s4 := s4) q3
      obtain ⟨ls, l2, q5, q6, q7, q8⟩ := h2_run (a0 := a0) (a2 := .val d) (a3 := .val (.str s)) (a6 := s6) (a7 := s7) (a8 := .no) (a9 := .no) (a10 := .no) (a11 := .no) (a12 := .no) (a13 := .no) q2 (fr k5) k4
      have has : As 14 (Txt.join "" ls) := join_as (n := 1) (fun p hp => by
        have : cs2.all (fun s => decide (s.length ≤ 1) && s.cps.toList.all (· < 128)) = true := by decide +kernel
        have := List.all_eq_true.mp this p (q8 p hp)
        simp only [Bool.and_eq_true, decide_eq_true_eq, List.all_eq_true] at this
        exact ⟨this.1, this.2⟩) q7
      have q9 := h3_run (a0 := a0) (a2 := .val d) (a3 := .val (.str s)) (a8 := .no) (a9 := .no) (a10 := .no) (a11 := .no) (a12 := .no) (a13 := .no) (l := l2) (s4 := s4) has (by decide) (fr k6) k7
      have q10 := h4_run (a0 := a0) (a2 := .val d) (a3 := .val (.str s)) (a7 := s7) (a8 := .no) (a9 := .no) (a10 := .no) (a11 := .no) (a12 := .no) (a13 := .no) (l := l2) (s4 := s4) q7 q8 has
      refine ⟨_, .inl ⟨.inl ?_, l2, .val d, .val (.str s), s4, .val (.str (Txt.join "" ls)), .val (.bl (nmB (Txt.join "" ls))), s7, rfl, q6, .inr ⟨_, rfl⟩, .inr ⟨_, rfl⟩, k4, .inr ⟨_, rfl⟩, .inr ⟨_, rfl⟩, k7⟩⟩
      simp [fr k2, q1, q4, q5, q9, q10]) (by
      rintro e ⟨l, s2, s3, s4, s5, s6, s7, rfl, k1, k2, k3, k4, k5, k6, k7⟩
      exact ⟨l, s2, s3, s4, s5, s6, s7, rfl, k1, k2, k5⟩)
  refine ⟨e', ?_, hr⟩
  have hrng : ∀ e : Ev, rngF (aV (shF (eC (.int 6))) aNil) e = .ok ((List.range 6).map fun (i : Nat) => D.int (0 + i)) e := fun e => by
    have : (6 : Int) ≤ sizeLine := by rw [sizeLine_eq]; decide
    unfold rngF
    simp [this]
  rw [g3_parts, x_sFor, hrng]
  exact he
end
section
variable {a0 a1 a2 a3 a4 a5 a6 a7 a8 a9 a10 a11 a12 a13 : Sl}
theorem g4_run (h : FrP a5) : g4 [a0, a1, a2, a3, a4, a5, a6, a7, a8, a9, a10, a11, a12, a13] = .ok .next [a0, a1, a2, a3, a4, a5, a6, a7, a8, a9, a10, a11, a12, a13] := by
  rcases h with rfl | ⟨d, rfl⟩
  · kernel_rfl
  · kernel_rfl
def T0 : List D := [.tup [.int 2, .tup [.tup [.int 0, .int 1, .int 4], .tup [.int 1, .int 0, .int 2]]], .tup [.tup [.tup [.int 5, .int 9]], .tup [.int 1, .int 1], .int 1], .tup [.tup [.int 1, .int 2], .tup [.int 3]], .tup [.int 0, .int 1, .int 1], .tup [.tup [], .tup [.tup [.int 1]]], .tup []]
theorem g5_run : g5 [a0, a1, a2, a3, a4, a5, a6, a7, .no, a9, a10, a11, a12, a13] = .ok .next [a0, a1, a2, a3, a4, a5, a6, a7, .own false (.lst T0), a9, a10, a11, a12, a13] := by kernel_rfl
theorem g7_run : ∃ e, g7 [a0, a1, a2, a3, a4, a5, a6, a7, a8, a9, a10, a11, .no, .no] = .ok .next e := ⟨[a0, a1, a2, a3, a4, a5, a6, a7, a8, a9, a10, a11, .val (.str "term"), .no], by kernel_rfl⟩
end

/-! forms -/
def Pl (k : Nat) : Nat → D → Prop
  | _, .non => True
  | _, .bl _ => True
  | _, .int i => i.natAbs ≤ 1000
  | _, .str x => x.cps.all (· < 0x110000) = true
  | 0, .tup xs => xs = []
  | n + 1, .tup xs => xs.length ≤ k ∧ ∀ x ∈ xs, Pl k n x
  | _, _ => False
def isI : D → Bool
  | .int _ => true
  | .bl _ => true
  | _ => false
def tupQ : D → Bool
  | .tup _ => true
  | _ => false
theorem isi_int {k n : Nat} {d : D} (h : Pl k n d) : isiD [d, .ty "int"] = some (.val (.bl (isI d))) := by
  cases d with
  | non => kernel_rfl
  | bl b => kernel_rfl
  | int b => kernel_rfl
  | str b => kernel_rfl
  | tup b => kernel_rfl
  | _ => cases n <;> exact h.elim
theorem isi_tup {k n : Nat} {d : D} (h : Pl k n d) : isiD [d, .ty "tuple"] = some (.val (.bl (tupQ d))) := by
  cases d with
  | non => kernel_rfl
  | bl b => kernel_rfl
  | int b => kernel_rfl
  | str b => kernel_rfl
  | tup b => kernel_rfl
  | _ => cases n <;> exact h.elim
theorem Pl.sub {k n : Nat} {xs : List D} (h : Pl k n (.tup xs)) : ∀ x ∈ xs, ∃ m, Pl k m x := fun x hx => by
  cases n with
  | zero => have h : xs = [] := h; subst h; cases hx
  | succ n => exact ⟨n, h.2 x hx⟩
def rowB : D → Bool
  | .tup xs => xs.all isI
  | _ => false
def pairsB : D → Bool
  | .tup xs => xs.all rowB
  | _ => false
theorem run_int {k n : Nat} {d : D} (h : Pl k n d) : dis_integer [.val d] = .ok (.val (.bl (isI d))) [.val d] := by
  have hi := isi_int h
  unfold dis_integer
  simp [hi]
theorem run_row {k n : Nat} {d : D} (h : Pl k n d) : dis_row [.val d] = .ok (.val (.bl (rowB d))) [.val d, .no] := by
  have ht := isi_tup h
  unfold dis_row
  cases d with
  | tup xs =>
    have hm := lc_bool (v := 1) (e := [.val (.tup xs), .no]) (fe := shF (apF dis_integer (aN 1 aNil))) (f := isI) rfl xs (fun x hx => by
      obtain ⟨m, hp⟩ := h.sub x hx
      have := run_int hp
      simp [this])
    have ha := all_map isI xs
    have ht : isiD [.tup xs, .ty "tuple"] = some (.val (.bl true)) := ht
    simp [ht, hm, ha, rowB]
  | non => have ht : isiD [.non, .ty "tuple"] = some (.val (.bl false)) := ht; simp [ht, rowB]
  | bl b => have ht : isiD [.bl b, .ty "tuple"] = some (.val (.bl false)) := ht; simp [ht, rowB]
  | int b => have ht : isiD [.int b, .ty "tuple"] = some (.val (.bl false)) := ht; simp [ht, rowB]
  | str b => have ht : isiD [.str b, .ty "tuple"] = some (.val (.bl false)) := ht; simp [ht, rowB]
  | _ => cases n <;> exact h.elim
theorem run_Lrow {k n : Nat} {d : D} (h : Pl k n d) : dL_is_row [.val d] = .ok (.val (.bl (rowB d))) [.val d, .no] := by
  have ht := isi_tup h
  unfold dL_is_row
  cases d with
  | tup xs =>
    have hm := lc_bool (v := 1) (e := [.val (.tup xs), .no]) (fe := shF (cnF isiD (aV (shF (eV 1)) (aV (shF (eC (.ty "int"))) aNil)))) (f := isI) rfl xs (fun x hx => by
      obtain ⟨m, hp⟩ := h.sub x hx
      have := isi_int hp
      simp [this])
    have ha := all_map isI xs
    have ht : isiD [.tup xs, .ty "tuple"] = some (.val (.bl true)) := ht
    simp [ht, hm, ha, rowB]
  | non => have ht : isiD [.non, .ty "tuple"] = some (.val (.bl false)) := ht; simp [ht, rowB]
  | bl b => have ht : isiD [.bl b, .ty "tuple"] = some (.val (.bl false)) := ht; simp [ht, rowB]
  | int b => have ht : isiD [.int b, .ty "tuple"] = some (.val (.bl false)) := ht; simp [ht, rowB]
  | str b => have ht : isiD [.str b, .ty "tuple"] = some (.val (.bl false)) := ht; simp [ht, rowB]
  | _ => cases n <;> exact h.elim
theorem run_pairs {k n : Nat} {d : D} (h : Pl k n d) : dare_pairs [.val d] = .ok (.val (.bl (pairsB d))) [.val d, .no] := by
  have ht := isi_tup h
  unfold dare_pairs
  cases d with
  | tup xs =>
    have hm := lc_bool (v := 1) (e := [.val (.tup xs), .no]) (fe := shF (apF dis_row (aN 1 aNil))) (f := rowB) rfl xs (fun x hx => by
      obtain ⟨m, hp⟩ := h.sub x hx
      have := run_row hp
      simp [this])
    have ha := all_map rowB xs
    have ht : isiD [.tup xs, .ty "tuple"] = some (.val (.bl true)) := ht
    simp [ht, hm, ha, pairsB]
  | non => have ht : isiD [.non, .ty "tuple"] = some (.val (.bl false)) := ht; simp [ht, pairsB]
  | bl b => have ht : isiD [.bl b, .ty "tuple"] = some (.val (.bl false)) := ht; simp [ht, pairsB]
  | int b => have ht : isiD [.int b, .ty "tuple"] = some (.val (.bl false)) := ht; simp [ht, pairsB]
  | str b => have ht : isiD [.str b, .ty "tuple"] = some (.val (.bl false)) := ht; simp [ht, pairsB]
  | _ => cases n <;> exact h.elim
theorem run_Lpairs {k n : Nat} {d : D} (h : Pl k n d) : dL_are_pairs [.val d] = .ok (.val (.bl (pairsB d))) [.val d, .no] := by
  have ht := isi_tup h
  unfold dL_are_pairs
  cases d with
  | tup xs =>
    have hm := lc_bool (v := 1) (e := [.val (.tup xs), .no]) (fe := shF (apF dL_is_row (aN 1 aNil))) (f := rowB) rfl xs (fun x hx => by
      obtain ⟨m, hp⟩ := h.sub x hx
      have := run_Lrow hp
      simp [this])
    have ha := all_map rowB xs
    have ht : isiD [.tup xs, .ty "tuple"] = some (.val (.bl true)) := ht
    simp [ht, hm, ha, pairsB]
  | non => have ht : isiD [.non, .ty "tuple"] = some (.val (.bl false)) := ht; simp [ht, pairsB]
  | bl b => have ht : isiD [.bl b, .ty "tuple"] = some (.val (.bl false)) := ht; simp [ht, pairsB]
  | int b => have ht : isiD [.int b, .ty "tuple"] = some (.val (.bl false)) := ht; simp [ht, pairsB]
  | str b => have ht : isiD [.str b, .ty "tuple"] = some (.val (.bl false)) := ht; simp [ht, pairsB]
  | _ => cases n <;> exact h.elim

def tbB : D → Bool
  | .tup [a, b] => isI a && pairsB b
  | _ => false
def ttB : D → Bool
  | .tup [a, b, c] => pairsB a && (rowB b && isI c)
  | _ => false
@[simp] theorem x_lenT (xs : List D) : lenD (.tup xs) = some (.val (.int xs.length)) := rfl
theorem len_ne (a b c : D) (r : List D) : ((a :: b :: c :: r).length : Int) ≠ 2 := by simp; omega
theorem run_tb {k n : Nat} {d : D} (h : Pl k n d) : dis_told_bounds [.val d] = .ok (.val (.bl (tbB d))) [.val d] := by
  have ht := isi_tup h
  unfold dis_told_bounds
  cases d with
  | tup xs =>
    have ht : isiD [.tup xs, .ty "tuple"] = some (.val (.bl true)) := ht
    match xs, h, ht with
    | [], _, ht => simp [ht, tbB]
    | [a], _, ht => simp [ht, tbB]
    | [a, b], h, ht =>
      obtain ⟨m1, h1⟩ := h.sub a (by simp)
      obtain ⟨m2, h2⟩ := h.sub b (by simp)
      have r1 := run_int h1
      have r2 := run_pairs h2
      have i0 : ixD (.tup [a, b]) (.int 0) = some (.val a) := rfl
      have i1 : ixD (.tup [a, b]) (.int 1) = some (.val b) := rfl
      cases hA : isI a with
      | false => rw [hA] at r1; simp [ht, i0, r1, tbB, hA]
      | true => rw [hA] at r1; simp [ht, i0, i1, r1, r2, tbB, hA]
    | a :: b :: c :: r, _, ht =>
      have : ((r.length : Int) + 1 + 1 + 1 == 2) = false := beq_eq_false_iff_ne.mpr (by omega)
      simp [ht, tbB, this]
  | non => have ht : isiD [.non, .ty "tuple"] = some (.val (.bl false)) := ht; simp [ht, tbB]
  | bl b => have ht : isiD [.bl b, .ty "tuple"] = some (.val (.bl false)) := ht; simp [ht, tbB]
  | int b => have ht : isiD [.int b, .ty "tuple"] = some (.val (.bl false)) := ht; simp [ht, tbB]
  | str b => have ht : isiD [.str b, .ty "tuple"] = some (.val (.bl false)) := ht; simp [ht, tbB]
  | _ => cases n <;> exact h.elim
theorem run_tt {k n : Nat} {d : D} (h : Pl k n d) : dis_told_tannery [.val d] = .ok (.val (.bl (ttB d))) [.val d] := by
  have ht := isi_tup h
  unfold dis_told_tannery
  cases d with
  | tup xs =>
    have ht : isiD [.tup xs, .ty "tuple"] = some (.val (.bl true)) := ht
    match xs, h, ht with
    | [], _, ht => simp [ht, ttB]
    | [a], _, ht => simp [ht, ttB]
    | [a, b], _, ht => simp [ht, ttB]
    | [a, b, c], h, ht =>
      obtain ⟨m1, h1⟩ := h.sub a (by simp)
      obtain ⟨m2, h2⟩ := h.sub b (by simp)
      obtain ⟨m3, h3⟩ := h.sub c (by simp)
      have r1 := run_pairs h1
      have r2 := run_row h2
      have r3 := run_int h3
      have i0 : ixD (.tup [a, b, c]) (.int 0) = some (.val a) := rfl
      have i1 : ixD (.tup [a, b, c]) (.int 1) = some (.val b) := rfl
      have i2 : ixD (.tup [a, b, c]) (.int 2) = some (.val c) := rfl
      cases hA : pairsB a with
      | false => rw [hA] at r1; simp [ht, i0, r1, ttB, hA]
      | true =>
        rw [hA] at r1
        cases hB : rowB b with
        | false => rw [hB] at r2; simp [ht, i0, i1, r1, r2, ttB, hA, hB]
        | true => rw [hB] at r2; simp [ht, i0, i1, i2, r1, r2, r3, ttB, hA, hB]
    | a :: b :: c :: e :: r, _, ht =>
      have : ((r.length : Int) + 1 + 1 + 1 + 1 == 3) = false := beq_eq_false_iff_ne.mpr (by omega)
      have q : ((r.length : Int) + 1 + 1 + 1 + 1 = 3) = False := eq_false (by omega)
      simp [ht, ttB, this, q]
  | non => have ht : isiD [.non, .ty "tuple"] = some (.val (.bl false)) := ht; simp [ht, ttB]
  | bl b => have ht : isiD [.bl b, .ty "tuple"] = some (.val (.bl false)) := ht; simp [ht, ttB]
  | int b => have ht : isiD [.int b, .ty "tuple"] = some (.val (.bl false)) := ht; simp [ht, ttB]
  | str b => have ht : isiD [.str b, .ty "tuple"] = some (.val (.bl false)) := ht; simp [ht, ttB]
  | _ => cases n <;> exact h.elim
def dueB (z : Str) (d : D) : Bool := if z = "row" then rowB d else if z = "rows" then pairsB d else if z = "bounds" then tbB d else ttB d
def kinds4 : List Str := ["bounds", "tannery", "rows", "row"]
theorem run_has {k n : Nat} {d : D} (h : Pl k n d) : ∀ z ∈ kinds4, ∃ r, dhas_form [.val (.str z), .val d] = .ok (.val (.bl (dueB z d))) (.val (.str z) :: .val d :: r) := by
  have r1 := run_tb h
  have r2 := run_tt h
  have r3 := run_pairs h
  have r4 := run_row h
  intro z hz
  simp only [kinds4, List.mem_cons, List.not_mem_nil, or_false] at hz
  rcases hz with rfl | rfl | rfl | rfl
  · refine ⟨[], ?_⟩
    have e1 : ninL n_FORMS "bounds" = some false := by decide +kernel
    have e2 : tabL t_FORMS "bounds" = some 0 := by decide +kernel
    have e3 : dueB "bounds" d = tbB d := rfl
    rw [e3]
    unfold dhas_form
    simp [e1, e2, r1]
  · refine ⟨[], ?_⟩
    have e1 : ninL n_FORMS "tannery" = some false := by decide +kernel
    have e2 : tabL t_FORMS "tannery" = some 1 := by decide +kernel
    have e3 : dueB "tannery" d = ttB d := rfl
    rw [e3]
    unfold dhas_form
    simp [e1, e2, r2]
  · refine ⟨[], ?_⟩
    have e1 : ninL n_FORMS "rows" = some false := by decide +kernel
    have e2 : tabL t_FORMS "rows" = some 2 := by decide +kernel
    have e3 : dueB "rows" d = pairsB d := rfl
    rw [e3]
    unfold dhas_form
    simp [e1, e2, r3]
  · refine ⟨[], ?_⟩
    have e1 : ninL n_FORMS "row" = some false := by decide +kernel
    have e2 : tabL t_FORMS "row" = some 3 := by decide +kernel
    have e3 : dueB "row" d = rowB d := rfl
    rw [e3]
    unfold dhas_form
    simp [e1, e2, r4]

theorem run_due {k n : Nat} {d : D} (h : Pl k n d) : ∀ z ∈ kinds4, dL_due [.val (.str z), .val d] = .ok (.val (.bl (dueB z d))) [.val (.str z), .val d] := by
  have r3 := run_Lpairs h
  have r4 := run_Lrow h
  have ht := isi_tup h
  have nt : tupQ d = false → tbB d = false ∧ ttB d = false := fun q => by
    cases d with
    | tup xs => cases q
    | _ => exact ⟨rfl, rfl⟩
  intro z hz
  simp only [kinds4, List.mem_cons, List.not_mem_nil, or_false] at hz
  rcases hz with rfl | rfl | rfl | rfl
  · have e3 : dueB "bounds" d = tbB d := rfl
    have c1 : decide (("bounds" : Str) = "row") = false := by decide +kernel
    have c2 : decide (("bounds" : Str) = "rows") = false := by decide +kernel
    rw [e3]
    unfold dL_due
    cases hq : tupQ d with
    | false => rw [hq] at ht; simp [c1, c2, ht, (nt hq).1]
    | true =>
      rw [hq] at ht
      cases d with
      | tup xs =>
        match xs, h, ht with
        | [], _, ht => simp [c1, c2, ht, tbB]
        | [a], _, ht => simp [c1, c2, ht, tbB]
        | [a, b], h, ht =>
          obtain ⟨m1, h1⟩ := h.sub a (by simp)
          obtain ⟨m2, h2⟩ := h.sub b (by simp)
          have q1 := isi_int h1
          have q2 := run_Lpairs h2
          have i0 : ixD (.tup [a, b]) (.int 0) = some (.val a) := rfl
          have i1 : ixD (.tup [a, b]) (.int 1) = some (.val b) := rfl
          cases hA : isI a with
          | false => rw [hA] at q1; simp [c1, c2, ht, i0, q1, tbB, hA]
          | true => rw [hA] at q1; simp [c1, c2, ht, i0, i1, q1, q2, tbB, hA]
        | a :: b :: c :: r, _, ht =>
          have : ((r.length : Int) + 1 + 1 + 1 == 2) = false := beq_eq_false_iff_ne.mpr (by omega)
          simp [c1, c2, ht, tbB, this]
      | _ => cases hq
  · have e3 : dueB "tannery" d = ttB d := rfl
    have c1 : decide (("tannery" : Str) = "row") = false := by decide +kernel
    have c2 : decide (("tannery" : Str) = "rows") = false := by decide +kernel
    have c3 : decide (("tannery" : Str) = "bounds") = false := by decide +kernel
    rw [e3]
    unfold dL_due
    cases hq : tupQ d with
    | false => rw [hq] at ht; simp [c1, c2, ht, (nt hq).2]
    | true =>
      rw [hq] at ht
      cases d with
      | tup xs =>
        match xs, h, ht with
        | [], _, ht => simp [c1, c2, c3, ht, ttB]
        | [a], _, ht => simp [c1, c2, c3, ht, ttB]
        | [a, b], _, ht => simp [c1, c2, c3, ht, ttB]
        | [a, b, c], h, ht =>
          obtain ⟨m1, h1⟩ := h.sub a (by simp)
          obtain ⟨m2, h2⟩ := h.sub b (by simp)
          obtain ⟨m3, h3⟩ := h.sub c (by simp)
          have r1 := run_Lpairs h1
          have r2 := run_Lrow h2
          have r3 := isi_int h3
          have i0 : ixD (.tup [a, b, c]) (.int 0) = some (.val a) := rfl
          have i1 : ixD (.tup [a, b, c]) (.int 1) = some (.val b) := rfl
          have i2 : ixD (.tup [a, b, c]) (.int 2) = some (.val c) := rfl
          cases hA : pairsB a with
          | false => rw [hA] at r1; simp [c1, c2, c3, ht, i0, r1, ttB, hA]
          | true =>
            rw [hA] at r1
            cases hB : rowB b with
            | false => rw [hB] at r2; simp [c1, c2, c3, ht, i0, i1, r1, r2, ttB, hA, hB]
            | true => rw [hB] at r2; simp [c1, c2, c3, ht, i0, i1, i2, r1, r2, r3, ttB, hA, hB]
        | a :: b :: c :: e :: r, _, ht =>
          have : ((r.length : Int) + 1 + 1 + 1 + 1 == 3) = false := beq_eq_false_iff_ne.mpr (by omega)
          simp [c1, c2, c3, ht, ttB, this]
      | _ => cases hq
  · have e3 : dueB "rows" d = pairsB d := rfl
    have c1 : decide (("rows" : Str) = "row") = false := by decide +kernel
    rw [e3]
    unfold dL_due
    simp [c1, r3]
  · have e3 : dueB "row" d = rowB d := rfl
    rw [e3]
    unfold dL_due
    simp [r4]

/-! spoilt terms -/
theorem Pl.mono {k k' : Nat} (hk : k ≤ k') : ∀ {n n' : Nat} {d : D}, n ≤ n' → Pl k n d → Pl k' n' d
  | n, n', .non, _, _ => by cases n' <;> trivial
  | n, n', .bl _, _, _ => by cases n' <;> trivial
  | n, n', .int i, _, h => by
    have h : i.natAbs ≤ 1000 := by cases n <;> exact h
    cases n' <;> exact h
  | n, n', .str x, _, h => by
    have h : x.cps.all (· < 0x110000) = true := by cases n <;> exact h
    cases n' <;> exact h
  | 0, n', .tup xs, _, h => by
    have h : xs = [] := h
    subst h
    cases n' with
    | zero => rfl
    | succ m => exact ⟨Nat.zero_le _, fun x hx => nomatch hx⟩
  | n + 1, 0, .tup xs, hn, _ => by omega
  | n + 1, n' + 1, .tup xs, hn, h => ⟨Nat.le_trans h.1 hk, fun x hx => Pl.mono hk (by omega) (h.2 x hx)⟩
  | n, n', .lst _, _, h => by cases n <;> exact h.elim
  | n, n', .scr _, _, h => by cases n <;> exact h.elim
  | n, n', .dk _ _, _, h => by cases n <;> exact h.elim
  | n, n', .dt _ _, _, h => by cases n <;> exact h.elim
  | n, n', .ref _, _, h => by cases n <;> exact h.elim
  | n, n', .ty _, _, h => by cases n <;> exact h.elim
mutual
theorem pl_fit {k : Nat} : ∀ {n : Nat} {d : D}, Pl k n d → ∃ m, fitD (n + 1) d = some m
  | n, .non, _ => ⟨_, rfl⟩
  | n, .bl _, _ => ⟨_, rfl⟩
  | n, .int i, h => by
    have h : i.natAbs ≤ 1000 := by cases n <;> exact h
    have hl : i.natAbs.log2 < 1920 := by
      by_cases h0 : i.natAbs = 0
      · rw [h0]; decide
      · have := (Nat.log2_lt h0 (k := 10)).mpr (by omega)
        omega
    exact ⟨_, if_pos hl⟩
  | n, .str x, h => by
    have h : x.cps.all (· < 0x110000) = true := by cases n <;> exact h
    exact ⟨_, if_pos h⟩
  | 0, .tup xs, h => by
    have h : xs = [] := h
    subst h
    exact ⟨8, rfl⟩
  | n + 1, .tup xs, h => by
    obtain ⟨m, hm⟩ := pl_fitL h.2
    refine ⟨m + 8, ?_⟩
    show (fitL (n + 1) xs).map (· + 8) = _
    rw [hm]; rfl
  | n, .lst _, h => by cases n <;> exact h.elim
  | n, .scr _, h => by cases n <;> exact h.elim
  | n, .dk _ _, h => by cases n <;> exact h.elim
  | n, .dt _ _, h => by cases n <;> exact h.elim
  | n, .ref _, h => by cases n <;> exact h.elim
  | n, .ty _, h => by cases n <;> exact h.elim
theorem pl_fitL {k : Nat} : ∀ {n : Nat} {ds : List D}, (∀ d ∈ ds, Pl k n d) → ∃ m, fitL (n + 1) ds = some m
  | n, [], _ => ⟨0, rfl⟩
  | n, d :: ds, h => by
    obtain ⟨a, ha⟩ := pl_fit (h d List.mem_cons_self)
    obtain ⟨b, hb⟩ := pl_fitL (ds := ds) fun x hx => h x (List.mem_cons_of_mem _ hx)
    refine ⟨a + 2 + b, ?_⟩
    show (match fitD (n + 1) d, fitL (n + 1) ds with
      | some a, some b => some (a + 2 + b)
      | _, _ => none) = _
    rw [ha, hb]
end
theorem eq_unit {k n : Nat} {xs : List D} (h : Pl k n (.tup xs)) (hn : n ≤ 60) : eqD (.tup xs) (.tup []) = some (.val (.bl xs.isEmpty)) := by
  obtain ⟨m, hm⟩ := pl_fit h
  obtain ⟨p, h1, h2, h3, h4, h5⟩ := fit_ok hm
  have hp : pyOf (.tup xs) = some p := by
    unfold pyOf
    rw [h1]
    have : SeqAt.shaped p = true := by
      unfold SeqAt.shaped
      simp [h2]; omega
    simp [this]
  have hq : pyOf (.tup []) = some (.tuple []) := by kernel_rfl
  have h1 : (toPyL xs).map PyData.tuple = some p := h1
  cases ht : toPyL xs with
  | none => rw [ht] at h1; cases h1
  | some ps =>
    rw [ht] at h1
    cases h1
    have e : eqD (.tup xs) (.tup []) = (match pyOf (.tup xs), pyOf (.tup []) with
      | some p, some q => some (.val (.bl (PyData.eqv p q)))
      | _, _ => none) := rfl
    rw [e, hp, hq]
    cases xs with
    | nil => cases ht; rfl
    | cons x xs =>
      have ht : (match toPy x, toPyL xs with
        | some d, some ds => some (d :: ds)
        | _, _ => none) = some ps := ht
      cases hx : toPy x with
      | none => rw [hx] at ht; cases ht
      | some a =>
        cases hy : toPyL xs with
        | none => rw [hx, hy] at ht; cases ht
        | some as => rw [hx, hy] at ht; cases ht; rfl
theorem cut_sub (xs : List D) (lo hi : Option Int) : (cutD xs lo hi).length ≤ xs.length ∧ ∀ x ∈ cutD xs lo hi, x ∈ xs := by
  unfold cutD
  refine ⟨?_, fun x hx => List.mem_of_mem_drop (List.mem_of_mem_take hx)⟩
  rw [List.length_take, List.length_drop]; omega
def L9 (d : D) : List D := [.non, .str "ada", .str "", .int 5, .tup [], .tup [.int 1], .tup [.tup []], .tup [.str "a"], d]
def L4 : List D := [.tup [.int 0], .tup [.str ""], .tup [.tup []], .non]
theorem str_ok : ∀ x ∈ (["ada", "", "a"] : List Str), x.cps.all (· < 0x110000) = true := by decide +kernel
theorem l9_pl {k n : Nat} {d : D} (h : Pl k n d) : ∀ x ∈ L9 d, Pl (2 * k + 2) (n + 2) x := fun x hx => by
  have s1 := str_ok "ada" (by simp)
  have s2 := str_ok "" (by simp)
  have s3 := str_ok "a" (by simp)
  have k1 : 1 ≤ 2 * k + 2 := by omega
  simp only [L9, List.mem_cons, List.not_mem_nil, or_false] at hx
  rcases hx with rfl | rfl | rfl | rfl | rfl | rfl | rfl | rfl | rfl
  · trivial
  · exact s1
  · exact s2
  · show (5 : Int).natAbs ≤ 1000; decide
  · exact ⟨Nat.zero_le _, fun x hx => nomatch hx⟩
  · exact ⟨k1, fun x hx => by rw [List.mem_singleton] at hx; subst hx; show (1 : Int).natAbs ≤ 1000; decide⟩
  · exact ⟨k1, fun x hx => by rw [List.mem_singleton] at hx; subst hx; exact ⟨Nat.zero_le _, fun x hx => nomatch hx⟩⟩
  · exact ⟨k1, fun x hx => by rw [List.mem_singleton] at hx; subst hx; exact s3⟩
  · exact h.mono (by omega) (by omega)
theorem l4_pl {k n : Nat} : ∀ x ∈ L4, Pl (2 * k + 2) (n + 2) x := fun x hx => by
  have s2 := str_ok "" (by simp)
  have k1 : 1 ≤ 2 * k + 2 := by omega
  simp only [L4, List.mem_cons, List.not_mem_nil, or_false] at hx
  rcases hx with rfl | rfl | rfl | rfl
  · exact ⟨k1, fun x hx => by rw [List.mem_singleton] at hx; subst hx; show (0 : Int).natAbs ≤ 1000; decide⟩
  · exact ⟨k1, fun x hx => by rw [List.mem_singleton] at hx; subst hx; exact s2⟩
  · exact ⟨k1, fun x hx => by rw [List.mem_singleton] at hx; subst hx; exact ⟨Nat.zero_le _, fun x hx => nomatch hx⟩⟩
  · trivial
def fl9 : Ev → R (List Ar) := aV (shF (eC .non)) (aV (shF (eC (.str "ada"))) (aV (shF (eC (.str ""))) (aV (shF (eC (.int 5))) (aV (shF (tupF (aNil))) (aV (shF (tupF (aV (shF (eC (.int 1))) (aNil)))) (aV (shF (tupF (aV (shF (tupF (aNil))) (aNil)))) (aV (shF (tupF (aV (shF (eC (.str "a"))) (aNil)))) (aV (shF (eV 1)) (aNil)))))))))
def fl4 : Ev → R (List Ar) := aV (shF (tupF (aV (shF (eC (.int 0))) (aNil)))) (aV (shF (tupF (aV (shF (eC (.str ""))) (aNil)))) (aV (shF (tupF (aV (shF (tupF (aNil))) (aNil)))) (aV (shF (eC .non)) (aNil))))
theorem fl9_run (s0 : Sl) (d : D) (r : Ev) : fl9 (s0 :: .val d :: r) = .ok ((L9 d).map Ar.v) (s0 :: .val d :: r) := by
  have h0 : 0 ≤ sizeLine := Nat.zero_le _
  have h1 : 1 ≤ sizeLine := by rw [sizeLine_eq]; decide
  unfold fl9 L9
  simp [h1]
theorem fl4_run (e : Ev) : fl4 e = .ok (L4.map Ar.v) e := by
  have h1 : 1 ≤ sizeLine := by rw [sizeLine_eq]; decide
  unfold fl4 L4
  simp [h1]
theorem spoilt_parts (fuel : Nat) : dL_spoilt (fuel + 1) = runF 2 4 (sSeq (sIf (orF (notF (truF (cnF isiD (aV (shF (eV 1)) (aV (shF (eC (.ty "tuple"))) aNil))))) (blF (binF eqD (binF modD (c1F intD (apF cNext (aN 0 aNil))) (eC (.int 6))) (eC (.int 0))))) (sRet (apF cPick (aN 0 (aV (shF (lstF fl9)) aNil)))) sNext)
  (sSeq (sIf (blF (binF eqD (eV 1) (tupF aNil))) (sRet (apF cPick (aN 0 (aV (shF (lstF fl4)) aNil)))) sNext)
  (sSeq (sSet 2 (binF modD (c1F intD (apF cNext (aN 0 aNil))) (c1F lenD (eV 1)))) (sSeq (sSet 3 (binF modD (c1F intD (apF cNext (aN 0 aNil))) (eC (.int 5))))
  (sSeq (sIf (blF (binF eqD (eV 3) (eC (.int 0)))) (sRet (binF addD (slF (eV 1) oN (oS (eV 2))) (slF (eV 1) (oS (binF addD (eV 2) (eC (.int 1)))) oN))) sNext)
  (sRet (vF (ifV (blF (binF eqD (eV 3) (eC (.int 1)))) (shF (binF addD (eV 1) (slF (eV 1) (oS (eV 2)) (oS (binF addD (eV 2) (eC (.int 1))))))) (shF (binF addD (binF addD (slF (eV 1) oN (oS (eV 2))) (tupF (aV (shF (apF (dL_spoilt fuel) (aN 0 (aV (shF (binF ixD (eV 1) (eV 2))) aNil)))) aNil))) (slF (eV 1) (oS (binF addD (eV 2) (eC (.int 1)))) oN))))))))))) := rfl
theorem add_tup {xs ys : List D} (h : xs.length + ys.length ≤ 1000000) : addD (.tup xs) (.tup ys) = some (.val (.tup (xs ++ ys))) := by
  have : xs.length + ys.length ≤ sizeLine := by rw [sizeLine_eq]; omega
  show (if xs.length + ys.length ≤ sizeLine then some (W.val (.tup (xs ++ ys))) else none) = _
  rw [if_pos this]
theorem nxt0 {l : List D} (h : Dr l) (r : Ev) : apF cNext (aN 0 aNil) (.own true (.lst l) :: r) = .ok (.val (.int (nx l))) (.own true (.lst (tl l)) :: r) := by
  have n1 := run_next h true
  simp [n1]
theorem run_spoilt : ∀ (fuel n k : Nat) (d : D) (l : List D), Pl k n d → n < fuel → k ≤ 1000 → n ≤ 50 → Dr l → ∃ d' l' s2 s3, dL_spoilt fuel [.own true (.lst l), .val d] = .ok (.val d') [.own true (.lst l'), .val d, s2, s3] ∧ Dr l' ∧ Pl (2 * k + 2) (n + 2) d'
  | 0, n, k, d, l, _, h, _, _, _ => by omega
  | fuel + 1, n, k, d, l, hp, hf, hk, hn, hd => by
    have hl9 : (L9 d).length ≤ sizeLine := by rw [sizeLine_eq]; simp [L9]
    have hl4 : L4.length ≤ sizeLine := by rw [sizeLine_eq]; decide
    have pick9 : ∀ l, Dr l → ∃ d', d' ∈ L9 d ∧ apF cPick (aN 0 (aV (shF (lstF fl9)) aNil)) [.own true (.lst l), .val d, .no, .no] = .ok (.val d') [.own true (.lst (tl l)), .val d, .no, .no] := fun l hd => by
      obtain ⟨y, hy, hr⟩ := run_pick hd true (xs := L9 d) (by simp [L9]) (by simp [L9])
      refine ⟨y, hy, ?_⟩
      simp [fl9_run, hr, hl9]
    have pick4 : ∀ l, Dr l → ∃ d', d' ∈ L4 ∧ apF cPick (aN 0 (aV (shF (lstF fl4)) aNil)) [.own true (.lst l), .val d, .no, .no] = .ok (.val d') [.own true (.lst (tl l)), .val d, .no, .no] := fun l hd => by
      obtain ⟨y, hy, hr⟩ := run_pick hd true (xs := L4) (by simp [L4]) (by simp [L4])
      refine ⟨y, hy, ?_⟩
      simp [fl4_run, hr, hl4]
    by_cases hq : tupQ d = true
    · cases d with
      | tup xs =>
        have ht : isiD [.tup xs, .ty "tuple"] = some (.val (.bl true)) := isi_tup hp
        have m6 : modD (.int (nx l)) (.int 6) = some (.val (.int (nx l % 6))) := x_modI (by decide)
        by_cases h6 : nx l % 6 = 0
        · obtain ⟨d', hm, hr⟩ := pick9 (tl l) hd.tl
          refine ⟨d', tl (tl l), .no, .no, ?_, hd.tl.tl, l9_pl hp d' hm⟩
          rw [spoilt_parts]
          simp [ht, -x_apF, nxt0 hd, m6, h6, hr]
        · have h6' : (nx l % 6 == 0) = false := beq_eq_false_iff_ne.mpr h6
          have hu := eq_unit hp (by omega)
          cases xs with
          | nil =>
            obtain ⟨d', hm, hr⟩ := pick4 (tl l) hd.tl
            refine ⟨d', tl (tl l), .no, .no, ?_, hd.tl.tl, l4_pl d' hm⟩
            rw [spoilt_parts]
            simp [ht, -x_apF, nxt0 hd, m6, h6', hr, hu]
          | cons x xs0 =>
            cases n with
            | zero => cases (show x :: xs0 = [] from hp)
            | succ n =>
            have hlen := hp.1
            have hsub := hp.2
            have hpos : (0 : Int) < (x :: xs0).length := by rw [List.length_cons]; omega
            have mlen : modD (.int (nx (tl l))) (.int (x :: xs0).length) = some (.val (.int (nx (tl l) % (x :: xs0).length))) := x_modI hpos
            have hat1 := Int.emod_lt_of_pos (nx (tl l)) hpos
            have hat2 := Int.emod_nonneg (nx (tl l)) (show ((x :: xs0).length : Int) ≠ 0 by omega)
            have hu : eqD (.tup (x :: xs0)) (.tup []) = some (.val (.bl false)) := hu
            have hlenD : lenD (.tup (x :: xs0)) = some (.val (.int (x :: xs0).length)) := rfl
            generalize hxs : x :: xs0 = xs at *
            generalize hat : nx (tl l) % (xs.length : Int) = at_ at *
            have m5 : modD (.int (nx (tl (tl l)))) (.int 5) = some (.val (.int (nx (tl (tl l)) % 5))) := x_modI (by decide)
            generalize nx (tl (tl l)) % 5 = kind at *
            have cs1 : ∀ lo hi, slD (.tup xs) lo hi = some (.val (.tup (cutD xs lo hi))) := fun lo hi => rfl
            have hd3 := hd.tl.tl.tl
            have pl_cut : ∀ lo hi, (cutD xs lo hi).length ≤ k ∧ ∀ y ∈ cutD xs lo hi, Pl (2 * k + 2) (n + 2) y := fun lo hi => by
              obtain ⟨c1, c2⟩ := cut_sub xs lo hi
              exact ⟨by omega, fun y hy => (hsub y (c2 y hy)).mono (by omega) (by omega)⟩
            by_cases k0 : kind = 0
            · obtain ⟨a1, a2⟩ := pl_cut none (some at_)
              obtain ⟨b1, b2⟩ := pl_cut (some (at_ + 1)) none
              have ha := add_tup (xs := cutD xs none (some at_)) (ys := cutD xs (some (at_ + 1)) none) (by omega)
              refine ⟨.tup (cutD xs none (some at_) ++ cutD xs (some (at_ + 1)) none), tl (tl (tl l)), .val (.int at_), .val (.int kind), ?_, hd3, ⟨by rw [List.length_append]; omega, fun y hy => ?_⟩⟩
              · rw [spoilt_parts]
                simp [ht, -x_apF, nxt0 hd, nxt0 hd.tl, nxt0 hd.tl.tl, m6, h6', hu, hlenD, mlen, m5, k0, cs1, ha]
              · rcases List.mem_append.mp hy with hy | hy
                · exact a2 y hy
                · exact b2 y hy
            · have k0' : (kind == 0) = false := beq_eq_false_iff_ne.mpr k0
              by_cases k1 : kind = 1
              · obtain ⟨b1, b2⟩ := pl_cut (some at_) (some (at_ + 1))
                have ha := add_tup (xs := xs) (ys := cutD xs (some at_) (some (at_ + 1))) (by omega)
                refine ⟨.tup (xs ++ cutD xs (some at_) (some (at_ + 1))), tl (tl (tl l)), .val (.int at_), .val (.int kind), ?_, hd3, ⟨by rw [List.length_append]; omega, fun y hy => ?_⟩⟩
                · rw [spoilt_parts]
                  simp [ht, -x_apF, nxt0 hd, nxt0 hd.tl, nxt0 hd.tl.tl, m6, h6', hu, hlenD, mlen, m5, k1, cs1, ha]
                · rcases List.mem_append.mp hy with hy | hy
                  · exact (hsub y hy).mono (by omega) (by omega)
                  · exact b2 y hy
              · have k1' : (kind == 1) = false := beq_eq_false_iff_ne.mpr k1
                have hx : at_.toNat < xs.length := by omega
                have hix : ixD (.tup xs) (.int at_) = some (.val xs[at_.toNat]) := by
                  show (atI xs _).map W.val = _
                  unfold atI ixN
                  rw [if_pos hat2, if_pos hat1]
                  simp [hx]
                obtain ⟨d', l', s2, s3, hr, hl', hp'⟩ := run_spoilt fuel n k xs[at_.toNat] (tl (tl (tl l))) (hsub _ (List.getElem_mem hx)) (by omega) hk (by omega) hd3
                obtain ⟨a1, a2⟩ := pl_cut none (some at_)
                obtain ⟨b1, b2⟩ := pl_cut (some (at_ + 1)) none
                have ha := add_tup (xs := cutD xs none (some at_)) (ys := [d']) (by rw [List.length_singleton]; omega)
                have hb := add_tup (xs := cutD xs none (some at_) ++ [d']) (ys := cutD xs (some (at_ + 1)) none) (by rw [List.length_append, List.length_singleton]; omega)
                have h1 : 1 ≤ sizeLine := by rw [sizeLine_eq]; decide
                have hcall : apF (dL_spoilt fuel) (aN 0 (aV (shF (binF ixD (eV 1) (eV 2))) aNil)) [.own true (.lst (tl (tl (tl l)))), .val (.tup xs), .val (.int at_), .val (.int kind)] = .ok (.val d') [.own true (.lst l'), .val (.tup xs), .val (.int at_), .val (.int kind)] := by
                  simp [hix, hr]
                refine ⟨.tup (cutD xs none (some at_) ++ [d'] ++ cutD xs (some (at_ + 1)) none), l', .val (.int at_), .val (.int kind), ?_, hl', ⟨?_, fun y hy => ?_⟩⟩
                · rw [spoilt_parts]
                  simp only [List.append_assoc] at ha hb ⊢
                  simp [ht, -x_apF, nxt0 hd, nxt0 hd.tl, nxt0 hd.tl.tl, m6, h6', hu, hlenD, mlen, m5, k0', k1', cs1, ha, hb, hcall, h1]
                · rw [List.length_append, List.length_append, List.length_singleton]; omega
                · rcases List.mem_append.mp hy with hy | hy
                  · rcases List.mem_append.mp hy with hy | hy
                    · exact a2 y hy
                    · rw [List.mem_singleton] at hy; rw [hy]; exact hp'
                  · exact b2 y hy
      | _ => cases hq
    · have hq : tupQ d = false := by simpa using hq
      have ht := isi_tup hp
      rw [hq] at ht
      obtain ⟨d', hm, hr⟩ := pick9 l hd
      refine ⟨d', tl l, .no, .no, ?_, hd.tl, l9_pl hp d' hm⟩
      rw [spoilt_parts]
      simp [ht, -x_apF, hr]
def ks4 : List D := kinds4.map .str
def gB : Ev → R Fl := sSeq (sSet 10 (lstF (aV (shF (eC (.str "bounds"))) (aV (shF (eC (.str "tannery"))) (aV (shF (eC (.str "rows"))) (aV (shF (eC (.str "row"))) (aNil))))))) (sIf (blF (binF neD (lcF [11] (itF (shF (eV 10))) (gN 11) (tT) (shF (apF dhas_form (aN 11 (aN 9 (aNil)))))) (lcF [11] (itF (shF (eV 10))) (gN 11) (tT) (shF (apF dL_due (aN 11 (aN 9 (aNil)))))))) (sRet (eC (.bl false))) (sNext))
def cSp : Ev → R W := lcF [2] (rngF (aV (shF (eC (.int 12))) (aNil))) (gN 2) (tT) (shF (apF (dL_spoilt 6) (aN 1 (aV (shF (apF cPick (aN 1 (aN 8 (aNil))))) (aNil)))))
def fl6 : Ev → R (List Ar) := aV (shF (tupF (aNil))) (aV (shF (eC .non)) (aV (shF (eC (.str ""))) (aV (shF (eC (.int 0))) (aNil))))
theorem g6_parts : g6 = sFor (itF (shF (binF addD (binF addD (eV 8) cSp) (lstF fl6)))) (gN 9) gB := rfl
def E6 : List D := [.tup [], .non, .str "", .int 0]
def dueD (d : D) (z : D) : Bool := match z with
  | .str z => dueB z d
  | _ => false
section
variable {a0 a1 a2 a3 a4 a5 a6 a7 a8 a12 a13 : Sl}
theorem gB_run {k n : Nat} {d : D} {s10 : Sl} (h : Pl k n d) (h10 : FrP s10) : gB [a0, a1, a2, a3, a4, a5, a6, a7, a8, .val d, s10, .no, a12, a13] = .ok .next [a0, a1, a2, a3, a4, a5, a6, a7, a8, .val d, .val (.lst ks4), .no, a12, a13] := by
  have hm1 := lc_bool (v := 11) (e := [a0, a1, a2, a3, a4, a5, a6, a7, a8, .val d, .val (.lst ks4), .no, a12, a13]) (fe := shF (apF dhas_form (aN 11 (aN 9 aNil)))) (f := dueD d) rfl ks4 (fun x hx => by
    obtain ⟨z, hz, rfl⟩ := List.mem_map.mp hx
    obtain ⟨r, hr⟩ := run_has h z hz
    simp [hr, dueD])
  have hm2 := lc_bool (v := 11) (e := [a0, a1, a2, a3, a4, a5, a6, a7, a8, .val d, .val (.lst ks4), .no, a12, a13]) (fe := shF (apF dL_due (aN 11 (aN 9 aNil)))) (f := dueD d) rfl ks4 (fun x hx => by
    obtain ⟨z, hz, rfl⟩ := List.mem_map.mp hx
    have hr := run_due h z hz
    simp [hr, dueD])
  have hne : neD (.lst (ks4.map fun z => .bl (dueD d z))) (.lst (ks4.map fun z => .bl (dueD d z))) = some (.val (.bl false)) := (ne_self (n := 1) (k := 48) rfl (by decide)).2
  have hsz : 4 ≤ sizeLine := by rw [sizeLine_eq]; decide
  have hk : ks4 = [.str "bounds", .str "tannery", .str "rows", .str "row"] := rfl
  have h1 : sSet 10 (lstF (aV (shF (eC (.str "bounds"))) (aV (shF (eC (.str "tannery"))) (aV (shF (eC (.str "rows"))) (aV (shF (eC (.str "row"))) (aNil)))))) [a0, a1, a2, a3, a4, a5, a6, a7, a8, .val d, s10, .no, a12, a13] = .ok .next [a0, a1, a2, a3, a4, a5, a6, a7, a8, .val d, .own false (.lst ks4), .no, a12, a13] := by
    rw [hk]
    rcases h10 with rfl | ⟨x, rfl⟩ <;> simp [hsz]
  unfold gB
  rw [x_sSeq, h1]
  simp [hm1, hm2, hne]
theorem cSp_run {l : List D} {s2 a9 a10 a11 : Sl} (h : Dr l) (h2 : FrP s2) : ∃ out l', cSp [a0, .own false (.lst l), s2, a3, a4, a5, a6, a7, .own false (.lst T0), a9, a10, a11, a12, a13] = .ok (.own (.lst out)) [a0, .own false (.lst l'), s2, a3, a4, a5, a6, a7, .own false (.lst T0), a9, a10, a11, a12, a13] ∧ out.length ≤ 12 ∧ ∀ d ∈ out, Pl 8 5 d := by
  have hT : ∀ d ∈ T0, Pl 3 3 d := fun d hd => by
    simp only [T0, List.mem_cons, List.not_mem_nil, or_false] at hd
    rcases hd with rfl | rfl | rfl | rfl | rfl | rfl <;> simp [Pl]
  obtain ⟨ys, e', q1, l', rfl, q3, q4⟩ := lcL_inv (vs := [2]) (g := gN 2) (t := tT) (fe := shF (apF (dL_spoilt 6) (aN 1 (aV (shF (apF cPick (aN 1 (aN 8 aNil)))) aNil)))) (fun out e => ∃ l', e = [a0, .own false (.lst l'), .no, a3, a4, a5, a6, a7, .own false (.lst T0), a9, a10, a11, a12, a13] ∧ Dr l' ∧ ∀ d ∈ out, Pl 8 5 d)
    ((List.range 12).map fun (i : Nat) => D.int (0 + i)) [] _ ⟨l, rfl, h, fun d hd => nomatch hd⟩ (by
      rintro d e out _ ⟨l', rfl, k1, k2⟩
      obtain ⟨y, hy, hp⟩ := run_pickO k1 true true (xs := T0) (by simp [T0]) (by simp [T0])
      obtain ⟨d', l2, s2, s3, hs, k3, k4⟩ := run_spoilt 6 3 3 y (tl l') (hT y hy) (by decide) (by decide) (by decide) k1.tl
      refine ⟨[a0, .own false (.lst l'), .val d, a3, a4, a5, a6, a7, .own false (.lst T0), a9, a10, a11, a12, a13], _, true, by simp, rfl, fun _ => ⟨d', [a0, .own false (.lst l2), .val d, a3, a4, a5, a6, a7, .own false (.lst T0), a9, a10, a11, a12, a13], ?_, l2, by simp, k3, ?_⟩, fun z => nomatch z⟩
      · simp [hp, hs, isR]
      · intro z hz
        rcases List.mem_append.mp hz with hz | hz
        · exact k2 z hz
        · rw [List.mem_singleton] at hz; rw [hz]; exact k4)
  have hlen := lcL_len _ _ q1
  rw [List.length_map, List.length_range] at hlen
  refine ⟨ys, l', ?_, hlen, by simpa using q4⟩
  have hrng : ∀ e : Ev, rngF (aV (shF (eC (.int 12))) aNil) e = .ok ((List.range 12).map fun (i : Nat) => D.int (0 + i)) e := fun e => by
    have : (12 : Int) ≤ sizeLine := by rw [sizeLine_eq]; decide
    unfold rngF
    simp [this]
  unfold cSp
  rw [x_lcF, hrng]
  simp only [Int.zero_add] at q1 ⊢
  rcases h2 with rfl | ⟨d, rfl⟩ <;> simp [-x_apF, q1]
theorem g6_run {l : List D} {s2 : Sl} (h : Dr l) (h2 : FrP s2) : ∃ e', g6 [a0, .own false (.lst l), s2, a3, a4, a5, a6, a7, .own false (.lst T0), .no, .no, .no, .no, .no] = .ok .next e' ∧ ∃ b0 b1 b2 b3 b4 b5 b6 b7 b8 b9 b10 b11, e' = [b0, b1, b2, b3, b4, b5, b6, b7, b8, b9, b10, b11, .no, .no] := by
  obtain ⟨out, l', hc, hlen, hout⟩ := cSp_run (a0 := a0) (a3 := a3) (a4 := a4) (a5 := a5) (a6 := a6) (a7 := a7) (a9 := .no) (a10 := .no) (a11 := .no) (a12 := .no) (a13 := .no) h h2
  have hT : ∀ d ∈ T0, Pl 8 5 d := fun d hd => by
    simp only [T0, List.mem_cons, List.not_mem_nil, or_false] at hd
    rcases hd with rfl | rfl | rfl | rfl | rfl | rfl <;> simp [Pl]
  have hE : ∀ d ∈ E6, Pl 8 5 d := fun d hd => by
    have s2 := str_ok "" (by simp)
    simp only [E6, List.mem_cons, List.not_mem_nil, or_false] at hd
    rcases hd with rfl | rfl | rfl | rfl
    · exact ⟨Nat.zero_le _, fun x hx => nomatch hx⟩
    · trivial
    · exact s2
    · show (0 : Int).natAbs ≤ 1000; decide
  have hall : ∀ d ∈ T0 ++ out ++ E6, Pl 8 5 d := fun d hd => by
    rcases List.mem_append.mp hd with hd | hd
    · rcases List.mem_append.mp hd with hd | hd
      · exact hT d hd
      · exact hout d hd
    · exact hE d hd
  have hfl : ∀ e : Ev, fl6 e = .ok (E6.map Ar.v) e := fun e => by unfold fl6 E6; simp
  have hs1 : T0.length + out.length ≤ sizeLine := by
    have : T0.length = 6 := rfl
    rw [sizeLine_eq]; omega
  have hs2 : (T0 ++ out).length + E6.length ≤ sizeLine := by
    have h1 : T0.length = 6 := rfl
    have h2 : E6.length = 4 := rfl
    rw [sizeLine_eq, List.length_append]; omega
  have hs3 : E6.length ≤ sizeLine := by
    have h2 : E6.length = 4 := rfl
    rw [sizeLine_eq]; omega
  have ha1 : addD (.lst T0) (.lst out) = some (.own (.lst (T0 ++ out))) := if_pos hs1
  have ha2 : addD (.lst (T0 ++ out)) (.lst E6) = some (.own (.lst (T0 ++ out ++ E6))) := if_pos hs2
  generalize hgl : T0 ++ out ++ E6 = all at *
  obtain ⟨e', he, hr⟩ := forL_brk (k := turnF (gN 9) gB) (fun _ e => ∃ s9 s10, e = [a0, .own false (.lst l'), s2, a3, a4, a5, a6, a7, .own false (.lst T0), s9, s10, .no, .no, .no] ∧ FrP s9 ∧ FrP s10) (fun e => ∃ b0 b1 b2 b3 b4 b5 b6 b7 b8 b9 b10 b11, e = [b0, b1, b2, b3, b4, b5, b6, b7, b8, b9, b10, b11, .no, .no])
    all.length all 0 [a0, .own false (.lst l'), s2, a3, a4, a5, a6, a7, .own false (.lst T0), .no, .no, .no, .no, .no] (by simp) ⟨_, _, rfl, .inl rfl, .inl rfl⟩ (by
      rintro i d e _ hd ⟨s9, s10, rfl, h9, h10⟩
      have hb := gB_run (a0 := a0) (a1 := .own false (.lst l')) (a2 := s2) (a3 := a3) (a4 := a4) (a5 := a5) (a6 := a6) (a7 := a7) (a8 := .own false (.lst T0)) (a12 := .no) (a13 := .no) (hall d hd) h10
      refine ⟨_, .inl ⟨.inl ?_, .val d, .val (.lst ks4), rfl, .inr ⟨_, rfl⟩, .inr ⟨_, rfl⟩⟩⟩
      rcases h9 with rfl | ⟨x, rfl⟩ <;> simp [hb]) (by
      rintro e ⟨s9, s10, rfl, _, _⟩
      exact ⟨_, _, _, _, _, _, _, _, _, _, _, _, rfl⟩)
  refine ⟨e', ?_, hr⟩
  rw [g6_parts]
  simp [hc, ha1, hfl, hs3, ha2, he]
end
theorem law_true (ns : List Int) (hn : ns.length ≤ 63) : ∃ e, dlaw [scrS ns] = .ok (.val (.bl true)) e := by
  obtain ⟨l, e1, hd, he1, hl, hdr⟩ := run_draws hn
  have D1 : Dr l := dr_of (by omega) hdr
  obtain ⟨l2, e2, hm, ⟨l3, r3, rfl, hd3⟩, D2⟩ := run_more D1 (by omega) true 200 (by decide)
  have q0 : g0 [scrS ns, .no, .no, .no, .no, .no, .no, .no, .no, .no, .no, .no, .no, .no] = .ok .next [scrS ns, .own false (.lst l), .no, .no, .no, .no, .no, .no, .no, .no, .no, .no, .no, .no] := by
    have e : g0 = sSet 1 (apF cDraws (aN 0 aNil)) := rfl
    rw [e]
    unfold scrS at hd ⊢
    cases e1 with
    | nil => simp at he1
    | cons s r => simp [hd]
  have q1 : g1 [scrS ns, .own false (.lst l), .no, .no, .no, .no, .no, .no, .no, .no, .no, .no, .no, .no] = .ok .next [scrS ns, .own false (.lst l2), .no, .no, .no, .no, .no, .no, .no, .no, .no, .no, .no, .no] := by
    have e : g1 = sSet 1 (apF cMore (aN 1 (aV (shF (eC (.int 200))) aNil))) := rfl
    have hm : cMore [.own true (.lst l), .val (.int 200)] = .ok (.own (.lst l2)) (.own true (.lst l3) :: r3) := hm
    rw [e]
    cases r3 with
    | nil => simp [hm, backE]
    | cons s r => simp [hm]
  obtain ⟨e3, q3, l4, s2, s3, s4, s5, s6, s7, rfl, D4, p2, p5⟩ := g3_run (a0 := scrS ns) D2
  have q4 := g4_run (a0 := scrS ns) (a1 := .own false (.lst l4)) (a2 := s2) (a3 := s3) (a4 := s4) (a6 := s6) (a7 := s7) (a8 := .no) (a9 := .no) (a10 := .no) (a11 := .no) (a12 := .no) (a13 := .no) p5
  have q5 := g5_run (a0 := scrS ns) (a1 := .own false (.lst l4)) (a2 := s2) (a3 := s3) (a4 := s4) (a5 := s5) (a6 := s6) (a7 := s7) (a9 := .no) (a10 := .no) (a11 := .no) (a12 := .no) (a13 := .no)
  obtain ⟨e6, q6, b0, b1, b2, b3, b4, b5, b6, b7, b8, b9, b10, b11, rfl⟩ := g6_run (a0 := scrS ns) (a3 := s3) (a4 := s4) (a5 := s5) (a6 := s6) (a7 := s7) D4 p2
  obtain ⟨e7, q7⟩ := g7_run (a0 := b0) (a1 := b1) (a2 := b2) (a3 := b3) (a4 := b4) (a5 := b5) (a6 := b6) (a7 := b7) (a8 := b8) (a9 := b9) (a10 := b10) (a11 := b11)
  refine ⟨e7, ?_⟩
  have e8 : g8 = sRet (eC (.bl true)) := rfl
  have hrep : [scrS ns] ++ List.replicate (14 - 1) Sl.no = [scrS ns, .no, .no, .no, .no, .no, .no, .no, .no, .no, .no, .no, .no, .no] := rfl
  rw [law_parts, x_runF, hrep]
  simp only [x_sSeq, q0, q1, g2_run, q3, q4, q5, q6, q7, e8, x_sRet, x_eC, x_bind_ok, x_retV]
end DL
open PyProof.Rows PySem.W PySem
set_option maxHeartbeats 0 in
theorem PySem.Challenge.cw_hidessoaked_k21_lines_and_forms_holds : PySem.Challenge.rw_hidessoaked_k21_lines_and_forms.Holds := by
  w_on; o_law; k_head; (case hw => w_witness2)
  k_fill
  refine DL.walkD (l := PySem.Challenge.rw_hidessoaked_k21_lines_and_forms) (n := 63) (k := 10) (x := "script") (den := DL.dlaw) rfl (by decide) rfl ⟨⟨rfl, by decide, by decide⟩, rfl⟩ (fun w h Y => PySem.W.kIn_of Y) ?F DL.law_true
  case F =>
    intro w mg fa h KX G hmg
    refine' DL.facts KX G hmg ?c ?e_HideError ?d_FORMS ?b_FORMS ?m_FORMS ?kq
    case c => (unfold He.SaysE; kernel_rfl)
    case e_HideError => kernel_rfl
    case d_FORMS => kernel_rfl
    case b_FORMS => kernel_rfl
    case m_FORMS => kernel_rfl
    case kq => kernel_rfl
