import PyProof.Rows.All
import Wide.All
import OpenK.AllK
import Wide.FinOn
import HandS.ForMost
import HandS.Deep
import HandS.Evl
import HandS.Walk
import KE.KDictKeyed
import HandS.ForExc
import HandS.TupAny
import HandS.IsInst
import HandS.TupLe
import PyProof.P3In
import KE.SortData
import KE.DataMinMax
import KE.KDictZip
import HandS.Zip
import HandS.Style
import HandS.SetFor
import HandS.EndBits
import HandS.HotCalls
import HandS.ExcIs
import HandS.TryMany
import KE.KDictDisplayH
import KE.KItemsList
import HandS.ListItems
import KE.KDictCopyH
import HandS.Small
import KE.KRevSl
import HandS.TupMul
import PySem.Challenge.RW_labelgrids_k14_whole_known_grids
set_option Elab.async false
set_option linter.all false
set_option maxRecDepth 100000
section
/-! Data without a heap (D), how a heap bears it (Rp, Ow), states of a frame (RepS), and the judgements EM, TM, SM: a piece of Python does what a plain Lean function says. -/
namespace Gr
open PySem PySem.Spec PyProof.Rows L2

inductive D where
  | non | bl (b : Bool) | int (i : Int) | str (x : Str)
  | tup (xs : List D) | lst (xs : List D)
  | dct (kvs : List (D × D)) | dci (kvs : List (Int × D))
  | opq (v : V)
  | exo (n : Nat) | fnv (x : Str)

/-! ### keys -/
mutual
def D.nk : D → Option NestedKey
  | .int i => some (.num i)
  | .str x => some (.text x)
  | .tup xs => (D.nks xs).map .tup
  | _ => none
def D.nks : List D → Option (List NestedKey)
  | [] => some []
  | x :: xs => match x.nk, D.nks xs with
    | some k, some ks => some (k :: ks)
    | _, _ => none
end

structure C3 where
  P : Program
  w : World
  K : PySem.W.Frag
  pn : List (Addr × Obj)
/-- the program's exceptions by numbers -/
def excNames : List Str := ["InvalidSize", "InvalidPoint", "InvalidLabels", "InvalidTriangle", "InvalidPair", "InvalidEdge", "InvalidColours", "InvalidPreferences", "InvalidImages", "NotFull", "NotProper", "AlreadyAsked", "NothingToUndo", "ParseError", "InvalidLabel"]
/-- what a global name holds behind the top -/
def glV (K : PySem.W.Frag) (x : Str) : Option Value := match PySem.W.nsIn K mainGlobals x with
  | some (some v) => some v
  | _ => none
def cvOf (K : PySem.W.Frag) (n : Nat) : Value := match excNames[n]? with
  | some x => (glV K x).getD .none
  | none => .none

abbrev Ent := NestedKey × Addr × V
/-- the very object -/
def IsO (a : Addr) (o : Obj) : Heap → Prop := fun h => h.get? a = some o
/-- an object that is a dict of these entries (the keys are tuples) -/
structure DObj (Z : C3) (a : Addr) (o : Obj) (es : List Ent) : Prop where
  sys : (a == sysModules) = false
  len : es.length ≤ sizeLine
  nd : (es.map (·.1)).Nodup
  ob : ∃ xs : List (NestedKey × Addr × Value), Paired (fun (p : Ent) (q : NestedKey × Addr × Value) => p.1 = q.1 ∧ p.2.1 = q.2.1 ∧ RelV p.2.2 q.2.2) es xs ∧
    ∃ ds ep, o.ExactDict ∧ o.data = .dict ds ep ∧ ds.toList = xs.map (entryOfKey (nestedKind Z.P Z.w))

/-- a list that nobody changes: tracked, or the module's own -/
def RdL (K : PySem.W.Frag) (F : Hp) (a : Addr) (xs : List V) : Prop := Rd F a (.lst xs) ∨ ∃ its : List Value, K.lookup a = some { cls := .type "list", data := .seq its.toArray } ∧ its.length ≤ sizeLine ∧ Vals xs its
theorem RdL.mono {K : PySem.W.Frag} {F F' : Hp} {a : Addr} {xs : List V} (e : Evl.Ex F F') (h : RdL K F a xs) : RdL K F' a xs := h.imp (Evl.ex_rd e) id
theorem RdL.of {K : PySem.W.Frag} {F : Hp} {a : Addr} {xs : List V} (h : F a = some (.lst xs)) : RdL K F a xs := .inl (Rd.of h)
theorem RdL.sq {K : PySem.W.Frag} {F : Hp} {a : Addr} {xs : List V} (h : RdL K F a xs) : SqL K F a xs := h.imp id fun ⟨its, hk, hl, rv⟩ => ⟨_, its.toArray, 0, hk, rfl, rfl, rfl, by simpa using hl, by simpa using rv⟩
mutual
inductive Rp (Z : C3) (F : Hp) : V → D → Prop
  | non : Rp Z F .non .non
  | bl (b : Bool) : Rp Z F (.bl b) (.bl b)
  | int (i : Int) : Rp Z F (.int i) (.int i)
  | str (x : Str) : Rp Z F (.str x) (.str x)
  | tup {a : Addr} {xs : List V} {ds : List D} : SqT Z.K F a xs → RpL Z F xs ds → Rp Z F (.ref a) (.tup ds)
  | lst {a : Addr} {xs : List V} {ds : List D} : RdL Z.K F a xs → RpL Z F xs ds → Rp Z F (.ref a) (.lst ds)
  | dct {a : Addr} {o : Obj} {es : List Ent} {kvs : List (D × D)} : F a = some (.ext (IsO a o)) → DObj Z a o es → RpK Z F es kvs → Rp Z F (.ref a) (.dct kvs)
  | dci {a : Addr} {es : List (Key × V)} {kvs : List (Int × D)} : F a = some (.dK es) → RpI Z F es kvs → Rp Z F (.ref a) (.dci kvs)
  | opq (v : V) : Rp Z F v (.opq v)
  | exo {a : Addr} {oe : Obj} {n : Nat} : (a, oe) ∈ Z.pn → Zc (cvOf Z.K n) none oe → (∃ vs, oe.data = .fields vs) → Rp Z F (.ref a) (.exo n)
  | fnv {a : Addr} {x : Str} : glV Z.K x = some (.ref a) → Rp Z F (.ref a) (.fnv x)
inductive RpL (Z : C3) (F : Hp) : List V → List D → Prop
  | nil : RpL Z F [] []
  | cons {v : V} {vs : List V} {d : D} {ds : List D} : Rp Z F v d → RpL Z F vs ds → RpL Z F (v :: vs) (d :: ds)
inductive RpK (Z : C3) (F : Hp) : List Ent → List (D × D) → Prop
  | nil : RpK Z F [] []
  | cons {k : NestedKey} {a : Addr} {v : V} {es : List Ent} {kd d : D} {kvs : List (D × D)} : kd.nk = some k → k.depth ≤ 8 → Rp Z F (.ref a) kd → Rp Z F v d → RpK Z F es kvs → RpK Z F ((k, a, v) :: es) ((kd, d) :: kvs)
inductive RpI (Z : C3) (F : Hp) : List (Key × V) → List (Int × D) → Prop
  | nil : RpI Z F [] []
  | cons {k : Int} {v : V} {es : List (Key × V)} {d : D} {kvs : List (Int × D)} : Rp Z F v d → RpI Z F es kvs → RpI Z F ((.inl k, v) :: es) ((k, d) :: kvs)
end

abbrev Ex : Hp → Hp → Prop := Evl.Ex

mutual
theorem Rp.mono {Z : C3} {F F' : Hp} (e : Ex F F') : ∀ {v : V} {d : D}, Rp Z F v d → Rp Z F' v d
  | _, _, .non => .non
  | _, _, .bl b => .bl b
  | _, _, .int b => .int b
  | _, _, .str b => .str b
  | _, _, .tup h r => .tup (Evl.ex_t e h) (RpL.mono e r)
  | _, _, .lst h r => .lst (h.mono e) (RpL.mono e r)
  | _, _, .dct h x r => .dct (e _ _ h) x (RpK.mono e r)
  | _, _, .dci h r => .dci (e _ _ h) (RpI.mono e r)
  | _, _, .opq b => .opq b
  | _, _, .exo h e x => .exo h e x
  | _, _, .fnv h => .fnv h
theorem RpL.mono {Z : C3} {F F' : Hp} (e : Ex F F') : ∀ {v : List V} {d : List D}, RpL Z F v d → RpL Z F' v d
  | _, _, .nil => .nil
  | _, _, .cons h r => .cons (Rp.mono e h) (RpL.mono e r)
theorem RpK.mono {Z : C3} {F F' : Hp} (e : Ex F F') : ∀ {v : List Ent} {d : List (D × D)}, RpK Z F v d → RpK Z F' v d
  | _, _, .nil => .nil
  | _, _, .cons a b h h2 r => .cons a b (Rp.mono e h) (Rp.mono e h2) (RpK.mono e r)
theorem RpI.mono {Z : C3} {F F' : Hp} (e : Ex F F') : ∀ {v : List (Key × V)} {d : List (Int × D)}, RpI Z F v d → RpI Z F' v d
  | _, _, .nil => .nil
  | _, _, .cons h r => .cons (Rp.mono e h) (RpI.mono e r)
end
section
variable {Z : C3} {F : Hp}
theorem RpL.length : ∀ {vs : List V} {ds : List D}, RpL Z F vs ds → vs.length = ds.length
  | _, _, .nil => rfl
  | _, _, .cons _ r => congrArg (· + 1) r.length
theorem RpL.get : ∀ {vs : List V} {ds : List D} {i : Nat} {v : V}, RpL Z F vs ds → vs[i]? = some v → ∃ d, ds[i]? = some d ∧ Rp Z F v d
  | _, _, 0, _, .cons h _, e => by
    simp at e
    subst e
    exact ⟨_, rfl, h⟩
  | _, _, i + 1, _, .cons _ r, e => by
    simp at e
    simpa using r.get e
theorem RpL.getD : ∀ {vs : List V} {ds : List D} {i : Nat} {d : D}, RpL Z F vs ds → ds[i]? = some d → ∃ v, vs[i]? = some v ∧ Rp Z F v d
  | _, _, 0, _, .cons h _, e => by
    simp at e
    subst e
    exact ⟨_, rfl, h⟩
  | _, _, i + 1, _, .cons _ r, e => by
    simp at e
    simpa using r.getD e
theorem RpL.append : ∀ {vs ws : List V} {ds es : List D}, RpL Z F vs ds → RpL Z F ws es → RpL Z F (vs ++ ws) (ds ++ es)
  | _, _, _, _, .nil, s => s
  | _, _, _, _, .cons h r, s => .cons h (r.append s)
theorem RpL.take : ∀ {vs : List V} {ds : List D} (n : Nat), RpL Z F vs ds → RpL Z F (vs.take n) (ds.take n)
  | _, _, 0, _ => .nil
  | _, _, _ + 1, .nil => .nil
  | _, _, n + 1, .cons h r => .cons h (r.take n)
theorem RpL.drop : ∀ {vs : List V} {ds : List D} (n : Nat), RpL Z F vs ds → RpL Z F (vs.drop n) (ds.drop n)
  | _, _, 0, r => r
  | _, _, _ + 1, .nil => .nil
  | _, _, n + 1, .cons _ r => r.drop n
theorem RpL.set {v : V} {d : D} (h : Rp Z F v d) : ∀ {vs : List V} {ds : List D} (n : Nat), RpL Z F vs ds → RpL Z F (vs.set n v) (ds.set n d)
  | _, _, _, .nil => .nil
  | _, _, 0, .cons _ r => .cons h r
  | _, _, n + 1, .cons a r => .cons a (r.set h n)
theorem RpL.reverse : ∀ {vs : List V} {ds : List D}, RpL Z F vs ds → RpL Z F vs.reverse ds.reverse
  | _, _, .nil => .nil
  | _, _, .cons h r => by
    rw [List.reverse_cons, List.reverse_cons]
    exact r.reverse.append (.cons h .nil)
theorem RpL.one {v : V} {d : D} (h : Rp Z F v d) : RpL Z F [v] [d] := .cons h .nil
theorem RpK.length : ∀ {vs : List Ent} {ds : List (D × D)}, RpK Z F vs ds → vs.length = ds.length
  | _, _, .nil => rfl
  | _, _, .cons _ _ _ _ r => congrArg (· + 1) r.length
end

/-! ### slots -/
inductive SV where
  | no | fro (d : D) | own (d : D) | bor (d : D)
def SV.cont : SV → Option D
  | .own d => some d
  | .bor d => some d
  | _ => none
def SV.put : SV → D → SV
  | .own _, d => .own d
  | .bor _, d => .bor d
  | s, _ => s
abbrev Sg := L2.St
abbrev En := List SV
def Owned (env : En) (σ : Sg) (a : Addr) : Prop := ∃ (i : Nat) (s : SV) (d : D), env[i]? = some s ∧ s.cont = some d ∧ σ[i]? = some (some (V.ref a))

/-- a thing that one slot alone holds -/
def Ow (Z : C3) (F H : Hp) (a : Addr) : D → Prop
  | .lst ds => ∃ xs, H a = some (.lst xs) ∧ RpL Z F xs ds
  | .dct kvs => ∃ o es, H a = some (.ext (IsO a o)) ∧ DObj Z a o es ∧ RpK Z F es kvs
  | .dci kvs => ∃ es, H a = some (.dK es) ∧ RpI Z F es kvs
  | _ => False
theorem Ow.there {Z : C3} {F H : Hp} {a : Addr} : ∀ {d : D}, Ow Z F H a d → ∃ o, H a = some o
  | .lst _, ⟨_, h, _⟩ => ⟨_, h⟩
  | .dct _, ⟨_, _, h, _⟩ => ⟨_, h⟩
  | .dci _, ⟨_, h, _⟩ => ⟨_, h⟩
theorem Ow.mono {Z : C3} {F F' H H' : Hp} {a : Addr} (e : Ex F F') (k : ∀ o, H a = some o → H' a = some o) : ∀ {d : D}, Ow Z F H a d → Ow Z F' H' a d
  | .lst _, ⟨xs, h, r⟩ => ⟨xs, k _ h, r.mono e⟩
  | .dct _, ⟨o, xs, h, x, r⟩ => ⟨o, xs, k _ h, x, r.mono e⟩
  | .dci _, ⟨xs, h, r⟩ => ⟨xs, k _ h, r.mono e⟩
/-- it is frozen -/
theorem Ow.froz {Z : C3} {F H : Hp} {a : Addr} {o : HO} (n : F a = none) (ho : H a = some o) : ∀ {d : D}, Ow Z F H a d → Rp Z (upd F a o) (.ref a) d
  | .lst _, ⟨xs, h, r⟩ => by
    rw [ho] at h
    cases h
    exact .lst (RdL.of upd_same) (r.mono (Evl.Ex.new n))
  | .dct _, ⟨o, xs, h, x, r⟩ => by
    rw [ho] at h
    cases h
    exact .dct upd_same x (r.mono (Evl.Ex.new n))
  | .dci _, ⟨xs, h, r⟩ => by
    rw [ho] at h
    cases h
    exact .dci upd_same (r.mono (Evl.Ex.new n))

structure RepS (Z : C3) (F H : Hp) (σ : Sg) (env : En) : Prop where
  len : env.length = σ.length
  ex : Ex F H
  fro : ∀ (i : Nat) (d : D), env[i]? = some (SV.fro d) → ∃ v, σ[i]? = some (some v) ∧ Rp Z F v d
  own : ∀ (i : Nat) (s : SV) (d : D), env[i]? = some s → s.cont = some d → ∃ a, σ[i]? = some (some (V.ref a)) ∧ F a = none ∧ Ow Z F H a d
  sep : ∀ (i j : Nat) (a : Addr) (s t : SV) (d e : D), env[i]? = some s → env[j]? = some t → s.cont = some d → t.cont = some e → σ[i]? = some (some (V.ref a)) → σ[j]? = some (some (V.ref a)) → i = j

structure Go (F H : Hp) (σ : Sg) (env : En) (F' H' : Hp) (σ' : Sg) (env' : En) : Prop where
  exF : Ex F F'
  keep : ∀ a o, H a = some o → ¬ Owned env σ a → H' a = some o
  dom : ∀ a, H' a = none → H a = none
  grow : ∀ a, F' a ≠ none → F a ≠ none ∨ H a = none ∨ Owned env σ a
  own : ∀ a, Owned env' σ' a → Owned env σ a ∨ H a = none
  bor : ∀ (i : Nat) (d' : D), env'[i]? = some (SV.bor d') → (∃ d, env[i]? = some (SV.bor d)) ∧ σ'[i]? = σ[i]?

theorem Go.refl {F H : Hp} {σ : Sg} {env : En} : Go F H σ env F H σ env :=
  ⟨Evl.Ex.refl F, fun _ _ h _ => h, fun _ h => h, fun _ h => .inl h, fun _ h => .inl h, fun _ d h => ⟨⟨d, h⟩, rfl⟩⟩
theorem Go.trans {F H F1 H1 F2 H2 : Hp} {σ σ1 σ2 : Sg} {env env1 env2 : En} (a : Go F H σ env F1 H1 σ1 env1) (b : Go F1 H1 σ1 env1 F2 H2 σ2 env2) : Go F H σ env F2 H2 σ2 env2 where
  exF := a.exF.trans b.exF
  keep := fun c o h n => b.keep c o (a.keep c o h n) fun q => (a.own c q).elim n fun z => by rw [h] at z; cases z
  dom := fun c h => a.dom c (b.dom c h)
  grow := fun c h => (b.grow c h).elim (fun q => a.grow c q) fun q => q.elim (fun q => .inr (.inl (a.dom c q))) fun q => .inr (a.own c q).symm
  own := fun c h => (b.own c h).elim (a.own c) fun q => .inr (a.dom c q)
  bor := fun i d h => by
    obtain ⟨⟨d1, h1⟩, e1⟩ := b.bor i d h
    obtain ⟨h2, e2⟩ := a.bor i d1 h1
    exact ⟨h2, e1.trans e2⟩

/-! ### results of expressions -/
inductive R where
  | fro (d : D) | tmp (d : D) | slot (i : Nat)
inductive ER where
  | ok (r : R) (env : En) | exc (c : Nat) (env : En) | stuck
abbrev M := En → ER
def RepR (Z : C3) (F H : Hp) (σ : Sg) (env : En) (v : V) : R → Prop
  | .fro d => Rp Z F v d
  | .tmp d => ∃ a, v = .ref a ∧ F a = none ∧ ¬ Owned env σ a ∧ Ow Z F H a d
  | .slot i => σ[i]? = some (some v)
/-- a thing of one's own was not there at the start -/
def FrR (H : Hp) (v : V) : R → Prop
  | .tmp _ => ∃ a, v = .ref a ∧ H a = none
  | _ => True
theorem FrR.back {H H' : Hp} {v : V} (d : ∀ a, H' a = none → H a = none) : ∀ {r : R}, FrR H' v r → FrR H v r
  | .fro _, _ => trivial
  | .slot _, _ => trivial
  | .tmp _, ⟨a, e, h⟩ => ⟨a, e, d a h⟩

/-- what a result holds now -/
def R.see (env : En) : R → Option D
  | .fro d => some d
  | .tmp d => some d
  | .slot i => (env[i]?).bind SV.cont
/-- .. for keeps -/
def R.take (env : En) : R → Option (D × En)
  | .fro d => some (d, env)
  | .tmp d => some (d, env)
  | .slot i => match env[i]? with
    | some (.own d) => some (d, env.set i (.fro d))
    | _ => none

/-- a thing that can be read: frozen, or its top not yet -/
def Vw (Z : C3) (F H : Hp) (v : V) (d : D) : Prop := Rp Z F v d ∨ ∃ a, v = .ref a ∧ Ow Z F H a d

section
variable {Z : C3} {F H F' H' : Hp} {σ σ' : Sg} {env env' : En} {v : V} {d : D} {r : R}
theorem RepR.see (S : RepS Z F H σ env) (h : RepR Z F H σ env v r) (e : r.see env = some d) : Vw Z F H v d := by
  cases r with
  | fro d' => cases e; exact .inl h
  | tmp d' =>
    cases e
    obtain ⟨a, ev, _, _, o⟩ := h
    exact .inr ⟨a, ev, o⟩
  | slot i =>
    have hs : σ[i]? = some (some v) := h
    have e' : (env[i]?).bind SV.cont = some d := e
    cases he : env[i]? with
    | none => rw [he] at e'; cases e'
    | some s =>
      rw [he] at e'
      obtain ⟨a, h1, h2, h3⟩ := S.own i s d he e'
      rw [hs] at h1
      cases h1
      exact .inr ⟨a, rfl, h3⟩
/-- a result is carried over what was done since -/
theorem RepR.after (g : Go F H σ env F' H' σ env') (h : RepR Z F H σ env v r) : RepR Z F' H' σ env' v r := by
  cases r with
  | fro d => exact Rp.mono g.exF h
  | tmp d =>
    obtain ⟨a, ev, n, no, o⟩ := h
    obtain ⟨ob, ho⟩ := o.there
    refine ⟨a, ev, ?_, fun q => ?_, o.mono g.exF fun ob h => g.keep a ob h no⟩
    · cases q : F' a with
      | none => rfl
      | some z =>
        rcases g.grow a (by rw [q]; simp) with z | z | z
        · exact absurd n z
        · rw [ho] at z; cases z
        · exact absurd z no
    · rcases g.own a q with z | z
      · exact no z
      · rw [ho] at z; cases z
  | slot i => exact h
end

/-! ### the judgements -/
abbrev WX := Nat → Sg → Hp → Prop
/-- the wish, from a state: what is to hold behind an outcome -/
def Wi (Z : C3) (W : WX) (σ : Sg) (Q : VK) (F H : Hp) (env : En) (o : ER) : Prop := match o with
  | .ok r env' => ∀ v H' F', Go F H σ env F' H' σ env' → RepS Z F' H' σ env' → RepR Z F' H' σ env' v r → FrR H v r → Q v H'
  | .exc c env' => ∀ H' F', Go F H σ env F' H' σ env' → RepS Z F' H' σ env' → W c σ H'
  | .stuck => False
def tE (Z : C3) (W : WX) (m : M) : TE := fun σ H Q => ∃ env F, RepS Z F H σ env ∧ Wi Z W σ Q F H env (m env)
/-- the exceptions in hand; none where nothing is handled -/
def pnOf (X : Cx) : List (Addr × Obj) := match X.calm with
  | true => []
  | false => X.pn
abbrev c3 (X : Cx) : C3 := ⟨X.prog, X.w, X.K, pnOf X⟩
structure EM (X : Cx) (W : WX) (e : Expr) (m : M) : Prop where
  pe : PE X e (tE (c3 X) W m)
theorem pe_mono {X : Cx} {e : Expr} {t t' : TE} (h : PE X e t) (i : ∀ σ H Q, t' σ H Q → t σ H Q) : PE X e t' := ⟨fun pins s σ H Q I q => h.run pins s σ H Q I (i σ H Q q)⟩
theorem pt_mono {X : Cx} {e : Expr} {t t' : TT} (h : PT X e t) (i : ∀ σ H Q, t' σ H Q → t σ H Q) : PT X e t' := ⟨fun pins s σ H Q I q => h.run pins s σ H Q I (i σ H Q q)⟩
theorem ps_mono {X : Cx} {e : Stmt} {t t' : TS} (h : PS X e t) (i : ∀ D σ H, t' D σ H → t D σ H) : PS X e t' := ⟨fun pins s σ H D I q => h.run pins s σ H D I (i D σ H q)⟩
theorem pss_mono {X : Cx} {e : List Stmt} {t t' : TS} (h : PSs X e t) (i : ∀ D σ H, t' D σ H → t D σ H) : PSs X e t' := ⟨fun pins s σ H D I q => h.run pins s σ H D I (i D σ H q)⟩

/-- one result after another: what the first gave, then what follows -/
def ER.and (r : ER) (k : R → En → ER) : ER := match r with
  | .ok r env => k r env
  | .exc c env => .exc c env
  | .stuck => .stuck
/-- from a further state: a wish at the start is a wish at what came behind -/
theorem Wi.after {Z : C3} {W : WX} {σ : Sg} {Q : VK} {F H F1 H1 : Hp} {env env1 : En} {o : ER} (g : Go F H σ env F1 H1 σ env1) (h : Wi Z W σ Q F H env o) : Wi Z W σ Q F1 H1 env1 o := by
  cases o with
  | ok r e => exact fun v H' F' g' S r f => h v H' F' (g.trans g') S r (f.back g.dom)
  | exc c e => exact fun H' F' g' => h H' F' (g.trans g')
  | stuck => exact h
/-- the first of two; the wish stays at the start (Fb, Hb, eb) -/
theorem tE_and {Z : C3} {W : WX} {m : M} {k : R → En → ER} {σ : Sg} {H : Hp} {Q : VK} {env eb : En} {F Fb Hb : Hp} {Q' : VK} (gb : Go Fb Hb σ eb F H σ env) (S : RepS Z F H σ env) (h : Wi Z W σ Q Fb Hb eb ((m env).and k))
    (n : ∀ r env' v H' F', m env = .ok r env' → Go F H σ env F' H' σ env' → Go Fb Hb σ eb F' H' σ env' → RepS Z F' H' σ env' → RepR Z F' H' σ env' v r → FrR H v r → Wi Z W σ Q Fb Hb eb (k r env') → Q' v H') : tE Z W m σ H Q' := by
  refine ⟨env, F, S, ?_⟩
  cases e : m env with
  | stuck => rw [e] at h; exact h
  | exc c e' => rw [e] at h; exact fun H' F' g => h H' F' (gb.trans g)
  | ok r e' =>
    rw [e] at h
    exact fun v H' F' g S' rr fr => n r e' v H' F' e g (gb.trans g) S' rr fr h
end Gr
end
section
/-! Expressions: names, constants, operators by values, argument lists, calls of built-ins, displays. -/
namespace Gr
open PySem PySem.Spec PyProof.Rows L2

/-! ### new objects only -/
structure New (F H F' H' : Hp) : Prop where
  exF : Ex F F'
  exH : Ex H H'
  grow : ∀ a, F' a ≠ none → F a ≠ none ∨ H a = none
  ex' : Ex F' H'
def RepN (Z : C3) (H F' H' : Hp) (v : V) (b : Bool) (d : D) : Prop := match b with
  | false => Rp Z F' v d
  | true => ∃ a, v = .ref a ∧ H a = none ∧ F' a = none ∧ Ow Z F' H' a d
def mkR : Bool → D → R
  | false, d => .fro d
  | true, d => .tmp d
theorem dom_of {H H' : Hp} (e : Ex H H') (a : Addr) (h : H' a = none) : H a = none := Evl.fresh_back e h
section
variable {Z : C3} {F H F' H' : Hp} {σ : Sg} {env : En} {v : V} {d : D} {b : Bool} {a : Addr} {o : HO}
theorem New.refl (e : Ex F H) : New F H F H := ⟨Evl.Ex.refl F, Evl.Ex.refl H, fun _ h => .inl h, e⟩
theorem New.repS (n : New F H F' H') (S : RepS Z F H σ env) : RepS Z F' H' σ env := by
  refine ⟨S.len, n.ex', fun i d h => ?_, fun i s d h c => ?_, S.sep⟩
  · obtain ⟨v, e, r⟩ := S.fro i d h
    exact ⟨v, e, r.mono n.exF⟩
  · obtain ⟨a, e, q, o⟩ := S.own i s d h c
    obtain ⟨ob, ho⟩ := o.there
    refine ⟨a, e, ?_, o.mono n.exF fun ob h => n.exH a ob h⟩
    cases z : F' a with
    | none => rfl
    | some y =>
      rcases n.grow a (by rw [z]; simp) with k | k
      · exact absurd q k
      · rw [ho] at k; cases k
theorem New.go (n : New F H F' H') : Go F H σ env F' H' σ env :=
  ⟨n.exF, fun a o h _ => n.exH a o h, fun a h => dom_of n.exH a h, fun a h => (n.grow a h).imp id .inl, fun _ h => .inl h, fun _ d h => ⟨⟨d, h⟩, rfl⟩⟩
theorem New.repR (n : New F H F' H') (S : RepS Z F H σ env) (h : RepN Z H F' H' v b d) : RepR Z F' H' σ env v (mkR b d) := by
  cases b with
  | false => exact h
  | true =>
    obtain ⟨a, e, h1, h2, o⟩ := h
    refine ⟨a, e, h2, fun q => ?_, o⟩
    obtain ⟨i, s, d', e1, e2, e3⟩ := q
    obtain ⟨a', f1, f2, f3⟩ := S.own i s d' e1 e2
    rw [e3] at f1
    cases f1
    obtain ⟨ob, ho⟩ := f3.there
    rw [h1] at ho; cases ho
/-- a new thing that nobody changes -/
theorem New.froz (e : Ex F H) (n : H a = none) : New F H (upd F a o) (upd H a o) := by
  have nF : F a = none := dom_of e a n
  refine ⟨Evl.Ex.new nF, Evl.Ex.new n, fun c h => ?_, fun c u h => ?_⟩
  · by_cases q : c = a
    · subst q; exact .inr n
    · rw [upd_ne q] at h; exact .inl h
  · by_cases q : c = a
    · subst q; rw [upd_same] at h ⊢; exact h
    · rw [upd_ne q] at h ⊢; exact e c u h
/-- a new thing of one's own -/
theorem New.mine (e : Ex F H) (n : H a = none) : New F H F (upd H a o) :=
  ⟨Evl.Ex.refl F, Evl.Ex.new n, fun c h => .inl h, e.trans (Evl.Ex.new n)⟩
theorem New.trans {F2 H2 : Hp} (x : New F H F' H') (y : New F' H' F2 H2) : New F H F2 H2 :=
  ⟨x.exF.trans y.exF, x.exH.trans y.exH, fun a h => (y.grow a h).elim (x.grow a) fun q => .inr (dom_of x.exH a q), y.ex'⟩
end

/-! ### operators by values -/
abbrev F2 := D → D → Option (Bool × D)
abbrev F1 := D → Option (Bool × D)
def RD (Z : C3) (f : F2) : R2 := fun x y H Q => ∃ F da db b d, Ex F H ∧ Vw Z F H x da ∧ Vw Z F H y db ∧ f da db = some (b, d) ∧ ∀ v H' F', New F H F' H' → RepN Z H F' H' v b d → Q v H'
def RU (Z : C3) (f : F1) : V → Hp → VK → Prop := fun x H Q => ∃ F da b d, Ex F H ∧ Vw Z F H x da ∧ f da = some (b, d) ∧ ∀ v H' F', New F H F' H' → RepN Z H F' H' v b d → Q v H'
def outR (o : Option (Bool × D)) (env : En) : ER := match o with
  | some (b, d) => .ok (mkR b d) env
  | none => .stuck
def m2 (f : F2) (ma mb : M) : M := fun env => (ma env).and fun ra e1 => (mb e1).and fun rb e2 => match ra.see e2, rb.see e2 with
  | some da, some db => outR (f da db) e2
  | _, _ => .stuck
def m1 (f : F1) (ma : M) : M := fun env => (ma env).and fun ra e1 => match ra.see e1 with
  | some da => outR (f da) e1
  | _ => .stuck
theorem New.frR {Z : C3} {H F' H' Hb : Hp} {v : V} {b : Bool} {d : D} (k : ∀ a, H a = none → Hb a = none) (h : RepN Z H F' H' v b d) : FrR Hb v (mkR b d) := by
  cases b with
  | false => exact trivial
  | true =>
    obtain ⟨a, e, h1, _⟩ := h
    exact ⟨a, e, k a h1⟩
section
variable {Z : C3} {W : WX} {σ : Sg} {Q : VK} {F H Fb Hb : Hp} {env eb : En}
theorem Wi.out {o : Option (Bool × D)} {b : Bool} {d : D} {v : V} {F' H' : Hp} (g : Go Fb Hb σ eb F H σ env) (h : Wi Z W σ Q Fb Hb eb (outR o env)) (e : o = some (b, d)) (S : RepS Z F H σ env) (n : New F H F' H') (r : RepN Z H F' H' v b d) : Q v H' := by
  subst e
  exact h v H' F' (g.trans n.go) (n.repS S) (n.repR S r) (New.frR g.dom r)
theorem t_m2 {f : F2} {ma mb : M} (h : tE Z W (m2 f ma mb) σ H Q) : tOp (RD Z f) (tE Z W ma) (tE Z W mb) σ H Q := by
  obtain ⟨env, F, S, h⟩ := h
  refine tE_and .refl S h fun ra e1 x H1 F1 q1 g1 _ S1 r1 f1 w1 => ?_
  refine tE_and g1 S1 w1 fun rb e2 y H2 F2 q2 g2 gb S2 r2 f2 w2 => ?_
  cases ea : ra.see e2 with
  | none => rw [ea] at w2; exact w2.elim
  | some da =>
    cases eb : rb.see e2 with
    | none => rw [ea, eb] at w2; exact w2.elim
    | some db =>
      rw [ea, eb] at w2
      cases ef : f da db with
      | none => simp only [ef] at w2; exact w2.elim
      | some bd =>
        obtain ⟨b, d⟩ := bd
        exact ⟨F2, da, db, b, d, S2.ex, (r1.after g2).see S2 ea, r2.see S2 eb, ef, fun v H' F' n r => Wi.out gb w2 ef S2 n r⟩
theorem t_m1 {f : F1} {ma : M} (h : tE Z W (m1 f ma) σ H Q) : tUn (RU Z f) (tE Z W ma) σ H Q := by
  obtain ⟨env, F, S, h⟩ := h
  refine tE_and .refl S h fun ra e1 x H1 F1 q1 g1 _ S1 r1 f1 w1 => ?_
  cases ea : ra.see e1 with
  | none => rw [ea] at w1; exact w1.elim
  | some da =>
    rw [ea] at w1
    cases ef : f da with
    | none => simp only [ef] at w1; exact w1.elim
    | some bd =>
      obtain ⟨b, d⟩ := bd
      exact ⟨F1, da, b, d, S1.ex, r1.see S1 ea, ef, fun v H' F' n r => Wi.out g1 w1 ef S1 n r⟩
end

/-! ### names, constants -/
def mVar (i : Nat) : M := fun env => match env[i]? with
  | some (.fro d) => .ok (.fro d) env
  | some (.own _) => .ok (.slot i) env
  | some (.bor _) => .ok (.slot i) env
  | _ => .stuck
def mC (d : D) : M := fun env => .ok (.fro d) env
section
variable {X : Cx} {W : WX} {pos : Pos}
theorem em_var (i : Nat) {x : Str} (hN : X.N[i]? = some x := by rfl) (hv : Vis X.env.scope x := by first | exact Or.inl rfl | exact Or.inr (Or.inl rfl) | exact Or.inr (Or.inr rfl)) (hd : (x == ("__debug__" : Str)) = false := by decide)
    (hcd : (x == ("__classdict__" : Str)) = false := by decide) : EM X W (.Name x pos) (mVar i) := by
  refine ⟨pe_mono (pe_var hN hv hd hcd) fun σ H Q h => ?_⟩
  obtain ⟨env, F, S, h⟩ := h
  have h' : Wi (c3 X) W σ Q F H env (mVar i env) := h
  unfold mVar at h'
  cases e : env[i]? with
  | none => rw [e] at h'; exact h'.elim
  | some s =>
    rw [e] at h'
    cases s with
    | no => exact h'.elim
    | fro d =>
      obtain ⟨v, hv, r⟩ := S.fro i d e
      exact ⟨v, hv, h' v H F .refl S r trivial⟩
    | own d =>
      obtain ⟨a, ha, _⟩ := S.own i _ d e rfl
      exact ⟨_, ha, h' _ H F .refl S ha trivial⟩
    | bor d =>
      obtain ⟨a, ha, _⟩ := S.own i _ d e rfl
      exact ⟨_, ha, h' _ H F .refl S ha trivial⟩
theorem em_c {e : Expr} {v : V} {d : D} (h : PE X e (tC v)) (r : ∀ F, Rp (c3 X) F v d) : EM X W e (mC d) := by
  refine ⟨pe_mono h fun σ H Q h => ?_⟩
  obtain ⟨env, F, S, h⟩ := h
  exact h v H F .refl S (r F) trivial
theorem em_int {i : Int} {j} : EM X W (.Constant (.int i) j pos) (mC (.int i)) := em_c pe_int fun _ => .int i
theorem em_bl {b : Bool} {j} : EM X W (.Constant (.bool b) j pos) (mC (.bl b)) := em_c pe_bl fun _ => .bl b
theorem em_non {j} : EM X W (.Constant .none j pos) (mC .non) := em_c pe_non fun _ => .non
theorem em_str {x : Str} {j} : EM X W (.Constant (.str x) j pos) (mC (.str x)) := em_c pe_str fun _ => .str x
variable {a b : Expr} {ma mb : M}
theorem em_op {op : Operator} {f : F2} (ho : OpR X (binaryOp op) (RD (c3 X) f)) (ha : EM X W a ma) (hb : EM X W b mb) : EM X W (.BinOp a op b pos) (m2 f ma mb) := ⟨pe_mono (pe_op ho ha.pe hb.pe) fun _ _ _ h => t_m2 h⟩
theorem em_un {op : UnaryOp} {f : F1} (ho : UnR X (unaryOp op) (RU (c3 X) f)) (ha : EM X W a ma) : EM X W (.UnaryOp op a pos) (m1 f ma) := ⟨pe_mono (pe_un ho ha.pe) fun _ _ _ h => t_m1 h⟩
theorem em_cmp {op : CmpOp} {f : F2} (ho : OpR X (compareOp op) (RD (c3 X) f)) (ha : EM X W a ma) (hb : EM X W b mb) (hm : behindInMarks op b = false) : EM X W (.Compare a [op] [b] pos) (m2 f ma mb) := ⟨pe_mono (pe_cmpR ho ha.pe hb.pe hm) fun _ _ _ h => t_m2 h⟩
end

/-! ### argument lists -/
inductive AR where
  | ok (rs : List R) (env : En) | exc (c : Nat) (env : En) | stuck
abbrev MA := En → AR
def AR.and (r : AR) (k : List R → En → ER) : ER := match r with
  | .ok rs e => k rs e
  | .exc c e => .exc c e
  | .stuck => .stuck
def aNil : MA := fun env => .ok [] env
def aCons (m : M) (t : MA) : MA := fun env => match m env with
  | .ok r e => (match t e with
    | .ok rs e' => .ok (r :: rs) e'
    | .exc c e' => .exc c e'
    | .stuck => .stuck)
  | .exc c e => .exc c e
  | .stuck => .stuck
/-- the results of a list's items; things of one's own apart from each other, none of them there at the start Hb -/
inductive RepRs (Z : C3) (F H : Hp) (σ : Sg) (env : En) (Hb : Hp) : List V → List R → Prop
  | nil : RepRs Z F H σ env Hb [] []
  | cons {v : V} {vs : List V} {r : R} {rs : List R} : RepR Z F H σ env v r → FrR Hb v r → (∀ d, r = .tmp d → ∀ (j : Nat) w d', vs[j]? = some w → rs[j]? = some (.tmp d') → w ≠ v) → RepRs Z F H σ env Hb vs rs → RepRs Z F H σ env Hb (v :: vs) (r :: rs)
theorem RepRs.frs {Z : C3} {F H Hb : Hp} {σ : Sg} {env : En} : ∀ {vs : List V} {rs : List R}, RepRs Z F H σ env Hb vs rs → ∀ (j : Nat) w d', vs[j]? = some w → rs[j]? = some (.tmp d') → FrR Hb w (.tmp d')
  | _, _, .nil, _, _, _, h, _ => by simp at h
  | _, _, .cons (v := v) (r := r) a b c t, 0, w, d', h, h2 => by
    have e1 : v = w := by simpa using h
    have e2 : r = .tmp d' := by simpa using h2
    subst e1; subst e2
    exact b
  | _, _, .cons a b c t, j + 1, w, d', h, h2 => t.frs j w d' (by simpa using h) (by simpa using h2)
theorem RepRs.back {Z : C3} {F H Hb H0 : Hp} {σ : Sg} {env : En} (d : ∀ a, Hb a = none → H0 a = none) : ∀ {vs : List V} {rs : List R}, RepRs Z F H σ env Hb vs rs → RepRs Z F H σ env H0 vs rs
  | _, _, .nil => .nil
  | _, _, .cons a b c t => .cons a (b.back d) c (t.back d)
def WiA (Z : C3) (W : WX) (σ : Sg) (Q : List V → Hp → Prop) (F H : Hp) (env : En) (o : AR) : Prop := match o with
  | .ok rs env' => ∀ vs H' F', Go F H σ env F' H' σ env' → RepS Z F' H' σ env' → RepRs Z F' H' σ env' H vs rs → Q vs H'
  | .exc c env' => ∀ H' F', Go F H σ env F' H' σ env' → RepS Z F' H' σ env' → W c σ H'
  | .stuck => False
def tA (Z : C3) (W : WX) (m : MA) : TA := fun σ H Q => ∃ env F, RepS Z F H σ env ∧ WiA Z W σ Q F H env (m env)
structure AM (X : Cx) (W : WX) (es : List Expr) (m : MA) : Prop where
  pa : PA X es (tA (c3 X) W m)
theorem pa_mono {X : Cx} {e : List Expr} {t t' : TA} (h : PA X e t) (i : ∀ σ H Q, t' σ H Q → t σ H Q) : PA X e t' := ⟨fun pos pins s σ H Q I q => h.run pos pins s σ H Q I (i σ H Q q)⟩
section
variable {X : Cx} {W : WX}
theorem am_nil : AM X W [] aNil := ⟨pa_mono pa_nil fun σ H Q h => by
  obtain ⟨env, F, S, h⟩ := h
  exact h [] H F .refl S .nil⟩
theorem am_cons {e : Expr} {es : List Expr} {m : M} {t : MA} (he : EM X W e m) (hr : AM X W es t) (hs : starEach (e :: es) X.env = (false, eval e X.env) :: starEach es X.env := by rfl) : AM X W (e :: es) (aCons m t) := ⟨pa_mono (pa_cons he.pe hr.pa hs) fun σ H Q h => by
  obtain ⟨env, F, S, h⟩ := h
  refine ⟨env, F, S, ?_⟩
  unfold aCons at h
  cases em : m env with
  | stuck => rw [em] at h; exact h.elim
  | exc c e' => rw [em] at h; exact h
  | ok r e1 =>
    simp only [em] at h
    intro v H1 F1 g1 S1 r1 f1
    refine ⟨e1, F1, S1, ?_⟩
    cases et : t e1 with
    | stuck => rw [et] at h; exact h.elim
    | exc c e' => rw [et] at h; exact fun H' F' g => h H' F' (g1.trans g)
    | ok rs e2 =>
      rw [et] at h
      refine fun vs H' F' g S' rr => h (v :: vs) H' F' (g1.trans g) S' (.cons (r1.after g) f1 (fun d e j w d' h1 h2 z => ?_) (rr.back g1.dom))
      subst e; subst z
      obtain ⟨a, ea, _, _, o⟩ := r1
      obtain ⟨b, eb, n⟩ := rr.frs j w d' h1 h2
      subst ea
      cases eb
      obtain ⟨ob, ho⟩ := o.there
      rw [ho] at n; cases n⟩
end
/-- all that the arguments hold now -/
def sees (env : En) : List R → Option (List D)
  | [] => some []
  | r :: rs => match r.see env, sees env rs with
    | some d, some ds => some (d :: ds)
    | _, _ => none
inductive VwL (Z : C3) (F H : Hp) : List V → List D → Prop
  | nil : VwL Z F H [] []
  | cons {v : V} {vs : List V} {d : D} {ds : List D} : Vw Z F H v d → VwL Z F H vs ds → VwL Z F H (v :: vs) (d :: ds)
theorem RepRs.see {Z : C3} {F H Hb : Hp} {σ : Sg} {env : En} (S : RepS Z F H σ env) : ∀ {vs : List V} {rs : List R} {ds : List D}, RepRs Z F H σ env Hb vs rs → sees env rs = some ds → VwL Z F H vs ds
  | _, _, _, .nil, e => by
    cases e
    exact .nil
  | _, _, _, .cons (r := r) (rs := rs) h _ _ t, e => by
    unfold sees at e
    cases e1 : r.see env with
    | none => rw [e1] at e; cases e
    | some d =>
      cases e2 : sees env rs with
      | none => rw [e1, e2] at e; cases e
      | some ds =>
        rw [e1, e2] at e
        cases e
        exact .cons (RepR.see S h e1) (t.see S e2)
/-- .. for keeps -/
def takes (env : En) : List R → Option (List D × En)
  | [] => some ([], env)
  | r :: rs => match r.take env with
    | some (d, e1) => (match takes e1 rs with
      | some (ds, e2) => some (d :: ds, e2)
      | none => none)
    | none => none

/-! ### calls of built-ins by values -/
abbrev FN := List D → Option (Bool × D)
def RDs (Z : C3) (f : FN) : List V → Hp → VK → Prop := fun xs H Q => ∃ F ds b d, Ex F H ∧ VwL Z F H xs ds ∧ f ds = some (b, d) ∧ ∀ v H' F', New F H F' H' → RepN Z H F' H' v b d → Q v H'
def mB (f : FN) (t : MA) : M := fun env => (t env).and fun rs e => match sees e rs with
  | some ds => outR (f ds) e
  | none => .stuck
section
variable {Z : C3} {W : WX} {σ : Sg} {Q : VK} {H : Hp}
theorem tA_and {m : MA} {k : List R → En → ER} {env eb : En} {F Fb Hb : Hp} {Q' : List V → Hp → Prop} (gb : Go Fb Hb σ eb F H σ env) (S : RepS Z F H σ env) (h : Wi Z W σ Q Fb Hb eb ((m env).and k))
    (n : ∀ rs env' vs H' F', m env = .ok rs env' → Go F H σ env F' H' σ env' → Go Fb Hb σ eb F' H' σ env' → RepS Z F' H' σ env' → RepRs Z F' H' σ env' H vs rs → Wi Z W σ Q Fb Hb eb (k rs env') → Q' vs H') : tA Z W m σ H Q' := by
  refine ⟨env, F, S, ?_⟩
  cases e : m env with
  | stuck => rw [e] at h; exact h
  | exc c e' => rw [e] at h; exact fun H' F' g => h H' F' (gb.trans g)
  | ok r e' =>
    rw [e] at h
    exact fun v H' F' g S' rr => n r e' v H' F' e g (gb.trans g) S' rr h
theorem t_mB {f : FN} {t : MA} (h : tE Z W (mB f t) σ H Q) : tCB (RDs Z f) (tA Z W t) σ H Q := by
  obtain ⟨env, F, S, h⟩ := h
  refine tA_and .refl S h fun rs e1 xs H1 F1 q1 g1 _ S1 r1 w1 => ?_
  cases ea : sees e1 rs with
  | none => rw [ea] at w1; exact w1.elim
  | some ds =>
    rw [ea] at w1
    cases ef : f ds with
    | none => simp only [ef] at w1; exact w1.elim
    | some bd =>
      obtain ⟨b, d⟩ := bd
      exact ⟨F1, ds, b, d, S1.ex, r1.see S1 ea, ef, fun v H' F' n r => Wi.out g1 w1 ef S1 n r⟩
end
section
variable {X : Cx} {W : WX} {x : Str} {p pos : Pos} {e : Expr} {es : List Expr} {t : MA} {id T : String} {f : FN}
theorem em_callB (hc : CallR X (.builtin id) (RDs (c3 X) f)) (hg : Gl X x) (hm : X.mg x = none) (hv : bootBuiltins x = some (.builtin id)) (ha : AM X W (e :: es) t) (hn : x ≠ "__name__" := by decide) (hdb : (x == ("__debug__" : Str)) = false := by decide)
    (he : starEach (e :: es) X.env = (false, eval e X.env) :: starEach es X.env := by rfl) (hpl : (backTo pos (starEach es X.env)).any (·.1) = false := by rfl) : EM X W (.Call (.Name x p) (e :: es) [] pos) (mB f t) := ⟨pe_mono (pe_callB hc hg hm hv ha.pa hn hdb he hpl) fun _ _ _ h => t_mB h⟩
theorem em_callTy (hc : CallR X (.type T) (RDs (c3 X) f)) (hg : Gl X x) (hm : X.mg x = none) (hv : bootBuiltins x = some (.type T)) (ha : AM X W (e :: es) t) (hn : x ≠ "__name__" := by decide) (hdb : (x == ("__debug__" : Str)) = false := by decide)
    (he : starEach (e :: es) X.env = (false, eval e X.env) :: starEach es X.env := by rfl) (hpl : (backTo pos (starEach es X.env)).any (·.1) = false := by rfl) : EM X W (.Call (.Name x p) (e :: es) [] pos) (mB f t) := ⟨pe_mono (pe_callTy hc hg hm hv ha.pa hn hdb he hpl) fun _ _ _ h => t_mB h⟩
end

/-! ### freezing -/
theorem froz_slot {Z : C3} {F H : Hp} {σ : Sg} {env : En} {i : Nat} {a : Addr} {d : D} {o : HO} (S : RepS Z F H σ env) (he : env[i]? = some (.own d)) (hs : σ[i]? = some (some (.ref a))) (ho : H a = some o) :
    Go F H σ env (upd F a o) H σ (env.set i (.fro d)) ∧ RepS Z (upd F a o) H σ (env.set i (.fro d)) ∧ Rp Z (upd F a o) (.ref a) d := by
  obtain ⟨a', h1, h2, h3⟩ := S.own i _ d he rfl
  rw [hs] at h1
  cases h1
  have hi : i < env.length := (List.getElem?_eq_some_iff.mp he).1
  have fz : Rp Z (upd F a o) (.ref a) d := h3.froz h2 ho
  have exF : Ex F (upd F a o) := Evl.Ex.new h2
  have ow : Owned env σ a := ⟨i, _, d, he, rfl, hs⟩
  have sub : ∀ c, Owned (env.set i (.fro d)) σ c → Owned env σ c ∧ c ≠ a := by
    rintro c ⟨j, s, e, f1, f2, f3⟩
    by_cases q : j = i
    · subst q
      rw [List.getElem?_set_self hi] at f1
      cases f1
      cases f2
    · rw [List.getElem?_set_ne (Ne.symm q)] at f1
      refine ⟨⟨j, s, e, f1, f2, f3⟩, fun z => ?_⟩
      subst z
      exact q (S.sep j i c s _ e d f1 he f2 rfl f3 hs)
  refine ⟨⟨exF, fun c u h n => h, fun c h => h, fun c h => ?_, fun c h => .inl (sub c h).1, fun j d' h => ?_⟩, ⟨?_, fun c u h => ?_, fun j d' h => ?_, fun j s d' h c => ?_, fun j k c s t d1 d2 f1 f2 f3 f4 f5 f6 => ?_⟩, fz⟩
  · by_cases q : c = a
    · subst q; exact .inr (.inr ow)
    · rw [upd_ne q] at h; exact .inl h
  · by_cases q : j = i
    · subst q
      rw [List.getElem?_set_self hi] at h
      cases h
    · rw [List.getElem?_set_ne (Ne.symm q)] at h
      exact ⟨⟨d', h⟩, rfl⟩
  · rw [List.length_set]; exact S.len
  · by_cases q : c = a
    · subst q; rw [upd_same] at h; cases h; exact ho
    · rw [upd_ne q] at h; exact S.ex c u h
  · by_cases q : j = i
    · subst q
      rw [List.getElem?_set_self hi] at h
      cases h
      exact ⟨_, hs, fz⟩
    · rw [List.getElem?_set_ne (Ne.symm q)] at h
      obtain ⟨v, g1, g2⟩ := S.fro j d' h
      exact ⟨v, g1, g2.mono exF⟩
  · by_cases q : j = i
    · subst q
      rw [List.getElem?_set_self hi] at h
      cases h
      cases c
    · rw [List.getElem?_set_ne (Ne.symm q)] at h
      obtain ⟨b, g1, g2, g3⟩ := S.own j s d' h c
      refine ⟨b, g1, ?_, g3.mono exF fun _ z => z⟩
      have nb : b ≠ a := fun z => by
        subst z
        exact q (S.sep j i b s _ d' d h he c rfl g1 hs)
      rw [upd_ne nb]; exact g2
  · have g : ∀ {m : Nat} {u : SV} {e : D}, (env.set i (.fro d))[m]? = some u → u.cont = some e → env[m]? = some u := fun {m u e} f1 f2 => by
      by_cases q : m = i
      · subst q
        rw [List.getElem?_set_self hi] at f1
        cases f1
        cases f2
      · rw [List.getElem?_set_ne (Ne.symm q)] at f1
        exact f1
    exact S.sep j k c s t d1 d2 (g f1 f3) (g f2 f4) f3 f4 f5 f6
/-- a thing of one's own is frozen: the start Hb did not know it -/
theorem froz_tmp {Z : C3} {F H Fb Hb : Hp} {σ σb : Sg} {env eb : En} {a : Addr} {d : D} {o : HO} (gb : Go Fb Hb σb eb F H σ env) (S : RepS Z F H σ env) (n : F a = none) (no : ¬ Owned env σ a) (hb : Hb a = none) (ho : H a = some o) (ow : Ow Z F H a d) :
    Go Fb Hb σb eb (upd F a o) H σ env ∧ RepS Z (upd F a o) H σ env ∧ Rp Z (upd F a o) (.ref a) d := by
  have exF : Ex F (upd F a o) := Evl.Ex.new n
  refine ⟨⟨gb.exF.trans exF, gb.keep, gb.dom, fun c h => ?_, gb.own, gb.bor⟩, ⟨S.len, fun c u h => ?_, fun i d h => ?_, fun i s d h c => ?_, S.sep⟩, ow.froz n ho⟩
  · by_cases q : c = a
    · subst q; exact .inr (.inl hb)
    · rw [upd_ne q] at h; exact gb.grow c h
  · by_cases q : c = a
    · subst q; rw [upd_same] at h; cases h; exact ho
    · rw [upd_ne q] at h; exact S.ex c u h
  · obtain ⟨v, h1, h2⟩ := S.fro i d h
    exact ⟨v, h1, h2.mono exF⟩
  · obtain ⟨b, h1, h2, h3⟩ := S.own i s d h c
    refine ⟨b, h1, ?_, h3.mono exF fun _ z => z⟩
    have nb : b ≠ a := fun z => by
      subst z
      exact no ⟨i, s, d, h, c, h1⟩
    rw [upd_ne nb]; exact h2
/-- a result taken for keeps; x: any other result that is carried along -/
theorem RepR.take {Z : C3} {F H Fb Hb : Hp} {σ σb : Sg} {env eb env' : En} {v : V} {r : R} {d : D} (gb : Go Fb Hb σb eb F H σ env) (S : RepS Z F H σ env) (h : RepR Z F H σ env v r) (fr : FrR Hb v r) (e : r.take env = some (d, env')) :
    ∃ F', Go Fb Hb σb eb F' H σ env' ∧ RepS Z F' H σ env' ∧ Rp Z F' v d ∧ Ex F F' ∧ ∀ w r', (∀ d1 d2, r = .tmp d1 → r' = .tmp d2 → w ≠ v) → RepR Z F H σ env w r' → RepR Z F' H σ env' w r' := by
  cases r with
  | fro d' =>
    cases e
    exact ⟨F, gb, S, h, Evl.Ex.refl F, fun _ _ _ x => x⟩
  | tmp d' =>
    cases e
    obtain ⟨a, rfl, n, no, o⟩ := h
    obtain ⟨b, eb', hb⟩ := fr
    cases eb'
    obtain ⟨ob, ho⟩ := o.there
    obtain ⟨g1, g2, g3⟩ := froz_tmp gb S n no hb ho o
    refine ⟨_, g1, g2, g3, Evl.Ex.new n, fun w r' ne x => ?_⟩
    have exF : Ex F (upd F a ob) := Evl.Ex.new n
    cases r' with
    | fro d2 => exact Rp.mono exF x
    | slot i => exact x
    | tmp d2 =>
      obtain ⟨b, rfl, n2, no2, o2⟩ := x
      refine ⟨b, rfl, ?_, no2, o2.mono exF fun _ z => z⟩
      have nb : b ≠ a := fun z => ne _ _ rfl rfl (by rw [z])
      rw [upd_ne nb]; exact n2
  | slot i =>
    unfold R.take at e
    cases q : env[i]? with
    | none => simp only [q] at e; cases e
    | some s =>
      simp only [q] at e
      cases s with
      | own d' =>
        cases e
        obtain ⟨a, h1, h2, h3⟩ := S.own i _ d q rfl
        have hv : σ[i]? = some (some v) := h
        rw [h1] at hv
        cases hv
        obtain ⟨ob, ho⟩ := h3.there
        obtain ⟨g1, g2, g3⟩ := froz_slot S q h1 ho
        exact ⟨_, gb.trans g1, g2, g3, g1.exF, fun w r' _ x => x.after g1⟩
      | _ => cases e
theorem RepRs.take {Z : C3} {Fb Hb : Hp} {σ : Sg} {eb : En} : ∀ {F H : Hp} {env env' : En} {vs : List V} {rs : List R} {ds : List D}, Go Fb Hb σ eb F H σ env → RepS Z F H σ env → RepRs Z F H σ env Hb vs rs → takes env rs = some (ds, env') →
    ∃ F', Go Fb Hb σ eb F' H σ env' ∧ RepS Z F' H σ env' ∧ RpL Z F' vs ds ∧ Ex F F'
  | F, H, env, env', _, _, _, gb, S, .nil, e => by
    cases e
    exact ⟨F, gb, S, .nil, Evl.Ex.refl F⟩
  | F, H, env, env', _, _, _, gb, S, .cons (v := v) (vs := vs) (r := r) (rs := rs) h fr ne t, e => by
    unfold takes at e
    cases e1 : r.take env with
    | none => rw [e1] at e; cases e
    | some de =>
      obtain ⟨d, env1⟩ := de
      simp only [e1] at e
      cases e2 : takes env1 rs with
      | none => rw [e2] at e; cases e
      | some de2 =>
        obtain ⟨ds', env2⟩ := de2
        rw [e2] at e
        cases e
        obtain ⟨F1, g1, S1, p1, x1, c1⟩ := RepR.take gb S h fr e1
        have t1 : RepRs Z F1 H σ env1 Hb vs rs := by
          have car : ∀ {vs : List V} {rs : List R}, RepRs Z F H σ env Hb vs rs → (∀ d, r = .tmp d → ∀ (j : Nat) w d', vs[j]? = some w → rs[j]? = some (.tmp d') → w ≠ v) → RepRs Z F1 H σ env1 Hb vs rs := by
            intro vs rs t ne
            induction t with
            | nil => exact .nil
            | cons a b c t ih => exact .cons (c1 _ _ (fun d1 d2 x1 x2 => ne d1 x1 0 _ d2 rfl (by rw [x2]; rfl)) a) b c (ih fun d x j w d' h1 h2 => ne d x (j + 1) w d' (by simpa using h1) (by simpa using h2))
          exact car t ne
        obtain ⟨F2, g2, S2, p2, x2⟩ := RepRs.take g1 S1 t1 e2
        exact ⟨F2, g2, S2, .cons (p1.mono x2) p2, x1.trans x2⟩
end Gr
end
section
/-! Displays, tests, statements, loops. -/
namespace Gr
open PySem PySem.Spec PyProof.Rows L2

def szl : Nat := 100000
theorem szl_ok {n : Nat} (h : n ≤ szl) : n ≤ sizeLine := Nat.le_trans h (by decide)
theorem szl_lt {n : Nat} (h : n ≤ szl) : n < sizeLine := Nat.lt_of_le_of_lt h (by decide)

/-! ### displays -/
def mTup (t : MA) : M := fun env => (t env).and fun rs e => match takes e rs with
  | some (ds, e') => if ds.length ≤ szl then .ok (.fro (.tup ds)) e' else .stuck
  | none => .stuck
def mLst (t : MA) : M := fun env => (t env).and fun rs e => match takes e rs with
  | some (ds, e') => if ds.length ≤ szl then .ok (.tmp (.lst ds)) e' else .stuck
  | none => .stuck
section
variable {X : Cx} {W : WX} {pos : Pos} {es : List Expr} {t : MA}
theorem em_tup {x1} (h : AM X W es t) : EM X W (.Tuple es x1 pos) (mTup t) := ⟨pe_mono (pe_tup h.pa) fun σ H Q q => by
  obtain ⟨env, F, S, q⟩ := q
  refine tA_and .refl S q fun rs e1 vs H1 F1 q1 g1 _ S1 r1 w1 => ?_
  cases et : takes e1 rs with
  | none => rw [et] at w1; exact w1.elim
  | some de =>
    obtain ⟨ds, e'⟩ := de
    simp only [et] at w1
    obtain ⟨F2, g2, S2, p2, x2⟩ := r1.take g1 S1 et
    by_cases hz : ds.length ≤ szl
    · rw [if_pos hz] at w1
      refine ⟨by rw [p2.length]; exact szl_ok hz, fun p hp => ?_⟩
      have n : New F2 H1 (upd F2 p (.tup vs)) (upd H1 p (.tup vs)) := New.froz S2.ex hp
      exact w1 _ _ _ (g2.trans n.go) (n.repS S2) (Rp.tup (.of upd_same) (p2.mono n.exF)) trivial
    · rw [if_neg hz] at w1; exact w1.elim⟩
theorem em_lst (h : AM X W es t) : EM X W (.List es pos) (mLst t) := ⟨pe_mono (pe_lst h.pa) fun σ H Q q => by
  obtain ⟨env, F, S, q⟩ := q
  refine tA_and .refl S q fun rs e1 vs H1 F1 q1 g1 _ S1 r1 w1 => ?_
  cases et : takes e1 rs with
  | none => rw [et] at w1; exact w1.elim
  | some de =>
    obtain ⟨ds, e'⟩ := de
    simp only [et] at w1
    obtain ⟨F2, g2, S2, p2, x2⟩ := r1.take g1 S1 et
    by_cases hz : ds.length ≤ szl
    · rw [if_pos hz] at w1
      refine ⟨by rw [p2.length]; exact szl_ok hz, fun p hp => ?_⟩
      have n : New F2 H1 F2 (upd H1 p (.lst vs)) := New.mine S2.ex hp
      have rn : RepN (c3 X) H1 F2 (upd H1 p (.lst vs)) (.ref p) true (.lst ds) := ⟨p, rfl, hp, dom_of S2.ex p hp, vs, upd_same, p2⟩
      exact w1 _ _ _ (g2.trans n.go) (n.repS S2) (n.repR (b := true) S2 rn) (New.frR (b := true) g2.dom rn)
    · rw [if_neg hz] at w1; exact w1.elim⟩
end

/-! ### tests -/
inductive TR where
  | ok (b : Bool) (env : En) | exc (c : Nat) (env : En) | stuck
abbrev MT := En → TR
def WiT (Z : C3) (W : WX) (σ : Sg) (Q : Bool → Hp → Prop) (F H : Hp) (env : En) (o : TR) : Prop := match o with
  | .ok b env' => ∀ H' F', Go F H σ env F' H' σ env' → RepS Z F' H' σ env' → Q b H'
  | .exc c env' => ∀ H' F', Go F H σ env F' H' σ env' → RepS Z F' H' σ env' → W c σ H'
  | .stuck => False
def tT (Z : C3) (W : WX) (m : MT) : TT := fun σ H Q => ∃ env F, RepS Z F H σ env ∧ WiT Z W σ Q F H env (m env)
structure TM (X : Cx) (W : WX) (e : Expr) (m : MT) : Prop where
  pt : PT X e (tT (c3 X) W m)
structure TW (X : Cx) (W : WX) (e : Expr) (m : MT) : Prop where
  pw : PW X e (tT (c3 X) W m)
theorem pw_mono {X : Cx} {e : Expr} {t t' : TT} (h : PW X e t) (i : ∀ σ H Q, t' σ H Q → t σ H Q) : PW X e t' := ⟨fun wh pins s σ H Q I q => h.run wh pins s σ H Q I (i σ H Q q)⟩
def tmV (m : M) : MT := fun env => match m env with
  | .ok r e => (match r.see e with
    | some (.bl b) => .ok b e
    | _ => .stuck)
  | .exc c e => .exc c e
  | .stuck => .stuck
def tmNot (m : MT) : MT := fun env => match m env with
  | .ok b e => .ok (!b) e
  | .exc c e => .exc c e
  | .stuck => .stuck
def tmAnd (a b : MT) : MT := fun env => match a env with
  | .ok true e => b e
  | .ok false e => .ok false e
  | .exc c e => .exc c e
  | .stuck => .stuck
def tmOr (a b : MT) : MT := fun env => match a env with
  | .ok true e => .ok true e
  | .ok false e => b e
  | .exc c e => .exc c e
  | .stuck => .stuck
theorem Vw.bl {Z : C3} {F H : Hp} {v : V} {b : Bool} (h : Vw Z F H v (.bl b)) : v = .bl b := by
  rcases h with h | ⟨a, _, h⟩
  · cases h; rfl
  · exact h.elim
section
variable {X : Cx} {W : WX} {pos : Pos} {a b c e : Expr} {ma mb : M} {ta tb : MT} {rest : List Expr}
theorem t_tmV {Z : C3} {m : M} {σ : Sg} {H : Hp} {Q : Bool → Hp → Prop} (h : tT Z W (tmV m) σ H Q) : tE Z W m σ H fun x H' => ∃ k, x = .bl k ∧ Q k H' := by
  obtain ⟨env, F, S, h⟩ := h
  refine ⟨env, F, S, ?_⟩
  unfold tmV at h
  cases em : m env with
  | stuck => rw [em] at h; exact h.elim
  | exc c e' => rw [em] at h; exact h
  | ok r e' =>
    simp only [em] at h
    intro v H' F' g S' r' f'
    cases es : r.see e' with
    | none => rw [es] at h; exact h.elim
    | some d =>
      cases d with
      | bl b =>
        rw [es] at h
        exact ⟨b, (r'.see S' es).bl, h H' F' g S'⟩
      | _ => rw [es] at h; exact h.elim
theorem tm_val (h : EM X W e ma) (he : ∀ whole, isTrue e X.env whole = (do let v ← whole; standAt e.pos; holding [v] (truthy v)) := by intro _; rfl) : TM X W e (tmV ma) := ⟨pt_mono (pt_val h.pe he) fun σ H Q q => t_tmV q⟩
theorem tm_cmp {op : CmpOp} {f : F2} (ho : OpR X (compareOp op) (RD (c3 X) f)) (ha : EM X W a ma) (hb : EM X W b mb) (hm : behindInMarks op b = false) : TM X W (.Compare a [op] [b] pos) (tmV (m2 f ma mb)) :=
  ⟨pt_mono (pt_cmpR ho ha.pe hb.pe hm) fun σ H Q q => t_m2 (W := W) (Q := fun x H' => ∃ k, x = .bl k ∧ Q k H') (t_tmV q)⟩
theorem tm_not (h : TM X W a ta) : TM X W (.UnaryOp .Not a pos) (tmNot ta) := ⟨pt_mono (pt_not h.pt) fun σ H Q q => by
  obtain ⟨env, F, S, q⟩ := q
  refine ⟨env, F, S, ?_⟩
  unfold tmNot at q
  cases em : ta env with
  | stuck => rw [em] at q; exact q.elim
  | exc c e' => rw [em] at q; exact q
  | ok r e' => rw [em] at q; exact q⟩
theorem WiT.after {Z : C3} {σ : Sg} {Q : Bool → Hp → Prop} {F H F1 H1 : Hp} {env env1 : En} {o : TR} (g : Go F H σ env F1 H1 σ env1) (h : WiT Z W σ Q F H env o) : WiT Z W σ Q F1 H1 env1 o := by
  cases o with
  | ok r e => exact fun H' F' g' => h H' F' (g.trans g')
  | exc c e => exact fun H' F' g' => h H' F' (g.trans g')
  | stuck => exact h
theorem t_and {Z : C3} {σ : Sg} {H : Hp} {Q : Bool → Hp → Prop} (h : tT Z W (tmAnd ta tb) σ H Q) : tAnd (tT Z W ta) (tT Z W tb) σ H Q := by
  obtain ⟨env, F, S, h⟩ := h
  refine ⟨env, F, S, ?_⟩
  unfold tmAnd at h
  cases em : ta env with
  | stuck => rw [em] at h; exact h.elim
  | exc c e' => rw [em] at h; exact h
  | ok r e' =>
    intro H' F' g S'
    cases r with
    | true => rw [em] at h; exact iteT ⟨e', F', S', h.after g⟩
    | false => rw [em] at h; exact iteF (h H' F' g S')
theorem t_or {Z : C3} {σ : Sg} {H : Hp} {Q : Bool → Hp → Prop} (h : tT Z W (tmOr ta tb) σ H Q) : tOr (tT Z W ta) (tT Z W tb) σ H Q := by
  obtain ⟨env, F, S, h⟩ := h
  refine ⟨env, F, S, ?_⟩
  unfold tmOr at h
  cases em : ta env with
  | stuck => rw [em] at h; exact h.elim
  | exc c e' => rw [em] at h; exact h
  | ok r e' =>
    intro H' F' g S'
    cases r with
    | true => rw [em] at h; exact iteT (h H' F' g S')
    | false => rw [em] at h; exact iteF ⟨e', F', S', h.after g⟩
theorem tw_and1 (h : TM X W a ta) : TW X W (.BoolOp .And [a] pos) ta := ⟨pw_and1 h.pt⟩
theorem tw_or1 (h : TM X W a ta) : TW X W (.BoolOp .Or [a] pos) ta := ⟨pw_or1 h.pt⟩
theorem tw_and (h : TM X W a ta) (h2 : TW X W (.BoolOp .And (b :: rest) pos) tb) : TW X W (.BoolOp .And (a :: b :: rest) pos) (tmAnd ta tb) := ⟨pw_mono (pw_and h.pt h2.pw) fun σ H Q q => t_and q⟩
theorem tw_or (h : TM X W a ta) (h2 : TW X W (.BoolOp .Or (b :: rest) pos) tb) : TW X W (.BoolOp .Or (a :: b :: rest) pos) (tmOr ta tb) := ⟨pw_mono (pw_or h.pt h2.pw) fun σ H Q q => t_or q⟩
theorem TW.tm (h : TW X W e ta) : TM X W e ta := ⟨h.pw.pt⟩
end
/-! .. as values: and, or, not of truth values; a if t else b -/
def mAnd (a b : M) : M := fun env => (a env).and fun r e => match r.see e with
  | some (.bl true) => b e
  | some (.bl false) => .ok (.fro (.bl false)) e
  | _ => .stuck
def mOr (a b : M) : M := fun env => (a env).and fun r e => match r.see e with
  | some (.bl true) => .ok (.fro (.bl true)) e
  | some (.bl false) => b e
  | _ => .stuck
def mNot (a : M) : M := fun env => (a env).and fun r e => match r.see e with
  | some (.bl b) => .ok (.fro (.bl (!b))) e
  | _ => .stuck
def mIf (t : MT) (a b : M) : M := fun env => match t env with
  | .ok true e => a e
  | .ok false e => b e
  | .exc c e => .exc c e
  | .stuck => .stuck
section
variable {X : Cx} {W : WX} {pos : Pos} {a b c e : Expr} {ma mb : M} {tc : MT} {rest : List Expr}
theorem em_one {op} (h : EM X W a ma) : EM X W (.BoolOp op [a] pos) ma := ⟨pe_one h.pe⟩
theorem em_and (ha : EM X W a ma) (hb : EM X W (.BoolOp .And (b :: rest) pos) mb) : EM X W (.BoolOp .And (a :: b :: rest) pos) (mAnd ma mb) := ⟨pe_mono (pe_and ha.pe hb.pe) fun σ H Q q => by
  obtain ⟨env, F, S, q⟩ := q
  refine tE_and .refl S q fun r e1 v H1 F1 q1 g1 gb S1 r1 f1 w1 => ?_
  cases es : r.see e1 with
  | none => rw [es] at w1; exact w1.elim
  | some d =>
    cases d with
    | bl k =>
      obtain rfl := (r1.see S1 es).bl
      refine ⟨k, rfl, ?_⟩
      cases k with
      | true => rw [es] at w1; exact iteT ⟨e1, F1, S1, w1.after g1⟩
      | false => rw [es] at w1; exact iteF (w1 _ H1 F1 g1 S1 (.bl false) trivial)
    | _ => rw [es] at w1; exact w1.elim⟩
theorem em_or (ha : EM X W a ma) (hb : EM X W (.BoolOp .Or (b :: rest) pos) mb) : EM X W (.BoolOp .Or (a :: b :: rest) pos) (mOr ma mb) := ⟨pe_mono (pe_or ha.pe hb.pe) fun σ H Q q => by
  obtain ⟨env, F, S, q⟩ := q
  refine tE_and .refl S q fun r e1 v H1 F1 q1 g1 gb S1 r1 f1 w1 => ?_
  cases es : r.see e1 with
  | none => rw [es] at w1; exact w1.elim
  | some d =>
    cases d with
    | bl k =>
      obtain rfl := (r1.see S1 es).bl
      refine ⟨k, rfl, ?_⟩
      cases k with
      | true => rw [es] at w1; exact iteT (w1 _ H1 F1 g1 S1 (.bl true) trivial)
      | false => rw [es] at w1; exact iteF ⟨e1, F1, S1, w1.after g1⟩
    | _ => rw [es] at w1; exact w1.elim⟩
theorem em_not (ha : EM X W a ma) : EM X W (.UnaryOp .Not a pos) (mNot ma) := ⟨pe_mono (pe_not ha.pe) fun σ H Q q => by
  obtain ⟨env, F, S, q⟩ := q
  refine tE_and .refl S q fun r e1 v H1 F1 q1 g1 gb S1 r1 f1 w1 => ?_
  cases es : r.see e1 with
  | none => rw [es] at w1; exact w1.elim
  | some d =>
    cases d with
    | bl k =>
      obtain rfl := (r1.see S1 es).bl
      rw [es] at w1
      exact ⟨k, rfl, w1 _ H1 F1 g1 S1 (.bl _) trivial⟩
    | _ => rw [es] at w1; exact w1.elim⟩
theorem em_ifE (hc : TM X W c tc) (ha : EM X W a ma) (hb : EM X W b mb) : EM X W (.IfExp c a b pos) (mIf tc ma mb) := ⟨pe_mono (pe_ifExp hc.pt ha.pe hb.pe) fun σ H Q q => by
  obtain ⟨env, F, S, q⟩ := q
  refine ⟨env, F, S, ?_⟩
  unfold mIf at q
  cases em : tc env with
  | stuck => rw [em] at q; exact q.elim
  | exc c e' => rw [em] at q; exact q
  | ok r e' =>
    intro H' F' g S'
    cases r with
    | true => rw [em] at q; exact iteT ⟨e', F', S', q.after g⟩
    | false => rw [em] at q; exact iteF ⟨e', F', S', q.after g⟩⟩
end

/-! ### statements -/
inductive SR where
  | nx (env : En) | rt (r : R) (env : En) | bk (env : En) | ct (env : En) | exc (c : Nat) (env : En) | stuck
abbrev MS := En → SR
def WiS (Z : C3) (W : WX) (D : Ends) (σ : Sg) (F H : Hp) (env : En) (o : SR) : Prop := match o with
  | .nx e' => ∀ σ' H' F', Go F H σ env F' H' σ' e' → RepS Z F' H' σ' e' → D.nx σ' H'
  | .bk e' => ∀ σ' H' F', Go F H σ env F' H' σ' e' → RepS Z F' H' σ' e' → D.bk σ' H'
  | .ct e' => ∀ σ' H' F', Go F H σ env F' H' σ' e' → RepS Z F' H' σ' e' → D.ct σ' H'
  | .rt r e' => ∀ v σ' H' F', Go F H σ env F' H' σ' e' → RepS Z F' H' σ' e' → RepR Z F' H' σ' e' v r → FrR H v r → D.rt v H'
  | .exc c e' => ∀ σ' H' F', Go F H σ env F' H' σ' e' → RepS Z F' H' σ' e' → W c σ' H'
  | .stuck => False
def tS (Z : C3) (W : WX) (m : MS) : TS := fun D σ H => ∃ env F, RepS Z F H σ env ∧ WiS Z W D σ F H env (m env)
structure SM (X : Cx) (W : WX) (st : Stmt) (m : MS) : Prop where
  ps : PS X st (tS (c3 X) W m)
structure SMs (X : Cx) (W : WX) (sts : List Stmt) (m : MS) : Prop where
  pss : PSs X sts (tS (c3 X) W m)
theorem WiS.after {Z : C3} {W : WX} {D : Ends} {σ σ1 : Sg} {F H F1 H1 : Hp} {env env1 : En} {o : SR} (g : Go F H σ env F1 H1 σ1 env1) (h : WiS Z W D σ F H env o) : WiS Z W D σ1 F1 H1 env1 o := by
  cases o with
  | nx e => exact fun σ' H' F' g' => h σ' H' F' (g.trans g')
  | bk e => exact fun σ' H' F' g' => h σ' H' F' (g.trans g')
  | ct e => exact fun σ' H' F' g' => h σ' H' F' (g.trans g')
  | exc c e => exact fun σ' H' F' g' => h σ' H' F' (g.trans g')
  | rt r e => exact fun v σ' H' F' g' S rr f => h v σ' H' F' (g.trans g') S rr (f.back g.dom)
  | stuck => exact h
/-- an expression's result, then a statement's rest -/
def ER.andS (r : ER) (k : R → En → SR) : SR := match r with
  | .ok r env => k r env
  | .exc c env => .exc c env
  | .stuck => .stuck
theorem tE_andS {Z : C3} {W : WX} {m : M} {k : R → En → SR} {σ : Sg} {H : Hp} {D : Ends} {env : En} {F : Hp} {Q' : VK} (S : RepS Z F H σ env) (h : WiS Z W D σ F H env ((m env).andS k))
    (n : ∀ r env' v H' F', m env = .ok r env' → Go F H σ env F' H' σ env' → RepS Z F' H' σ env' → RepR Z F' H' σ env' v r → FrR H v r → WiS Z W D σ F H env (k r env') → Q' v H') : tE Z W m σ H Q' := by
  refine ⟨env, F, S, ?_⟩
  cases e : m env with
  | stuck => rw [e] at h; exact h
  | exc c e' => rw [e] at h; exact fun H' F' g S' => h σ H' F' g S'
  | ok r e' =>
    rw [e] at h
    exact fun v H' F' g S' rr fr => n r e' v H' F' e g S' rr fr h
def sSeq (a b : MS) : MS := fun env => match a env with
  | .nx e => b e
  | o => o
def sNil : MS := fun env => .nx env
def sExpr (m : M) : MS := fun env => (m env).andS fun _ e => .nx e
def sRet (m : M) : MS := fun env => (m env).andS fun r e => .rt r e
def sRetN : MS := fun env => .rt (.fro .non) env
def sIf (t : MT) (a b : MS) : MS := fun env => match t env with
  | .ok true e => a e
  | .ok false e => b e
  | .exc c e => .exc c e
  | .stuck => .stuck
def sBrk : MS := fun env => .bk env
def sCnt : MS := fun env => .ct env
section
variable {X : Cx} {W : WX} {pos : Pos} {e c : Expr} {m : M} {a b : MS} {tc : MT} {st : Stmt} {rest sa sb : List Stmt}
theorem sms_nil : SMs X W [] sNil := ⟨pss_mono pss_nil fun D σ H q => by
  obtain ⟨env, F, S, q⟩ := q
  exact q σ H F .refl S⟩
theorem sms_cons (h1 : SM X W st a) (h2 : SMs X W rest b) : SMs X W (st :: rest) (sSeq a b) := ⟨pss_mono (pss_cons h1.ps h2.pss) fun D σ H q => by
  obtain ⟨env, F, S, q⟩ := q
  refine ⟨env, F, S, ?_⟩
  unfold sSeq at q
  cases em : a env with
  | nx e => rw [em] at q; exact fun σ' H' F' g S' => ⟨e, F', S', q.after g⟩
  | rt r e => rw [em] at q; exact q
  | bk e => rw [em] at q; exact q
  | ct e => rw [em] at q; exact q
  | exc c e => rw [em] at q; exact q
  | stuck => rw [em] at q; exact q⟩
theorem sms_one (h1 : SM X W st a) : SMs X W [st] a := ⟨pss_one h1.ps⟩
theorem sm_expr (h : EM X W e m) (hs : swapsWith e none pos.line X.env = pure false := by rfl) : SM X W (.Expr e pos) (sExpr m) := ⟨ps_mono (ps_expr h.pe hs) fun D σ H q => by
  obtain ⟨env, F, S, q⟩ := q
  exact tE_andS S q fun r e1 v H1 F1 _ g1 S1 _ _ w => w σ H1 F1 g1 S1⟩
theorem sm_ret (h : EM X W e m) : SM X W (.Return (some e) pos) (sRet m) := ⟨ps_mono (ps_ret h.pe) fun D σ H q => by
  obtain ⟨env, F, S, q⟩ := q
  exact tE_andS (Q' := D.rt) S q fun r e1 v H1 F1 _ g1 S1 r1 f1 w => w v σ H1 F1 g1 S1 r1 f1⟩
theorem sm_retN : SM X W (.Return none pos) sRetN := ⟨ps_mono ps_retN fun D σ H q => by
  obtain ⟨env, F, S, q⟩ := q
  exact q .non σ H F .refl S .non trivial⟩
theorem sm_pass : SM X W (.Pass pos) sNil := ⟨ps_mono ps_pass fun D σ H q => by
  obtain ⟨env, F, S, q⟩ := q
  exact q σ H F .refl S⟩
theorem sm_brk : SM X W (.Break pos) sBrk := ⟨ps_mono ps_break fun D σ H q => by
  obtain ⟨env, F, S, q⟩ := q
  exact q σ H F .refl S⟩
theorem sm_cnt : SM X W (.Continue pos) sCnt := ⟨ps_mono ps_continue fun D σ H q => by
  obtain ⟨env, F, S, q⟩ := q
  exact q σ H F .refl S⟩
theorem sm_if (hc : TM X W c tc) (ha : SMs X W sa a) (hb : SMs X W sb b) : SM X W (.If c sa sb pos) (sIf tc a b) := ⟨ps_mono (ps_if hc.pt ha.pss hb.pss) fun D σ H q => by
  obtain ⟨env, F, S, q⟩ := q
  refine ⟨env, F, S, ?_⟩
  unfold sIf at q
  cases em : tc env with
  | stuck => rw [em] at q; exact q.elim
  | exc c e' => rw [em] at q; exact fun H' F' g S' => q σ H' F' g S'
  | ok r e' =>
    intro H' F' g S'
    cases r with
    | true => rw [em] at q; exact iteT ⟨e', F', S', q.after g⟩
    | false => rw [em] at q; exact iteF ⟨e', F', S', q.after g⟩⟩
end

/-! ### stores to names -/
/-- a frozen thing into a slot -/
def putF (i : Nat) (d : D) (env : En) : Option En := match env[i]? with
  | some (.bor _) => none
  | some _ => some (env.set i (.fro d))
  | none => none
/-- a thing of one's own -/
def putO (i : Nat) (d : D) (env : En) : Option En := match env[i]? with
  | some (.bor _) => none
  | some _ => some (env.set i (.own d))
  | none => none
/-- a result -/
def putR (i : Nat) (r : R) (env : En) : Option En := match r with
  | .fro d => putF i d env
  | .tmp d => putO i d env
  | .slot j => match (R.slot j).take env with
    | some (d, e) => putF i d e
    | none => none
section
variable {Z : C3} {F H Fb Hb : Hp} {σ σb : Sg} {env eb env' : En} {v : V} {d : D} {i : Nat} {r : R}
/-- the set of owned things behind a store -/
theorem owned_set {s : SV} {w : Option V} {c : Addr} (hi : i < env.length) (h : Owned (env.set i s) (σ.set i w) c) : (∃ d, s.cont = some d ∧ w = some (.ref c)) ∨ (∃ (j : Nat) (t : SV) (d : D), j ≠ i ∧ env[j]? = some t ∧ t.cont = some d ∧ σ[j]? = some (some (V.ref c))) := by
  obtain ⟨j, t, d, h1, h2, h3⟩ := h
  by_cases q : j = i
  · subst q
    rw [List.getElem?_set_self hi] at h1
    cases h1
    have hj : j < (σ.set j w).length := (List.getElem?_eq_some_iff.mp h3).1
    rw [List.length_set] at hj
    rw [List.getElem?_set_self hj] at h3
    cases h3
    exact .inl ⟨d, h2, rfl⟩
  · rw [List.getElem?_set_ne (Ne.symm q)] at h1 h3
    exact .inr ⟨j, t, d, q, h1, h2, h3⟩
theorem putF_ok (gb : Go Fb Hb σb eb F H σ env) (S : RepS Z F H σ env) (r : Rp Z F v d) (e : putF i d env = some env') : Go Fb Hb σb eb F H (σ.set i (some v)) env' ∧ RepS Z F H (σ.set i (some v)) env' := by
  unfold putF at e
  cases q : env[i]? with
  | none => simp only [q] at e; cases e
  | some s =>
    have hi : i < env.length := (List.getElem?_eq_some_iff.mp q).1
    have hs : i < σ.length := by rw [← S.len]; exact hi
    have nb : ∀ d, s ≠ .bor d := fun d z => by
      subst z; simp only [q] at e; cases e
    have e' : env' = env.set i (.fro d) := by
      simp only [q] at e
      cases s with
      | bor d => exact absurd rfl (nb d)
      | _ => exact (Option.some.inj e).symm
    subst e'
    refine ⟨⟨gb.exF, gb.keep, gb.dom, gb.grow, fun c h => ?_, fun j d' h => ?_⟩, ⟨by rw [List.length_set, List.length_set]; exact S.len, S.ex, fun j d' h => ?_, fun j t d' h c => ?_, fun j k c s t d1 d2 f1 f2 f3 f4 f5 f6 => ?_⟩⟩
    · rcases owned_set hi h with ⟨_, z, _⟩ | ⟨j, t, d', nj, h1, h2, h3⟩
      · cases z
      · exact gb.own c ⟨j, t, d', h1, h2, h3⟩
    · by_cases z : j = i
      · subst z
        rw [List.getElem?_set_self hi] at h
        cases h
      · rw [List.getElem?_set_ne (Ne.symm z)] at h
        obtain ⟨h1, h2⟩ := gb.bor j d' h
        exact ⟨h1, by rw [List.getElem?_set_ne (Ne.symm z)]; exact h2⟩
    · by_cases z : j = i
      · subst z
        rw [List.getElem?_set_self hi] at h
        cases h
        exact ⟨v, List.getElem?_set_self hs, r⟩
      · rw [List.getElem?_set_ne (Ne.symm z)] at h ⊢
        exact S.fro j d' h
    · by_cases z : j = i
      · subst z
        rw [List.getElem?_set_self hi] at h
        cases h
        cases c
      · rw [List.getElem?_set_ne (Ne.symm z)] at h ⊢
        exact S.own j t d' h c
    · have g : ∀ {m : Nat} {u : SV} {e : D}, (env.set i (.fro d))[m]? = some u → u.cont = some e → m ≠ i ∧ env[m]? = some u := fun {m u e} f1 f2 => by
        by_cases q : m = i
        · subst q
          rw [List.getElem?_set_self hi] at f1
          cases f1
          cases f2
        · rw [List.getElem?_set_ne (Ne.symm q)] at f1
          exact ⟨q, f1⟩
      obtain ⟨a1, a2⟩ := g f1 f3
      obtain ⟨b1, b2⟩ := g f2 f4
      rw [List.getElem?_set_ne (Ne.symm a1)] at f5
      rw [List.getElem?_set_ne (Ne.symm b1)] at f6
      exact S.sep j k c s t d1 d2 a2 b2 f3 f4 f5 f6
theorem putO_ok {a : Addr} (gb : Go Fb Hb σb eb F H σ env) (S : RepS Z F H σ env) (n : F a = none) (no : ¬ Owned env σ a) (hb : Hb a = none) (ow : Ow Z F H a d) (e : putO i d env = some env') : Go Fb Hb σb eb F H (σ.set i (some (.ref a))) env' ∧ RepS Z F H (σ.set i (some (.ref a))) env' := by
  unfold putO at e
  cases q : env[i]? with
  | none => simp only [q] at e; cases e
  | some s =>
    have hi : i < env.length := (List.getElem?_eq_some_iff.mp q).1
    have hs : i < σ.length := by rw [← S.len]; exact hi
    have nb : ∀ d, s ≠ .bor d := fun d z => by
      subst z; simp only [q] at e; cases e
    have e' : env' = env.set i (.own d) := by
      simp only [q] at e
      cases s with
      | bor d => exact absurd rfl (nb d)
      | _ => exact (Option.some.inj e).symm
    subst e'
    refine ⟨⟨gb.exF, gb.keep, gb.dom, gb.grow, fun c h => ?_, fun j d' h => ?_⟩, ⟨by rw [List.length_set, List.length_set]; exact S.len, S.ex, fun j d' h => ?_, fun j t d' h c => ?_, fun j k c s t d1 d2 f1 f2 f3 f4 f5 f6 => ?_⟩⟩
    · rcases owned_set hi h with ⟨_, _, z⟩ | ⟨j, t, d', nj, h1, h2, h3⟩
      · cases z; exact .inr hb
      · exact gb.own c ⟨j, t, d', h1, h2, h3⟩
    · by_cases z : j = i
      · subst z
        rw [List.getElem?_set_self hi] at h
        cases h
      · rw [List.getElem?_set_ne (Ne.symm z)] at h
        obtain ⟨h1, h2⟩ := gb.bor j d' h
        exact ⟨h1, by rw [List.getElem?_set_ne (Ne.symm z)]; exact h2⟩
    · by_cases z : j = i
      · subst z
        rw [List.getElem?_set_self hi] at h
        cases h
      · rw [List.getElem?_set_ne (Ne.symm z)] at h ⊢
        exact S.fro j d' h
    · by_cases z : j = i
      · subst z
        rw [List.getElem?_set_self hi] at h
        cases h
        cases c
        exact ⟨a, List.getElem?_set_self hs, n, ow⟩
      · rw [List.getElem?_set_ne (Ne.symm z)] at h ⊢
        exact S.own j t d' h c
    · have g : ∀ {m : Nat} {u : SV} {e : D} {c : Addr}, (env.set i (.own d))[m]? = some u → u.cont = some e → (σ.set i (some (V.ref a)))[m]? = some (some (V.ref c)) → (m = i ∧ c = a) ∨ (m ≠ i ∧ env[m]? = some u ∧ σ[m]? = some (some (V.ref c))) := fun {m u e c} f1 f2 f3 => by
        by_cases q : m = i
        · subst q
          rw [List.getElem?_set_self hs] at f3
          cases f3
          exact .inl ⟨rfl, rfl⟩
        · rw [List.getElem?_set_ne (Ne.symm q)] at f1 f3
          exact .inr ⟨q, f1, f3⟩
      rcases g f1 f3 f5 with ⟨a1, a2⟩ | ⟨a1, a2, a3⟩
      · rcases g f2 f4 f6 with ⟨b1, b2⟩ | ⟨b1, b2, b3⟩
        · rw [a1, b1]
        · exact absurd ⟨k, t, d2, b2, f4, by rw [b3, a2]⟩ no
      · rcases g f2 f4 f6 with ⟨b1, b2⟩ | ⟨b1, b2, b3⟩
        · exact absurd ⟨j, s, d1, a2, f3, by rw [a3, b2]⟩ no
        · exact S.sep j k c s t d1 d2 a2 b2 f3 f4 a3 b3
theorem putR_ok (gb : Go Fb Hb σb eb F H σ env) (S : RepS Z F H σ env) (h : RepR Z F H σ env v r) (fr : FrR Hb v r) (e : putR i r env = some env') : ∃ F', Go Fb Hb σb eb F' H (σ.set i (some v)) env' ∧ RepS Z F' H (σ.set i (some v)) env' := by
  cases r with
  | fro d => exact ⟨F, putF_ok gb S h e⟩
  | tmp d =>
    obtain ⟨a, rfl, n, no, o⟩ := h
    obtain ⟨b, eb', hb⟩ := fr
    cases eb'
    exact ⟨F, putO_ok gb S n no hb o e⟩
  | slot j =>
    unfold putR at e
    cases q : (R.slot j).take env with
    | none => simp only [q] at e; cases e
    | some de =>
      obtain ⟨d, e1⟩ := de
      simp only [q] at e
      obtain ⟨F1, g1, S1, p1, _⟩ := RepR.take .refl S h (trivial : FrR H v (.slot j)) q
      exact ⟨F1, putF_ok (gb.trans g1) S1 p1 e⟩
end
def sSet (i : Nat) (m : M) : MS := fun env => (m env).andS fun r e => match putR i r e with
  | some e' => .nx e'
  | none => .stuck
section
variable {X : Cx} {W : WX} {pos : Pos} {e : Expr} {m : M}
theorem sm_set {i : Nat} {x : Str} {pos' : Pos} (hN : X.N.Nodup) (he : EM X W e m) (hi : X.N[i]? = some x := by rfl) (hx : Loc X.env.scope x := by first | exact Or.inl rfl | exact Or.inr rfl) (hs : swapsWith e (some (.Name x pos')) pos.line X.env = pure false := by rfl)
    (hf : X.fn x = true ∨ X.env.scope.names.lookup x = some .local := by first | exact .inl rfl | exact .inr rfl | assumption) : SM X W (.Assign [.Name x pos'] e pos) (sSet i m) := ⟨ps_mono (ps_set hN hi hx he.pe hs hf) fun D σ H q => by
  obtain ⟨env, F, S, q⟩ := q
  refine tE_andS S q fun r e1 v H1 F1 _ g1 S1 r1 f1 w => ?_
  cases ep : putR i r e1 with
  | none => rw [ep] at w; exact w.elim
  | some e' =>
    rw [ep] at w
    obtain ⟨F2, g2, S2⟩ := putR_ok g1 S1 r1 f1 ep
    exact w _ H1 F2 g2 S2⟩
end

/-! ### while -/
def loopW (t : MT) (b : MS) : Nat → En → SR
  | 0, _ => .stuck
  | n + 1, env => match t env with
    | .ok true e => (match b e with
      | .nx e' => loopW t b n e'
      | .ct e' => loopW t b n e'
      | .bk e' => .nx e'
      | .rt r e' => .rt r e'
      | .exc c e' => .exc c e'
      | .stuck => .stuck)
    | .ok false e => .nx e
    | .exc c e => .exc c e
    | .stuck => .stuck
def sWhile (n : Nat) (t : MT) (b : MS) : MS := loopW t b n
theorem sm_while {X : Cx} {W : WX} {pos : Pos} {c : Expr} {body : List Stmt} {tc : MT} {b : MS} (n : Nat) (hp : PassesOwn (model X.prog X.w) X.A X.env X.xe) (hc : TM X W c tc) (hb : SMs X W body b) : SM X W (.While c body [] pos) (sWhile n tc b) := ⟨ps_mono (ps_while hp hc.pt hb.pss) fun D σ0 H0 q => by
  obtain ⟨env0, F0, S0, q⟩ := q
  refine ⟨fun m σ H => ∃ env F, Go F0 H0 σ0 env0 F H σ env ∧ RepS (c3 X) F H σ env ∧ WiS (c3 X) W D σ0 F0 H0 env0 (loopW tc b m env), ⟨n, env0, F0, .refl, S0, q⟩, ?_⟩
  rintro m σ H ⟨env, F, g, S, h⟩
  cases m with
  | zero => exact h.elim
  | succ m =>
    refine ⟨env, F, S, ?_⟩
    unfold loopW at h
    cases et : tc env with
    | stuck => rw [et] at h; exact h.elim
    | exc c e => rw [et] at h; exact fun H' F' g' S' => h σ H' F' (g.trans g') S'
    | ok k e =>
      intro H1 F1 g1 S1
      cases k with
      | false => simp only [et] at h; exact iteF (h σ H1 F1 (g.trans g1) S1)
      | true =>
        simp only [et] at h
        refine iteT ⟨fun σ' H' => ∃ m', m' < m + 1 ∧ ∃ env F, Go F0 H0 σ0 env0 F H' σ' env ∧ RepS (c3 X) F H' σ' env ∧ WiS (c3 X) W D σ0 F0 H0 env0 (loopW tc b m' env), fun σ' H' z => z, ?_⟩
        refine ⟨e, F1, S1, ?_⟩
        have g2 := g.trans g1
        cases eb : b e with
        | stuck => rw [eb] at h; exact h.elim
        | nx e' => rw [eb] at h; exact fun σ' H' F' g' S' => ⟨m, Nat.lt_succ_self m, e', F', g2.trans g', S', h⟩
        | ct e' => rw [eb] at h; exact fun σ' H' F' g' S' => ⟨m, Nat.lt_succ_self m, e', F', g2.trans g', S', h⟩
        | bk e' => rw [eb] at h; exact fun σ' H' F' g' S' => h σ' H' F' (g2.trans g') S'
        | rt r e' => rw [eb] at h; exact fun v σ' H' F' g' S' r' f' => h v σ' H' F' (g2.trans g') S' r' (f'.back g2.dom)
        | exc c e' => rw [eb] at h; exact fun σ' H' F' g' S' => h σ' H' F' (g2.trans g') S'⟩
end Gr
end
section
/-! What is walked; for; comprehensions. -/
namespace Gr
open PySem PySem.Spec PyProof.Rows L2

/-! ### a dict's keys walked -/
section
variable {P : Program} {w : World} {K : PySem.W.Frag} {tg : Expr} {d : Addr} {o : Obj}
def Itx (d : Addr) (o : Obj) (es : List Ent) : It :=
  ⟨fun i H => H d = some (.ext (IsO d o)) ∧ i < es.length, fun i H x H' => H' = H ∧ ∃ k q v, es[i]? = some (k, q, v) ∧ x = .ref q, fun i H => H d = some (.ext (IsO d o)) ∧ es.length ≤ i⟩
theorem dobj_entries {Z : C3} {a : Addr} {es : List Ent} (x : DObj Z a o es) : ∃ ds ep, o.ExactDict ∧ o.data = .dict ds ep ∧ ds.size = es.length ∧ ∀ (i : Nat) (k : NestedKey) (q : Addr) (v : V), es[i]? = some (k, q, v) → ∃ en u, ds[i]? = some en ∧ en.key = .ref q ∧ en.val = u ∧ RelV v u := by
  obtain ⟨xs, hp, ds, ep, hx, hd, he⟩ := x.ob
  refine ⟨ds, ep, hx, hd, ?_, fun i k q v hi => ?_⟩
  · rw [← Array.length_toList, he, List.length_map]
    exact (Paired.length hp).symm
  · have gen : ∀ {l1 : List Ent} {l2 : List (NestedKey × Addr × Value)}, Paired (fun (p : Ent) (q : NestedKey × Addr × Value) => p.1 = q.1 ∧ p.2.1 = q.2.1 ∧ RelV p.2.2 q.2.2) l1 l2 → ∀ (i : Nat) (p : Ent), l1[i]? = some p → ∃ y, l2[i]? = some y ∧ p.1 = y.1 ∧ p.2.1 = y.2.1 ∧ RelV p.2.2 y.2.2 := by
      intro l1 l2 h
      induction h with
      | nil => intro i p h; simp at h
      | cons r t ih =>
        intro i p h
        cases i with
        | zero => simp at h; subst h; exact ⟨_, rfl, r⟩
        | succ i => simpa using ih i p (by simpa using h)
    obtain ⟨y, hy, e1, e2, r⟩ := gen hp i _ hi
    refine ⟨entryOfKey (nestedKind Z.P Z.w) y, y.2.2, ?_, ?_, rfl, r⟩
    · rw [← Array.getElem?_toList, he, List.getElem?_map, hy]; rfl
    · show Value.ref y.2.1 = Value.ref q
      rw [← e2]
theorem Inv.isO {X : Cx} {pins : List (Addr × Obj)} {σ : Sg} {H : Hp} {s : Shared} (I : Inv X pins σ H s) (h : H d = some (.ext (IsO d o))) : s.heap.get? d = some o := (I.hok d _ h).1
theorem turn_x {Z : C3} {es : List Ent} (it : Addr) (x : DObj Z d o es) : ∃ ep, (∃ ds, o.data = .dict ds ep) ∧ Turn P w K tg (Itx d o es) [it] it (fun i h => h.IsKeyIter it d i es.length ep) := by
  obtain ⟨ds, ep, hx, hdt, hsz, ent⟩ := dobj_entries x
  refine ⟨ep, ⟨ds, hdt⟩, ?_⟩
  exact {
    mem := by simp
    obj := fun i h st b hb => by
      have e : b = it := by simpa using hb
      subst e
      obtain ⟨oi, e, c, dd⟩ := st
      exact ⟨oi, e, fun v z => by rw [dd] at z; cases z⟩
    keep := fun i h h' st k => st.at fun oi e => k it (by simp) oi e
    item := by
      intro X hP hw hK hc i pins s σ H E I hf st hg
      subst hP hw hK
      obtain ⟨hd, hi⟩ := hg
      obtain ⟨f0, f1, f2, f3, f4, f5⟩ := hf it (by simp)
      have hgd := Inv.isO I hd
      obtain ⟨⟨k, q, v⟩, hkv⟩ : ∃ p, es[i]? = some p := ⟨es[i], List.getElem?_eq_getElem hi⟩
      obtain ⟨en, u, hen, hkey, _⟩ := ent i k q v hkv
      refine next_key_item st hgd hdt hsz hen fun h' st' sb => ?_
      have I1 : Inv X pins σ H { s with heap := h' } := I.turned (t' := s.toks) (fun b ob hb e => (sb.2 b hb).trans e) f0 f1 f3 f4 f5
      obtain ⟨oi, e, c, dd⟩ := id st'
      exact ⟨en.key, rfl, go_of (s := { s with heap := h' }) e c dd (by decide) ⟨.ref q, H, I1, hkey, ⟨rfl, k, q, v, hkv, rfl⟩, st', fun b hb => (hf b hb).1⟩⟩
    done := by
      intro X hP hw hK hc i pins s σ H E I hf st hg
      subst hP hw hK
      obtain ⟨hd, hi⟩ := hg
      obtain ⟨f0, f1, f2, f3, f4, f5⟩ := hf it (by simp)
      have hgd := Inv.isO I hd
      exact next_key_end (I.ok.hd hc) st hgd hdt hsz hi fun h' eb => ⟨rfl, I.turned (t' := s.toks) (fun b ob hb e => eb b ob hb e) f0 f1 f3 f4 f5⟩
    self := fun A i s Q E st h => by
      refine wpAny_pyIter_slot st.typeIs F.slot_dict_keyiterator_iter (wpAny_call_entry F.slot_dict_keyiterator_iter st.typeIs F.entry_dict_keyiterator_iter ?_ (F.args_dict_keyiterator_iter_1 _))
      show wpAny _ _ (ret (.ref it)) _ _ s
      exact wpAny_pure ⟨_, rfl, "dict_keyiterator", _, st.typeIs, F.slot_dict_keyiterator_next.lookup, h⟩ }
end

/-- a list, a tuple, a dict's keys -/
def iSq (Z : C3) (tl : TE) : TI := fun σ H R => tl σ H fun x H1 => ∃ a, x = .ref a ∧
  ((∃ xs, SqL Z.K H1 a xs ∧ R (Itl Z.K a) H1) ∨ (∃ xs, SqT Z.K H1 a xs ∧ R (Itt Z.K a) H1) ∨ (∃ o es, H1 a = some (.ext (IsO a o)) ∧ DObj Z a o es ∧ R (Itx a o es) H1))
theorem pi_sq {X : Cx} {tg l : Expr} {tl : TE} (hl : PE X l tl) : PI X tg l (iSq (c3 X) tl) := by
  refine ⟨fun pins s σ H R I h => ?_⟩
  refine thn (hl.run pins s σ H _ I h) fun v s1 ⟨x, H1, I1, r1, q1⟩ => ?_
  obtain ⟨a, e, q⟩ := q1
  subst e
  cases r1
  rcases q with ⟨xs, hq, q⟩ | ⟨xs, hq, q⟩ | ⟨o, es, ho, x, q⟩
  · obtain ⟨its, rv, p, hz⟩ := I1.list hq
    refine wpAny_pyIter_list p.isList ?_
    refine ⟨s1.heap.objs.size, [s1.heap.objs.size], _, _, H1, rfl, I1.kept (t' := s1.toks) fun b o e => Heap.get?_push_of_some _ e, turn_list a _, ⟨_, Heap.get?_push_size _ rfl, rfl, rfl⟩, fun b hb => ?_, q⟩
    have e : b = s1.heap.objs.size := by simpa using hb
    subst e
    exact I1.fpOk (Nat.le_refl _) (I1.hok.fresh (Nat.le_refl _))
  · obtain ⟨its, rv, p, hz⟩ := I1.tuple hq
    refine wpAny_pyIter_tuple (show s1.heap.IsTuple a its.toArray from p) ?_
    refine ⟨s1.heap.objs.size, [s1.heap.objs.size], _, _, H1, rfl, I1.kept (t' := s1.toks) fun b o e => Heap.get?_push_of_some _ e, turn_tuple a _, ⟨_, Heap.get?_push_size _ rfl, rfl, rfl⟩, fun b hb => ?_, q⟩
    have e : b = s1.heap.objs.size := by simpa using hb
    subst e
    exact I1.fpOk (Nat.le_refl _) (I1.hok.fresh (Nat.le_refl _))
  · obtain ⟨ds, ep, hx, hdt, hsz, ent⟩ := dobj_entries x
    obtain ⟨ep', ⟨ds', hdt'⟩, T⟩ := turn_x (P := X.prog) (w := X.w) (K := X.K) (tg := tg) s1.heap.objs.size x
    obtain ⟨e1, e2⟩ := dict_ep hdt hdt'
    subst e1; subst e2
    refine iter_keys x.sys (Inv.isO I1 ho) hx hdt (pi_one (tk := s1.toks) I1 _ T ⟨_, Heap.get?_push_size _ rfl, rfl, ?_⟩ q)
    rw [hsz] <;> rfl

/-! ### what is walked, by data -/
inductive IR where
  | ok (ds : List D) (env : En) | exc (c : Nat) (env : En) | stuck
abbrev MI := En → IR
/-- J gives the data ds, as long as what is frozen stays -/
def Wk (Z : C3) (J : It) (ds : List D) (F0 : Hp) : Prop := ∃ (G : Hp → Prop) (Y : Nat → Hp → V → Hp → Prop), Walk J ds.length G Y ∧ (∀ F H, Ex F0 F → Ex F H → G H) ∧
  ∀ i F H x H', i < ds.length → Ex F0 F → Ex F H → Y i H x H' → ∃ F' d, ds[i]? = some d ∧ New F H F' H' ∧ Rp Z F' x d
def WiI (Z : C3) (W : WX) (σ : Sg) (R : It → Hp → Prop) (F H : Hp) (env : En) (o : IR) : Prop := match o with
  | .ok ds env' => ∀ J H' F', Go F H σ env F' H' σ env' → RepS Z F' H' σ env' → Wk Z J ds F' → R J H'
  | .exc c env' => ∀ H' F', Go F H σ env F' H' σ env' → RepS Z F' H' σ env' → W c σ H'
  | .stuck => False
def tI (Z : C3) (W : WX) (m : MI) : TI := fun σ H R => ∃ env F, RepS Z F H σ env ∧ WiI Z W σ R F H env (m env)
structure IM (X : Cx) (W : WX) (tg iter : Expr) (m : MI) : Prop where
  pi : PI X tg iter (tI (c3 X) W m)
theorem pi_mono {X : Cx} {tg iter : Expr} {t t' : TI} (h : PI X tg iter t) (i : ∀ σ H Q, t' σ H Q → t σ H Q) : PI X tg iter t' := ⟨fun pins s σ H Q I q => h.run pins s σ H Q I (i σ H Q q)⟩
def seqOf : D → Option (List D)
  | .lst ds => some ds
  | .tup ds => some ds
  | .dct kvs => some (kvs.map (·.1))
  | _ => none
def iSeq (m : M) : MI := fun env => match m env with
  | .ok r e => (match r.take e with
    | some (d, e') => (match seqOf d with
      | some ds => .ok ds e'
      | none => .stuck)
    | none => .stuck)
  | .exc c e => .exc c e
  | .stuck => .stuck
theorem RpK.get {Z : C3} {F : Hp} : ∀ {es : List Ent} {kvs : List (D × D)} {i : Nat} {p : Ent}, RpK Z F es kvs → es[i]? = some p → ∃ kd d, kvs[i]? = some (kd, d) ∧ kd.nk = some p.1 ∧ Rp Z F (.ref p.2.1) kd ∧ Rp Z F p.2.2 d
  | _, _, 0, _, .cons a b h h2 r, e => by
    simp at e
    subst e
    exact ⟨_, _, rfl, a, h, h2⟩
  | _, _, i + 1, _, .cons _ _ _ _ r, e => by
    simp at e
    simpa using r.get e
theorem wk_list {Z : C3} {F0 : Hp} {a : Addr} {xs : List V} {ds : List D} (h : SqL Z.K F0 a xs) (r : RpL Z F0 xs ds) : Wk Z (Itl Z.K a) ds F0 := by
  refine ⟨fun H => SqL Z.K H a xs, YAt xs, ?_, fun F H e e2 => Evl.ex_l (e.trans e2) h, fun i F H x H' hi e e2 y => ?_⟩
  · rw [← r.length]; exact walk_list
  · obtain ⟨rfl, hx⟩ := y
    obtain ⟨d, hd, rd⟩ := r.get hx
    exact ⟨F, d, hd, .refl e2, rd.mono e⟩
theorem wk_tup {Z : C3} {F0 : Hp} {a : Addr} {xs : List V} {ds : List D} (h : SqT Z.K F0 a xs) (r : RpL Z F0 xs ds) : Wk Z (Itt Z.K a) ds F0 := by
  refine ⟨fun H => SqT Z.K H a xs, YAt xs, ?_, fun F H e e2 => Evl.ex_t (e.trans e2) h, fun i F H x H' hi e e2 y => ?_⟩
  · rw [← r.length]; exact walk_tup
  · obtain ⟨rfl, hx⟩ := y
    obtain ⟨d, hd, rd⟩ := r.get hx
    exact ⟨F, d, hd, .refl e2, rd.mono e⟩
theorem wk_dct {Z : C3} {F0 : Hp} {a : Addr} {o : Obj} {es : List Ent} {kvs : List (D × D)} (h : F0 a = some (.ext (IsO a o))) (r : RpK Z F0 es kvs) : Wk Z (Itx a o es) (kvs.map (·.1)) F0 := by
  refine ⟨fun H => H a = some (.ext (IsO a o)), fun i H x H' => H' = H ∧ ∃ k q v, es[i]? = some (k, q, v) ∧ x = .ref q, ?_, fun F H e e2 => e2 _ _ (e _ _ h), fun i F H x H' hi e e2 y => ?_⟩
  · rw [List.length_map, ← r.length]
    exact ⟨fun i H hi q => ⟨q, hi⟩, fun H q => ⟨q, Nat.le_refl _⟩, fun i H x H' _ _ y => y⟩
  · obtain ⟨rfl, k, q, v, hi', rfl⟩ := y
    obtain ⟨kd, d, hk, _, rk, _⟩ := r.get hi'
    refine ⟨F, kd, ?_, .refl e2, rk.mono e⟩
    rw [List.getElem?_map, hk]
    rfl
theorem im_seq {X : Cx} {W : WX} {tg l : Expr} {m : M} (h : EM X W l m) : IM X W tg l (iSeq m) := ⟨pi_mono (pi_sq h.pe) fun σ H R q => by
  obtain ⟨env, F, S, q⟩ := q
  refine ⟨env, F, S, ?_⟩
  unfold iSeq at q
  cases em : m env with
  | stuck => rw [em] at q; exact q.elim
  | exc c e => rw [em] at q; exact q
  | ok r e =>
    simp only [em] at q
    intro v H1 F1 g1 S1 r1 f1
    cases et : r.take e with
    | none => rw [et] at q; exact q.elim
    | some de =>
      obtain ⟨d, e'⟩ := de
      simp only [et] at q
      obtain ⟨F2, g2, S2, p2, x2, _⟩ := RepR.take g1 S1 r1 f1 et
      cases es : seqOf d with
      | none => rw [es] at q; exact q.elim
      | some ds =>
        simp only [es] at q
        cases d with
        | lst xs =>
          cases es
          cases p2 with
          | lst hs hr => exact ⟨_, rfl, .inl ⟨_, (hs.mono S2.ex).sq, q _ H1 F2 g2 S2 (wk_list hs.sq hr)⟩⟩
        | tup xs =>
          cases es
          cases p2 with
          | tup hs hr => exact ⟨_, rfl, .inr (.inl ⟨_, Evl.ex_t S2.ex hs, q _ H1 F2 g2 S2 (wk_tup hs hr)⟩)⟩
        | dct kvs =>
          cases es
          cases p2 with
          | dct ho x hr => exact ⟨_, rfl, .inr (.inr ⟨_, _, S2.ex _ _ ho, x, q _ H1 F2 g2 S2 (wk_dct ho hr)⟩)⟩
        | _ => cases es⟩

/-! ### range -/
/-- n ints from lo on, by c -/
def rng (lo c : Int) : Nat → List D
  | 0 => []
  | n + 1 => .int lo :: rng (lo + c) c n
theorem rng_length (lo c : Int) : ∀ n, (rng lo c n).length = n
  | 0 => rfl
  | n + 1 => congrArg (· + 1) (rng_length (lo + c) c n)
theorem rng_get (c : Int) : ∀ (lo : Int) (n i : Nat), i < n → (rng lo c n)[i]? = some (.int (lo + i * c))
  | lo, 0, i, h => absurd h (Nat.not_lt_zero _)
  | lo, n + 1, 0, _ => by simp [rng]
  | lo, n + 1, i + 1, h => by
    show (rng (lo + c) c n)[i]? = _
    rw [rng_get c (lo + c) n i (Nat.lt_of_succ_lt_succ h)]
    have e : lo + c + (i : Int) * c = lo + ((i + 1 : Nat) : Int) * c := by
      rw [Int.natCast_succ, Int.add_mul]
      omega
    rw [e]
def okI (i : Int) : Bool := decide (-1000000 ≤ i) && decide (i ≤ 1000000)
theorem okI_iff {i : Int} (h : okI i = true) : -1000000 ≤ i ∧ i ≤ 1000000 := by
  unfold okI at h
  rw [Bool.and_eq_true] at h
  exact ⟨of_decide_eq_true h.1, of_decide_eq_true h.2⟩
def dR1 : List D → Option (List D)
  | [.int j] => if okI j then some (rng 0 1 j.toNat) else none
  | _ => none
def dR2 : List D → Option (List D)
  | [.int i, .int j] => if okI i && okI j then some (rng i 1 (j - i).toNat) else none
  | _ => none
/-- downwards by ones -/
def dR3 : List D → Option (List D)
  | [.int i, .int j, .int k] => if okI i && okI j && decide (k = -1) then some (rng i (-1) (i - j).toNat) else none
  | _ => none
def iRange (f : List D → Option (List D)) (t : MA) : MI := fun env => match t env with
  | .ok rs e => (match sees e rs with
    | some ds => (match f ds with
      | some l => .ok l e
      | none => .stuck)
    | none => .stuck)
  | .exc c e => .exc c e
  | .stuck => .stuck
theorem Vw.int {Z : C3} {F H : Hp} {v : V} {b : Int} (h : Vw Z F H v (.int b)) : v = .int b := by
  rcases h with h | ⟨a, _, h⟩
  · cases h; rfl
  · exact h.elim
theorem Vw.str {Z : C3} {F H : Hp} {v : V} {b : Str} (h : Vw Z F H v (.str b)) : v = .str b := by
  rcases h with h | ⟨a, _, h⟩
  · cases h; rfl
  · exact h.elim
theorem Vw.non {Z : C3} {F H : Hp} {v : V} (h : Vw Z F H v .non) : v = .non := by
  rcases h with h | ⟨a, _, h⟩
  · cases h; rfl
  · exact h.elim
theorem t_range {Z : C3} {W : WX} {t : MA} {σ : Sg} {H : Hp} {R : It → Hp → Prop} {f : List D → Option (List D)} (q : tI Z W (iRange f t) σ H R) : tA Z W t σ H fun vs H' => ∃ ds l, VwL Z H' H' vs ds ∧ f ds = some l ∧ ∀ J, (∀ F', Wk Z J l F') → R J H' := by
  obtain ⟨env, F, S, q⟩ := q
  refine ⟨env, F, S, ?_⟩
  unfold iRange at q
  cases em : t env with
  | stuck => rw [em] at q; exact q.elim
  | exc c e => rw [em] at q; exact q
  | ok rs e =>
    simp only [em] at q
    intro vs H1 F1 g1 S1 r1
    cases et : sees e rs with
    | none => rw [et] at q; exact q.elim
    | some ds =>
      simp only [et] at q
      cases es : f ds with
      | none => rw [es] at q; exact q.elim
      | some l =>
        simp only [es] at q
        have up : ∀ {vs : List V} {ds : List D}, VwL Z F1 H1 vs ds → VwL Z H1 H1 vs ds := by
          intro vs ds h
          induction h with
          | nil => exact .nil
          | cons a _ ih =>
            refine .cons ?_ ih
            rcases a with a | ⟨b, e, a⟩
            · exact .inl (a.mono S1.ex)
            · exact .inr ⟨b, e, a.mono S1.ex fun _ z => z⟩
        exact ⟨ds, l, up (r1.see S1 et), es, fun J wk => q J H1 F1 g1 S1 (wk F1)⟩
theorem wk_rng {Z : C3} {F0 : Hp} {J : It} {lo c : Int} {n : Nat} (w : Walk J n (fun _ => True) (YFn fun i => .int (lo + (i : Nat) * c))) : Wk Z J (rng lo c n) F0 := by
  refine ⟨_, _, (by rw [rng_length]; exact w), fun _ _ _ _ => trivial, fun i F H x H' hi e e2 y => ?_⟩
  obtain ⟨rfl, rfl⟩ := y
  rw [rng_length] at hi
  exact ⟨F, _, rng_get c lo n i hi, .refl e2, .int _⟩
theorem wk_rng1 {Z : C3} {F0 : Hp} {lo : Int} {n : Nat} : Wk Z (Itr lo n) (rng lo 1 n) F0 :=
  wk_rng (walk_range.mono (fun _ h => h) fun i H x H' _ _ y => ⟨y.1, by
    rw [y.2]
    show V.int (lo + i) = V.int (lo + i * 1)
    rw [Int.mul_one]⟩)
section
variable {X : Cx} {W : WX} {tg a b c : Expr} {t : MA} {p pos : Pos}
theorem big62 {i : Int} (h : -1000000 ≤ i ∧ i ≤ 1000000) : -(2 ^ 62) ≤ i ∧ i < 2 ^ 62 := ⟨by omega, by omega⟩
theorem ta_mono {Z : C3} {σ : Sg} {H : Hp} {Q Q' : List V → Hp → Prop} (q : tA Z W t σ H Q) (k : ∀ vs H', Q vs H' → Q' vs H') : tA Z W t σ H Q' := by
  obtain ⟨env, F, S, q⟩ := q
  refine ⟨env, F, S, ?_⟩
  cases em : t env with
  | stuck => rw [em] at q; exact q
  | exc c e => rw [em] at q; exact q
  | ok rs e => rw [em] at q; exact fun vs H' F' g S' r => k vs H' (q vs H' F' g S' r)
theorem im_range1 (hg : Gl X "range") (hm : X.mg "range" = none) (ha : AM X W [a] t) (hs : starEach [a] X.env = [(false, eval a X.env)] := by rfl) : IM X W tg (.Call (.Name "range" p) [a] [] pos) (iRange dR1 t) := ⟨pi_mono (pi_range1 hg hm ha.pa hs) fun σ H R q => by
  refine ta_mono (t_range q) fun vs H' ⟨ds, l, hv, hl, k⟩ => ?_
  unfold dR1 at hl
  split at hl
  · rename_i j
    split at hl
    · rename_i ho
      cases hl
      cases hv with
      | cons h1 h2 =>
        cases h2
        obtain ⟨z1, z2⟩ := big62 (okI_iff ho)
        exact ⟨j, by rw [h1.int], z1, z2, k _ fun F' => wk_rng1⟩
    · cases hl
  · cases hl⟩
theorem im_range2 (hg : Gl X "range") (hm : X.mg "range" = none) (ha : AM X W [a, b] t) (hs : starEach [a, b] X.env = [(false, eval a X.env), (false, eval b X.env)] := by rfl) (hs2 : starEach [b] X.env = [(false, eval b X.env)] := by rfl) : IM X W tg (.Call (.Name "range" p) [a, b] [] pos) (iRange dR2 t) := ⟨pi_mono (pi_range2 hg hm ha.pa hs hs2) fun σ H R q => by
  refine ta_mono (t_range q) fun vs H' ⟨ds, l, hv, hl, k⟩ => ?_
  unfold dR2 at hl
  split at hl
  · rename_i i j
    split at hl
    · rename_i ho
      cases hl
      rw [Bool.and_eq_true] at ho
      cases hv with
      | cons h1 h2 =>
        cases h2 with
        | cons h2 h3 =>
          cases h3
          obtain ⟨z1, z2⟩ := big62 (okI_iff ho.1)
          obtain ⟨z3, z4⟩ := big62 (okI_iff ho.2)
          exact ⟨i, j, by rw [h1.int, h2.int], ⟨z1, z2, z3, z4⟩, k _ fun F' => wk_rng1⟩
    · cases hl
  · cases hl⟩
theorem im_range3 (hg : Gl X "range") (hm : X.mg "range" = none) (ha : AM X W [a, b, c] t) (hs : starEach [a, b, c] X.env = (false, eval a X.env) :: starEach [b, c] X.env := by rfl) (hpl : (backTo pos (starEach [b, c] X.env)).any (·.1) = false := by rfl) : IM X W tg (.Call (.Name "range" p) [a, b, c] [] pos) (iRange dR3 t) := ⟨pi_mono (pi_range3 hg hm ha.pa hs hpl) fun σ H R q => by
  refine ta_mono (t_range q) fun vs H' ⟨ds, l, hv, hl, k⟩ => ?_
  unfold dR3 at hl
  split at hl
  · rename_i i j c
    split at hl
    · rename_i ho
      cases hl
      rw [Bool.and_eq_true, Bool.and_eq_true] at ho
      have e := of_decide_eq_true ho.2
      subst e
      cases hv with
      | cons h1 h2 =>
        cases h2 with
        | cons h2 h3 =>
          cases h3 with
          | cons h3 h4 =>
            cases h4
            obtain ⟨z1, z2⟩ := big62 (okI_iff ho.1.1)
            obtain ⟨z3, z4⟩ := big62 (okI_iff ho.1.2)
            exact ⟨i, j, -1, _, by rw [h1.int, h2.int, h3.int], RgC.neg z1 z2 z3 z4, k _ fun F' => wk_rng walk_rangeC⟩
    · cases hl
  · cases hl⟩
end

/-! ### targets -/
abbrev MG := D → En → Option En
def gN (i : Nat) : MG := fun d env => putF i d env
def gL : List Nat → List D → En → Option En
  | [], [], env => some env
  | i :: is, d :: ds, env => (match putF i d env with
    | some e => gL is ds e
    | none => none)
  | _, _, _ => none
def gT (is : List Nat) : MG := fun d env => match d with
  | .tup ds => gL is ds env
  | .lst ds => none
  | _ => none
/-- a target that takes frozen things -/
structure GM (X : Cx) (tg : Expr) (vs : List Nat) (m : MG) : Prop where
  ex : ∃ t, PG X tg t ∧ ∀ (v : V) (d : D) (σ : Sg) (H F : Hp) (env env' : En) (Q : Sg → Hp → Prop), RepS (c3 X) F H σ env → Rp (c3 X) F v d → m d env = some env' →
    (∀ σ', Go F H σ env F H σ' env' → RepS (c3 X) F H σ' env' → wipe σ' vs = wipe σ vs → Q σ' H) → t v σ H Q
theorem wipe_set (σ : Sg) (i : Nat) (w : Option V) : ∀ vs : List Nat, i ∈ vs → wipe (σ.set i w) vs = wipe σ vs
  | [], h => nomatch h
  | v :: vs, h => by
    by_cases e : i = v
    · subst e
      -- the head wipes it
      have gen : ∀ (l : List Nat), (wipe (σ.set i w) l).set i none = (wipe σ l).set i none := by
        intro l
        induction l with
        | nil => show ((σ.set i w).set i none) = σ.set i none; rw [List.set_set]
        | cons u l ih =>
          show ((wipe (σ.set i w) l).set u none).set i none = ((wipe σ l).set u none).set i none
          by_cases q : u = i
          · subst q; rw [ih]
          · rw [List.set_comm _ _ q, ih, List.set_comm _ _ (Ne.symm q)]
      exact gen vs
    · have h' : i ∈ vs := (List.mem_cons.mp h).resolve_left e
      show (wipe (σ.set i w) vs).set v none = (wipe σ vs).set v none
      rw [wipe_set σ i w vs h']
section
variable {X : Cx} {pos : Pos} {vs : List Nat}
theorem gm_name {i : Nat} {x : Str} (hN : X.N.Nodup) (hv : i ∈ vs) (hi : X.N[i]? = some x) (hx : Loc X.env.scope x) (hf : X.fn x = true ∨ X.env.scope.names.lookup x = some .local) : GM X (.Name x pos) vs (gN i) :=
  ⟨_, pg_name hN hi hx hf, fun v d σ H F env env' Q S r e k => by
    obtain ⟨g, S'⟩ := putF_ok .refl S r e
    exact k _ g S' (wipe_set σ i _ vs hv)⟩
/-- names, one after another -/
structure GLs (X : Cx) (ts : List Expr) (vs is : List Nat) : Prop where
  ex : ∃ t, PGs X ts t ∧ ∀ (ws : List V) (ds : List D) (σ : Sg) (H F : Hp) (env env' : En) (Q : Sg → Hp → Prop), RepS (c3 X) F H σ env → RpL (c3 X) F ws ds → gL is ds env = some env' →
    (∀ σ', Go F H σ env F H σ' env' → RepS (c3 X) F H σ' env' → wipe σ' vs = wipe σ vs → Q σ' H) → t ws σ H Q
theorem gls_nil : GLs X [] vs [] := ⟨_, pgs_nil, fun ws ds σ H F env env' Q S r e k => by
  cases r with
  | nil => cases e; exact ⟨rfl, k σ .refl S rfl⟩
  | cons _ _ => cases e⟩
theorem gls_cons {i : Nat} {x : Str} {ts : List Expr} {is : List Nat} (hN : X.N.Nodup) (hv : i ∈ vs) (h : GLs X ts vs is) (hi : X.N[i]? = some x) (hx : Loc X.env.scope x) (hf : X.fn x = true ∨ X.env.scope.names.lookup x = some .local)
    (hs : (assignEach (.Name x pos :: ts) X.env).map (·.2) = assign (.Name x pos) X.env :: (assignEach ts X.env).map (·.2) := by rfl) : GLs X (.Name x pos :: ts) vs (i :: is) := by
  obtain ⟨t, ht, hk⟩ := h.ex
  refine ⟨_, pgs_cons (pg_name hN hi hx hf) ht hs, fun ws ds σ H F env env' Q S r e k => ?_⟩
  cases r with
  | nil => cases e
  | cons r1 r2 =>
    unfold gL at e
    rename_i v vs' d ds'
    cases ep : putF i d env with
    | none => rw [ep] at e; cases e
    | some e1 =>
      simp only [ep] at e
      obtain ⟨g, S'⟩ := putF_ok .refl S r1 ep
      exact ⟨_, _, rfl, hk _ _ _ H F e1 env' Q S' r2 e fun σ' g' S'' w => k σ' (g.trans g') S'' (w.trans (wipe_set σ i _ vs hv))⟩
theorem gls_len {ts : List Expr} {is : List Nat} {ds : List D} {env env' : En} : ∀ {is : List Nat} {ds : List D} {env : En}, gL is ds env = some env' → is.length = ds.length
  | [], [], _, _ => rfl
  | i :: is, d :: ds, env, e => by
    unfold gL at e
    cases ep : putF i d env with
    | none => rw [ep] at e; cases e
    | some e1 => simp only [ep] at e; exact congrArg (· + 1) (gls_len (ts := ts) (is := is) (ds := ds) (env := env) e)
  | [], _ :: _, _, e => by cases e
  | _ :: _, [], _, e => by cases e
theorem gm_tup {es : List Expr} {k : Nat} {is : List Nat} (hc : X.calm = true) (h : GLs X es vs is) (hn : (assignEach es X.env).length = is.length := by rfl) (hst : (assignEach es X.env).findIdx? (·.1) = none := by rfl) : GM X (.Tuple es k pos) vs (gT is) := by
  obtain ⟨t, ht, hk⟩ := h.ex
  refine ⟨_, pg_tup hc ht hn hst, fun v d σ H F env env' Q S r e k => ?_⟩
  cases r with
  | tup hs hr =>
    have e' : gL is _ env = some env' := e
    exact ⟨_, _, rfl, Evl.ex_t S.ex hs, by rw [hr.length, gls_len (ts := es) (is := is) (ds := []) (env := env) e'], hk _ _ σ H F env env' Q S hr e' k⟩
  | _ => cases e
end

/-! ### for -/
def loopF (g : MG) (b : MS) : List D → En → SR
  | [], env => .nx env
  | d :: ds, env => match g d env with
    | none => .stuck
    | some e => match b e with
      | .nx e' => loopF g b ds e'
      | .ct e' => loopF g b ds e'
      | .bk e' => .nx e'
      | .rt r e' => .rt r e'
      | .exc c e' => .exc c e'
      | .stuck => .stuck
def sFor (i : MI) (g : MG) (b : MS) : MS := fun env => match i env with
  | .ok ds e => loopF g b ds e
  | .exc c e => .exc c e
  | .stuck => .stuck
theorem sm_for {X : Cx} {W : WX} {pos : Pos} {tg iter : Expr} {body : List Stmt} {mi : MI} {mg : MG} {b : MS} {vs : List Nat} (hp : PassesOwn (model X.prog X.w) X.A X.env X.xe) (hc : X.calm = true) (hi : IM X W tg iter mi) (hg : GM X tg vs mg) (hb : SMs X W body b)
    (hs : ∀ x, foldedSetIterable iter X.env x = pure x := by intro _; rfl) : SM X W (.For tg iter body [] pos) (sFor mi mg b) := by
  obtain ⟨tt, ht, hk⟩ := hg.ex
  refine ⟨ps_mono (ps_for hp hc hi.pi ht hb.pss hs) fun D σ0 H0 q => ?_⟩
  obtain ⟨env0, F0, S0, q⟩ := q
  refine ⟨env0, F0, S0, ?_⟩
  unfold sFor at q
  cases em : mi env0 with
  | stuck => rw [em] at q; exact q.elim
  | exc c e => rw [em] at q; exact fun H' F' g S => q σ0 H' F' g S
  | ok ds e0 =>
    simp only [em] at q
    intro J H1 F1 g1 S1 wk
    obtain ⟨G, Y, w1, w2, w3⟩ := wk
    refine for_it w1 (fun i σ H => ∃ env F, Ex F1 F ∧ Go F0 H0 σ0 env0 F H σ env ∧ RepS (c3 X) F H σ env ∧ WiS (c3 X) W D σ0 F0 H0 env0 (loopF mg b (ds.drop i) env)) ⟨e0, F1, Evl.Ex.refl F1, g1, S1, q⟩ (fun i σ H _ ⟨env, F, x, g, S, _⟩ => w2 F H x S.ex) (fun i x σ H H' hi ⟨env, F, ex, g, S, q⟩ y => ?_) (fun σ H ⟨env, F, ex, g, S, q⟩ => ?_)
    · obtain ⟨F', d, hd, n, r⟩ := w3 i F H x H' hi ex S.ex y
      have ed : ds.drop i = d :: ds.drop (i + 1) := by
        obtain ⟨h1, h2⟩ := List.getElem?_eq_some_iff.mp hd
        rw [List.drop_eq_getElem_cons h1, h2]
      rw [ed] at q
      unfold loopF at q
      have g2 := g.trans n.go
      have S2 := n.repS S
      cases eg : mg d env with
      | none => rw [eg] at q; exact q.elim
      | some e1 =>
        simp only [eg] at q
        refine hk x d σ H' F' env e1 _ S2 r eg fun σ' g3 S3 _ => ?_
        refine ⟨e1, F', S3, ?_⟩
        have g4 := g2.trans g3
        have ex' : Ex F1 F' := ex.trans n.exF
        cases eb : b e1 with
        | stuck => rw [eb] at q; exact q.elim
        | nx e' => rw [eb] at q; exact fun σ'' H'' F'' g5 S5 => ⟨e', F'', ex'.trans g5.exF, g4.trans g5, S5, q⟩
        | ct e' => rw [eb] at q; exact fun σ'' H'' F'' g5 S5 => ⟨e', F'', ex'.trans g5.exF, g4.trans g5, S5, q⟩
        | bk e' => rw [eb] at q; exact fun σ'' H'' F'' g5 S5 => q σ'' H'' F'' (g4.trans g5) S5
        | rt r e' => rw [eb] at q; exact fun v σ'' H'' F'' g5 S5 r5 f5 => q v σ'' H'' F'' (g4.trans g5) S5 r5 (f5.back g4.dom)
        | exc c e' => rw [eb] at q; exact fun σ'' H'' F'' g5 S5 => q σ'' H'' F'' (g4.trans g5) S5
    · rw [List.drop_length] at q
      exact q σ H F g S
end Gr
end
section
/-! List comprehensions. -/
namespace Gr
open PySem PySem.Spec PyProof.Rows L2

def wipeE (env : En) : List Nat → En
  | [] => env
  | v :: vs => (wipeE env vs).set v .no
def unw (e0 e1 : En) : List Nat → En
  | [] => e1
  | v :: vs => (unw e0 e1 vs).set v (e0.getD v .no)
theorem wipeE_length (env : En) : ∀ vs, (wipeE env vs).length = env.length
  | [] => rfl
  | v :: vs => by unfold wipeE; rw [List.length_set, wipeE_length env vs]
theorem unw_length (e0 e1 : En) : ∀ vs, (unw e0 e1 vs).length = e1.length
  | [] => rfl
  | v :: vs => by unfold unw; rw [List.length_set, unw_length e0 e1 vs]
theorem wipeE_get {env : En} {i : Nat} {s : SV} : ∀ {vs : List Nat}, (wipeE env vs)[i]? = some s → (s = .no) ∨ (i ∉ vs ∧ env[i]? = some s)
  | [], h => .inr ⟨by simp, h⟩
  | v :: vs, h => by
    unfold wipeE at h
    by_cases q : i = v
    · subst q
      by_cases hl : i < (wipeE env vs).length
      · rw [List.getElem?_set_self hl] at h
        cases h
        exact .inl rfl
      · rw [List.getElem?_eq_none (by rw [List.length_set]; omega)] at h
        cases h
    · rw [List.getElem?_set_ne (Ne.symm q)] at h
      rcases wipeE_get h with z | ⟨z1, z2⟩
      · exact .inl z
      · exact .inr ⟨fun m => (List.mem_cons.mp m).elim q z1, z2⟩
theorem unw_get {e0 e1 : En} {i : Nat} {s : SV} (hl : e0.length = e1.length) : ∀ {vs : List Nat}, (unw e0 e1 vs)[i]? = some s → (i ∈ vs ∧ e0[i]? = some s) ∨ (i ∉ vs ∧ e1[i]? = some s)
  | [], h => .inr ⟨by simp, h⟩
  | v :: vs, h => by
    unfold unw at h
    by_cases q : i = v
    · subst q
      by_cases hi : i < (unw e0 e1 vs).length
      · rw [List.getElem?_set_self hi] at h
        rw [unw_length] at hi
        have h0 : i < e0.length := by omega
        have e : e0.getD i SV.no = e0[i] := by
          rw [List.getD_eq_getElem?_getD, List.getElem?_eq_getElem h0]
          rfl
        rw [e] at h
        exact .inl ⟨by simp, by rw [List.getElem?_eq_getElem h0]; exact h⟩
      · rw [List.getElem?_eq_none (by rw [List.length_set]; omega)] at h
        cases h
    · rw [List.getElem?_set_ne (Ne.symm q)] at h
      rcases unw_get hl h with ⟨z1, z2⟩ | ⟨z1, z2⟩
      · exact .inl ⟨List.mem_cons_of_mem _ z1, z2⟩
      · exact .inr ⟨fun m => (List.mem_cons.mp m).elim q z1, z2⟩
theorem wipe_get {σ : Sg} {i : Nat} : ∀ {vs : List Nat}, i ∉ vs → (wipe σ vs)[i]? = σ[i]?
  | [], _ => rfl
  | v :: vs, h => by
    unfold wipe
    rw [List.getElem?_set_ne fun q => h (by rw [q]; simp)]
    exact wipe_get fun q => h (List.mem_cons_of_mem _ q)
theorem wipe_idem (σ : Sg) : ∀ vs : List Nat, wipe (wipe σ vs) vs = wipe σ vs := by
  have gen : ∀ (vs ws : List Nat), (∀ v ∈ vs, v ∈ ws) → wipe (wipe σ vs) ws = wipe σ ws := by
    intro vs
    induction vs with
    | nil => intro ws _; rfl
    | cons v vs ih =>
      intro ws h
      show wipe ((wipe σ vs).set v none) ws = _
      rw [wipe_set _ v none ws (h v (by simp)), ih ws fun u hu => h u (List.mem_cons_of_mem _ hu)]
  exact fun vs => gen vs vs fun _ h => h
section
variable {Z : C3} {F H F' H' : Hp} {σ σ2 : Sg} {env e1 : En} {vs : List Nat}
theorem owned_wipe {a : Addr} (h : Owned (wipeE env vs) (wipe σ vs) a) : ∃ (i : Nat) (s : SV) (d : D), i ∉ vs ∧ env[i]? = some s ∧ s.cont = some d ∧ σ[i]? = some (some (V.ref a)) := by
  obtain ⟨i, s, d, h1, h2, h3⟩ := h
  rcases wipeE_get h1 with rfl | ⟨n, h1⟩
  · cases h2
  · exact ⟨i, s, d, n, h1, h2, by rw [wipe_get n] at h3; exact h3⟩
theorem block_in (S : RepS Z F H σ env) (vs : List Nat) : RepS Z F H (wipe σ vs) (wipeE env vs) := by
  refine ⟨by rw [wipeE_length, wipe_length]; exact S.len, S.ex, fun i d h => ?_, fun i s d h c => ?_, fun j k c s t d1 d2 f1 f2 f3 f4 f5 f6 => ?_⟩
  · rcases wipeE_get h with z | ⟨n, h⟩
    · cases z
    · rw [wipe_get n]; exact S.fro i d h
  · rcases wipeE_get h with rfl | ⟨n, h⟩
    · cases c
    · rw [wipe_get n]; exact S.own i s d h c
  · rcases wipeE_get f1 with rfl | ⟨n1, h1⟩
    · cases f3
    · rcases wipeE_get f2 with rfl | ⟨n2, h2⟩
      · cases f4
      · rw [wipe_get n1] at f5
        rw [wipe_get n2] at f6
        exact S.sep j k c s t d1 d2 h1 h2 f3 f4 f5 f6
theorem block_out (S : RepS Z F H σ env) (hw : wipe σ2 vs = wipe σ vs) (g : Go F H (wipe σ vs) (wipeE env vs) F' H' σ2 e1) (S' : RepS Z F' H' σ2 e1) : Go F H σ env F' H' σ (unw env e1 vs) ∧ RepS Z F' H' σ (unw env e1 vs) := by
  have hl : env.length = e1.length := by
    have := congrArg List.length hw
    rw [wipe_length, wipe_length] at this
    rw [S.len, S'.len, this]
  have get2 : ∀ {i : Nat}, i ∉ vs → σ2[i]? = σ[i]? := fun {i} n => by rw [← wipe_get (σ := σ2) n, hw, wipe_get n]
  have ow : ∀ a, Owned (wipeE env vs) (wipe σ vs) a → Owned env σ a := fun a h => let ⟨i, s, d, _, h1, h2, h3⟩ := owned_wipe h; ⟨i, s, d, h1, h2, h3⟩
  -- what a hidden slot owns is left alone
  have hid : ∀ {i : Nat} {s : SV} {d : D} {a : Addr}, i ∈ vs → env[i]? = some s → s.cont = some d → σ[i]? = some (some (V.ref a)) → ¬ Owned (wipeE env vs) (wipe σ vs) a := fun {i s d a} hi h1 h2 h3 q => by
    obtain ⟨j, t, e, nj, g1, g2, g3⟩ := owned_wipe q
    exact nj (S.sep j i a t s e d g1 h1 g2 h2 g3 h3 ▸ hi)
  refine ⟨⟨g.exF, fun a o h n => g.keep a o h fun q => n (ow a q), g.dom, fun a h => (g.grow a h).imp id (fun q => q.imp id (ow a)), fun a h => ?_, fun i d h => ?_⟩, ⟨by rw [unw_length, ← hl]; exact S.len, S'.ex, fun i d h => ?_, fun i s d h c => ?_, fun j k c s t d1 d2 f1 f2 f3 f4 f5 f6 => ?_⟩⟩
  · obtain ⟨i, s, d, h1, h2, h3⟩ := h
    rcases unw_get hl h1 with ⟨hi, h1⟩ | ⟨hi, h1⟩
    · exact .inl ⟨i, s, d, h1, h2, h3⟩
    · exact (g.own a ⟨i, s, d, h1, h2, by rw [get2 hi]; exact h3⟩).imp (ow a) id
  · rcases unw_get hl h with ⟨hi, h1⟩ | ⟨hi, h1⟩
    · exact ⟨⟨d, h1⟩, rfl⟩
    · obtain ⟨⟨d', h2⟩, _⟩ := g.bor i d h1
      rcases wipeE_get h2 with z | ⟨_, h2⟩
      · cases z
      · exact ⟨⟨d', h2⟩, rfl⟩
  · rcases unw_get hl h with ⟨hi, h1⟩ | ⟨hi, h1⟩
    · obtain ⟨v, e, r⟩ := S.fro i d h1
      exact ⟨v, e, r.mono g.exF⟩
    · rw [← get2 hi]; exact S'.fro i d h1
  · rcases unw_get hl h with ⟨hi, h1⟩ | ⟨hi, h1⟩
    · obtain ⟨a, e, n, o⟩ := S.own i s d h1 c
      obtain ⟨ob, ho⟩ := o.there
      have no := hid hi h1 c e
      refine ⟨a, e, ?_, o.mono g.exF fun ob h => g.keep a ob h no⟩
      cases q : F' a with
      | none => rfl
      | some z =>
        rcases g.grow a (by rw [q]; simp) with z | z | z
        · exact absurd n z
        · rw [ho] at z; cases z
        · exact absurd z no
    · rw [← get2 hi]; exact S'.own i s d h1 c
  · have mix : ∀ {j k : Nat} {s t : SV} {d1 d2 : D} {c : Addr}, j ∈ vs → env[j]? = some s → s.cont = some d1 → σ[j]? = some (some (V.ref c)) → k ∉ vs → e1[k]? = some t → t.cont = some d2 → σ[k]? = some (some (V.ref c)) → False := fun {j k s t d1 d2 c} hj h1 h2 h3 hk h4 h5 h6 => by
      rcases g.own c ⟨k, t, d2, h4, h5, by rw [get2 hk]; exact h6⟩ with q | q
      · exact hid hj h1 h2 h3 q
      · obtain ⟨a, e, _, o⟩ := S.own j s d1 h1 h2
        rw [h3] at e
        cases e
        obtain ⟨ob, ho⟩ := o.there
        rw [ho] at q; cases q
    rcases unw_get hl f1 with ⟨hj, h1⟩ | ⟨hj, h1⟩
    · rcases unw_get hl f2 with ⟨hk, h2⟩ | ⟨hk, h2⟩
      · exact S.sep j k c s t d1 d2 h1 h2 f3 f4 f5 f6
      · exact (mix hj h1 f3 f5 hk h2 f4 f6).elim
    · rcases unw_get hl f2 with ⟨hk, h2⟩ | ⟨hk, h2⟩
      · exact (mix hk h2 f4 f6 hj h1 f3 f5).elim
      · exact S'.sep j k c s t d1 d2 h1 h2 f3 f4 (by rw [get2 hj]; exact f5) (by rw [get2 hk]; exact f6)
/-- a thing that no slot knows is written -/
theorem RepS.side {a : Addr} {o : HO} (S : RepS Z F H σ env) (n : F a = none) (no : ¬ Owned env σ a) : RepS Z F (upd H a o) σ env := by
  refine ⟨S.len, fun c u h => ?_, S.fro, fun i s d h c => ?_, S.sep⟩
  · rw [upd_ne (ne_of_none h n)]; exact S.ex c u h
  · obtain ⟨b, e, m, ow⟩ := S.own i s d h c
    refine ⟨b, e, m, ow.mono (Evl.Ex.refl F) fun ob hb => ?_⟩
    have nb : b ≠ a := fun z => by subst z; exact no ⟨i, s, d, h, c, e⟩
    rw [upd_ne nb]; exact hb
theorem Go.side {Fb Hb : Hp} {σb : Sg} {eb : En} {a : Addr} {o : HO} (g : Go Fb Hb σb eb F H σ env) (hb : Hb a = none) : Go Fb Hb σb eb F (upd H a o) σ env :=
  ⟨g.exF, fun c u h n => by rw [upd_ne (ne_of_none h hb)]; exact g.keep c u h n, fun c h => by
    by_cases q : c = a
    · subst q; exact hb
    · rw [upd_ne q] at h; exact g.dom c h, g.grow, g.own, g.bor⟩
end

/-! ### the loop -/
def loopC (vs : List Nat) (g : MG) (t : MT) (m : M) : List D → En → Option (List D × En)
  | [], env => some ([], env)
  | d :: ds, env => match g d (wipeE env vs) with
    | none => none
    | some e1 => match t e1 with
      | .ok false e2 => loopC vs g t m ds (unw env e2 vs)
      | .ok true e2 => (match m e2 with
        | .ok r e3 => (match r.take e3 with
          | some (y, e4) => (match loopC vs g t m ds (unw env e4 vs) with
            | some (ys, e5) => some (y :: ys, e5)
            | none => none)
          | none => none)
        | _ => none)
      | _ => none
def outC (o : Option (List D × En)) : ER := match o with
  | some (ys, e) => if ys.length ≤ szl then .ok (.tmp (.lst ys)) e else .stuck
  | none => .stuck
def mLc (vs : List Nat) (i : MI) (g : MG) (t : MT) (m : M) : M := fun env => match i env with
  | .ok ds e => outC (loopC vs g t m ds e)
  | .exc c e => .exc c e
  | .stuck => .stuck
def W0 : WX := fun _ _ _ => False
def preC (acc : List D) (o : Option (List D × En)) : Option (List D × En) := o.map fun p => (acc ++ p.1, p.2)
def tmYes : MT := fun env => .ok true env
/-- a comprehension's tests: none, or one -/
structure TMs (X : Cx) (W : WX) (ifs : List Expr) (m : MT) : Prop where
  pt : PTs X ifs (tT (c3 X) W m)
theorem tms_nil {X : Cx} {W : WX} : TMs X W [] tmYes := ⟨⟨fun pins s σ H Q I q => pts_nil.run pins s σ H Q I (by
  obtain ⟨env, F, S, q⟩ := q
  exact q H F .refl S)⟩⟩
theorem tms_one {X : Cx} {W : WX} {c : Expr} {m : MT} (h : TM X W c m) : TMs X W [c] m := ⟨pts_one h.pt⟩
theorem t_lc {Z : C3} {W : WX} {vs : List Nat} {mi : MI} {mg : MG} {mt : MT} {m : M} {tg : TG} {σ : Sg} {H : Hp} {Q : VK}
    (hk : ∀ (v : V) (d : D) (σ : Sg) (H F : Hp) (env env' : En) (Q : Sg → Hp → Prop), RepS Z F H σ env → Rp Z F v d → mg d env = some env' → (∀ σ', Go F H σ env F H σ' env' → RepS Z F H σ' env' → wipe σ' vs = wipe σ vs → Q σ' H) → tg v σ H Q)
    (q : tE Z W (mLc vs mi mg mt m) σ H Q) : tLc (tI Z W mi) tg (tT Z W0 mt) (tE Z W0 m) vs σ H Q := by
  obtain ⟨env0, F0, S0, q⟩ := q
  refine ⟨env0, F0, S0, ?_⟩
  unfold mLc at q
  cases em : mi env0 with
  | stuck => rw [em] at q; exact q.elim
  | exc c e => rw [em] at q; exact q
  | ok ds e0 =>
    simp only [em] at q
    intro J H1 F1 g1 S1 wk D hD
    obtain ⟨G, Y, w1, w2, w3⟩ := wk
    have nF1 : F1 D = none := dom_of S1.ex D hD
    have no1 : ¬ Owned e0 σ D := fun ⟨i, s, d, h1, h2, h3⟩ => by
      obtain ⟨a, e, _, o⟩ := S1.own i s d h1 h2
      rw [h3] at e
      cases e
      obtain ⟨ob, ho⟩ := o.there
      rw [hD] at ho; cases ho
    have hb : H D = none := g1.dom D hD
    refine lc_it w1 (fun i H' => ∃ env F acc xs, Ex F1 F ∧ Go F0 H σ env0 F H' σ env ∧ RepS Z F H' σ env ∧ F D = none ∧ ¬ Owned env σ D ∧ H' D = some (.lst xs) ∧ RpL Z F xs acc ∧ Wi Z W σ Q F0 H env0 (outC (preC acc (loopC vs mg mt m (ds.drop i) env))))
      ⟨e0, F1, [], [], Evl.Ex.refl F1, g1.side hb, S1.side nF1 no1, nF1, no1, upd_same, .nil, ?_⟩ (fun i H' _ ⟨env, F, acc, xs, x, g, S, _⟩ => w2 F H' x S.ex) (fun i x H' H'' hi ⟨env, F, acc, xs, ex, g, S, nF, no, hl, ra, q⟩ y => ?_) (fun H' ⟨env, F, acc, xs, ex, g, S, nF, no, hl, ra, q⟩ => ?_)
    · have e : preC [] (loopC vs mg mt m (ds.drop 0) e0) = loopC vs mg mt m ds e0 := by
        rw [List.drop_zero]
        unfold preC
        cases loopC vs mg mt m ds e0 <;> rfl
      rw [e]; exact q
    · obtain ⟨F', d, hd, n, r⟩ := w3 i F H' x H'' hi ex S.ex y
      have ed : ds.drop i = d :: ds.drop (i + 1) := by
        obtain ⟨h1, h2⟩ := List.getElem?_eq_some_iff.mp hd
        rw [List.drop_eq_getElem_cons h1, h2]
      rw [ed] at q
      unfold loopC at q
      have g2 := g.trans n.go
      have S2 := n.repS S
      have nF' : F' D = none := by
        cases z : F' D with
        | none => rfl
        | some _ =>
          rcases n.grow D (by rw [z]; simp) with k | k
          · exact absurd nF k
          · rw [hl] at k; cases k
      have hl' : H'' D = some (.lst xs) := n.exH _ _ hl
      have ra' : RpL Z F' xs acc := ra.mono n.exF
      have ex' : Ex F1 F' := ex.trans n.exF
      cases eg : mg d (wipeE env vs) with
      | none => rw [eg] at q; exact q.elim
      | some e1 =>
        simp only [eg] at q
        have Sb := block_in S2 vs
        refine hk x d (wipe σ vs) H'' F' _ e1 _ Sb r eg fun σ2 g3 S3 w3' => ?_
        have hw : wipe σ2 vs = wipe σ vs := w3'.trans (wipe_idem σ vs)
        refine ⟨hw, e1, F', S3, ?_⟩
        -- the list stands behind the block
        have fin : ∀ {F5 H5 : Hp} {e5 : En}, Go F' H'' (wipe σ vs) (wipeE env vs) F5 H5 σ2 e5 → RepS Z F5 H5 σ2 e5 → H5 D = some (.lst xs) ∧ F5 D = none ∧ ¬ Owned (unw env e5 vs) σ D ∧ Go F0 H σ env0 F5 H5 σ (unw env e5 vs) ∧ RepS Z F5 H5 σ (unw env e5 vs) := fun {F5 H5 e5} g5 S5 => by
          have nb : ¬ Owned (wipeE env vs) (wipe σ vs) D := fun z => by
            obtain ⟨i, s, d, _, h1, h2, h3⟩ := owned_wipe z
            exact no ⟨i, s, d, h1, h2, h3⟩
          obtain ⟨go, So⟩ := block_out S2 hw g5 S5
          refine ⟨g5.keep D _ hl' nb, ?_, fun z => ?_, g2.trans go, So⟩
          · cases z : F5 D with
            | none => rfl
            | some _ =>
              rcases g5.grow D (by rw [z]; simp) with k | k | k
              · exact absurd nF' k
              · rw [hl'] at k; cases k
              · exact absurd k nb
          · rcases go.own D z with k | k
            · exact no k
            · rw [hl'] at k; cases k
        cases et : mt e1 with
        | stuck => rw [et] at q; exact q.elim
        | exc c e => rw [et] at q; exact q.elim
        | ok b e2 =>
          intro H3 F3 g4 S4
          cases b with
          | false =>
            simp only [et] at q
            obtain ⟨k1, k2, k3, k4, k5⟩ := fin (g3.trans g4) S4
            exact iteF ⟨_, F3, acc, xs, ex'.trans g4.exF, k4, k5, k2, k3, k1, ra'.mono g4.exF, q⟩
          | true =>
            simp only [et] at q
            refine iteT ⟨e2, F3, S4, ?_⟩
            cases ee : m e2 with
            | stuck => rw [ee] at q; exact q.elim
            | exc c e => rw [ee] at q; exact q.elim
            | ok r e3 =>
              simp only [ee] at q
              intro v H4 F4 g5 S5 r5 f5
              cases ek : r.take e3 with
              | none => rw [ek] at q; exact q.elim
              | some ye =>
                obtain ⟨y, e4⟩ := ye
                simp only [ek] at q
                obtain ⟨F5, g6, S6, p6, x6, _⟩ := RepR.take g5 S5 r5 f5 ek
                obtain ⟨k1, k2, k3, k4, k5⟩ := fin ((g3.trans g4).trans g6) S6
                cases el : loopC vs mg mt m (ds.drop (i + 1)) (unw env e4 vs) with
                | none => rw [el] at q; exact q.elim
                | some ye2 =>
                  obtain ⟨ys, e5⟩ := ye2
                  rw [el] at q
                  have hz : (acc ++ y :: ys).length ≤ szl := by
                    by_cases z : (acc ++ y :: ys).length ≤ szl
                    · exact z
                    · have q' : Wi Z W σ Q F0 H env0 (if (acc ++ y :: ys).length ≤ szl then .ok (.tmp (.lst (acc ++ y :: ys))) e5 else .stuck) := q
                      rw [if_neg z] at q'
                      exact q'.elim
                  have ra6 : RpL Z F5 xs acc := ra'.mono (g4.exF.trans g6.exF)
                  refine ⟨xs, k1, ?_, _, F5, acc ++ [y], xs ++ [v], ex'.trans (g4.exF.trans g6.exF), k4.side hb, k5.side k2 k3, k2, k3, upd_same, ra6.append (.one p6), ?_⟩
                  · rw [ra6.length]
                    rw [List.length_append] at hz
                    exact szl_lt (by omega)
                  · rw [el]
                    have e : preC (acc ++ [y]) (some (ys, e5)) = preC acc (some (y :: ys, e5)) := by
                      unfold preC
                      rw [Option.map_some, Option.map_some]
                      show some (acc ++ [y] ++ ys, e5) = some (acc ++ y :: ys, e5)
                      rw [List.append_assoc]
                      rfl
                    rw [e]; exact q
    · rw [List.drop_length] at q
      have q' : Wi Z W σ Q F0 H env0 (if (acc ++ []).length ≤ szl then .ok (.tmp (.lst (acc ++ []))) env else .stuck) := q
      rw [List.append_nil] at q'
      by_cases z : acc.length ≤ szl
      · rw [if_pos z] at q'
        exact q' (.ref D) H' F g S ⟨D, rfl, nF, no, xs, hl, ra⟩ ⟨D, rfl, hb⟩
      · rw [if_neg z] at q'
        exact q'.elim
/-- a comprehension's block stands in this context -/
abbrev BlkP (X : Cx) (scope : Scope) (P : Cx → Prop) : Prop := ∀ (s : Shared) (H : Hp) (C : Addr) (cl : List (Str × Addr)) (fp : List Addr), P (X.blk s H scope (compEnvC scope cl C X.env) fp)
theorem c3_blk {X : Cx} (hc : X.calm = true) {s : Shared} {H : Hp} {scope : Scope} {e : Env} {fp : List Addr} : c3 (X.blk s H scope e fp) = c3 X := by
  unfold c3 pnOf
  show (⟨X.prog, X.w, X.K, match X.calm with
    | true => []
    | false => []⟩ : C3) = ⟨X.prog, X.w, X.K, match X.calm with
    | true => []
    | false => X.pn⟩
  rw [hc]
section
variable {X : Cx} {W : WX} {elt tg iter : Expr} {ifs : List Expr} {scope : Scope} {own : List (Str × Nat)} {pos : Pos} {mi : MI} {mg : MG} {mt : MT} {m : M}
/-- the target's reading is the same in all blocks -/
structure GMb (X : Cx) (scope : Scope) (tg : Expr) (vs : List Nat) (m : MG) : Prop where
  ex : ∃ t, BlkP X scope (fun X => PG X tg t) ∧ ∀ (v : V) (d : D) (σ : Sg) (H F : Hp) (env env' : En) (Q : Sg → Hp → Prop), RepS (c3 X) F H σ env → Rp (c3 X) F v d → m d env = some env' →
    (∀ σ', Go F H σ env F H σ' env' → RepS (c3 X) F H σ' env' → wipe σ' vs = wipe σ vs → Q σ' H) → t v σ H Q
theorem em_lc (hc : X.calm = true) (hN : X.N.Nodup) (hi : IM X W tg iter mi) (ok : BlkOk X.N X.env.scope scope own) (hg : GMb X scope tg (own.map (·.2)) mg) (ht : BlkP X scope fun X => TMs X W0 ifs mt) (he : BlkP X scope fun X => EM X W0 elt m)
    (hs : ∀ x, foldedSetIterable iter X.env x = pure x := by intro _; rfl) : EM X W (.ListComp elt [⟨tg, iter, ifs, 0⟩] scope pos) (mLc (own.map (·.2)) mi mg mt m) := by
  obtain ⟨t, h1, h2⟩ := hg.ex
  exact ⟨pe_mono (pe_lc hc hN hi.pi ok h1 (fun s H C cl fp => c3_blk hc ▸ (ht s H C cl fp).pt) (fun s H C cl fp => c3_blk hc ▸ (he s H C cl fp).pe) hs) fun σ H Q q => t_lc h2 q⟩
theorem sm_setLc {i : Nat} {y : Str} {py spos : Pos} (hc : X.calm = true) (hN : X.N.Nodup) (hi : IM X W tg iter mi) (ok : BlkOk X.N X.env.scope scope own) (hg : GMb X scope tg (own.map (·.2)) mg) (ht : BlkP X scope fun X => TMs X W0 ifs mt) (he : BlkP X scope fun X => EM X W0 elt m)
    (hsw : swapsWith (.ListComp elt [⟨tg, iter, ifs, 0⟩] scope pos) (some (.Name y py)) spos.line X.env = pure true) (hy : X.N[i]? = some y := by rfl) (hyl : X.env.scope.names.lookup y = some .local := by rfl) (hs : ∀ x, foldedSetIterable iter X.env x = pure x := by intro _; rfl) :
    SM X W (.Assign [.Name y py] (.ListComp elt [⟨tg, iter, ifs, 0⟩] scope pos) spos) (sSet i (mLc (own.map (·.2)) mi mg mt m)) := by
  obtain ⟨t, h1, h2⟩ := hg.ex
  exact ⟨ps_mono (ps_setLc hc hN hy hyl hsw hi.pi ok h1 (fun s H C cl fp => c3_blk hc ▸ (ht s H C cl fp).pt) (fun s H C cl fp => c3_blk hc ▸ (he s H C cl fp).pe) hs) fun D σ H q => by
    obtain ⟨env, F, S, q⟩ := q
    refine t_lc h2 (tE_andS S q fun r e1 v H1 F1 _ g1 S1 r1 f1 w => ?_)
    cases ep : putR i r e1 with
    | none => rw [ep] at w; exact w.elim
    | some e' =>
      rw [ep] at w
      obtain ⟨F2, g2, S2⟩ := putR_ok g1 S1 r1 f1 ep
      exact w _ H1 F2 g2 S2⟩
theorem gmb_name {i : Nat} {x : Str} {p : Pos} {vs : List Nat} (hN : X.N.Nodup) (hv : i ∈ vs) (hi : X.N[i]? = some x) (h : BlkP X scope fun X => Loc X.env.scope x ∧ (X.fn x = true ∨ X.env.scope.names.lookup x = some .local)) : GMb X scope (.Name x p) vs (gN i) :=
  ⟨_, fun s H C cl fp => pg_name (X := X.blk s H scope (compEnvC scope cl C X.env) fp) hN hi (h s H C cl fp).1 (h s H C cl fp).2, fun v d σ H F env env' Q S r e k => by
    obtain ⟨g, S'⟩ := putF_ok .refl S r e
    exact k _ g S' (wipe_set σ i _ vs hv)⟩
structure GLb (X : Cx) (scope : Scope) (ts : List Expr) (vs is : List Nat) : Prop where
  ex : ∃ t, BlkP X scope (fun X => PGs X ts t) ∧ ∀ (ws : List V) (ds : List D) (σ : Sg) (H F : Hp) (env env' : En) (Q : Sg → Hp → Prop), RepS (c3 X) F H σ env → RpL (c3 X) F ws ds → gL is ds env = some env' →
    (∀ σ', Go F H σ env F H σ' env' → RepS (c3 X) F H σ' env' → wipe σ' vs = wipe σ vs → Q σ' H) → t ws σ H Q
theorem glb_nil {vs : List Nat} : GLb X scope [] vs [] := ⟨_, fun s H C cl fp => pgs_nil, fun ws ds σ H F env env' Q S r e k => by
  cases r with
  | nil => cases e; exact ⟨rfl, k σ .refl S rfl⟩
  | cons _ _ => cases e⟩
theorem glb_cons {i : Nat} {x : Str} {p : Pos} {ts : List Expr} {vs is : List Nat} (hN : X.N.Nodup) (hv : i ∈ vs) (h : GLb X scope ts vs is) (hi : X.N[i]? = some x) (hb : BlkP X scope fun X => Loc X.env.scope x ∧ (X.fn x = true ∨ X.env.scope.names.lookup x = some .local))
    (hs : BlkP X scope fun X => (assignEach (.Name x p :: ts) X.env).map (·.2) = assign (.Name x p) X.env :: (assignEach ts X.env).map (·.2)) : GLb X scope (.Name x p :: ts) vs (i :: is) := by
  obtain ⟨t, ht, hk⟩ := h.ex
  refine ⟨_, fun s H C cl fp => pgs_cons (pg_name (X := X.blk s H scope (compEnvC scope cl C X.env) fp) hN hi (hb s H C cl fp).1 (hb s H C cl fp).2) (ht s H C cl fp) (hs s H C cl fp), fun ws ds σ H F env env' Q S r e k => ?_⟩
  cases r with
  | nil => cases e
  | cons r1 r2 =>
    unfold gL at e
    rename_i v vs' d ds'
    cases ep : putF i d env with
    | none => rw [ep] at e; cases e
    | some e1 =>
      simp only [ep] at e
      obtain ⟨g, S'⟩ := putF_ok .refl S r1 ep
      exact ⟨_, _, rfl, hk _ _ _ H F e1 env' Q S' r2 e fun σ' g' S'' w => k σ' (g.trans g') S'' (w.trans (wipe_set σ i _ vs hv))⟩
theorem gmb_tup {es : List Expr} {k : Nat} {p : Pos} {vs is : List Nat} (hc : X.calm = true) (h : GLb X scope es vs is) (hn : BlkP X scope fun X => (assignEach es X.env).length = is.length) (hst : BlkP X scope fun X => (assignEach es X.env).findIdx? (·.1) = none) : GMb X scope (.Tuple es k p) vs (gT is) := by
  obtain ⟨t, ht, hk⟩ := h.ex
  refine ⟨gTup X.K is.length t, fun s H C cl fp => pg_tup (X := X.blk s H scope (compEnvC scope cl C X.env) fp) hc (ht s H C cl fp) (hn s H C cl fp) (hst s H C cl fp), fun v d σ H F env env' Q S r e k => ?_⟩
  cases r with
  | tup hs hr =>
    have e' : gL is _ env = some env' := e
    exact ⟨_, _, rfl, Evl.ex_t S.ex hs, by rw [hr.length, gls_len (ts := es) (is := is) (ds := []) (env := env) e'], hk _ _ σ H F env env' Q S hr e' k⟩
  | _ => cases e
end
end Gr
end
section
/-! Defs: what one promises by a plain function, the call, the body. -/
namespace Gr
open PySem PySem.Spec PyProof.Rows L2

inductive FR where
  | ok (d : D) (bs : List D) | exc (c : Nat) (bs : List D) | stuck
/-- a def as a plain function; bs: what the borrowed arguments hold behind it -/
abbrev FS := List D → FR
inductive ArgsOk (Z : C3) (F H : Hp) : List Bool → List V → List D → Prop
  | nil : ArgsOk Z F H [] [] []
  | fro {ms : List Bool} {v : V} {vs : List V} {d : D} {ds : List D} : Rp Z F v d → ArgsOk Z F H ms vs ds → ArgsOk Z F H (false :: ms) (v :: vs) (d :: ds)
  | bor {ms : List Bool} {a : Addr} {vs : List V} {d : D} {ds : List D} : F a = none → Ow Z F H a d → (∀ j : Nat, ms[j]? = some true → vs[j]? ≠ some (.ref a)) → ArgsOk Z F H ms vs ds → ArgsOk Z F H (true :: ms) (.ref a :: vs) (d :: ds)
theorem ArgsOk.length {Z : C3} {F H : Hp} : ∀ {ms : List Bool} {vs : List V} {ds : List D}, ArgsOk Z F H ms vs ds → vs.length = ms.length
  | _, _, _, .nil => rfl
  | _, _, _, .fro _ r => congrArg (· + 1) r.length
  | _, _, _, .bor _ _ _ r => congrArg (· + 1) r.length
inductive BorOk (Z : C3) (F H : Hp) : List Bool → List V → List D → Prop
  | nil : BorOk Z F H [] [] []
  | fro {ms : List Bool} {v : V} {vs : List V} {bs : List D} : BorOk Z F H ms vs bs → BorOk Z F H (false :: ms) (v :: vs) bs
  | bor {ms : List Bool} {a : Addr} {vs : List V} {d : D} {bs : List D} : F a = none → Ow Z F H a d → BorOk Z F H ms vs bs → BorOk Z F H (true :: ms) (.ref a :: vs) (d :: bs)
/-- a borrowed address -/
def InB (ms : List Bool) (vs : List V) (a : Addr) : Prop := ∃ j : Nat, ms[j]? = some true ∧ vs[j]? = some (.ref a)
structure Fg (F H F' H' : Hp) (B : Addr → Prop) : Prop where
  exF : Ex F F'
  keep : ∀ a o, H a = some o → ¬ B a → H' a = some o
  dom : ∀ a, H' a = none → H a = none
  grow : ∀ a, F' a ≠ none → F a ≠ none ∨ H a = none
  ex' : Ex F' H'
def spF (Z : C3) (cv : Nat → Value) (modes : List Bool) (fresh : Bool) (f : FS) : Sp := fun vs H Q E => ∃ F ds, Ex F H ∧ ArgsOk Z F H modes vs ds ∧
  match f ds with
  | .ok d bs => ∀ v H' F', Fg F H F' H' (InB modes vs) → BorOk Z F' H' modes vs bs → RepN Z H F' H' v fresh d → Q v H'
  | .exc c bs => ∀ H' F', Fg F H F' H' (InB modes vs) → BorOk Z F' H' modes vs bs → E (cv c) none H'
  | .stuck => False

/-! ### the body -/
def initE (n : Nat) (modes : List Bool) (ds : List D) : En := (List.zipWith (fun m d => if m = true then SV.bor d else SV.fro d) modes ds) ++ List.replicate (n - ds.length) SV.no
def bors : Nat → List Bool → En → Option (List D)
  | _, [], _ => some []
  | i, true :: ms, e => match e[i]? with
    | some (.bor d) => (match bors (i + 1) ms e with
      | some ds => some (d :: ds)
      | none => none)
    | _ => none
  | i, false :: ms, e => bors (i + 1) ms e
def finR (fresh : Bool) (modes : List Bool) (r : R) (e : En) : FR := match fresh with
  | true => (match r with
    | .tmp d => (match bors 0 modes e with
      | some bs => .ok d bs
      | none => .stuck)
    | .slot i => (match e[i]? with
      | some (.own d) => (match bors 0 modes e with
        | some bs => .ok d bs
        | none => .stuck)
      | _ => .stuck)
    | .fro _ => .stuck)
  | false => (match r.take e with
    | some (d, e') => (match bors 0 modes e' with
      | some bs => .ok d bs
      | none => .stuck)
    | none => .stuck)
def fBody (n : Nat) (modes : List Bool) (fresh : Bool) (m : MS) : FS := fun ds => match m (initE n modes ds) with
  | .rt r e => finR fresh modes r e
  | .nx e => finR fresh modes (.fro .non) e
  | .exc c e => (match bors 0 modes e with
    | some bs => .exc c bs
    | none => .stuck)
  | _ => .stuck
/-- an exception of one's own classes, by its number -/
def Lw (cv : Nat → Value) (W : WX) : L2.WX := fun cls d σ H => ∃ c, cls = cv c ∧ d = none ∧ W c σ H

theorem ArgsOk.get {Z : C3} {F H : Hp} : ∀ {ms : List Bool} {vs : List V} {ds : List D} {i : Nat} {s : SV}, ArgsOk Z F H ms vs ds → (List.zipWith (fun m d => if m = true then SV.bor d else SV.fro d) ms ds)[i]? = some s →
    ∃ v d, vs[i]? = some v ∧ ((ms[i]? = some false ∧ s = .fro d ∧ Rp Z F v d) ∨ (ms[i]? = some true ∧ s = .bor d ∧ ∃ a, v = .ref a ∧ F a = none ∧ Ow Z F H a d ∧ ∀ j : Nat, j ≠ i → ms[j]? = some true → vs[j]? ≠ some (.ref a)))
  | _, _, _, _, _, .nil, h => by simp at h
  | _, _, _, 0, s, .fro r t, h => by
    simp at h
    exact ⟨_, _, rfl, .inl ⟨rfl, h.symm, r⟩⟩
  | _, _, _, 0, s, .bor n o ne t, h => by
    simp at h
    refine ⟨_, _, rfl, .inr ⟨rfl, h.symm, _, rfl, n, o, fun j hj => ?_⟩⟩
    cases j with
    | zero => exact absurd rfl hj
    | succ j => intro h1; simpa using ne j (by simpa using h1)
  | _, _, _, i + 1, s, .fro r t, h => by
    obtain ⟨v, d, h1, h2⟩ := t.get (i := i) (s := s) (by simpa using h)
    refine ⟨v, d, by simpa using h1, h2.imp (fun z => by simpa using z) fun ⟨z1, z2, a, z3, z4, z5, z6⟩ => ⟨by simpa using z1, z2, a, z3, z4, z5, fun j hj => ?_⟩⟩
    cases j with
    | zero => intro h1; simp at h1
    | succ j => intro h1; simpa using z6 j (fun q => hj (by rw [q])) (by simpa using h1)
  | _, _, _, i + 1, s, .bor (a := b) n o ne t, h => by
    obtain ⟨v, d, h1, h2⟩ := t.get (i := i) (s := s) (by simpa using h)
    refine ⟨v, d, by simpa using h1, h2.imp (fun z => by simpa using z) fun ⟨z1, z2, a, z3, z4, z5, z6⟩ => ⟨by simpa using z1, z2, a, z3, z4, z5, fun j hj => ?_⟩⟩
    cases j with
    | zero =>
      intro _ q
      have e : b = a := by simpa using q
      subst e
      exact ne i (by simpa using z1) (by rw [← z3]; simpa using h1)
    | succ j => intro h1; simpa using z6 j (fun q => hj (by rw [q])) (by simpa using h1)
theorem ArgsOk.len2 {Z : C3} {F H : Hp} : ∀ {ms : List Bool} {vs : List V} {ds : List D}, ArgsOk Z F H ms vs ds → ds.length = ms.length
  | _, _, _, .nil => rfl
  | _, _, _, .fro _ r => congrArg (· + 1) r.len2
  | _, _, _, .bor _ _ _ r => congrArg (· + 1) r.len2
section
variable {Z : C3} {F H : Hp} {ms : List Bool} {vs : List V} {ds : List D} {N : List Str}
theorem initE_get {i : Nat} {s : SV} (h : (initE N.length ms ds)[i]? = some s) : (List.zipWith (fun m d => if m = true then SV.bor d else SV.fro d) ms ds)[i]? = some s ∨ s = .no := by
  unfold initE at h
  by_cases q : i < (List.zipWith (fun m d => if m = true then SV.bor d else SV.fro d) ms ds).length
  · rw [List.getElem?_append_left q] at h; exact .inl h
  · rw [List.getElem?_append_right (by omega), List.getElem?_replicate] at h
    split at h
    · cases h; exact .inr rfl
    · cases h
theorem start_get {i : Nat} {v : V} (h : vs[i]? = some v) : (L2.start N vs)[i]? = some (some v) := by
  unfold L2.start
  have hi : i < vs.length := (List.getElem?_eq_some_iff.mp h).1
  rw [List.getElem?_append_left (by simpa using hi), List.getElem?_map, h]
  rfl
theorem initE_owned {a : Addr} (x : ArgsOk Z F H ms vs ds) (h : Owned (initE N.length ms ds) (L2.start N vs) a) : InB ms vs a := by
  obtain ⟨i, s, d, h1, h2, h3⟩ := h
  rcases initE_get h1 with h1 | rfl
  · obtain ⟨v, d', e1, e2⟩ := x.get h1
    rcases e2 with ⟨_, rfl, _⟩ | ⟨e2, rfl, b, rfl, _⟩
    · cases h2
    · rw [start_get e1] at h3
      cases h3
      exact ⟨i, e2, e1⟩
  · cases h2
theorem initE_ok (ex : Ex F H) (x : ArgsOk Z F H ms vs ds) (hN : ms.length ≤ N.length) : RepS Z F H (L2.start N vs) (initE N.length ms ds) := by
  have l1 := x.length
  have l2 := x.len2
  refine ⟨?_, ex, fun i d h => ?_, fun i s d h c => ?_, fun j k c s t d1 d2 f1 f2 f3 f4 f5 f6 => ?_⟩
  · unfold initE L2.start
    rw [List.length_append, List.length_append, List.length_zipWith, List.length_map, List.length_replicate, List.length_replicate]
    omega
  · rcases initE_get h with h | h
    · obtain ⟨v, d', e1, e2⟩ := x.get h
      rcases e2 with ⟨_, e, r⟩ | ⟨_, e, _⟩
      · cases e
        exact ⟨v, start_get e1, r⟩
      · cases e
    · cases h
  · rcases initE_get h with h | rfl
    · obtain ⟨v, d', e1, e2⟩ := x.get h
      rcases e2 with ⟨_, rfl, r⟩ | ⟨_, rfl, a, rfl, n, o, _⟩
      · cases c
      · cases c
        exact ⟨a, start_get e1, n, o⟩
    · cases c
  · rcases initE_get f1 with h1 | rfl
    · rcases initE_get f2 with h2 | rfl
      · obtain ⟨v, d', e1, e2⟩ := x.get h1
        obtain ⟨v', d'', e1', e2'⟩ := x.get h2
        rcases e2 with ⟨_, rfl, r⟩ | ⟨m1, rfl, a, rfl, n, o, ne⟩
        · cases f3
        · rcases e2' with ⟨_, rfl, r⟩ | ⟨m2, rfl, b, rfl, _⟩
          · cases f4
          · rw [start_get e1] at f5
            rw [start_get e1'] at f6
            cases f5
            cases f6
            by_cases q : k = j
            · exact q.symm
            · exact absurd e1' (ne k q m2)
      · cases f4
    · cases f3
/-- the borrowed arguments behind the body -/
theorem bors_ok {F' H' : Hp} {σ' : Sg} {e : En} (g : Go F H (L2.start N vs) (initE N.length ms ds) F' H' σ' e) (S : RepS Z F' H' σ' e) (l1 : vs.length = ms.length) : ∀ {i : Nat} {ns : List Bool} {ws : List V} {bs : List D},
    ms.drop i = ns → vs.drop i = ws → bors i ns e = some bs → BorOk Z F' H' ns ws bs
  | i, [], ws, bs, h1, h2, h => by
    cases h
    have hi : ms.length ≤ i := List.drop_eq_nil_iff.mp h1
    have e : ws = [] := by rw [← h2]; exact List.drop_eq_nil_iff.mpr (by omega)
    subst e
    exact .nil
  | i, b :: ns, ws, bs, h1, h2, h => by
    have hi : i < ms.length := by
      by_cases q : i < ms.length
      · exact q
      · rw [List.drop_eq_nil_iff.mpr (by omega)] at h1
        cases h1
    have hv : i < vs.length := by omega
    rw [List.drop_eq_getElem_cons hi] at h1
    rw [List.drop_eq_getElem_cons hv] at h2
    obtain ⟨h1a, h1b⟩ := List.cons.inj h1
    subst h2
    cases b with
    | false => exact .fro (bors_ok g S l1 h1b rfl h)
    | true =>
      unfold bors at h
      cases q : e[i]? with
      | none => simp only [q] at h; cases h
      | some s =>
        simp only [q] at h
        cases s with
        | bor d =>
          simp only at h
          cases q2 : bors (i + 1) ns e with
          | none => rw [q2] at h; cases h
          | some ds' =>
            rw [q2] at h
            cases h
            obtain ⟨a, x1, x2, x3⟩ := S.own i _ d q rfl
            obtain ⟨_, x4⟩ := g.bor i d q
            rw [x1, start_get (List.getElem?_eq_getElem hv)] at x4
            have x5 : V.ref a = vs[i] := Option.some.inj (Option.some.inj x4)
            rw [← x5]
            exact .bor x2 x3 (bors_ok g S l1 h1b rfl q2)
        | _ => cases h
theorem bors_all {e : En} : ∀ {i : Nat} {ns : List Bool} {bs : List D}, bors i ns e = some bs → ∀ j : Nat, ns[j]? = some true → ∃ d, e[i + j]? = some (.bor d)
  | i, [], _, _, j, h => by simp at h
  | i, false :: ns, bs, hb, 0, h => by simp at h
  | i, false :: ns, bs, hb, j + 1, h => by
    have := bors_all (i := i + 1) (ns := ns) (bs := bs) hb j (by simpa using h)
    rwa [show i + 1 + j = i + (j + 1) by omega] at this
  | i, true :: ns, bs, hb, j, h => by
    unfold bors at hb
    cases q : e[i]? with
    | none => simp only [q] at hb; cases hb
    | some s =>
      simp only [q] at hb
      cases s with
      | bor d =>
        simp only at hb
        cases q2 : bors (i + 1) ns e with
        | none => rw [q2] at hb; cases hb
        | some ds' =>
          cases j with
          | zero => exact ⟨d, q⟩
          | succ j =>
            have := bors_all q2 j (by simpa using h)
            rwa [show i + 1 + j = i + (j + 1) by omega] at this
      | _ => cases hb
theorem Go.fg {F' H' : Hp} {σ' : Sg} {e : En} (x : ArgsOk Z F H ms vs ds) (g : Go F H (L2.start N vs) (initE N.length ms ds) F' H' σ' e) (S : RepS Z F' H' σ' e) (nb : ∀ a, InB ms vs a → F' a = none) : Fg F H F' H' (InB ms vs) :=
  ⟨g.exF, fun a o h n => g.keep a o h fun q => n (initE_owned x q), g.dom, fun a h => (g.grow a h).imp id fun q => q.elim id fun q => absurd (nb a (initE_owned x q)) h, S.ex⟩
theorem BorOk.free {F' H' : Hp} : ∀ {ms : List Bool} {vs : List V} {bs : List D}, BorOk Z F' H' ms vs bs → ∀ a, InB ms vs a → F' a = none
  | _, _, _, .nil, a, ⟨j, h, _⟩ => by simp at h
  | _, _, _, .fro t, a, ⟨0, h, _⟩ => by simp at h
  | _, _, _, .fro t, a, ⟨j + 1, h, h2⟩ => t.free a ⟨j, by simpa using h, by simpa using h2⟩
  | _, _, _, .bor (a := b) n o t, a, ⟨0, h, h2⟩ => by
    have e : b = a := by simpa using h2
    subst e
    exact n
  | _, _, _, .bor n o t, a, ⟨j + 1, h, h2⟩ => t.free a ⟨j, by simpa using h, by simpa using h2⟩
/-- what a body ends with keeps the promise -/
theorem fin_ok {fresh : Bool} {F' H' : Hp} {σ' : Sg} {e : En} {v : V} {r : R} {Q : VK} {E : XK} {cv : Nat → Value} (x : ArgsOk Z F H ms vs ds) (g : Go F H (L2.start N vs) (initE N.length ms ds) F' H' σ' e) (S : RepS Z F' H' σ' e) (rr : RepR Z F' H' σ' e v r) (fr : FrR H v r)
    (h : match finR fresh ms r e with
      | .ok d bs => ∀ v H' F', Fg F H F' H' (InB ms vs) → BorOk Z F' H' ms vs bs → RepN Z H F' H' v fresh d → Q v H'
      | .exc c bs => ∀ H' F', Fg F H F' H' (InB ms vs) → BorOk Z F' H' ms vs bs → E (cv c) none H'
      | .stuck => False) : Q v H' := by
  have l1 := x.length
  cases fresh with
  | false =>
    unfold finR at h
    simp only at h
    cases et : r.take e with
    | none => rw [et] at h; exact h.elim
    | some de =>
      obtain ⟨d, e'⟩ := de
      simp only [et] at h
      obtain ⟨F2, g2, S2, p2, _⟩ := RepR.take g S rr fr et
      cases eb : bors 0 ms e' with
      | none => rw [eb] at h; exact h.elim
      | some bs =>
        rw [eb] at h
        have bo := bors_ok g2 S2 l1 (i := 0) List.drop_zero List.drop_zero eb
        exact h v H' F2 (g2.fg x S2 bo.free) bo p2
  | true =>
    unfold finR at h
    simp only at h
    cases r with
    | fro d => exact h.elim
    | tmp d =>
      simp only at h
      cases eb : bors 0 ms e with
      | none => rw [eb] at h; exact h.elim
      | some bs =>
        rw [eb] at h
        have bo := bors_ok g S l1 (i := 0) List.drop_zero List.drop_zero eb
        obtain ⟨a, rfl, n, no, o⟩ := rr
        obtain ⟨b, eb', hb⟩ := fr
        cases eb'
        exact h _ H' F' (g.fg x S bo.free) bo ⟨a, rfl, hb, n, o⟩
    | slot i =>
      simp only at h
      cases q : e[i]? with
      | none => simp only [q] at h
      | some s =>
        simp only [q] at h
        cases s with
        | own d =>
          simp only at h
          cases eb : bors 0 ms e with
          | none => rw [eb] at h; exact h.elim
          | some bs =>
            rw [eb] at h
            have bo := bors_ok g S l1 (i := 0) List.drop_zero List.drop_zero eb
            obtain ⟨a, h1, n, o⟩ := S.own i _ d q rfl
            have hv : σ'[i]? = some (some v) := rr
            rw [h1] at hv
            cases hv
            refine h _ H' F' (g.fg x S bo.free) bo ⟨a, rfl, ?_, n, o⟩
            rcases g.own a ⟨i, _, d, q, rfl, h1⟩ with z | z
            · obtain ⟨j, z1, z2⟩ := initE_owned x z
              obtain ⟨d2, hb⟩ := bors_all eb j z1
              rw [Nat.zero_add] at hb
              obtain ⟨_, x4⟩ := g.bor j d2 hb
              rw [start_get z2] at x4
              have ij := S.sep i j a _ _ d d2 q hb rfl rfl h1 x4
              subst ij
              rw [q] at hb
              cases hb
            · exact z
        | _ => exact h.elim
end
/-- THE DEF: by its body -/
theorem fn_body {P : Program} {w : World} {K : PySem.W.Frag} {mg : Str → Option Value} {base : Heap} {cv : Nat → Value} {x qual : Str} {st : Stmt} {f : Addr} {fd : FuncData} {N ps : List Str} {k : Nat} {modes : List Bool} {fresh : Bool} {m : MS}
    (Fn : Fun K x qual st f fd) (S : FnScope N ps (defScope st)) (hm : modes.length = ps.length) (hN : modes.length ≤ N.length)
    (body : ∀ (cdv : Value) (A : Around) (outer : List Env) (s : Shared) (H : Hp) (E : XK) (W : WX), Room k (A.deeper (envOfC qual (defScope st) s.heap.objs.size f cdv)) →
      L2.Takes (cxOf (L2.CX P w) P w K mg base N qual (defScope st) f cdv A outer s H E) (Lw cv W) → PassesOwn (model P w) (cxOf (L2.CX P w) P w K mg base N qual (defScope st) f cdv A outer s H E).A (cxOf (L2.CX P w) P w K mg base N qual (defScope st) f cdv A outer s H E).env (cxOf (L2.CX P w) P w K mg base N qual (defScope st) f cdv A outer s H E).xe →
      SMs (cxOf (L2.CX P w) P w K mg base N qual (defScope st) f cdv A outer s H E) W (defBody st) m) :
    FnOk P w K mg base (L2.CX P w) (k + 1) f fd ps (spF ⟨P, w, K, []⟩ cv modes fresh (fBody N.length modes fresh m)) := by
  refine Fn.okX S (fun vs H Q E h => ?_) (fun cdv A outer s H vs Q E hr h => ?_)
  · obtain ⟨F, ds, _, a, _⟩ := h
    rw [a.length, hm]
  · obtain ⟨F, ds, ex, a, h⟩ := h
    have tk : L2.Takes (cxOf (L2.CX P w) P w K mg base N qual (defScope st) f cdv A outer s H E) (Lw cv fun c _ H' => E (cv c) none H') := (takes_of rfl rfl rfl rfl).imp fun cls d σ H ⟨c, e1, e2, z⟩ => by
      subst e1; subst e2
      exact z
    have b := body cdv A outer s H E (fun c _ H' => E (cv c) none H') hr tk (passes_of rfl)
    refine ⟨_, b.pss, initE N.length modes ds, F, initE_ok ex a hN, ?_⟩
    unfold fBody at h
    cases em : m (initE N.length modes ds) with
    | stuck => rw [em] at h; exact h.elim
    | bk e => rw [em] at h; exact h.elim
    | ct e => rw [em] at h; exact h.elim
    | rt r e => rw [em] at h; exact fun v σ' H' F' g S' rr fr => fin_ok a g S' rr fr h
    | nx e => rw [em] at h; exact fun σ' H' F' g S' => fin_ok (v := .non) (r := .fro .non) a g S' .non trivial h
    | exc c e =>
      simp only [em] at h
      intro σ' H' F' g S'
      cases eb : bors 0 modes e with
      | none => rw [eb] at h; exact h.elim
      | some bs =>
        rw [eb] at h
        have bo := bors_ok g S' a.length (i := 0) List.drop_zero List.drop_zero eb
        exact h H' F' (g.fg a S' bo.free) bo

/-! ### the call -/
/-- the arguments that are handed over for keeps -/
def takesM : En → List Bool → List R → Option (List (Option D) × En)
  | e, [], [] => some ([], e)
  | e, false :: ms, r :: rs => match r.take e with
    | some (d, e1) => (match takesM e1 ms rs with
      | some (l, e2) => some (some d :: l, e2)
      | none => none)
    | none => none
  | e, true :: ms, _ :: rs => match takesM e ms rs with
    | some (l, e2) => some (none :: l, e2)
    | none => none
  | _, _, _ => none
/-- .. and those that are lent, by their slots; i: the slots lent so far -/
def lends (e : En) : List R → List (Option D) → List Nat → Option (List D)
  | [], [], _ => some []
  | _ :: rs, some d :: ls, is => match lends e rs ls is with
    | some ds => some (d :: ds)
    | none => none
  | .slot i :: rs, none :: ls, is => if is.contains i then none else match (e[i]?).bind SV.cont with
    | some d => (match lends e rs ls (i :: is) with
      | some ds => some (d :: ds)
      | none => none)
    | none => none
  | _, _, _ => none
/-- what they hold behind -/
def backs : En → List Bool → List R → List D → Option En
  | e, [], [], [] => some e
  | e, false :: ms, _ :: rs, bs => backs e ms rs bs
  | e, true :: ms, .slot i :: rs, b :: bs => backs (e.modify i fun s => s.put b) ms rs bs
  | _, _, _, _ => none
def mCall (f : FS) (modes : List Bool) (fresh : Bool) (t : MA) : M := fun env => (t env).and fun rs e => match takesM e modes rs with
  | some (ls, e1) => (match lends e1 rs ls [] with
    | some ds => (match f ds with
      | .ok d bs => (match backs e1 modes rs bs with
        | some e2 => .ok (mkR fresh d) e2
        | none => .stuck)
      | .exc c bs => (match backs e1 modes rs bs with
        | some e2 => .exc c e2
        | none => .stuck)
      | .stuck => .stuck)
    | none => .stuck)
  | none => .stuck

inductive TArgs (Z : C3) (F : Hp) (σ : Sg) : List Bool → List V → List R → List (Option D) → Prop
  | nil : TArgs Z F σ [] [] [] []
  | fro {ms : List Bool} {v : V} {vs : List V} {r : R} {rs : List R} {d : D} {ls : List (Option D)} : Rp Z F v d → TArgs Z F σ ms vs rs ls → TArgs Z F σ (false :: ms) (v :: vs) (r :: rs) (some d :: ls)
  | bor {ms : List Bool} {v : V} {vs : List V} {r : R} {rs : List R} {ls : List (Option D)} : (∀ i, r = .slot i → σ[i]? = some (some v)) → TArgs Z F σ ms vs rs ls → TArgs Z F σ (true :: ms) (v :: vs) (r :: rs) (none :: ls)
theorem TArgs.mono {Z : C3} {F F' : Hp} {σ : Sg} (e : Ex F F') : ∀ {ms : List Bool} {vs : List V} {rs : List R} {ls : List (Option D)}, TArgs Z F σ ms vs rs ls → TArgs Z F' σ ms vs rs ls
  | _, _, _, _, .nil => .nil
  | _, _, _, _, .fro h t => .fro (h.mono e) (t.mono e)
  | _, _, _, _, .bor h t => .bor h (t.mono e)
theorem RepRs.carry {Z : C3} {F H Hb F1 : Hp} {σ : Sg} {env env1 : En} {v : V} {r : R} (c1 : ∀ w r', (∀ d1 d2, r = .tmp d1 → r' = .tmp d2 → w ≠ v) → RepR Z F H σ env w r' → RepR Z F1 H σ env1 w r') :
    ∀ {vs : List V} {rs : List R}, RepRs Z F H σ env Hb vs rs → (∀ d, r = .tmp d → ∀ (j : Nat) w d', vs[j]? = some w → rs[j]? = some (.tmp d') → w ≠ v) → RepRs Z F1 H σ env1 Hb vs rs := by
  intro vs rs t ne
  induction t with
  | nil => exact .nil
  | cons a b c t ih => exact .cons (c1 _ _ (fun d1 d2 x1 x2 => ne d1 x1 0 _ d2 rfl (by rw [x2]; rfl)) a) b c (ih fun d x j w d' h1 h2 => ne d x (j + 1) w d' (by simpa using h1) (by simpa using h2))
theorem takesM_ok {Z : C3} {Fb Hb : Hp} {σ σb : Sg} {eb : En} : ∀ {ms : List Bool} {F H : Hp} {env env' : En} {vs : List V} {rs : List R} {ls : List (Option D)}, Go Fb Hb σb eb F H σ env → RepS Z F H σ env → RepRs Z F H σ env Hb vs rs → takesM env ms rs = some (ls, env') →
    ∃ F', Go Fb Hb σb eb F' H σ env' ∧ RepS Z F' H σ env' ∧ TArgs Z F' σ ms vs rs ls ∧ Ex F F'
  | [], F, H, env, env', _, [], ls, gb, S, r, e => by
    cases e
    cases r
    exact ⟨F, gb, S, .nil, Evl.Ex.refl F⟩
  | [], F, H, env, env', _, _ :: _, ls, gb, S, r, e => by cases e
  | false :: ms, F, H, env, env', _, _ :: rs, ls, gb, S, .cons (v := v) (vs := vs) (r := r) h fr ne t, e => by
    unfold takesM at e
    cases e1 : r.take env with
    | none => rw [e1] at e; cases e
    | some de =>
      obtain ⟨d, env1⟩ := de
      simp only [e1] at e
      cases e2 : takesM env1 ms rs with
      | none => rw [e2] at e; cases e
      | some de2 =>
        obtain ⟨l, env2⟩ := de2
        rw [e2] at e
        cases e
        obtain ⟨F1, g1, S1, p1, x1, c1⟩ := RepR.take gb S h fr e1
        obtain ⟨F2, g2, S2, t2, x2⟩ := takesM_ok g1 S1 (RepRs.carry c1 t ne) e2
        exact ⟨F2, g2, S2, .fro (p1.mono x2) t2, x1.trans x2⟩
  | true :: ms, F, H, env, env', _, _ :: rs, ls, gb, S, .cons (v := v) (vs := vs) (r := r) h fr ne t, e => by
    unfold takesM at e
    cases e2 : takesM env ms rs with
    | none => rw [e2] at e; cases e
    | some de2 =>
      obtain ⟨l, env2⟩ := de2
      rw [e2] at e
      cases e
      obtain ⟨F2, g2, S2, t2, x2⟩ := takesM_ok gb S t e2
      exact ⟨F2, g2, S2, .bor (fun i hi => by subst hi; exact h) t2, x2⟩
  | false :: ms, F, H, env, env', _, [], ls, gb, S, r, e => by cases e
  | true :: ms, F, H, env, env', _, [], ls, gb, S, r, e => by cases e
theorem lends_ok {Z : C3} {F H : Hp} {σ : Sg} {env : En} (S : RepS Z F H σ env) : ∀ {ms : List Bool} {vs : List V} {rs : List R} {ls : List (Option D)} {is : List Nat} {ds : List D}, TArgs Z F σ ms vs rs ls → lends env rs ls is = some ds →
    ArgsOk Z F H ms vs ds ∧ ∀ j : Nat, ms[j]? = some true → ∃ (k : Nat) (a : Addr) (s : SV) (d : D), k ∉ is ∧ rs[j]? = some (.slot k) ∧ vs[j]? = some (.ref a) ∧ σ[k]? = some (some (V.ref a)) ∧ env[k]? = some s ∧ s.cont = some d
  | _, _, _, _, is, ds, .nil, e => by
    cases e
    exact ⟨.nil, fun j h => by simp at h⟩
  | _, _, _, _, is, ds, .fro (rs := rs) (ls := ls) h t, e => by
    unfold lends at e
    cases e1 : lends env rs ls is with
    | none => rw [e1] at e; cases e
    | some l =>
      rw [e1] at e
      cases e
      obtain ⟨a1, a2⟩ := lends_ok S t e1
      refine ⟨.fro h a1, fun j hj => ?_⟩
      cases j with
      | zero => simp at hj
      | succ j => simpa using a2 j (by simpa using hj)
  | _, _, _, _, is, ds, .bor (v := v) (r := r) (rs := rs) (ls := ls) h t, e => by
    cases r with
    | fro d => cases e
    | tmp d => cases e
    | slot i =>
      unfold lends at e
      cases e0 : is.contains i with
      | true => rw [e0] at e; cases e
      | false =>
        rw [e0] at e
        cases e1 : (env[i]?).bind SV.cont with
        | none => rw [e1] at e; cases e
        | some d =>
          rw [e1] at e
          simp only at e
          cases e2 : lends env rs ls (i :: is) with
          | none => rw [e2] at e; cases e
          | some l =>
            rw [e2] at e
            have e' : d :: l = ds := Option.some.inj e
            subst e'
            obtain ⟨a1, a2⟩ := lends_ok S t e2
            cases e3 : env[i]? with
            | none => rw [e3] at e1; cases e1
            | some s =>
              rw [e3] at e1
              have e1' : s.cont = some d := e1
              obtain ⟨a, x1, x2, x3⟩ := S.own i s d e3 e1'
              have hv := h i rfl
              rw [x1] at hv
              cases hv
              have ni : i ∉ is := fun q => by
                have := List.contains_iff_mem.mpr q
                rw [e0] at this
                cases this
              refine ⟨.bor x2 x3 (fun j hj hq => ?_) a1, fun j hj => ?_⟩
              · obtain ⟨k, b, s', d', y1, y2, y3, y4, y5, y6⟩ := a2 j hj
                rw [hq] at y3
                cases y3
                exact y1 (S.sep k i a s' s d' d y5 e3 y6 e1' y4 x1 ▸ by simp)
              · cases j with
                | zero => exact ⟨i, a, s, d, ni, rfl, rfl, x1, e3, e1'⟩
                | succ j =>
                  obtain ⟨k, b, s', d', y1, y2, y3, y4, y5, y6⟩ := a2 j (by simpa using hj)
                  exact ⟨k, b, s', d', fun q => y1 (List.mem_cons_of_mem _ q), by simpa using y2, by simpa using y3, y4, y5, y6⟩
theorem put_cont {s : SV} {b d : D} (h : s.cont = some d) : (s.put b).cont = some b := by cases s <;> first | rfl | cases h
theorem put_put {s : SV} {b c : D} : (s.put b).put c = s.put c := by cases s <;> rfl
theorem backs_get {Z : C3} {F F' H' : Hp} {σ : Sg} {ms : List Bool} {vs : List V} {rs : List R} {ls : List (Option D)} (t : TArgs Z F σ ms vs rs ls) : ∀ {bs : List D} {e e2 : En}, BorOk Z F' H' ms vs bs → backs e ms rs bs = some e2 →
    e2.length = e.length ∧ ∀ (i : Nat) (s' : SV), e2[i]? = some s' → ∃ s, e[i]? = some s ∧ ((s' = s ∧ ∀ j : Nat, ms[j]? = some true → rs[j]? ≠ some (.slot i)) ∨ (∃ b a, s' = s.put b ∧ σ[i]? = some (some (V.ref a)) ∧ F' a = none ∧ Ow Z F' H' a b)) := by
  induction t with
  | nil =>
    intro bs e e2 b h
    cases b
    cases h
    exact ⟨rfl, fun i s h => ⟨s, h, .inl ⟨rfl, fun j h => by simp at h⟩⟩⟩
  | fro hr t ih =>
    intro bs e e2 b h
    cases b with
    | fro b =>
      obtain ⟨h1, h2⟩ := ih b (show backs e _ _ _ = some e2 from h)
      refine ⟨h1, fun i s hs => ?_⟩
      obtain ⟨s0, x1, x2⟩ := h2 i s hs
      refine ⟨s0, x1, x2.imp (fun ⟨y1, y2⟩ => ⟨y1, fun j hj => ?_⟩) id⟩
      cases j with
      | zero => simp at hj
      | succ j => simpa using y2 j (by simpa using hj)
  | bor hv t ih =>
    rename_i r _ _
    intro bs e e2 b h
    cases b with
    | bor n o b =>
      rename_i a d bs'
      cases r with
      | fro d => cases h
      | tmp d => cases h
      | slot k =>
        obtain ⟨h1, h2⟩ := ih b (show backs (e.modify k fun s => s.put d) _ _ _ = some e2 from h)
        rw [List.length_modify] at h1
        refine ⟨h1, fun i s hs => ?_⟩
        obtain ⟨s0, x1, x2⟩ := h2 i s hs
        have hk := hv k rfl
        by_cases q : k = i
        · subst q
          rw [List.getElem?_modify] at x1
          cases e0 : e[k]? with
          | none => rw [e0] at x1; cases x1
          | some s1 =>
            rw [e0] at x1
            have x1' : s1.put d = s0 := by simpa using x1
            subst x1'
            refine ⟨s1, rfl, .inr ?_⟩
            rcases x2 with ⟨y1, _⟩ | ⟨b', a', y1, y2, y3, y4⟩
            · exact ⟨d, a, y1, hk, n, o⟩
            · exact ⟨b', a', by rw [y1, put_put], y2, y3, y4⟩
        · rw [List.getElem?_modify] at x1
          have x1' : e[i]? = some s0 := by
            cases e0 : e[i]? with
            | none => rw [e0] at x1; cases x1
            | some s1 => rw [e0] at x1; simpa [q] using x1
          refine ⟨s0, x1', x2.imp (fun ⟨y1, y2⟩ => ⟨y1, fun j hj => ?_⟩) id⟩
          cases j with
          | zero => intro z; exact q (R.slot.inj (Option.some.inj z))
          | succ j => simpa using y2 j (by simpa using hj)
theorem backs_ok {Z : C3} {F H F' H' : Hp} {σ : Sg} {env e2 : En} {ms : List Bool} {vs : List V} {rs : List R} {ls : List (Option D)} {bs ds : List D} (S : RepS Z F H σ env) (t : TArgs Z F σ ms vs rs ls) (l : lends env rs ls [] = some ds)
    (g : Fg F H F' H' (InB ms vs)) (b : BorOk Z F' H' ms vs bs) (h : backs env ms rs bs = some e2) : Go F H σ env F' H' σ e2 ∧ RepS Z F' H' σ e2 ∧ ∀ a, Owned e2 σ a → Owned env σ a := by
  obtain ⟨hl, hg⟩ := backs_get t b h
  obtain ⟨_, hb⟩ := lends_ok S t l
  have inOwn : ∀ a, InB ms vs a → ∃ (k : Nat) (s : SV) (d : D), env[k]? = some s ∧ s.cont = some d ∧ σ[k]? = some (some (V.ref a)) ∧ ∃ j : Nat, ms[j]? = some true ∧ rs[j]? = some (.slot k) := fun a ⟨j, h1, h2⟩ => by
    obtain ⟨k, a', s, d, _, y2, y3, y4, y5, y6⟩ := hb j h1
    rw [h2] at y3
    cases y3
    exact ⟨k, s, d, y5, y6, y4, j, h1, y2⟩
  have backCont : ∀ {s : SV} {b d : D}, (s.put b).cont = some d → ∃ d0, s.cont = some d0 := fun {s b d} h => by cases s <;> first | exact ⟨_, rfl⟩ | cases h
  have old : ∀ {i : Nat} {s' : SV} {d : D}, e2[i]? = some s' → s'.cont = some d → ∃ s d0, env[i]? = some s ∧ s.cont = some d0 := fun {i s' d} h1 h2 => by
    obtain ⟨s, x1, x2⟩ := hg i s' h1
    rcases x2 with ⟨rfl, _⟩ | ⟨b, a, rfl, _⟩
    · exact ⟨_, d, x1, h2⟩
    · obtain ⟨d0, z⟩ := backCont h2
      exact ⟨s, d0, x1, z⟩
  have nF : ∀ {a : Addr} {o : HO}, F a = none → H a = some o → F' a = none := fun {a o} h1 h2 => by
    cases z : F' a with
    | none => rfl
    | some _ =>
      rcases g.grow a (by rw [z]; simp) with k | k
      · exact absurd h1 k
      · rw [h2] at k; cases k
  refine ⟨⟨g.exF, fun a o h n => g.keep a o h fun q => ?_, g.dom, fun a h => (g.grow a h).imp id .inl, fun a ⟨i, s, d, h1, h2, h3⟩ => ?_, fun i d h => ?_⟩, ⟨by rw [hl]; exact S.len, g.ex', fun i d h => ?_, fun i s d h c => ?_, fun j k c s t d1 d2 f1 f2 f3 f4 f5 f6 => ?_⟩, fun a ⟨i, s, d, h1, h2, h3⟩ => ?_⟩
  · obtain ⟨k, s, d, h1, h2, h3, _⟩ := inOwn a q
    exact n ⟨k, s, d, h1, h2, h3⟩
  · obtain ⟨s0, d0, x1, x2⟩ := old h1 h2
    exact .inl ⟨i, s0, d0, x1, x2, h3⟩
  · obtain ⟨s, x1, x2⟩ := hg i _ h
    rcases x2 with ⟨rfl, _⟩ | ⟨b, a, e, _⟩
    · exact ⟨⟨d, x1⟩, rfl⟩
    · cases s with
      | bor d0 => exact ⟨⟨d0, x1⟩, rfl⟩
      | _ => cases e
  · obtain ⟨s, x1, x2⟩ := hg i _ h
    have fr : s = .fro d := by
      rcases x2 with ⟨rfl, _⟩ | ⟨b, a, e, _⟩
      · rfl
      · cases s with
        | fro d0 => exact e.symm
        | _ => cases e
    subst fr
    obtain ⟨v, y1, y2⟩ := S.fro i d x1
    exact ⟨v, y1, y2.mono g.exF⟩
  · obtain ⟨s0, x1, x2⟩ := hg i s h
    rcases x2 with ⟨rfl, nl⟩ | ⟨b, a, rfl, y2, y3, y4⟩
    · obtain ⟨a, y1, y2, y3⟩ := S.own i _ d x1 c
      obtain ⟨ob, ho⟩ := y3.there
      have nb : ¬ InB ms vs a := fun q => by
        obtain ⟨k, s', d', z1, z2, z3, j, z4, z5⟩ := inOwn a q
        have e := S.sep k i a s' s d' d z1 x1 z2 c z3 y1
        subst e
        exact nl j z4 z5
      exact ⟨a, y1, nF y2 ho, y3.mono g.exF fun o z => g.keep a o z nb⟩
    · obtain ⟨d0, z⟩ := backCont c
      have e := put_cont (b := b) z
      rw [e] at c
      cases c
      exact ⟨a, y2, y3, y4⟩
  · obtain ⟨s0, x0, x1, x2⟩ := old f1 f3
    obtain ⟨t0, y0, y1, y2⟩ := old f2 f4
    exact S.sep j k c s0 t0 x0 y0 x1 y1 x2 y2 f5 f6
  · obtain ⟨s0, d0, x1, x2⟩ := old h1 h2
    exact ⟨i, s0, d0, x1, x2, h3⟩
section
variable {X : Cx} {cv : Nat → Value} {W : WX} {k : Nat} {f : Addr} {fd : FuncData} {ps : List Str} {modes : List Bool} {fresh : Bool} {fs : FS} {x : Str} {p pos : Pos} {e : Expr} {es : List Expr} {t : MA}
theorem t_call {Z : C3} {σ : Sg} {H : Hp} {Q : VK} (q : tE Z W (mCall fs modes fresh t) σ H Q) : tCallS (spF Z cv modes fresh fs) (WE (Lw cv W)) (tA Z W t) σ H Q := by
  obtain ⟨env, F, S, q⟩ := q
  refine tA_and .refl S q fun rs e1 vs H1 F1 q1 g1 _ S1 r1 w1 => ?_
  cases et : takesM e1 modes rs with
  | none => rw [et] at w1; exact w1.elim
  | some le =>
    obtain ⟨ls, e2⟩ := le
    simp only [et] at w1
    obtain ⟨F2, g2, S2, ta, _⟩ := takesM_ok g1 S1 r1 et
    cases el : lends e2 rs ls [] with
    | none => rw [el] at w1; exact w1.elim
    | some ds =>
      simp only [el] at w1
      refine ⟨F2, ds, S2.ex, (lends_ok S2 ta el).1, ?_⟩
      cases ef : fs ds with
      | stuck => rw [ef] at w1; exact w1.elim
      | ok d bs =>
        simp only [ef] at w1
        intro v H' F' fg bo rn
        cases ek : backs e2 modes rs bs with
        | none => rw [ek] at w1; exact w1.elim
        | some e3 =>
          simp only [ek] at w1
          obtain ⟨g3, S3, o3⟩ := backs_ok S2 ta el fg bo ek
          refine w1 v H' F' (g2.trans g3) S3 ?_ (New.frR (F' := F') (H' := H') g2.dom rn)
          cases fresh with
          | false => exact rn
          | true =>
            obtain ⟨a, rfl, n1, n2, o⟩ := rn
            refine ⟨a, rfl, n2, fun z => ?_, o⟩
            obtain ⟨i, s, d', y1, y2, y3⟩ := o3 a z
            obtain ⟨a', y4, _, y5⟩ := S2.own i s d' y1 y2
            rw [y3] at y4
            cases y4
            obtain ⟨ob, ho⟩ := y5.there
            rw [n1] at ho; cases ho
      | exc c bs =>
        simp only [ef] at w1
        intro H' F' fg bo
        cases ek : backs e2 modes rs bs with
        | none => rw [ek] at w1; exact w1.elim
        | some e3 =>
          simp only [ek] at w1
          obtain ⟨g3, S3, o3⟩ := backs_ok S2 ta el fg bo ek
          exact ⟨c, rfl, rfl, w1 H' F' (g2.trans g3) S3⟩
theorem em_call (Fn : FnOk X.prog X.w X.K X.mg X.base (L2.CX X.prog X.w) k f fd ps (spF (c3 X) cv modes fresh fs)) (tk : L2.Takes X (Lw cv W)) (hr : Room k X.A) (hg : Gl X x) (hm : X.mg x = some (.ref f)) (hk : PySem.W.keepIn X.K (.ref f) = true) (hb : Binds X.K fd ps [])
    (ha : AM X W (e :: es) t) (hdb : (x == ("__debug__" : Str)) = false := by decide) (he : starEach (e :: es) X.env = (false, eval e X.env) :: starEach es X.env := by rfl) (hpl : (backTo pos (starEach es X.env)).any (·.1) = false := by rfl) :
    EM X W (.Call (.Name x p) (e :: es) [] pos) (mCall fs modes fresh t) := ⟨pe_mono (pe_callS Fn hr hg hm hk hb (fun σ => passAt tk σ) ha.pa hdb he hpl) fun σ H Q q => t_call q⟩
end
end Gr
end
section
/-! Operators and built-ins by data. -/
namespace Gr
open PySem PySem.Spec PyProof.Rows L2

section
variable {Z : C3} {F H : Hp} {v : V}
theorem Vw.lst {ds : List D} (ex : Ex F H) (h : Vw Z F H v (.lst ds)) : ∃ a xs, v = .ref a ∧ RdL Z.K H a xs ∧ RpL Z F xs ds := by
  rcases h with h | ⟨a, e, xs, h, r⟩
  · cases h with
    | lst hs hr => exact ⟨_, _, rfl, hs.mono ex, hr⟩
  · exact ⟨a, xs, e, RdL.of h, r⟩
theorem Vw.tup {ds : List D} (ex : Ex F H) (h : Vw Z F H v (.tup ds)) : ∃ a xs, v = .ref a ∧ SqT Z.K H a xs ∧ RpL Z F xs ds := by
  rcases h with h | ⟨a, e, h⟩
  · cases h with
    | tup hs hr => exact ⟨_, _, rfl, Evl.ex_t ex hs, hr⟩
  · exact h.elim
theorem Vw.tupR {ds : List D} (h : Vw Z F H v (.tup ds)) : Rp Z F v (.tup ds) := by
  rcases h with h | ⟨a, e, h⟩
  · exact h
  · exact h.elim
/-- a value that is its own answer -/
theorem RepN.fro {H' F' : Hp} {d : D} (h : Rp Z F' v d) : RepN Z H F' H' v false d := h
end
/-- by the data of the two: what is to be shown of an operator -/
theorem rd_of {X : Cx} {f : Value → Value → Sem Value} {g : F2} (h : ∀ (pins : List (Addr × Obj)) (s : Shared) (σ : Sg) (F H : Hp) (x y : V) (v u : Value) (Q : VK) (da db : D) (b : Bool) (d : D), Inv X pins σ H s → RelV x v → RelV y u → Ex F H → Vw (c3 X) F H x da → Vw (c3 X) F H y db → g da db = some (b, d) →
    (∀ v H' F', New F H F' H' → RepN (c3 X) H F' H' v b d → Q v H') → wpAny (model X.prog X.w) X.A (f v u) (EP X pins σ Q) X.xe s) : OpR X f (RD (c3 X) g) :=
  fun pins s σ H x y v u Q I rx ry ⟨F, da, db, b, d, ex, hx, hy, e, k⟩ => h pins s σ F H x y v u Q da db b d I rx ry ex hx hy e k
theorem RpL.nil_iff {Z : C3} {F : Hp} {vs : List V} {ds : List D} (r : RpL Z F vs ds) : vs = [] ↔ ds = [] := by cases r <;> simp

/-! ### + -/
def dAdd : F2
  | .int i, .int j => some (false, .int (i + j))
  | .str x, .str y => if x.length + y.length ≤ szl then some (false, .str (x ++ y)) else none
  | .tup xs, .tup ys => if xs.length + ys.length ≤ szl then some (false, .tup (xs ++ ys)) else none
  | .lst xs, .lst ys => if xs.length + ys.length ≤ szl then some (true, .lst (xs ++ ys)) else none
  | _, _ => none
section
variable {X : Cx}
theorem Inv.lstR {pins : List (Addr × Obj)} {σ : Sg} {H : Hp} {s : Shared} {a : Addr} {xs : List V} (I : Inv X pins σ H s) (h : RdL X.K H a xs) : xs.length ≤ sizeLine ∧ ∃ (its : List Value) (n : Nat), Vals xs its ∧ s.heap.get? a = some { cls := .type "list", data := .seq its.toArray n } := by
  rcases h with h | ⟨its, hk, hl, rv⟩
  · exact h.ok I.hok
  · exact ⟨by rw [rv.length]; exact hl, its, 0, rv, I.kIn _ _ hk⟩
theorem op_catR : OpR X (binaryOp .Add) (fun x y H Q => ∃ l b xs zs, x = .ref l ∧ y = .ref b ∧ RdL X.K H l xs ∧ RdL X.K H b zs ∧ xs.length + zs.length ≤ sizeLine ∧ ∀ p, H p = none → Q (.ref p) (upd H p (.lst (xs ++ zs)))) := by
  intro pins s σ H x y v u Q I rx ry h
  obtain ⟨l, b, xs, zs, rfl, rfl, hH, hB, hz, q⟩ := h
  cases rx
  cases ry
  obtain ⟨z, its, n, r, e⟩ := Inv.lstR I hH
  obtain ⟨z2, its2, n2, r2, e2⟩ := Inv.lstR I hB
  have hl := r.length
  have hl2 := r2.length
  refine PySem.P.add_list e e2 ?_ (by rw [List.size_toArray, List.size_toArray]; omega)
  have ea : its.toArray ++ its2.toArray = (its ++ its2).toArray := by simp
  rw [ea]
  exact ⟨.ref _, _, I.lnew (t' := s.toks) (r.append r2) (by rw [List.length_append]; omega), rfl, q _ I.fresh⟩
/-- a new list -/
theorem RepN.newL {Z : C3} {F H : Hp} {p : Addr} {xs : List V} {ds : List D} (ex : Ex F H) (n : H p = none) (r : RpL Z F xs ds) : RepN Z H F (upd H p (.lst xs)) (.ref p) true (.lst ds) := ⟨p, rfl, n, dom_of ex p n, xs, upd_same, r⟩
theorem RepN.newT {Z : C3} {F H : Hp} {p : Addr} {xs : List V} {ds : List D} (ex : Ex F H) (n : H p = none) (r : RpL Z F xs ds) : RepN Z H (upd F p (.tup xs)) (upd H p (.tup xs)) (.ref p) false (.tup ds) := by
  have nw : New F H (upd F p (.tup xs)) (upd H p (.tup xs)) := New.froz ex n
  exact Rp.tup (.of upd_same) (r.mono nw.exF)
theorem od_add : OpR X (binaryOp .Add) (RD (c3 X) dAdd) := rd_of fun pins s σ F H x y v u Q da db b d I rx ry ex hx hy e k => by
  unfold dAdd at e
  split at e
  · cases e
    rw [hx.int] at rx
    rw [hy.int] at ry
    exact op_add pins s σ H _ _ v u Q I rx ry ⟨_, _, rfl, rfl, k _ H F (.refl ex) (.int _)⟩
  · split at e
    · rename_i hz
      cases e
      rw [hx.str] at rx
      rw [hy.str] at ry
      exact op_add_str pins s σ H _ _ v u Q I rx ry ⟨_, _, rfl, rfl, szl_ok hz, k _ H F (.refl ex) (.str _)⟩
    · cases e
  · split at e
    · rename_i xs ys hz
      cases e
      obtain ⟨a, as, rfl, ha, ra⟩ := hx.tup ex
      obtain ⟨b, bs, rfl, hb, rb⟩ := hy.tup ex
      have la := ra.length
      have lb := rb.length
      refine op_catA pins s σ H _ _ v u Q I rx ry ⟨a, b, as, bs, rfl, rfl, ha, hb, by rw [la, lb]; exact szl_ok hz, fun e => ?_, fun _ e => ?_, fun _ _ p hp => ?_⟩
      · have e' := ra.nil_iff.mp e
        subst e'
        exact k _ H F (.refl ex) hy.tupR
      · have e' := rb.nil_iff.mp e
        subst e'
        rw [List.append_nil] at k
        exact k _ H F (.refl ex) hx.tupR
      · exact k _ _ _ (New.froz ex hp) (RepN.newT ex hp (ra.append rb))
    · cases e
  · split at e
    · rename_i xs ys hz
      cases e
      obtain ⟨a, as, rfl, ha, ra⟩ := hx.lst ex
      obtain ⟨b, bs, rfl, hb, rb⟩ := hy.lst ex
      exact op_catR pins s σ H _ _ v u Q I rx ry ⟨a, b, as, bs, rfl, rfl, ha, hb, by rw [ra.length, rb.length]; exact szl_ok hz, fun p hp => k _ _ _ (New.mine ex hp) (RepN.newL ex hp (ra.append rb))⟩
    · cases e
  · cases e
end

/-! ### -, *, //, %, ** of ints -/
def dSub : F2
  | .int i, .int j => some (false, .int (i - j))
  | _, _ => none
def smallI (i : Int) : Bool := decide (i.natAbs < 1000000000000)
def dMul : F2
  | .int i, .int j => if smallI i || smallI j then some (false, .int (i * j)) else none
  | _, _ => none
def dDiv : F2
  | .int i, .int j => if decide (0 < j) && decide (j < 1073741824) then some (false, .int (i / j)) else none
  | _, _ => none
def dMod : F2
  | .int i, .int j => if decide (0 < j) then some (false, .int (i % j)) else none
  | _, _ => none
def dPow : F2
  | .int i, .int j => if decide (0 ≤ j) && decide (j ≤ 1000) && smallI i then some (false, .int (i ^ j.toNat)) else none
  | _, _ => none
section
variable {X : Cx}
theorem od_sub : OpR X (binaryOp .Sub) (RD (c3 X) dSub) := rd_of fun pins s σ F H x y v u Q da db b d I rx ry ex hx hy e k => by
  unfold dSub at e
  split at e
  · cases e
    rw [hx.int] at rx
    rw [hy.int] at ry
    exact op_sub pins s σ H _ _ v u Q I rx ry ⟨_, _, rfl, rfl, k _ H F (.refl ex) (.int _)⟩
  · cases e
theorem od_mul : OpR X (binaryOp .Mult) (RD (c3 X) dMul) := rd_of fun pins s σ F H x y v u Q da db b d I rx ry ex hx hy e k => by
  unfold dMul at e
  split at e
  · split at e
    · rename_i hs
      cases e
      rw [hx.int] at rx
      rw [hy.int] at ry
      refine op_mul pins s σ H _ _ v u Q I rx ry ⟨_, _, rfl, rfl, ?_, k _ H F (.refl ex) (.int _)⟩
      rw [Bool.or_eq_true] at hs
      unfold smallI at hs
      unfold CMul
      rcases hs with hs | hs
      · have := of_decide_eq_true hs; exact .inl (by omega)
      · have := of_decide_eq_true hs; exact .inr (by omega)
    · cases e
  · cases e
theorem od_div : OpR X (binaryOp .FloorDiv) (RD (c3 X) dDiv) := rd_of fun pins s σ F H x y v u Q da db b d I rx ry ex hx hy e k => by
  unfold dDiv at e
  split at e
  · split at e
    · rename_i hs
      cases e
      rw [hx.int] at rx
      rw [hy.int] at ry
      rw [Bool.and_eq_true] at hs
      exact op_fdiv pins s σ H _ _ v u Q I rx ry ⟨_, _, rfl, rfl, ⟨of_decide_eq_true hs.1, of_decide_eq_true hs.2⟩, k _ H F (.refl ex) (.int _)⟩
    · cases e
  · cases e
theorem od_mod : OpR X (binaryOp .Mod) (RD (c3 X) dMod) := rd_of fun pins s σ F H x y v u Q da db b d I rx ry ex hx hy e k => by
  unfold dMod at e
  split at e
  · split at e
    · rename_i hs
      cases e
      rw [hx.int] at rx
      rw [hy.int] at ry
      exact op_mod pins s σ H _ _ v u Q I rx ry ⟨_, _, rfl, rfl, of_decide_eq_true hs, k _ H F (.refl ex) (.int _)⟩
    · cases e
  · cases e
theorem od_pow : OpR X (binaryOp .Pow) (RD (c3 X) dPow) := rd_of fun pins s σ F H x y v u Q da db b d I rx ry ex hx hy e k => by
  unfold dPow at e
  split at e
  · split at e
    · rename_i hs
      cases e
      rw [hx.int] at rx
      rw [hy.int] at ry
      rw [Bool.and_eq_true, Bool.and_eq_true] at hs
      unfold smallI at hs
      have h1 := of_decide_eq_true hs.1.1
      have h2 := of_decide_eq_true hs.1.2
      have h3 := of_decide_eq_true hs.2
      exact op_pow pins s σ H _ _ v u Q I rx ry ⟨_, _, rfl, rfl, ⟨h1, by omega, by omega⟩, k _ H F (.refl ex) (.int _)⟩
    · cases e
  · cases e
end
def dNeg : F1
  | .int i => some (false, .int (-i))
  | _ => none
theorem od_neg {X : Cx} : UnR X (unaryOp .USub) (RU (c3 X) dNeg) := fun pins s σ H x v Q I rx ⟨F, da, b, d, ex, hx, e, k⟩ => by
  unfold dNeg at e
  split at e
  · cases e
    rw [hx.int] at rx
    exact un_neg pins s σ H _ v Q I rx ⟨_, rfl, k _ H F (.refl ex) (.int _)⟩
  · cases e

/-! ### order of ints -/
def dLt : F2
  | .int i, .int j => some (false, .bl (decide (i < j)))
  | _, _ => none
def dLe : F2
  | .int i, .int j => some (false, .bl (decide (i ≤ j)))
  | _, _ => none
def dGt : F2
  | .int i, .int j => some (false, .bl (decide (j < i)))
  | _, _ => none
def dGe : F2
  | .int i, .int j => some (false, .bl (decide (j ≤ i)))
  | _, _ => none
section
variable {X : Cx}
theorem od_lt : OpR X (compareOp .Lt) (RD (c3 X) dLt) := rd_of fun pins s σ F H x y v u Q da db b d I rx ry ex hx hy e k => by
  unfold dLt at e
  split at e
  · cases e
    rw [hx.int] at rx
    rw [hy.int] at ry
    exact op_lt pins s σ H _ _ v u Q I rx ry ⟨_, _, rfl, rfl, k _ H F (.refl ex) (.bl _)⟩
  · cases e
theorem od_le : OpR X (compareOp .LtE) (RD (c3 X) dLe) := rd_of fun pins s σ F H x y v u Q da db b d I rx ry ex hx hy e k => by
  unfold dLe at e
  split at e
  · cases e
    rw [hx.int] at rx
    rw [hy.int] at ry
    exact op_le pins s σ H _ _ v u Q I rx ry ⟨_, _, rfl, rfl, k _ H F (.refl ex) (.bl _)⟩
  · cases e
theorem od_gt : OpR X (compareOp .Gt) (RD (c3 X) dGt) := rd_of fun pins s σ F H x y v u Q da db b d I rx ry ex hx hy e k => by
  unfold dGt at e
  split at e
  · cases e
    rw [hx.int] at rx
    rw [hy.int] at ry
    exact op_gt pins s σ H _ _ v u Q I rx ry ⟨_, _, rfl, rfl, k _ H F (.refl ex) (.bl _)⟩
  · cases e
theorem od_ge : OpR X (compareOp .GtE) (RD (c3 X) dGe) := rd_of fun pins s σ F H x y v u Q da db b d I rx ry ex hx hy e k => by
  unfold dGe at e
  split at e
  · cases e
    rw [hx.int] at rx
    rw [hy.int] at ry
    exact op_ge pins s σ H _ _ v u Q I rx ry ⟨_, _, rfl, rfl, k _ H F (.refl ex) (.bl _)⟩
  · cases e
end

/-! ### == of data -/
mutual
def D.py : D → PyData
  | .bl b => .bool b
  | .int i => .int i
  | .str x => .str x
  | .tup xs => .tuple (D.pys xs)
  | .lst xs => .list (D.pys xs)
  | _ => .none
def D.pys : List D → List PyData
  | [] => []
  | x :: xs => x.py :: D.pys xs
end
mutual
/-- data without dicts, nested at most n deep -/
def D.okD' : Nat → D → Bool
  | _, .non => true
  | _, .bl _ => true
  | _, .int _ => true
  | _, .str x => PyData.strOk x
  | n + 1, .tup xs => D.okDs' n xs
  | n + 1, .lst xs => D.okDs' n xs
  | 0, .tup _ => false
  | 0, .lst _ => false
  | _, .dct _ => false
  | _, .dci _ => false
  | _, .opq _ => false
  | _, .exo _ => false
  | _, .fnv _ => false
def D.okDs' : Nat → List D → Bool
  | _, [] => true
  | n, x :: xs => D.okD' n x && D.okDs' n xs
end
mutual
def D.eqv : D → D → Bool
  | .non, .non => true
  | .bl a, .bl b => a == b
  | .bl a, .int j => (if a then 1 else 0) == j
  | .int i, .bl b => i == (if b then 1 else 0)
  | .int i, .int j => i == j
  | .str x, .str y => x == y
  | .lst xs, .lst ys => D.eqvs xs ys
  | .tup xs, .tup ys => D.eqvs xs ys
  | _, _ => false
def D.eqvs : List D → List D → Bool
  | [], [] => true
  | x :: xs, y :: ys => D.eqv x y && D.eqvs xs ys
  | _, _ => false
end
end Gr
end
section
/-! ==, in, is, index, slices, len and other built-ins by data. -/
theorem L2.Room.ru {k : Nat} {A : PySem.Around} (r : L2.Room k A) : A.units + 66 < PySem.cLine := by have := r.un; omega
namespace Gr
open PySem PySem.Spec PyProof.Rows L2

mutual
theorem py_lay : ∀ {n : Nat} {d : D}, D.okD' n d = true → d.py.canLay0 = true ∧ d.py.depth ≤ n
  | _, .non, _ => ⟨by simp [D.py, PyData.canLay0], by simp [D.py, PyData.depth]⟩
  | _, .bl _, _ => ⟨by simp [D.py, PyData.canLay0], by simp [D.py, PyData.depth]⟩
  | _, .int _, _ => ⟨by simp [D.py, PyData.canLay0], by simp [D.py, PyData.depth]⟩
  | _, .str x, h => ⟨by simpa [D.py, PyData.canLay0, D.okD'] using h, by simp [D.py, PyData.depth]⟩
  | 0, .tup _, h => by simp [D.okD'] at h
  | 0, .lst _, h => by simp [D.okD'] at h
  | n + 1, .tup xs, h => by
    obtain ⟨h1, h2⟩ := pys_lay (n := n) (ds := xs) (by simpa [D.okD'] using h)
    exact ⟨by simpa [D.py, PyData.canLay0] using h1, by simp only [D.py, PyData.depth]; omega⟩
  | n + 1, .lst xs, h => by
    obtain ⟨h1, h2⟩ := pys_lay (n := n) (ds := xs) (by simpa [D.okD'] using h)
    exact ⟨by simpa [D.py, PyData.canLay0] using h1, by simp only [D.py, PyData.depth]; omega⟩
  | _, .dct _, h => by simp [D.okD'] at h
  | _, .dci _, h => by simp [D.okD'] at h
  | _, .opq _, h => by simp [D.okD'] at h
  | _, .exo _, h => by simp [D.okD'] at h
  | _, .fnv _, h => by simp [D.okD'] at h
theorem pys_lay : ∀ {n : Nat} {ds : List D}, D.okDs' n ds = true → PyData.canLayAll0 (D.pys ds) = true ∧ PyData.depthAll (D.pys ds) ≤ n
  | _, [], _ => ⟨by simp [D.pys, PyData.canLayAll0], by simp [D.pys, PyData.depthAll]⟩
  | n, d :: ds, h => by
    simp only [D.okDs', Bool.and_eq_true] at h
    obtain ⟨h1, h2⟩ := py_lay h.1
    obtain ⟨h3, h4⟩ := pys_lay h.2
    exact ⟨by simp [D.pys, PyData.canLayAll0, h1, h3], by simp only [D.pys, PyData.depthAll]; omega⟩
end

mutual
theorem D.eqv_py : ∀ {n m : Nat} {a b : D}, D.okD' n a = true → D.okD' m b = true → D.eqv a b = PyData.eqv a.py b.py
  | n, m, a, b, ha, hb => by
    cases a <;> cases b <;> first
      | (simp [D.okD'] at ha; done)
      | (simp [D.okD'] at hb; done)
      | (simp only [D.eqv, D.py, PyData.eqv]; done)
      | skip
    · cases n with
      | zero => simp [D.okD'] at ha
      | succ n =>
        cases m with
        | zero => simp [D.okD'] at hb
        | succ m =>
          simp only [D.eqv, D.py, PyData.eqv]
          exact D.eqvs_py (by simpa [D.okD'] using ha) (by simpa [D.okD'] using hb)
    · cases n with
      | zero => simp [D.okD'] at ha
      | succ n =>
        cases m with
        | zero => simp [D.okD'] at hb
        | succ m =>
          simp only [D.eqv, D.py, PyData.eqv]
          exact D.eqvs_py (by simpa [D.okD'] using ha) (by simpa [D.okD'] using hb)
theorem D.eqvs_py : ∀ {n m : Nat} {a b : List D}, D.okDs' n a = true → D.okDs' m b = true → D.eqvs a b = PyData.eqvAll (D.pys a) (D.pys b)
  | _, _, [], [], _, _ => by simp [D.eqvs, D.pys, PyData.eqvAll]
  | _, _, [], _ :: _, _, _ => by simp [D.eqvs, D.pys, PyData.eqvAll]
  | _, _, _ :: _, [], _, _ => by simp [D.eqvs, D.pys, PyData.eqvAll]
  | n, m, x :: xs, y :: ys, ha, hb => by
    simp only [D.okDs', Bool.and_eq_true] at ha hb
    simp only [D.eqvs, D.pys, PyData.eqvAll]
    rw [D.eqv_py ha.1 hb.1, D.eqvs_py ha.2 hb.2]
end
mutual
theorem Rp.dp {Z : C3} {F H : Hp} (ex : Ex F H) : ∀ {n : Nat} {v : V} {d : D}, Rp Z F v d → D.okD' n d = true → Dp Z.K H v d.py
  | _, _, _, .non, _ => by simp only [D.py]; exact .non
  | _, _, _, .bl b, _ => by simp only [D.py]; exact .bl b
  | _, _, _, .int b, _ => by simp only [D.py]; exact .int b
  | _, _, _, .str b, _ => by simp only [D.py]; exact .str b
  | 0, _, _, .tup _ _, o => by simp [D.okD'] at o
  | n + 1, _, _, .tup h r, o => by
    simp only [D.py]
    exact .tup (Evl.ex_t ex h) (RpL.dp ex r (n := n) (by simpa [D.okD'] using o))
  | 0, _, _, .lst _ _, o => by simp [D.okD'] at o
  | n + 1, _, _, .lst h r, o => by
    simp only [D.py]
    exact .lst (h.mono ex).sq (RpL.dp ex r (n := n) (by simpa [D.okD'] using o))
  | _, _, _, .dct _ _ _, o => by simp [D.okD'] at o
  | _, _, _, .dci _ _, o => by simp [D.okD'] at o
  | _, _, _, .opq _, o => by simp [D.okD'] at o
  | _, _, _, .exo _ _ _, o => by simp [D.okD'] at o
  | _, _, _, .fnv _, o => by simp [D.okD'] at o
theorem RpL.dp {Z : C3} {F H : Hp} (ex : Ex F H) : ∀ {n : Nat} {v : List V} {d : List D}, RpL Z F v d → D.okDs' n d = true → DpAll Z.K H v (D.pys d)
  | _, _, _, .nil, _ => by simp only [D.pys]; exact .nil
  | n, _, _, .cons h r, o => by
    simp only [D.okDs', Bool.and_eq_true] at o
    simp only [D.pys]
    exact .cons (Rp.dp ex h o.1) (RpL.dp ex r o.2)
end
theorem Vw.dp {Z : C3} {F H : Hp} {n : Nat} {v : V} {d : D} (ex : Ex F H) (h : Vw Z F H v d) (o : D.okD' n d = true) : Dp Z.K H v d.py := by
  rcases h with h | ⟨a, e, h⟩
  · exact h.dp ex o
  · subst e
    cases d with
    | lst ds =>
      obtain ⟨xs, h, r⟩ := h
      cases n with
      | zero => simp [D.okD'] at o
      | succ n =>
        simp only [D.py]
        exact .lst (.inl (Rd.of h)) (r.dp ex (n := n) (by simpa [D.okD'] using o))
    | dct _ => simp [D.okD'] at o
    | dci _ => simp [D.okD'] at o
    | _ => exact h.elim
def okq (d : D) : Bool := D.okD' 40 d
theorem okq_shaped {d : D} (h : okq d = true) : SeqAt.shaped d.py = true := by
  obtain ⟨h1, h2⟩ := py_lay h
  unfold SeqAt.shaped
  rw [Bool.and_eq_true]
  exact ⟨h1, decide_eq_true (by omega)⟩
def dEq : F2 := fun a b => if okq a && okq b then some (false, .bl (D.eqv a b)) else none
def dNe : F2 := fun a b => if okq a && okq b then some (false, .bl (!D.eqv a b)) else none
section
variable {X : Cx} {k : Nat}
theorem od_eq (hu : X.A.units + 66 < cLine) : OpR X (compareOp .Eq) (RD (c3 X) dEq) := rd_of fun pins s σ F H x y v u Q da db b d I rx ry ex hx hy e k => by
  unfold dEq at e
  split at e
  · rename_i ho
    cases e
    rw [Bool.and_eq_true] at ho
    exact op_eqD (by omega) pins s σ H x y v u Q I rx ry ⟨_, _, hx.dp ex ho.1, hy.dp ex ho.2, okq_shaped ho.1, okq_shaped ho.2, by rw [← D.eqv_py ho.1 ho.2]; exact k _ H F (.refl ex) (.bl _)⟩
  · cases e
theorem od_ne (hu : X.A.units + 66 < cLine) : OpR X (compareOp .NotEq) (RD (c3 X) dNe) := rd_of fun pins s σ F H x y v u Q da db b d I rx ry ex hx hy e k => by
  unfold dNe at e
  split at e
  · rename_i ho
    cases e
    rw [Bool.and_eq_true] at ho
    exact op_neD (by omega) pins s σ H x y v u Q I rx ry ⟨_, _, hx.dp ex ho.1, hy.dp ex ho.2, okq_shaped ho.1, okq_shaped ho.2, by rw [← D.eqv_py ho.1 ho.2]; exact k _ H F (.refl ex) (.bl _)⟩
  · cases e
end

/-! ### is, is not: None, True, False -/
def dIs : F2
  | a, .non => (match a with
    | .non => some (false, .bl true)
    | .bl _ => some (false, .bl false)
    | .int _ => some (false, .bl false)
    | .str _ => some (false, .bl false)
    | .tup _ => some (false, .bl false)
    | .lst _ => some (false, .bl false)
    | _ => none)
  | .bl a, .bl b => some (false, .bl (decide (a = b)))
  | _, _ => none
def dIsNot : F2 := fun a b => match dIs a b with
  | some (_, .bl c) => some (false, .bl (!c))
  | _ => none
theorem Vw.isN {Z : C3} {F H : Hp} {v : V} {d : D} {b : Bool} {c : Bool} (h : Vw Z F H v d) (e : dIs d .non = some (b, .bl c)) : b = false ∧ c = decide (v = .non) := by
  cases d with
  | non => cases e; rw [h.non]; exact ⟨rfl, rfl⟩
  | bl b => cases e; rw [h.bl]; exact ⟨rfl, rfl⟩
  | int b => cases e; rw [h.int]; exact ⟨rfl, rfl⟩
  | str b => cases e; rw [h.str]; exact ⟨rfl, rfl⟩
  | tup b =>
    cases e
    refine ⟨rfl, ?_⟩
    rcases h with h | ⟨a, e, h⟩
    · cases h; rfl
    · exact h.elim
  | lst b =>
    cases e
    refine ⟨rfl, ?_⟩
    rcases h with h | ⟨a, e, h⟩
    · cases h; rfl
    · subst e; rfl
  | _ => cases e
theorem dIs_shape {a b : D} {c : Bool} {d : D} (e : dIs a b = some (c, d)) : c = false ∧ ∃ k, d = .bl k := by
  cases b with
  | non => cases a <;> first | (cases e; exact ⟨rfl, _, rfl⟩) | cases e
  | bl y => cases a <;> first | (cases e; exact ⟨rfl, _, rfl⟩) | cases e
  | _ => cases a <;> cases e
theorem dIs_bl {a b : D} {c : Bool} {d : D} (hb : b ≠ .non) (e : dIs a b = some (c, d)) : ∃ x y, a = .bl x ∧ b = .bl y ∧ d = .bl (decide (x = y)) := by
  cases b with
  | non => exact absurd rfl hb
  | bl y => cases a <;> first | (cases e; exact ⟨_, _, rfl, rfl, rfl⟩) | cases e
  | _ => cases a <;> cases e
section
variable {X : Cx}
theorem od_is : OpR X (compareOp .Is) (RD (c3 X) dIs) := rd_of fun pins s σ F H x y v u Q da db b d I rx ry ex hx hy e k => by
  obtain ⟨rfl, c, rfl⟩ := dIs_shape e
  cases db with
  | non =>
    obtain ⟨_, ec⟩ := hx.isN e
    have ey := hy.non
    subst ey
    refine op_isN pins s σ H x _ v u Q I rx ry ⟨rfl, ?_⟩
    rw [← ec]
    exact k _ H F (.refl ex) (.bl _)
  | bl y' =>
    obtain ⟨x', y'', ea, eb, ed⟩ := dIs_bl (fun z => by cases z) e
    subst ea
    cases eb
    cases ed
    rw [hx.bl] at rx
    rw [hy.bl] at ry
    exact op_is_bl pins s σ H _ _ v u Q I rx ry ⟨_, _, rfl, rfl, k _ H F (.refl ex) (.bl _)⟩
  | _ =>
    obtain ⟨x', y'', ea, eb, ed⟩ := dIs_bl (fun z => by cases z) e
    cases eb
theorem od_isnot : OpR X (compareOp .IsNot) (RD (c3 X) dIsNot) := rd_of fun pins s σ F H x y v u Q da db b d I rx ry ex hx hy e k => by
  unfold dIsNot at e
  split at e
  · rename_i b' c e1
    cases e
    obtain ⟨rfl, _⟩ := dIs_shape e1
    cases db with
    | non =>
      obtain ⟨_, ec⟩ := hx.isN e1
      have ey := hy.non
      subst ey
      refine op_notN pins s σ H x _ v u Q I rx ry ⟨rfl, ?_⟩
      rw [← ec]
      exact k _ H F (.refl ex) (.bl _)
    | bl y' =>
      obtain ⟨x', y'', ea, eb, ed⟩ := dIs_bl (fun z => by cases z) e1
      subst ea
      cases eb
      cases ed
      rw [hx.bl] at rx
      rw [hy.bl] at ry
      exact op_isnot_bl pins s σ H _ _ v u Q I rx ry ⟨_, _, rfl, rfl, k _ H F (.refl ex) (.bl _)⟩
    | _ =>
      obtain ⟨x', y'', ea, eb, ed⟩ := dIs_bl (fun z => by cases z) e1
      cases eb
  · cases e
end

/-! ### in, not in: lists and tuples of data -/
def dIn : F2
  | a, .lst ds => if okq a && okq (.lst ds) then some (false, .bl (ds.any fun y => D.eqv y a)) else none
  | a, .tup ds => if okq a && okq (.tup ds) then some (false, .bl (ds.any fun y => D.eqv y a)) else none
  | _, _ => none
def notB : Option (Bool × D) → Option (Bool × D)
  | some (_, .bl c) => some (false, .bl (!c))
  | _ => none
def dNotIn : F2 := fun a b => notB (dIn a b)
theorem any_py {n m : Nat} {a : D} (ha : D.okD' n a = true) : ∀ {ds : List D}, D.okDs' m ds = true → (ds.any fun y => D.eqv y a) = (D.pys ds).any fun y => PyData.eqv y a.py
  | [], _ => by simp [D.pys]
  | d :: ds, h => by
    simp only [D.okDs', Bool.and_eq_true] at h
    simp only [D.pys, List.any_cons]
    rw [D.eqv_py h.1 ha, any_py ha h.2]
theorem in_room {k : Nat} {A : Around} (hr : Room k A) {a : D} {ds : List PyData} (h : okq a = true) : A.units + 1 + min (PyData.depthAll ds) a.py.depth < cLine := by
  have := (py_lay h).2
  have := hr.un
  omega
section
variable {X : Cx} {k : Nat}
theorem od_in (hr : Room k X.A) : OpR X (compareOp .In) (RD (c3 X) dIn) := rd_of fun pins s σ F H x y v u Q da db b d I rx ry ex hx hy e k => by
  unfold dIn at e
  split at e
  · rename_i ds
    split at e
    · rename_i ho
      cases e
      rw [Bool.and_eq_true] at ho
      have h1 : D.okDs' 39 ds = true := by simpa [okq, D.okD'] using ho.2
      have hl := (pys_lay h1).1
      obtain ⟨as, ra⟩ := Dp.reads I _ x v (hx.dp ex ho.1) rx
      obtain ⟨bs, rb⟩ := Dp.reads I _ y u (hy.dp ex ho.2) ry
      simp only [D.py] at rb
      refine SeqAt.in_list_reads rb ra hl (py_lay ho.1).1 (in_room hr ho.1) ?_
      rw [← any_py ho.1 h1]
      exact ⟨.bl _, H, I, rfl, k _ H F (.refl ex) (.bl _)⟩
    · cases e
  · rename_i ds
    split at e
    · rename_i ho
      cases e
      rw [Bool.and_eq_true] at ho
      have h1 : D.okDs' 39 ds = true := by simpa [okq, D.okD'] using ho.2
      have hl := (pys_lay h1).1
      obtain ⟨as, ra⟩ := Dp.reads I _ x v (hx.dp ex ho.1) rx
      obtain ⟨bs, rb⟩ := Dp.reads I _ y u (hy.dp ex ho.2) ry
      simp only [D.py] at rb
      refine SeqAt.in_tuple_reads rb ra hl (py_lay ho.1).1 (in_room hr ho.1) ?_
      rw [← any_py ho.1 h1]
      exact ⟨.bl _, H, I, rfl, k _ H F (.refl ex) (.bl _)⟩
    · cases e
  · cases e
theorem od_notin (hr : Room k X.A) : OpR X (compareOp .NotIn) (RD (c3 X) dNotIn) := rd_of fun pins s σ F H x y v u Q da db b d I rx ry ex hx hy e k => by
  unfold dNotIn at e
  unfold dIn at e
  split at e
  · rename_i ds
    split at e
    · rename_i ho
      cases e
      rw [Bool.and_eq_true] at ho
      have h1 : D.okDs' 39 ds = true := by simpa [okq, D.okD'] using ho.2
      have hl := (pys_lay h1).1
      obtain ⟨as, ra⟩ := Dp.reads I _ x v (hx.dp ex ho.1) rx
      obtain ⟨bs, rb⟩ := Dp.reads I _ y u (hy.dp ex ho.2) ry
      simp only [D.py] at rb
      refine SeqAt.notIn_list_reads rb ra hl (py_lay ho.1).1 (in_room hr ho.1) ?_
      rw [← any_py ho.1 h1]
      exact ⟨.bl _, H, I, rfl, k _ H F (.refl ex) (.bl _)⟩
    · cases e
  · rename_i ds
    split at e
    · rename_i ho
      cases e
      rw [Bool.and_eq_true] at ho
      have h1 : D.okDs' 39 ds = true := by simpa [okq, D.okD'] using ho.2
      have hl := (pys_lay h1).1
      obtain ⟨as, ra⟩ := Dp.reads I _ x v (hx.dp ex ho.1) rx
      obtain ⟨bs, rb⟩ := Dp.reads I _ y u (hy.dp ex ho.2) ry
      simp only [D.py] at rb
      refine SeqAt.notIn_tuple_reads rb ra hl (py_lay ho.1).1 (in_room hr ho.1) ?_
      rw [← any_py ho.1 h1]
      exact ⟨.bl _, H, I, rfl, k _ H F (.refl ex) (.bl _)⟩
    · cases e
  · cases e
end

/-! ### isinstance -/
def tyN : D → Option String
  | .non => some "NoneType"
  | .bl _ => some "bool"
  | .int _ => some "int"
  | .str _ => some "str"
  | .tup _ => some "tuple"
  | .lst _ => some "list"
  | _ => none
def isiT (a b : String) : Bool := (a == b) || (a == "bool" && b == "int")
def tyOk (b : String) : Bool := b == "int" || b == "bool" || b == "str" || b == "tuple" || b == "list"
theorem kit_tab0 : ∀ a ∈ ["NoneType", "bool", "int", "str", "tuple", "list"], ∀ b ∈ ["int", "bool", "str", "tuple", "list"], kitB a b = some (isiT a b) := by decide +kernel
theorem kit_tab (a b : String) (h : a ∈ ["NoneType", "bool", "int", "str", "tuple", "list"]) (h2 : b ∈ ["int", "bool", "str", "tuple", "list"]) : kitB a b = some (isiT a b) := kit_tab0 a h b h2
def dIsi : FN
  | [d, .opq (.ty b)] => (match tyN d with
    | some a => if tyOk b then some (false, .bl (isiT a b)) else none
    | none => none)
  | _ => none
theorem Vw.tyx {Z : C3} {F H : Hp} {v : V} {d : D} {a : String} (ex : Ex F H) (h : Vw Z F H v d) (e : tyN d = some a) : TyX Z.K H v (.type a) ∧ a ∈ ["NoneType", "bool", "int", "str", "tuple", "list"] := by
  cases d with
  | non => cases e; rw [h.non]; exact ⟨.base .non, by simp⟩
  | bl b => cases e; rw [h.bl]; exact ⟨.base (.bl _), by simp⟩
  | int b => cases e; rw [h.int]; exact ⟨.base (.int _), by simp⟩
  | str b => cases e; rw [h.str]; exact ⟨.base (.str _), by simp⟩
  | tup b =>
    cases e
    obtain ⟨a, xs, rfl, hs, _⟩ := h.tup ex
    refine ⟨?_, by simp⟩
    rcases hs with (hs | ⟨o, hs⟩) | ⟨o, its, n, hk, hc, _⟩
    · exact .base (.tup hs)
    · exact .fTuple hs
    · exact .kTuple hk hc
  | lst b =>
    cases e
    obtain ⟨a, xs, rfl, hs, _⟩ := h.lst ex
    refine ⟨?_, by simp⟩
    rcases hs with (hs | ⟨o, hs⟩) | ⟨its, hk, _⟩
    · exact .base (.lst hs)
    · exact .base (.frz hs)
    · exact .kList hk rfl
  | _ => cases e
theorem VwL.two {Z : C3} {F H : Hp} {xs : List V} {a b : D} (h : VwL Z F H xs [a, b]) : ∃ x y, xs = [x, y] ∧ Vw Z F H x a ∧ Vw Z F H y b := by
  cases h with
  | cons h1 t =>
    cases t with
    | cons h2 t =>
      cases t
      exact ⟨_, _, rfl, h1, h2⟩
theorem VwL.one {Z : C3} {F H : Hp} {xs : List V} {a : D} (h : VwL Z F H xs [a]) : ∃ x, xs = [x] ∧ Vw Z F H x a := by
  cases h with
  | cons h1 t =>
    cases t
    exact ⟨_, rfl, h1⟩
theorem rds_of {X : Cx} {c : Value} {g : FN} (h : ∀ (pins : List (Addr × Obj)) (s : Shared) (σ : Sg) (F H : Hp) (xs : List V) (us : List Value) (Q : VK) (ds : List D) (b : Bool) (d : D), Inv X pins σ H s → Vals xs us → Ex F H → VwL (c3 X) F H xs ds → g ds = some (b, d) →
    (∀ v H' F', New F H F' H' → RepN (c3 X) H F' H' v b d → Q v H') → wpAny (model X.prog X.w) X.A (call c us) (EP X pins σ Q) X.xe s) : CallR X c (RDs (c3 X) g) :=
  fun pins s σ H xs us Q I r ⟨F, ds, b, d, ex, hx, e, k⟩ => h pins s σ F H xs us Q ds b d I r ex hx e k
theorem Vw.opq {Z : C3} {F H : Hp} {v w : V} (h : Vw Z F H v (.opq w)) : v = w := by
  rcases h with h | ⟨a, _, h⟩
  · cases h; rfl
  · exact h.elim
section
variable {X : Cx}
theorem cd_isi : CallR X (.builtin "isinstance") (RDs (c3 X) dIsi) := rds_of fun pins s σ F H xs us Q ds b d I r ex hx e k => by
  unfold dIsi at e
  split at e
  · rename_i d0 b0
    split at e
    · rename_i a ea
      split at e
      · rename_i hb
        cases e
        obtain ⟨x, y, rfl, h1, h2⟩ := hx.two
        obtain ⟨t1, m1⟩ := h1.tyx ex ea
        have ey := h2.opq
        subst ey
        have m2 : b0 ∈ ["int", "bool", "str", "tuple", "list"] := by
          unfold tyOk at hb
          simp only [Bool.or_eq_true, beq_iff_eq] at hb
          rcases hb with (((rfl | rfl) | rfl) | rfl) | rfl <;> simp
        exact call_isi pins s σ H _ us Q I r ⟨x, _, _, _, _, rfl, .ty b0, t1, kit_ty (kit_tab a b0 m1 m2), k _ H F (.refl ex) (.bl _)⟩
      · cases e
    · cases e
  · cases e

/-! ### len, tuple, list -/
def dLen : FN
  | [.lst ds] => some (false, .int (ds.length : Int))
  | [.tup ds] => some (false, .int (ds.length : Int))
  | [.str x] => if x.length ≤ szl then some (false, .int (x.length : Int)) else none
  | _ => none
theorem cd_len : CallR X (.builtin "len") (RDs (c3 X) dLen) := rds_of fun pins s σ F H xs us Q ds b d I r ex hx e k => by
  unfold dLen at e
  split at e
  · cases e
    obtain ⟨x, rfl, h1⟩ := hx.one
    obtain ⟨a, ys, rfl, h, hr⟩ := h1.lst ex
    refine call_len_seq pins s σ H _ us Q I r ⟨a, ys, rfl, .inl h.sq, ?_⟩
    rw [hr.length]
    exact k _ H F (.refl ex) (.int _)
  · cases e
    obtain ⟨x, rfl, h1⟩ := hx.one
    obtain ⟨a, ys, rfl, h, hr⟩ := h1.tup ex
    refine call_len_seq pins s σ H _ us Q I r ⟨a, ys, rfl, .inr h, ?_⟩
    rw [hr.length]
    exact k _ H F (.refl ex) (.int _)
  · split at e
    · rename_i hz
      cases e
      obtain ⟨x, rfl, h1⟩ := hx.one
      rw [h1.str] at r
      exact call_len_str pins s σ H _ us Q I r ⟨_, rfl, szl_ok hz, k _ H F (.refl ex) (.int _)⟩
    · cases e
  · cases e
def dTuple : FN
  | [.lst ds] => some (false, .tup ds)
  | [.tup ds] => some (false, .tup ds)
  | _ => none
theorem cd_tuple : CallR X (.type "tuple") (RDs (c3 X) dTuple) := rds_of fun pins s σ F H xs us Q ds b d I r ex hx e k => by
  unfold dTuple at e
  split at e
  · cases e
    obtain ⟨x, rfl, h1⟩ := hx.one
    obtain ⟨a, ys, rfl, h, hr⟩ := h1.lst ex
    exact call_tuple_of pins s σ H _ us Q I r ⟨a, ys, rfl,   .inl ⟨h.sq, fun l hl => k _ _ _ (New.froz ex hl) (RepN.newT ex hl hr)⟩⟩
  · cases e
    obtain ⟨x, rfl, h1⟩ := hx.one
    have h2 := h1.tupR
    obtain ⟨a, ys, rfl, h, hr⟩ := h1.tup ex
    exact call_tuple_of pins s σ H _ us Q I r ⟨a, ys, rfl, .inr ⟨h, k _ H F (.refl ex) h2⟩⟩
  · cases e
def dList : FN
  | [.lst ds] => some (true, .lst ds)
  | [.tup ds] => some (true, .lst ds)
  | _ => none
theorem cd_list : CallR X (.type "list") (RDs (c3 X) dList) := rds_of fun pins s σ F H xs us Q ds b d I r ex hx e k => by
  unfold dList at e
  split at e
  · cases e
    obtain ⟨x, rfl, h1⟩ := hx.one
    obtain ⟨a, ys, rfl, h, hr⟩ := h1.lst ex
    exact call_list_of pins s σ H _ us Q I r ⟨a, ys, rfl, .inl h.sq, fun l hl => k _ _ _ (New.mine ex hl) (RepN.newL ex hl hr)⟩
  · cases e
    obtain ⟨x, rfl, h1⟩ := hx.one
    obtain ⟨a, ys, rfl, h, hr⟩ := h1.tup ex
    exact call_list_of pins s σ H _ us Q I r ⟨a, ys, rfl, .inr h, fun l hl => k _ _ _ (New.mine ex hl) (RepN.newL ex hl hr)⟩
  · cases e
end

/-! ### sum, min, max, all, any -/
def intsD : List D → Option (List Int)
  | [] => some []
  | .int i :: ds => (match intsD ds with
    | some is => some (i :: is)
    | none => none)
  | _ :: _ => none
def boolsD : List D → Option (List Bool)
  | [] => some []
  | .bl i :: ds => (match boolsD ds with
    | some is => some (i :: is)
    | none => none)
  | _ :: _ => none
theorem RpL.toI {Z : C3} {F : Hp} : ∀ {vs : List V} {ds : List D} {is : List Int}, RpL Z F vs ds → intsD ds = some is → vs = is.map V.int
  | _, _, _, .nil, e => by cases e; rfl
  | _, _, _, .cons (d := d) (ds := ds) h r, e => by
    cases d with
    | int i =>
      unfold intsD at e
      cases q : intsD ds with
      | none => rw [q] at e; cases e
      | some is' =>
        rw [q] at e
        cases e
        cases h
        rw [r.toI q]
        rfl
    | _ => cases e
theorem RpL.toB {Z : C3} {F : Hp} : ∀ {vs : List V} {ds : List D} {is : List Bool}, RpL Z F vs ds → boolsD ds = some is → vs = is.map V.bl
  | _, _, _, .nil, e => by cases e; rfl
  | _, _, _, .cons (d := d) (ds := ds) h r, e => by
    cases d with
    | bl i =>
      unfold boolsD at e
      cases q : boolsD ds with
      | none => rw [q] at e; cases e
      | some is' =>
        rw [q] at e
        cases e
        cases h
        rw [r.toB q]
        rfl
    | _ => cases e
def minI : Int → List Int → Int
  | m, [] => m
  | m, x :: xs => minI (if x < m then x else m) xs
def maxI : Int → List Int → Int
  | m, [] => m
  | m, x :: xs => maxI (if m < x then x else m) xs
theorem minI_spec : ∀ (l : List Int) (m : Int), (minI m l = m ∨ minI m l ∈ l) ∧ minI m l ≤ m ∧ ∀ x ∈ l, minI m l ≤ x
  | [], m => ⟨.inl rfl, Int.le_refl _, fun x h => nomatch h⟩
  | y :: l, m => by
    obtain ⟨h1, h2, h3⟩ := minI_spec l (if y < m then y else m)
    show (minI (if y < m then y else m) l = m ∨ minI (if y < m then y else m) l ∈ y :: l) ∧ minI (if y < m then y else m) l ≤ m ∧ ∀ x ∈ y :: l, minI (if y < m then y else m) l ≤ x
    by_cases q : y < m
    · rw [if_pos q] at h1 h2 h3 ⊢
      refine ⟨.inr (h1.elim (fun e => by rw [e]; simp) fun e => List.mem_cons_of_mem _ e), by omega, fun x hx => ?_⟩
      rcases List.mem_cons.mp hx with rfl | hx
      · exact h2
      · exact h3 x hx
    · rw [if_neg q] at h1 h2 h3 ⊢
      refine ⟨h1.imp id fun e => List.mem_cons_of_mem _ e, h2, fun x hx => ?_⟩
      rcases List.mem_cons.mp hx with rfl | hx
      · omega
      · exact h3 x hx
theorem maxI_spec : ∀ (l : List Int) (m : Int), (maxI m l = m ∨ maxI m l ∈ l) ∧ m ≤ maxI m l ∧ ∀ x ∈ l, x ≤ maxI m l
  | [], m => ⟨.inl rfl, Int.le_refl _, fun x h => nomatch h⟩
  | y :: l, m => by
    obtain ⟨h1, h2, h3⟩ := maxI_spec l (if m < y then y else m)
    show (maxI (if m < y then y else m) l = m ∨ maxI (if m < y then y else m) l ∈ y :: l) ∧ m ≤ maxI (if m < y then y else m) l ∧ ∀ x ∈ y :: l, x ≤ maxI (if m < y then y else m) l
    by_cases q : m < y
    · rw [if_pos q] at h1 h2 h3 ⊢
      refine ⟨.inr (h1.elim (fun e => by rw [e]; simp) fun e => List.mem_cons_of_mem _ e), by omega, fun x hx => ?_⟩
      rcases List.mem_cons.mp hx with rfl | hx
      · exact h2
      · exact h3 x hx
    · rw [if_neg q] at h1 h2 h3 ⊢
      refine ⟨h1.imp id fun e => List.mem_cons_of_mem _ e, h2, fun x hx => ?_⟩
      rcases List.mem_cons.mp hx with rfl | hx
      · omega
      · exact h3 x hx
end Gr
end
section
/-! sorted, of lists and tuples of data. -/
namespace Gr
open PySem PySem.Spec PyProof.Rows L2

/-! ### a stable sort by insertion -/
section
variable {α β : Type} {le : α → α → Bool}
def ins (le : α → α → Bool) (x : α) : List α → List α
  | [] => [x]
  | y :: ys => if le x y then x :: y :: ys else y :: ins le x ys
def isort (le : α → α → Bool) : List α → List α
  | [] => []
  | x :: xs => ins le x (isort le xs)
theorem ins_map {le : β → β → Bool} (f : α → β) (x : α) : ∀ l : List α, (ins (fun a b => le (f a) (f b)) x l).map f = ins le (f x) (l.map f)
  | [] => rfl
  | y :: ys => by
    unfold ins
    show List.map f (if le (f x) (f y) then _ else _) = if le (f x) (f y) then _ else _
    split
    · rfl
    · rw [List.map_cons, ins_map f x ys]
theorem isort_map {le : β → β → Bool} (f : α → β) : ∀ l : List α, (isort (fun a b => le (f a) (f b)) l).map f = isort le (l.map f)
  | [] => rfl
  | x :: xs => by
    show (ins _ x (isort _ xs)).map f = ins le (f x) (isort le (xs.map f))
    rw [ins_map, isort_map f xs]
theorem ins_perm (x : α) : ∀ l : List α, (ins le x l).Perm (x :: l)
  | [] => List.Perm.refl _
  | y :: ys => by
    unfold ins
    split
    · exact List.Perm.refl _
    · exact ((ins_perm x ys).cons y).trans (List.Perm.swap x y ys)
theorem isort_perm : ∀ l : List α, (isort le l).Perm l
  | [] => List.Perm.refl _
  | x :: xs => (ins_perm x _).trans ((isort_perm xs).cons x)
theorem isort_length (l : List α) : (isort le l).length = l.length := (isort_perm l).length_eq
theorem ins_sorted (T : PySem.W.TotalLe le) (x : α) : ∀ l : List α, l.Pairwise (fun a b => le a b = true) → (ins le x l).Pairwise (fun a b => le a b = true)
  | [], _ => List.pairwise_singleton _ _
  | y :: ys, h => by
    obtain ⟨h1, h2⟩ := List.pairwise_cons.mp h
    unfold ins
    split
    · rename_i q
      refine List.pairwise_cons.mpr ⟨fun z hz => ?_, h⟩
      rcases List.mem_cons.mp hz with rfl | hz
      · exact q
      · exact T.trans _ _ _ q (h1 z hz)
    · rename_i q
      refine List.pairwise_cons.mpr ⟨fun z hz => ?_, ins_sorted T x ys h2⟩
      rcases List.mem_cons.mp ((ins_perm x ys).mem_iff.mp hz) with rfl | hz
      · exact (T.total y z).resolve_right q
      · exact h1 z hz
theorem ins_same (T : PySem.W.TotalLe le) (c x : α) : ∀ l : List α, l.Pairwise (fun a b => le a b = true) → (ins le x l).filter (PySem.W.sameRank le c) = (x :: l).filter (PySem.W.sameRank le c)
  | [], _ => rfl
  | y :: ys, h => by
    obtain ⟨h1, h2⟩ := List.pairwise_cons.mp h
    unfold ins
    split
    · rfl
    · rename_i q
      rw [List.filter_cons, ins_same T c x ys h2]
      by_cases hx : PySem.W.sameRank le c x = true
      · by_cases hy : PySem.W.sameRank le c y = true
        · -- both of one rank: then x ≤ y
          unfold PySem.W.sameRank at hx hy
          rw [Bool.and_eq_true] at hx hy
          exact absurd (T.trans _ _ _ hx.2 hy.1) q
        · rw [if_neg hy, List.filter_cons, List.filter_cons, List.filter_cons, if_neg hy]
      · rw [List.filter_cons, List.filter_cons, List.filter_cons, if_neg hx, if_neg hx]
theorem isort_sorted (T : PySem.W.TotalLe le) : ∀ l : List α, (isort le l).Pairwise (fun a b => le a b = true)
  | [] => List.Pairwise.nil
  | x :: xs => ins_sorted T x _ (isort_sorted T xs)
theorem isort_same (T : PySem.W.TotalLe le) (c : α) : ∀ l : List α, (isort le l).filter (PySem.W.sameRank le c) = l.filter (PySem.W.sameRank le c)
  | [] => rfl
  | x :: xs => by
    show (ins le x (isort le xs)).filter _ = _
    rw [ins_same T c x _ (isort_sorted T xs), List.filter_cons, List.filter_cons, isort_same T c xs]
theorem isort_merge (T : PySem.W.TotalLe le) (l : List α) : isort le l = l.mergeSort le := PySem.W.sort_unique T (isort_sorted T l) fun c => isort_same T c l
end

/-! ### the order of data -/
inductive Ty where
  | non | bl | int | str | tup (ts : List Ty) | lst (t : Ty)
mutual
def D.ty : D → Ty
  | .bl _ => .bl
  | .int _ => .int
  | .str _ => .str
  | .tup xs => .tup (D.tys xs)
  | .lst [] => .lst .non
  | .lst (x :: _) => .lst x.ty
  | _ => .non
def D.tys : List D → List Ty
  | [] => []
  | x :: xs => x.ty :: D.tys xs
end
mutual
def D.hasTy : D → Ty → Bool
  | .bl _, .bl => true
  | .int _, .int => true
  | .str _, .str => true
  | .tup xs, .tup ts => D.hasTys xs ts
  | .lst xs, .lst t => D.allTy xs t
  | _, _ => false
def D.hasTys : List D → List Ty → Bool
  | [], [] => true
  | x :: xs, t :: ts => D.hasTy x t && D.hasTys xs ts
  | _, _ => false
def D.allTy : List D → Ty → Bool
  | [], _ => true
  | x :: xs, t => D.hasTy x t && D.allTy xs t
end
mutual
def D.lt : D → D → Bool
  | .bl a, .bl b => !a && b
  | .int a, .int b => decide (a < b)
  | .str a, .str b => decide (a.cps.toList < b.cps.toList)
  | .tup xs, .tup ys => D.lts xs ys
  | .lst xs, .lst ys => D.lts xs ys
  | _, _ => false
def D.lts : List D → List D → Bool
  | [], [] => false
  | [], _ :: _ => true
  | _ :: _, [] => false
  | x :: xs, y :: ys => if D.eqv x y then D.lts xs ys else D.lt x y
end
mutual
theorem ty_alike : ∀ (a b : D) (t : Ty), D.hasTy a t = true → D.hasTy b t = true → PySem.W.alike a.py b.py = true
  | a, b, t, ha, hb => by
    cases a <;> cases t <;> first
      | (simp [D.hasTy] at ha; done)
      | skip
    all_goals (cases b <;> first
      | (simp [D.hasTy] at hb; done)
      | skip)
    · simp [D.py, PySem.W.alike]
    · simp [D.py, PySem.W.alike]
    · simp [D.py, PySem.W.alike]
    · simp only [D.py, PySem.W.alike]
      exact tys_alike _ _ _ (by simpa [D.hasTy] using ha) (by simpa [D.hasTy] using hb)
    · simp only [D.py, PySem.W.alike]
      exact all_alike _ _ _ (by simpa [D.hasTy] using ha) (by simpa [D.hasTy] using hb)
theorem tys_alike : ∀ (as bs : List D) (ts : List Ty), D.hasTys as ts = true → D.hasTys bs ts = true → PySem.W.alikeAll (D.pys as) (D.pys bs) = true
  | [], _, _, _, _ => by simp [D.pys, PySem.W.alikeAll]
  | _ :: _, [], _, _, _ => by simp [D.pys, PySem.W.alikeAll]
  | a :: as, b :: bs, [], ha, _ => by simp [D.hasTys] at ha
  | a :: as, b :: bs, t :: ts, ha, hb => by
    simp only [D.hasTys, Bool.and_eq_true] at ha hb
    simp only [D.pys, PySem.W.alikeAll]
    rw [ty_alike a b t ha.1 hb.1, tys_alike as bs ts ha.2 hb.2]
    rfl
theorem all_alike : ∀ (as bs : List D) (t : Ty), D.allTy as t = true → D.allTy bs t = true → PySem.W.alikeAll (D.pys as) (D.pys bs) = true
  | [], _, _, _, _ => by simp [D.pys, PySem.W.alikeAll]
  | _ :: _, [], _, _, _ => by simp [D.pys, PySem.W.alikeAll]
  | a :: as, b :: bs, t, ha, hb => by
    simp only [D.allTy, Bool.and_eq_true] at ha hb
    simp only [D.pys, PySem.W.alikeAll]
    rw [ty_alike a b t ha.1 hb.1, all_alike as bs t ha.2 hb.2]
    rfl
end
theorem row_nil : PyProof.Rows.lexLt itemOrd (PySem.W.keyToksAll []) (PySem.W.keyToksAll []) = false := lex_irrefl _
theorem row_nc (y : PyData) (ys : List PyData) : PyProof.Rows.lexLt itemOrd (PySem.W.keyToksAll []) (PySem.W.keyToksAll (y :: ys)) = true := by
  rw [PySem.W.toks_all_cons]
  simp only [PySem.W.keyToksAll]
  rw [lex_diff (O := itemOrd) (by simp)]
  rfl
theorem row_cn (y : PyData) (ys : List PyData) : PyProof.Rows.lexLt itemOrd (PySem.W.keyToksAll (y :: ys)) (PySem.W.keyToksAll []) = false := by
  rw [PySem.W.toks_all_cons]
  simp only [PySem.W.keyToksAll]
  rw [lex_diff (O := itemOrd) (by simp)]
  rfl
mutual
theorem lt_py : ∀ {n m : Nat} (a b : D), D.okD' n a = true → D.okD' m b = true → PySem.W.alike a.py b.py = true → D.lt a b = PySem.W.dataLt a.py b.py
  | n, m, a, b, ha, hb, h => by
    cases a <;> cases b <;> first
      | (simp [D.okD'] at ha; done)
      | (simp [D.okD'] at hb; done)
      | (simp [D.py, PySem.W.alike] at h; done)
      | skip
    · simp only [D.lt, D.py]
      exact (lex_irrefl _).symm
    · rename_i x y
      simp only [D.lt, D.py]
      rw [PySem.W.dataLt_bool]
      cases x <;> cases y <;> decide
    · simp only [D.lt, D.py]
      rw [PySem.W.dataLt_int]
    · simp only [D.lt, D.py]
      rw [PySem.W.dataLt_str]
    · cases n with
      | zero => simp [D.okD'] at ha
      | succ n =>
        cases m with
        | zero => simp [D.okD'] at hb
        | succ m =>
          simp only [D.lt, D.py]
          rw [PySem.W.dataLt_tuple]
          exact lts_py _ _ (n := n) (m := m) (by simpa [D.okD'] using ha) (by simpa [D.okD'] using hb) (by simpa [D.py, PySem.W.alike] using h)
    · cases n with
      | zero => simp [D.okD'] at ha
      | succ n =>
        cases m with
        | zero => simp [D.okD'] at hb
        | succ m =>
          simp only [D.lt, D.py]
          rw [PySem.W.dataLt_list]
          exact lts_py _ _ (n := n) (m := m) (by simpa [D.okD'] using ha) (by simpa [D.okD'] using hb) (by simpa [D.py, PySem.W.alike] using h)
theorem lts_py : ∀ {n m : Nat} (a b : List D), D.okDs' n a = true → D.okDs' m b = true → PySem.W.alikeAll (D.pys a) (D.pys b) = true → D.lts a b = PyProof.Rows.lexLt itemOrd (PySem.W.keyToksAll (D.pys a)) (PySem.W.keyToksAll (D.pys b))
  | _, _, [], [], _, _, _ => by simp only [D.lts, D.pys]; exact row_nil.symm
  | _, _, [], y :: ys, _, _, _ => by simp only [D.lts, D.pys]; exact (row_nc _ _).symm
  | _, _, x :: xs, [], _, _, _ => by simp only [D.lts, D.pys]; exact (row_cn _ _).symm
  | n, m, x :: xs, y :: ys, ha, hb, h => by
    simp only [D.okDs', Bool.and_eq_true] at ha hb
    obtain ⟨h1, h2⟩ := PySem.W.alike_all_cons (show PySem.W.alikeAll (x.py :: D.pys xs) (y.py :: D.pys ys) = true from by simpa only [D.pys] using h)
    simp only [D.lts, D.pys]
    rw [PySem.W.dataLt_cons h1, ← D.eqv_py ha.1 hb.1, lts_py xs ys ha.2 hb.2 h2, lt_py x y ha.1 hb.1 h1]
end
def D.le (a b : D) : Bool := !D.lt b a

/-! ### the call -/
section
variable {prog : Program} {w : World} {A : Around} {E : Value → Shared → Prop} {s : Shared}
open PySem.W
theorem collect_seq {l : Addr} {vs : List Value} {T : String} {Q : List Value → Shared → Prop} (hT : T = "list" ∨ T = "tuple") (hl : ∃ o n, s.heap.get? l = some o ∧ o.cls = .type T ∧ o.data = .seq vs.toArray n)
    (h : Q vs { s with heap := (s.heap.push (seqObj "list" #[] 0)).update s.heap.objs.size (Obj.mapSeq (· ++ vs.toArray)) }) (hsz : vs.length ≤ sizeLine) :
    wpAny (model prog w) A (collect (.ref l)) Q E s := by
  obtain ⟨o, n, ho, hc, hd⟩ := hl
  unfold collect
  refine wpAny_bind (wpAny_runValue (codeAny_builtin entry_proto_collect' ?_))
  show wpAny _ _ (do again (.builtin "list.__iadd__" ⟨[← newList [], .ref l], []⟩)) _ _ s
  refine wpAny_bind (wpAny_newList (wpAny_pure ⟨Code.quiet_builtin _ (by decide +kernel), codeAny_builtin entry_list_iadd' ?_⟩))
  show wpAny _ _ (Builtin.List.listExtendWith (.ref s.heap.objs.size) (.ref l) (.ref s.heap.objs.size)) _ _ { s with heap := s.heap.push (seqObj "list" #[] 0) }
  unfold Builtin.List.listExtendWith
  have ho' : (s.heap.push (seqObj "list" #[] 0)).get? l = some o := Heap.get?_push_of_some _ ho
  refine wpAny_bind (wpAny_typeOf (T := T) ⟨o, ho', hc⟩ ?_)
  have ht : (Value.type T == Value.type "list" || Value.type T == Value.type "tuple") = true := by
    rcases hT with rfl | rfl
    · rfl
    · decide
  rw [if_pos (by rw [Bool.or_assoc, ht, Bool.or_true])]
  refine wpAny_bind (listItems_at ho' hd ?_)
  refine wpAny_bind (listItems_at (xs := #[]) (n := 0) (Heap.get?_push_size _ rfl) rfl ?_)
  rw [if_neg (by simp)]
  refine wpAny_bind (listUpdate_at (xs := #[]) (n := 0) (Heap.get?_push_size _ rfl) rfl ?_ (Nat.zero_le _) (by show (#[] ++ vs.toArray).size ≤ sizeLine + 1; simp only [Array.size_append, List.size_toArray, List.length_nil]; omega))
  refine wpAny_pure ?_
  show wpAny (model prog w) A (do
      let o ← load s.heap.objs.size
      match o.data with
      | .seq xs _ => pure xs.toList
      | _ => unsupported "internal:collect") Q E { s with heap := (s.heap.push (seqObj "list" #[] 0)).update s.heap.objs.size (Obj.mapSeq (· ++ vs.toArray)) }
  refine wpAny_bind (wpAny_load (get?_update_seq (Heap.get?_push_size _ rfl) _) ?_)
  show wpAny _ _ (pure ((#[] : Array Value) ++ vs.toArray).toList) Q E _
  rw [show ((#[] : Array Value) ++ vs.toArray).toList = vs by simp]
  exact wpAny_pure h
theorem sorted_of_seq {l : Addr} {vs : List Value} {T : String} {kw : List (Str × Value)} {Q : Value → Shared → Prop} (hT : T = "list" ∨ T = "tuple") (hl : ∃ o n, s.heap.get? l = some o ∧ o.cls = .type T ∧ o.data = .seq vs.toArray n) (hL : vs.length ≤ sizeLine) (ha1 : argsOk "sorted" ⟨[.ref l], kw⟩) (ha2 : ∀ x, argsOk "list.sort" ⟨[.ref x], kw⟩)
    (body : ∀ E' : Value → Shared → Prop, wpAny (model prog w) A.in1.in1 (Builtin.«list.sort» ⟨[.ref (s.heap.objs.size + 1)], kw⟩) (fun f s' => f = .done (.ret .none) ∧ Q (.ref (s.heap.objs.size + 1)) s') E' { s with heap := copyHeap s.heap vs }) :
    wpAny (model prog w) A (call (.builtin "sorted") [.ref l] kw) Q E s := by
  refine call_function_entry_kw kind_sorted plain_sorted entry_sorted ha1 ?_
  unfold Builtin.«sorted»
  refine wpAny_bind (m := checkCount "sorted" 1 1 _) (wpAny_pure ?_)
  refine wpAny_bind (collect_seq hT hl ?_ hL)
  refine wpAny_bind (wpAny_newList ?_ hL)
  have hsz : ((s.heap.push (seqObj "list" #[] 0)).update s.heap.objs.size (Obj.mapSeq (· ++ vs.toArray))).objs.size = s.heap.objs.size + 1 := by
    rw [Heap.size_update, size_push']
  show wpAny _ _ _ _ _ { s with heap := copyHeap s.heap vs }
  rw [hsz]
  refine wpAny_bind (wpAny_holding (wpAny_call_entry_kw slot_list_sort ⟨_, copyHeap_at s.heap vs, rfl⟩ entry_list_sort ?body (ha2 _)))
  case body =>
    show wpAny (model prog w) A.in1.in1 (Builtin.«list.sort» ⟨[.ref (s.heap.objs.size + 1)], kw⟩) _ _ _
    refine wpAny_mono (body _) (fun f s' hf => ?_) fun _ _ e => e
    obtain ⟨rfl, hq⟩ := hf
    exact ⟨_, rfl, wpAny_pure ⟨_, rfl, hq⟩⟩
theorem sorted_seq {β : Type} {R : Value → β → Prop} {enc : β → PyData} {bs : List β} {l : Addr} {vs : List Value} {T : String} {Q : Value → Shared → Prop} (hT : T = "list" ∨ T = "tuple") (hl : ∃ o n, s.heap.get? l = some o ∧ o.cls = .type T ∧ o.data = .seq vs.toArray n)
    (e : EachIs R vs bs) (er : EachIs (fun v b => ∃ as, Reads s.heap v (enc b) as) vs bs) (hal : AllAlike (bs.map enc)) (hk : Sortable (bs.map enc)) (hL : bs.length ≤ sizeLine)
    (hu : ∀ b, b ∈ bs → A.units + 2 + (enc b).depth < cLine) (h : ∀ out, out.length = bs.length → EachIs R out (bs.mergeSort (dataLe false enc)) → Q (.ref (s.heap.objs.size + 1)) { s with heap := sortedAll s.heap vs (List.toArray out) }) :
    wpAny (model prog w) A (call (.builtin "sorted") [.ref l]) Q E s := by
  have er' : EachIs (fun v b => ∃ as, Reads (sortingHeap (copyHeap s.heap vs) (s.heap.objs.size + 1) vs) v (enc b) as) vs bs := er.mono fun _ _ ⟨as, r⟩ => ⟨as, PyProof.Rows.Reads.keeps (fun _ _ => sorting_copy_old) r⟩
  have hL' : vs.length ≤ sizeLine := by rw [e.length]; exact hL
  have S := SortsAt.data (prog := prog) (w := w) (A := A.in1.in1) (s := { s with heap := sortingHeap (copyHeap s.heap vs) (s.heap.objs.size + 1) vs }) (each_map (R := fun v d => ∃ as, Reads (sortingHeap (copyHeap s.heap vs) (s.heap.objs.size + 1) vs) v d as) enc er') hal hk (bound_map hu)
  exact sorted_of_seq hT hl hL' (args_sorted1 _) (fun _ => args_list_sort _) fun _ => list_sort_vals (s := { s with heap := copyHeap s.heap vs }) (copyHeap_at s.heap vs) S hL'
    ⟨rfl, h _ (by rw [sortVals_length false rfl]; exact e.length) (sortVals_data false e er' hal)⟩
end
def sortOk (ds : List D) : Bool := match ds with
  | [] => true
  | d :: _ => D.allTy ds d.ty && (match d with
    | .tup (_ :: _) => true
    | .tup [] => false
    | .non => false
    | _ => true)
def dSorted : FN
  | [.lst ds] => if okq (.lst ds) && sortOk ds && decide (ds.length ≤ szl) then some (true, .lst (isort D.le ds)) else none
  | [.tup ds] => if okq (.lst ds) && sortOk ds && decide (ds.length ≤ szl) then some (true, .lst (isort D.le ds)) else none
  | _ => none
theorem allTy_mem : ∀ {ds : List D} {t : Ty}, D.allTy ds t = true → ∀ d ∈ ds, D.hasTy d t = true
  | [], _, _, d, h => nomatch h
  | x :: xs, t, h, d, hd => by
    simp only [D.allTy, Bool.and_eq_true] at h
    rcases List.mem_cons.mp hd with rfl | hd
    · exact h.1
    · exact allTy_mem h.2 d hd
theorem okDs_mem : ∀ {n : Nat} {ds : List D}, D.okDs' n ds = true → ∀ d ∈ ds, D.okD' n d = true
  | _, [], _, d, h => nomatch h
  | n, x :: xs, h, d, hd => by
    simp only [D.okDs', Bool.and_eq_true] at h
    rcases List.mem_cons.mp hd with rfl | hd
    · exact h.1
    · exact okDs_mem h.2 d hd
theorem each_of {Z : C3} {F : Hp} : ∀ {vs : List V} {us : List Value} {ds : List D}, Vals vs us → RpL Z F vs ds → PySem.W.EachIs (fun (u : Value) (p : V × D) => RelV p.1 u ∧ Rp Z F p.1 p.2) us (vs.zip ds)
  | _, _, _, .nil, .nil => .nil
  | _, _, _, .cons r t, .cons h q => .cons ⟨r, h⟩ (each_of t q)
theorem zip_snd {Z : C3} {F : Hp} : ∀ {vs : List V} {ds : List D}, RpL Z F vs ds → (vs.zip ds).map (·.2) = ds
  | _, _, .nil => rfl
  | _, _, .cons h q => congrArg (_ :: ·) (zip_snd q)
theorem out_each {Z : C3} {F : Hp} : ∀ {us : List Value} {ps : List (V × D)}, PySem.W.EachIs (fun (u : Value) (p : V × D) => RelV p.1 u ∧ Rp Z F p.1 p.2) us ps → Vals (ps.map (·.1)) us ∧ RpL Z F (ps.map (·.1)) (ps.map (·.2))
  | _, _, .nil => ⟨.nil, .nil⟩
  | _, _, .cons ⟨a, b⟩ t => ⟨.cons a (out_each t).1, .cons b (out_each t).2⟩
theorem cd_sorted {X : Cx} {k : Nat} (hr : Room k X.A) : CallR X (.builtin "sorted") (RDs (c3 X) dSorted) := by
  have main : ∀ (pins : List (Addr × Obj)) (s : Shared) (σ : Sg) (F H : Hp) (a : Addr) (us : List Value) (Q : VK) (ys : List V) (ds : List D) (T : String), Inv X pins σ H s → Vals [V.ref a] us → Ex F H → RpL (c3 X) F ys ds → (T = "list" ∨ T = "tuple") →
      (∃ its : List Value, Vals ys its ∧ ∃ o n, s.heap.get? a = some o ∧ o.cls = .type T ∧ o.data = .seq its.toArray n) → (okq (.lst ds) && sortOk ds && decide (ds.length ≤ szl)) = true →
      (∀ v H' F', New F H F' H' → RepN (c3 X) H F' H' v true (.lst (isort D.le ds)) → Q v H') → wpAny (model X.prog X.w) X.A (call (.builtin "sorted") us) (EP X pins σ Q) X.xe s := by
    intro pins s σ F H a us Q ys ds T I r ex hr' hT hl hok k
    rw [Bool.and_eq_true, Bool.and_eq_true] at hok
    obtain ⟨⟨h1, h2⟩, h3⟩ := hok
    have h3' := of_decide_eq_true h3
    have hoks : D.okDs' 39 ds = true := by simpa [okq, D.okD'] using h1
    obtain ⟨its, rv, hob⟩ := hl
    rw [Vals.ref1 r]
    have ea := each_of rv hr'
    have hlen : (ys.zip ds).length = ds.length := by
      have := congrArg List.length (zip_snd hr')
      rwa [List.length_map] at this
    have mem2 : ∀ p ∈ ys.zip ds, p.2 ∈ ds := fun p hp => (List.of_mem_zip hp).2
    have ok2 : ∀ p ∈ ys.zip ds, D.okD' 39 p.2 = true := fun p hp => okDs_mem hoks _ (mem2 p hp)
    have hty : ∃ t, D.allTy ds t = true := by
      cases ds with
      | nil => exact ⟨.non, rfl⟩
      | cons d ds =>
        unfold sortOk at h2
        rw [Bool.and_eq_true] at h2
        exact ⟨_, h2.1⟩
    obtain ⟨t, ht⟩ := hty
    have hal : PySem.W.AllAlike ((ys.zip ds).map fun p => p.2.py) := by
      intro d hd d' hd'
      obtain ⟨p, hp, rfl⟩ := List.mem_map.mp hd
      obtain ⟨p', hp', rfl⟩ := List.mem_map.mp hd'
      exact ty_alike _ _ t (allTy_mem ht _ (mem2 p hp)) (allTy_mem ht _ (mem2 p' hp'))
    have hk : PySem.W.Sortable ((ys.zip ds).map fun p => p.2.py) := by
      cases ds with
      | nil =>
        right
        intro d hd
        obtain ⟨p, hp, rfl⟩ := List.mem_map.mp hd
        exact absurd (mem2 p hp) (by simp)
      | cons d ds =>
        unfold sortOk at h2
        rw [Bool.and_eq_true] at h2
        obtain ⟨h4, h5⟩ := h2
        have hh := allTy_mem h4
        cases d with
        | tup xs =>
          cases xs with
          | nil => simp at h5
          | cons x xs =>
            left
            intro d hd
            obtain ⟨p, hp, rfl⟩ := List.mem_map.mp hd
            have z := hh _ (mem2 p hp)
            cases e : p.2 with
            | tup zs =>
              rw [e] at z
              cases zs with
              | nil => simp [D.hasTy, D.ty, D.tys, D.hasTys] at z
              | cons y zs => exact ⟨y.py, D.pys zs, by simp only [D.py, D.pys]⟩
            | _ => rw [e] at z; simp [D.hasTy, D.ty] at z
        | non => simp at h5
        | bl b =>
          right
          intro d hd
          obtain ⟨p, hp, rfl⟩ := List.mem_map.mp hd
          have z := hh _ (mem2 p hp)
          cases e : p.2 with
          | bl _ => simp only [D.py]; exact ⟨fun z => (by cases z), fun _ z => (by cases z)⟩
          | _ => rw [e] at z; simp [D.hasTy, D.ty] at z
        | int b =>
          right
          intro d hd
          obtain ⟨p, hp, rfl⟩ := List.mem_map.mp hd
          have z := hh _ (mem2 p hp)
          cases e : p.2 with
          | int _ => simp only [D.py]; exact ⟨fun z => (by cases z), fun _ z => (by cases z)⟩
          | _ => rw [e] at z; simp [D.hasTy, D.ty] at z
        | str b =>
          right
          intro d hd
          obtain ⟨p, hp, rfl⟩ := List.mem_map.mp hd
          have z := hh _ (mem2 p hp)
          cases e : p.2 with
          | str _ => simp only [D.py]; exact ⟨fun z => (by cases z), fun _ z => (by cases z)⟩
          | _ => rw [e] at z; simp [D.hasTy, D.ty] at z
        | lst xs =>
          right
          intro d hd
          obtain ⟨p, hp, rfl⟩ := List.mem_map.mp hd
          have z := hh _ (mem2 p hp)
          cases e : p.2 with
          | lst _ => simp only [D.py]; exact ⟨fun z => (by cases z), fun _ z => (by cases z)⟩
          | _ => rw [e] at z; cases xs <;> simp [D.hasTy, D.ty] at z
        | _ => have z := hh _ (List.mem_cons_self ..); simp [D.hasTy, D.ty] at z
    have er : PySem.W.EachIs (fun (u : Value) (p : V × D) => ∃ as, Reads s.heap u p.2.py as) its (ys.zip ds) := by
      refine (PySem.W.each_mem ea).mono fun u p ⟨⟨q1, q2⟩, hp⟩ => ?_
      exact Dp.reads I _ _ _ (q2.dp ex (ok2 p hp)) q1
    have leq : ∀ p ∈ ys.zip ds, ∀ q ∈ ys.zip ds, D.le p.2 q.2 = PySem.W.dataLe false (fun (p : V × D) => p.2.py) p q := fun p hp q hq => by
      rw [PySem.W.dataLe_eq]
      show D.le p.2 q.2 = !PySem.W.dataLt q.2.py p.2.py
      unfold D.le
      rw [lt_py q.2 p.2 (ok2 q hq) (ok2 p hp) (ty_alike _ _ t (allTy_mem ht _ (mem2 q hq)) (allTy_mem ht _ (mem2 p hp)))]
    -- the insertion sort is the merge sort
    have esort : (ys.zip ds).mergeSort (PySem.W.dataLe false fun (p : V × D) => p.2.py) = isort (fun (p q : V × D) => D.le p.2 q.2) (ys.zip ds) := by
      have T := PySem.W.sortLe_total (listOrd itemOrd) false fun (p : V × D) => PySem.W.keyToks p.2.py
      rw [← isort_merge (le := PySem.W.dataLe false fun (p : V × D) => p.2.py) T]
      have gen : ∀ (l : List (V × D)), (∀ p ∈ l, p ∈ ys.zip ds) → isort (PySem.W.dataLe false fun (p : V × D) => p.2.py) l = isort (fun (p q : V × D) => D.le p.2 q.2) l := by
        intro l
        induction l with
        | nil => intro _; rfl
        | cons x l ih =>
          intro hm
          have gi : ∀ (m : List (V × D)), (∀ p ∈ m, p ∈ ys.zip ds) → ins (PySem.W.dataLe false fun (p : V × D) => p.2.py) x m = ins (fun (p q : V × D) => D.le p.2 q.2) x m := by
            intro m
            induction m with
            | nil => intro _; rfl
            | cons y m ih2 =>
              intro hm2
              unfold ins
              rw [← leq x (hm x (by simp)) y (hm2 y (by simp)), ih2 fun p hp => hm2 p (List.mem_cons_of_mem _ hp)]
          show ins _ x (isort _ l) = ins _ x (isort _ l)
          rw [ih fun p hp => hm p (List.mem_cons_of_mem _ hp)]
          exact gi _ fun p hp => hm p (List.mem_cons_of_mem _ ((isort_perm l).mem_iff.mp hp))
      exact gen _ fun _ h => h
    refine sorted_seq (R := fun (u : Value) (p : V × D) => RelV p.1 u ∧ Rp (c3 X) F p.1 p.2) (enc := fun p => p.2.py) (bs := ys.zip ds) hT hob ea er hal hk (by rw [hlen]; exact szl_ok h3') (fun p hp => ?_) fun out hlo ho => ?_
    · have := (py_lay (ok2 p hp)).2
      have := hr.un
      omega
    · rw [esort] at ho
      obtain ⟨o1, o2⟩ := out_each ho
      rw [isort_map, zip_snd hr'] at o2
      obtain ⟨ep, he'⟩ := PyProof.Rows.sortedAll_at s.heap its out.toArray
      have hn : H (s.heap.objs.size + 1) = none := I.hok.fresh (Nat.le_succ _)
      have hz : ((isort (fun (p q : V × D) => D.le p.2 q.2) (ys.zip ds)).map (·.1)).length ≤ sizeLine := by
        rw [List.length_map, isort_length, hlen]
        exact szl_ok h3'
      refine ⟨.ref _, upd H (s.heap.objs.size + 1) (.lst ((isort (fun (p q : V × D) => D.le p.2 q.2) (ys.zip ds)).map (·.1))), I.laid (t' := s.toks) (fun _ _ => PyProof.Rows.sortedAll_old) (Nat.le_succ _) ⟨hz, out, ep, o1, he'⟩, rfl, ?_⟩
      exact k _ _ F (New.mine ex hn) (RepN.newL ex hn o2)
  refine rds_of fun pins s σ F H xs us Q ds b d I r ex hx e k => ?_
  unfold dSorted at e
  split at e
  · rename_i ds0
    split at e
    · rename_i ho
      cases e
      obtain ⟨x, rfl, h1⟩ := hx.one
      obtain ⟨a, ys, rfl, h, hr'⟩ := h1.lst ex
      obtain ⟨z, its, n, rv, he⟩ := Inv.lstR I h
      exact main pins s σ F H a us Q ys ds0 "list" I r ex hr' (.inl rfl) ⟨its, rv, _, n, he, rfl, rfl⟩ ho k
    · cases e
  · rename_i ds0
    split at e
    · rename_i ho
      cases e
      obtain ⟨x, rfl, h1⟩ := hx.one
      obtain ⟨a, ys, rfl, h, hr'⟩ := h1.tup ex
      obtain ⟨its, rv, ⟨o, e1, e2, n, e3⟩, hz⟩ := I.tuple h
      exact main pins s σ F H a us Q ys ds0 "tuple" I r ex hr' (.inr rfl) ⟨its, rv, o, n, e1, e2, e3⟩ ho k
    · cases e
  · cases e
end Gr
end
section
/-! Dicts whose keys are tuples: look up, store. -/
namespace Gr
open PySem PySem.Spec PyProof.Rows L2

section
variable {X : Cx} {pins : List (Addr × Obj)} {s : Shared} {σ : Sg} {F H : Hp}
mutual
/-- a thing that may be a key is that key in the heap -/
theorem nk_is (I : Inv X pins σ H s) (ex : Ex F H) : ∀ (d : D) (k : NestedKey) (v : V) (u : Value), d.nk = some k → Rp (c3 X) F v d → RelV v u → NestedIs s.heap k u
  | .int i, k, v, u, e, h, r => by
    cases h
    have e' : NestedKey.num i = k := by simpa [D.nk] using e
    subst e'
    obtain ⟨t, rfl⟩ := r
    exact .int i t
  | .str x, k, v, u, e, h, r => by
    cases h
    have e' : NestedKey.text x = k := by simpa [D.nk] using e
    subst e'
    obtain ⟨t, rfl⟩ := r
    exact .text x t
  | .tup xs, k, v, u, e, h, r => by
    unfold D.nk at e
    cases q : D.nks xs with
    | none => rw [q] at e; cases e
    | some ks =>
      rw [q] at e
      cases e
      cases h with
      | tup hs hr =>
        cases r
        obtain ⟨its, rv, ⟨o, e1, e2, n, e3⟩, _⟩ := I.tuple (Evl.ex_t ex hs)
        exact .tup e1 e2 e3 (by simpa using nks_is I ex xs ks _ its q hr rv)
  | .non, _, _, _, e, _, _ => by simp [D.nk] at e
  | .bl _, _, _, _, e, _, _ => by simp [D.nk] at e
  | .lst _, _, _, _, e, _, _ => by simp [D.nk] at e
  | .dct _, _, _, _, e, _, _ => by simp [D.nk] at e
  | .dci _, _, _, _, e, _, _ => by simp [D.nk] at e
  | .opq _, _, _, _, e, _, _ => by simp [D.nk] at e
  | .exo _, _, _, _, e, _, _ => by simp [D.nk] at e
  | .fnv _, _, _, _, e, _, _ => by simp [D.nk] at e
theorem nks_is (I : Inv X pins σ H s) (ex : Ex F H) : ∀ (ds : List D) (ks : List NestedKey) (vs : List V) (us : List Value), D.nks ds = some ks → RpL (c3 X) F vs ds → Vals vs us → NestedAll s.heap ks us
  | [], ks, vs, us, e, h, r => by
    unfold D.nks at e
    cases e
    cases h
    cases r
    exact .nil
  | d :: ds, ks, vs, us, e, h, r => by
    unfold D.nks at e
    cases q1 : d.nk with
    | none => rw [q1] at e; cases e
    | some k =>
      cases q2 : D.nks ds with
      | none => rw [q1, q2] at e; cases e
      | some ks' =>
        rw [q1, q2] at e
        cases e
        cases h with
        | cons h1 h2 =>
          cases r with
          | cons r1 r2 => exact .cons (nk_is I ex d k _ _ q1 h1 r1) (nks_is I ex ds ks' _ _ q2 h2 r2)
end
end

/-! ### a dict as its keys and things -/
def lookK (k : NestedKey) : List (D × D) → Option D
  | [] => none
  | (kd, d) :: r => match kd.nk with
    | some k' => if NestedKey.beq k' k then some d else lookK k r
    | none => lookK k r
/-- the thing at a key is another one now -/
def swapK (k : NestedKey) (d : D) : List (D × D) → List (D × D)
  | [] => []
  | (kd, d') :: r => (match kd.nk with
    | some k' => if NestedKey.beq k' k then (kd, d) else (kd, d')
    | none => (kd, d')) :: swapK k d r
def putK (kd : D) (k : NestedKey) (d : D) (kvs : List (D × D)) : List (D × D) := match lookK k kvs with
  | some _ => swapK k d kvs
  | none => kvs ++ [(kd, d)]
/-- the entries of the heap's dict -/
abbrev PrX : Ent → NestedKey × Addr × Value → Prop := fun p q => p.1 = q.1 ∧ p.2.1 = q.2.1 ∧ RelV p.2.2 q.2.2
theorem beq_iff {a b : NestedKey} : NestedKey.beq a b = true ↔ a = b := ⟨NestedKey.eq_of_beq a b, fun h => h ▸ NestedKey.beq_self a⟩
theorem lookK_ok {Z : C3} {F : Hp} {k : NestedKey} : ∀ {es : List Ent} {xs : List (NestedKey × Addr × Value)} {kvs : List (D × D)}, RpK Z F es kvs → Paired PrX es xs →
    (lookK k kvs = none ∧ atKey xs k = none) ∨ ∃ d v a u, lookK k kvs = some d ∧ atKey xs k = some (a, u) ∧ RelV v u ∧ Rp Z F v d
  | _, _, _, .nil, .nil => .inl ⟨rfl, rfl⟩
  | _, _, _, .cons (k := k1) (a := a) (v := v) (kd := kd) (d := d) (kvs := kvs) e _ _ h r, .cons (b := x) (l₂ := xs) ⟨p1, p2, p3⟩ t => by
    have p1' : k1 = x.1 := p1
    unfold lookK
    rw [e]
    by_cases q : NestedKey.beq k1 k = true
    · right
      have ek := beq_iff.mp q
      refine ⟨d, v, x.2.1, x.2.2, by simp [q], ?_, p3, h⟩
      unfold atKey
      rw [List.find?_cons_of_pos (by rw [← p1', ek]; simp)]
      rfl
    · have nk : ¬ (x.1 = k) := fun z => q (beq_iff.mpr (by rw [p1', z]))
      have ea : atKey (x :: xs) k = atKey xs k := by
        unfold atKey
        rw [List.find?_cons_of_neg (by simpa using nk)]
      have el : (match (some k1 : Option NestedKey) with
        | some k' => if NestedKey.beq k' k then some d else lookK k kvs
        | none => lookK k kvs) = lookK k kvs := by simp [q]
      rw [ea, el]
      exact lookK_ok r t
section
variable {X : Cx} {pins : List (Addr × Obj)} {s : Shared} {σ : Sg} {F H : Hp} {a : Addr} {o : Obj} {es : List Ent} {kvs : List (D × D)}
theorem is_keys (I : Inv X pins σ H s) (ex : Ex F H) : ∀ {es : List Ent} {xs : List (NestedKey × Addr × Value)} {kvs : List (D × D)}, RpK (c3 X) F es kvs → Paired PrX es xs → ∀ x ∈ xs, (nestedKind X.prog X.w).is s.heap x.1 x.2.1
  | _, _, _, .nil, .nil, x, h => nomatch h
  | _, _, _, .cons e dp hk _ r, .cons ⟨p1, p2, _⟩ t, x, h => by
    rcases List.mem_cons.mp h with rfl | h
    · refine ⟨?_, by rw [← p1]; exact dp⟩
      rw [← p1, ← p2]
      exact nk_is I ex _ _ _ _ e hk rfl
    · exact is_keys I ex r t x h
theorem DObj.at (I : Inv X pins σ H s) (ex : Ex F H) (ha : H a = some (.ext (IsO a o))) (x : DObj (c3 X) a o es) (r : RpK (c3 X) F es kvs) : ∃ xs, s.heap.DictOfH (nestedKind X.prog X.w) a xs ∧ Paired PrX es xs := by
  obtain ⟨xs, hp, ds, ep, hx, hd, he⟩ := x.ob
  refine ⟨xs, ⟨o, ds, ep, Inv.isO I ha, hx, hd, he, is_keys I ex r hp, ?_⟩, hp⟩
  have e : xs.map (·.1) = es.map (·.1) := by
    have gen : ∀ {l1 : List Ent} {l2 : List (NestedKey × Addr × Value)}, Paired PrX l1 l2 → l2.map (·.1) = l1.map (·.1) := by
      intro l1 l2 h
      induction h with
      | nil => rfl
      | cons r t ih => rw [List.map_cons, List.map_cons, ih, r.1]
    exact gen hp
  rw [e]
  exact x.nd
/-- a dict that can be read -/
theorem Vw.dct {v : V} (ex : Ex F H) (h : Vw (c3 X) F H v (.dct kvs)) : ∃ a o es, v = .ref a ∧ H a = some (.ext (IsO a o)) ∧ DObj (c3 X) a o es ∧ RpK (c3 X) F es kvs := by
  rcases h with h | ⟨a, e, o, es, h, x, r⟩
  · cases h with
    | dct ho x hr => exact ⟨_, _, _, rfl, ex _ _ ho, x, hr⟩
  · exact ⟨a, o, es, e, h, x, r⟩
end

/-! ### d[k], k in d -/
def keyOf (d : D) : Option NestedKey := match d with
  | .tup xs => (match d.nk with
    | some k => if k.depth ≤ 8 then some k else none
    | none => none)
  | _ => none
theorem keyOf_ok {d : D} {k : NestedKey} (h : keyOf d = some k) : d.nk = some k ∧ k.depth ≤ 8 ∧ ∃ xs, d = .tup xs := by
  cases d with
  | tup xs =>
    unfold keyOf at h
    simp only at h
    cases q : (D.tup xs).nk with
    | none => rw [q] at h; cases h
    | some k' =>
      rw [q] at h
      simp only at h
      by_cases z : k'.depth ≤ 8
      · rw [if_pos z] at h
        cases h
        exact ⟨rfl, z, xs, rfl⟩
      · rw [if_neg z] at h
        cases h
  | _ => cases h
section
variable {X : Cx} {k : Nat} {pins : List (Addr × Obj)} {s : Shared} {σ : Sg} {F H : Hp}
theorem key_at (I : Inv X pins σ H s) (ex : Ex F H) {y : V} {u : Value} {kd : D} {k : NestedKey} (hk : keyOf kd = some k) (hy : Vw (c3 X) F H y kd) (ry : RelV y u) : ∃ b, y = .ref b ∧ u = .ref b ∧ (nestedKind X.prog X.w).is s.heap k b ∧ Rp (c3 X) F (.ref b) kd := by
  obtain ⟨e1, e2, xs, rfl⟩ := keyOf_ok hk
  have h := hy.tupR
  obtain ⟨b, ys, rfl, _, _⟩ := hy.tup ex
  cases ry
  exact ⟨b, rfl, rfl, ⟨nk_is I ex _ k _ _ e1 h rfl, e2⟩, h⟩
theorem room8 (hr : Room k X.A) : (nestedKind X.prog X.w).room X.A.in1 := by
  have := hr.un
  show X.A.units + 1 + 8 < cLine
  omega
theorem getItem_dct (hr : Room k X.A) {x y : V} {v u : Value} {Q : VK} {kvs : List (D × D)} {kd d : D} {kk : NestedKey} (I : Inv X pins σ H s) (ex : Ex F H) (rx : RelV x v) (ry : RelV y u) (hx : Vw (c3 X) F H x (.dct kvs)) (hy : Vw (c3 X) F H y kd) (hk : keyOf kd = some kk) (hl : lookK kk kvs = some d)
    (q : ∀ z, Rp (c3 X) F z d → Q z H) : s.TypeIs v "dict" ∧ wpAny (model X.prog X.w) X.A (getItem v u) (EP X pins σ Q) X.xe s := by
  obtain ⟨a, o, es, rfl, ha, dx, rk⟩ := hx.dct ex
  cases rx
  obtain ⟨b, rfl, rfl, hb, _⟩ := key_at I ex hk hy ry
  obtain ⟨xs, hm, hp⟩ := dx.at I ex ha rk
  refine ⟨hm.typeIs, ?_⟩
  rcases lookK_ok (k := kk) rk hp with ⟨e, _⟩ | ⟨d', z, c, w, e1, e2, e3, e4⟩
  · rw [hl] at e; cases e
  · rw [hl] at e1
    cases e1
    exact wpAny_getItem_heap (room8 hr) hb hm e2 ⟨z, H, I.tok _, e3, q z e4⟩
end
end Gr
end
section
/-! Subscripts, slices, chains, module names. -/
namespace Gr
open PySem PySem.Spec PyProof.Rows L2

/-! ### index -/
def dIx : F2
  | .lst ds, .int i => (atI ds i).map fun d => (false, d)
  | .tup ds, .int i => (atI ds i).map fun d => (false, d)
  | .str x, .int i => if x.length ≤ szl then (atI x.cps.toList i).map fun c => (false, .str ⟨#[c]⟩) else none
  | .dct kvs, kd => (match keyOf kd with
    | some k => (lookK k kvs).map fun d => (false, d)
    | none => none)
  | _, _ => none
theorem RpL.atI {Z : C3} {F : Hp} {vs : List V} {ds : List D} {i : Int} {d : D} (r : RpL Z F vs ds) (h : L2.atI ds i = some d) : ∃ v, L2.atI vs i = some v ∧ Rp Z F v d := by
  unfold L2.atI at h ⊢
  rw [r.length]
  cases e : ixN ds.length i with
  | none => rw [e] at h; cases h
  | some j =>
    rw [e] at h
    exact r.getD h
section
variable {X : Cx}
theorem xd_ix {k : Nat} (hr : Room k X.A) : IxR X (RD (c3 X) dIx) := fun value slice pins s σ H x y v u Q I rx ry ⟨F, da, db, b, d, ex, hx, hy, e, k⟩ hs => by
  unfold dIx at e
  split at e
  · rename_i ds i
    cases h : L2.atI ds i with
    | none => rw [h] at e; cases e
    | some d' =>
      rw [h] at e
      cases e
      obtain ⟨a, xs, rfl, ha, ra⟩ := hx.lst ex
      rw [hy.int] at ry
      obtain ⟨z, hz, rz⟩ := ra.atI h
      exact ix_list value slice pins s σ H _ _ v u Q I rx ry ⟨a, xs, i, z, rfl, rfl, ha.sq, hz, k _ H F (.refl ex) rz⟩ hs
  · rename_i ds i
    cases h : L2.atI ds i with
    | none => rw [h] at e; cases e
    | some d' =>
      rw [h] at e
      cases e
      obtain ⟨a, xs, rfl, ha, ra⟩ := hx.tup ex
      rw [hy.int] at ry
      obtain ⟨z, hz, rz⟩ := ra.atI h
      exact ix_tup value slice pins s σ H _ _ v u Q I rx ry ⟨a, xs, i, z, rfl, rfl, ha, hz, k _ H F (.refl ex) rz⟩ hs
  · split at e
    · rename_i z i hl
      cases h : L2.atI z.cps.toList i with
      | none => rw [h] at e; cases e
      | some c =>
        rw [h] at e
        cases e
        rw [hx.str] at rx
        rw [hy.int] at ry
        exact ix_str value slice pins s σ H _ _ v u Q I rx ry ⟨z, i, c, rfl, rfl, szl_ok hl, h, k _ H F (.refl ex) (.str _)⟩ hs
    · cases e
  · rename_i kvs
    cases hk : keyOf db with
    | none => rw [hk] at e; cases e
    | some kk =>
      rw [hk] at e
      simp only at e
      cases hl : lookK kk kvs with
      | none => rw [hl] at e; cases e
      | some d' =>
        rw [hl] at e
        cases e
        obtain ⟨ty, w⟩ := getItem_dct hr I ex rx ry hx hy hk hl fun z rz => k z H F (.refl ex) rz
        exact tail_any ty slot_dict_getitem.lookup w hs
  · cases e
theorem em_ix {W : WX} {k : Nat} (hr : Room k X.A) {a b : Expr} {pos : Pos} {ma mb : M} (ha : EM X W a ma) (hb : EM X W b mb) (hs : PlainIx b := by exact fun _ _ => rfl) : EM X W (.Subscript a b pos) (m2 dIx ma mb) :=
  ⟨pe_mono (pe_ix (xd_ix hr) ha.pe hb.pe hs) fun σ H Q q => t_m2 q⟩
end

/-! ### slices -/
abbrev PTm := Option M
/-- a part of a slice -/
structure OM (X : Cx) (W : WX) (e : Option Expr) (m : Option M) : Prop where
  po : match m with
    | none => PO X e tNoPart
    | some m => ∃ e', e = some e' ∧ PE X e' (tE (c3 X) W m)
def cutD (xs : List D) (lo hi : Option Int) : List D := (xs.drop (HT.sIx xs.length 0 lo)).take (HT.sIx xs.length xs.length hi - HT.sIx xs.length 0 lo)
theorem RpL.cut {Z : C3} {F : Hp} {vs : List V} {ds : List D} (r : RpL Z F vs ds) (lo hi : Option Int) : RpL Z F (cutV vs lo hi) (cutD ds lo hi) := by
  unfold cutV cutD
  rw [r.length]
  exact (r.drop _).take _
def dSl : D → Option Int → Option Int → Option (Bool × D)
  | .lst ds, lo, hi => some (true, .lst (cutD ds lo hi))
  | .tup ds, lo, hi => some (false, .tup (cutD ds lo hi))
  | .str x, lo, hi => if x.length ≤ szl then some (false, .str (cutS x lo hi)) else none
  | _, _, _ => none
def RSl (Z : C3) : V → Option Int → Option Int → Hp → VK → Prop := fun x lo hi H Q => ∃ F da b d, Ex F H ∧ Vw Z F H x da ∧ dSl da lo hi = some (b, d) ∧ ∀ v H' F', New F H F' H' → RepN Z H F' H' v b d → Q v H'
theorem cut_all {xs : List D} {lo hi : Option Int} (h : HT.sIx xs.length 0 lo = 0 ∧ HT.sIx xs.length xs.length hi = xs.length) : cutD xs lo hi = xs := by
  unfold cutD
  rw [h.1, h.2]
  simp
section
variable {X : Cx} {W : WX}
theorem sd_sl : SlR X (RSl (c3 X)) := fun pins s σ H x v vl vu lo hi sl Q I rx hs pl pu ⟨F, da, b, d, ex, hx, e, k⟩ => by
  unfold dSl at e
  split at e
  · cases e
    obtain ⟨a, xs, rfl, ha, ra⟩ := hx.lst ex
    exact sl_list pins s σ H _ v vl vu lo hi sl Q I rx hs pl pu ⟨a, xs, rfl, ha.sq, fun p hp => k _ _ _ (New.mine ex hp) (RepN.newL ex hp (ra.cut lo hi))⟩
  · rename_i ds
    cases e
    have hr := hx.tupR
    obtain ⟨a, xs, rfl, ha, ra⟩ := hx.tup ex
    refine sl_tupA pins s σ H _ v vl vu lo hi sl Q I rx hs pl pu ⟨a, xs, rfl, ha, fun hw => ?_, fun hw p hp => k _ _ _ (New.froz ex hp) (RepN.newT ex hp (ra.cut lo hi))⟩
    rw [ra.length] at hw
    rw [cut_all hw] at k
    exact k _ H F (.refl ex) hr
  · split at e
    · rename_i z hz
      cases e
      rw [hx.str] at rx
      exact sl_str pins s σ H _ v vl vu lo hi sl Q I rx hs pl pu ⟨z, rfl, szl_ok hz, k _ H F (.refl ex) (.str _)⟩
    · cases e
  · cases e
end
/-- a part that is an int -/
def mPart (m : Option M) (env : En) (k : Option Int → En → ER) : ER := match m with
  | none => k none env
  | some m => (m env).and fun r e => match r.see e with
    | some (.int i) => k (some i) e
    | _ => .stuck
def mSl (ma : M) (lo hi : Option M) : M := fun env => (ma env).and fun r e => mPart lo e fun l e1 => mPart hi e1 fun u e2 => match r.see e2 with
  | some d => outR (dSl d l u) e2
  | none => .stuck
section
variable {X : Cx} {W : WX} {a : Expr} {lo hi : Option Expr} {pos p2 : Pos} {ma : M} {ml mh : Option M}
def tPt (Z : C3) (W : WX) : Option M → TO
  | none => tNoPart
  | some m => tPart (tE Z W m)
theorem om_none : OM X W none none := ⟨po_none⟩
theorem om_some {e : Expr} {m : M} (h : EM X W e m) : OM X W (some e) (some m) := ⟨⟨e, rfl, h.pe⟩⟩
theorem OM.t (h : OM X W lo ml) : PO X lo (tPt (c3 X) W ml) := by
  obtain ⟨h⟩ := h
  cases ml with
  | none => exact h
  | some m =>
    obtain ⟨e', rfl, h⟩ := h
    exact po_some h
theorem t_part {Z : C3} {σ : Sg} {H : Hp} {Q : VK} {env eb : En} {F Fb Hb : Hp} {m : Option M} {k : Option Int → En → ER} {Q' : Option Int → Hp → Prop} (gb : Go Fb Hb σ eb F H σ env) (S : RepS Z F H σ env) (h : Wi Z W σ Q Fb Hb eb (mPart m env k))
    (n : ∀ i env' H' F', Go F H σ env F' H' σ env' → Go Fb Hb σ eb F' H' σ env' → RepS Z F' H' σ env' → Wi Z W σ Q Fb Hb eb (k i env') → Q' i H') : tPt Z W m σ H Q' := by
  cases m with
  | none => exact n none env H F .refl gb S h
  | some m =>
    unfold mPart at h
    refine tE_and gb S h fun r e1 v H1 F1 q1 g1 gb1 S1 r1 f1 w1 => ?_
    cases es : r.see e1 with
    | none => rw [es] at w1; exact w1.elim
    | some d =>
      cases d with
      | int i =>
        rw [es] at w1
        exact ⟨i, (r1.see S1 es).int, n (some i) e1 H1 F1 g1 gb1 S1 w1⟩
      | _ => rw [es] at w1; exact w1.elim
theorem em_sl (ha : EM X W a ma) (hl : OM X W lo ml) (hh : OM X W hi mh) : EM X W (.Subscript a (.Slice lo hi none p2) pos) (mSl ma ml mh) :=
  ⟨pe_mono (pe_slice sd_sl ha.pe hl.t hh.t) fun σ H Q q => by
    obtain ⟨env, F, S, q⟩ := q
    refine tE_and .refl S q fun r e1 v H1 F1 q1 g1 gb1 S1 r1 f1 w1 => ?_
    refine t_part gb1 S1 w1 fun l e2 H2 F2 g2 gb2 S2 w2 => ?_
    refine t_part gb2 S2 w2 fun u e3 H3 F3 g3 gb3 S3 w3 => ?_
    cases es : r.see e3 with
    | none => rw [es] at w3; exact w3.elim
    | some d =>
      rw [es] at w3
      cases ed : dSl d l u with
      | none => simp only [ed] at w3; exact w3.elim
      | some bd =>
        obtain ⟨b, d'⟩ := bd
        exact ⟨F3, d, b, d', S3.ex, RepR.see S3 ((r1.after g2).after g3) es, ed, fun v H' F' n r => Wi.out gb3 w3 ed S3 n r⟩⟩
end

/-! ### chains -/
def mCh (f g : F2) (ma mb mc : M) : M := fun env => (ma env).and fun ra e1 => (mb e1).and fun rb e2 => match ra.see e2, rb.see e2 with
  | some da, some db => (match f da db with
    | some (false, .bl true) => (mc e2).and fun rc e3 => (match rb.see e3, rc.see e3 with
      | some db', some dc => (match g db' dc with
        | some (false, .bl b) => .ok (.fro (.bl b)) e3
        | _ => .stuck)
      | _, _ => .stuck)
    | some (false, .bl false) => .ok (.fro (.bl false)) e2
    | _ => .stuck)
  | _, _ => .stuck
section
variable {X : Cx} {W : WX} {a b c : Expr} {pos : Pos} {ma mb mc : M} {op op' : CmpOp} {f g : F2}
theorem t_ch {Z : C3} {σ : Sg} {H : Hp} {Q : VK} (q : tE Z W (mCh f g ma mb mc) σ H Q) : tChain (RD Z f) (RD Z g) (tE Z W ma) (tE Z W mb) (tE Z W mc) σ H Q := by
  obtain ⟨env, F, S, q⟩ := q
  refine tE_and .refl S q fun ra e1 va H1 F1 q1 g1 gb1 S1 r1 f1 w1 => ?_
  refine tE_and gb1 S1 w1 fun rb e2 vb H2 F2 q2 g2 gb2 S2 r2 f2 w2 => ?_
  have r1' := r1.after g2
  cases ea : ra.see e2 with
  | none => rw [ea] at w2; exact w2.elim
  | some da =>
    cases eb : rb.see e2 with
    | none => rw [ea, eb] at w2; exact w2.elim
    | some db =>
      simp only [ea, eb] at w2
      cases ef : f da db with
      | none => rw [ef] at w2; exact w2.elim
      | some bd =>
        obtain ⟨nb, d⟩ := bd
        cases nb with
        | true => rw [ef] at w2; exact w2.elim
        | false =>
          cases d with
          | bl k =>
            refine ⟨F2, da, db, false, _, S2.ex, r1'.see S2 ea, r2.see S2 eb, ef, fun v H' F' n r => ?_⟩
            have r' : Rp Z F' v (.bl k) := r
            cases r'
            refine ⟨k, rfl, ?_⟩
            have S3 := n.repS S2
            have gb3 := gb2.trans n.go
            cases k with
            | false =>
              rw [if_neg (by simp)]
              rw [ef] at w2
              exact w2 _ H' F' gb3 S3 (.bl false) trivial
            | true =>
              rw [if_pos rfl]
              simp only [ef] at w2
              refine tE_and gb3 S3 w2 fun rc e3 vc H3 F3 q3 g3 gb4 S4 r4 f4 w3 => ?_
              have r2' := (r2.after (n.go)).after g3
              cases eb' : rb.see e3 with
              | none => rw [eb'] at w3; exact w3.elim
              | some db' =>
                cases ec : rc.see e3 with
                | none => rw [eb', ec] at w3; exact w3.elim
                | some dc =>
                  simp only [eb', ec] at w3
                  cases eg : g db' dc with
                  | none => rw [eg] at w3; exact w3.elim
                  | some bd =>
                    obtain ⟨nb, d⟩ := bd
                    cases nb with
                    | true => rw [eg] at w3; exact w3.elim
                    | false =>
                      cases d with
                      | bl k =>
                        rw [eg] at w3
                        refine ⟨F3, db', dc, false, _, S4.ex, r2'.see S4 eb', r4.see S4 ec, eg, fun v H5 F5 n5 r5 => ?_⟩
                        have r5' : Rp Z F5 v (.bl k) := r5
                        exact w3 _ H5 F5 (gb4.trans n5.go) (n5.repS S4) r5' trivial
                      | _ => rw [eg] at w3; exact w3.elim
          | _ => rw [ef] at w2; exact w2.elim
theorem em_ch (ho : OpR X (compareOp op) (RD (c3 X) f)) (ho' : OpR X (compareOp op') (RD (c3 X) g)) (ha : EM X W a ma) (hb : EM X W b mb) (hc : EM X W c mc) (hm : lastMarks [op, op'] [b, c] = false := by with_unfolding_all rfl) :
    EM X W (.Compare a [op, op'] [b, c] pos) (mCh f g ma mb mc) := ⟨pe_mono (pe_chain ho ho' ha.pe hb.pe hc.pe hm) fun σ H Q q => t_ch q⟩
theorem tm_ch (ho : OpR X (compareOp op) (RD (c3 X) f)) (ho' : OpR X (compareOp op') (RD (c3 X) g)) (ha : EM X W a ma) (hb : EM X W b mb) (hc : EM X W c mc) (hm : lastMarks [op, op'] [b, c] = false := by with_unfolding_all rfl) :
    TM X W (.Compare a [op, op'] [b, c] pos) (tmV (mCh f g ma mb mc)) := ⟨pt_mono (pt_chain ho ho' ha.pe hb.pe hc.pe hm) fun σ H Q q => t_ch (W := W) (Q := fun x H' => ∃ k, x = .bl k ∧ Q k H') (t_tmV q)⟩
end

/-! ### module names -/
/-- a module's thing, frozen by K: d at any heap -/
def mGl (d : D) : M := fun env => .ok (.fro d) env
theorem em_gl {X : Cx} {W : WX} {x : Str} {v : V} {u : Value} {d : D} {pos : Pos} (hg : Gl X x) (hm : X.mg x = some u) (r : RelV v u) (hd : ∀ F, Rp (c3 X) F v d) (hdb : (x == ("__debug__" : Str)) = false := by decide) : EM X W (.Name x pos) (mGl d) :=
  ⟨pe_mono (pe_glob hg hm r hdb) fun σ H Q q => by
    obtain ⟨env, F, S, q⟩ := q
    exact q v H F .refl S (hd F) trivial⟩
end Gr
end
section
/-! sum, min, max, all, any. -/
namespace Gr
open PySem PySem.Spec PyProof.Rows L2

/-- a list or a tuple: where it stands -/
theorem Vw.seq {X : Cx} {pins : List (Addr × Obj)} {s : Shared} {σ : Sg} {F H : Hp} {v : V} {ds : List D} (I : Inv X pins σ H s) (ex : Ex F H) (h : Vw (c3 X) F H v (.lst ds) ∨ Vw (c3 X) F H v (.tup ds)) :
    ∃ a ys its, v = .ref a ∧ RpL (c3 X) F ys ds ∧ Vals ys its ∧ (s.heap.IsList a its.toArray ∨ s.heap.IsTuple a its.toArray) := by
  rcases h with h | h
  · obtain ⟨a, ys, rfl, h, hr⟩ := h.lst ex
    obtain ⟨its, rv, hl, _⟩ := I.list h.sq
    exact ⟨a, ys, its, rfl, hr, rv, .inl hl.isList⟩
  · obtain ⟨a, ys, rfl, h, hr⟩ := h.tup ex
    obtain ⟨its, rv, hl, _⟩ := I.tuple h
    exact ⟨a, ys, its, rfl, hr, rv, .inr hl⟩
section
variable {prog : Program} {w : World} {A : Around} {E : Value → Shared → Prop} {s : Shared}
open PySem.W
/-- iter(l) of a list or a tuple -/
theorem iter_seqW {l : Addr} {vs : Array Value} {Q : Value → Shared → Prop} (hh : A.handled = none) (hl : s.heap.IsList l vs ∨ s.heap.IsTuple l vs)
    (h : ∀ s₂ o St, s₂ = { s with heap := s.heap.push o } →
      WalksS prog w A s.heap.objs.size [s.heap.objs.size, l] [s.heap.objs.size] (fun a b => b = a) vs.size (fun i v => vs[i]? = some v) St →
      St 0 s₂ → (∀ b ∈ [s.heap.objs.size, l], b < s₂.heap.objs.size) → (∀ b o, s.heap.get? b = some o → b ∉ [s.heap.objs.size]) → (∀ b o, s.heap.get? b = some o → s₂.heap.get? b = some o) → Q (.ref s.heap.objs.size) s₂) :
    wpAny (model prog w) A (pyIter (.ref l)) Q E s := by
  rcases hl with hl | hl
  · exact iter_listW hh hl fun s₂ e W st f n k => h s₂ _ _ e W st f n k
  · exact iter_tupleW hh hl fun s₂ e W st f n k => h s₂ _ _ e W st f n k
theorem iter_seqV {l : Addr} {vs : Array Value} {Q : Value → Shared → Prop} (hh : A.handled = none) (hl : s.heap.IsList l vs ∨ s.heap.IsTuple l vs)
    (h : ∀ s₂ o St, s₂ = { s with heap := s.heap.push o } →
      Walks prog w A s.heap.objs.size [s.heap.objs.size, l] [s.heap.objs.size] vs.size (fun i v => vs[i]? = some v) St →
      St 0 s₂.heap → (∀ b ∈ [s.heap.objs.size, l], b < s₂.heap.objs.size) → Q (.ref s.heap.objs.size) s₂) :
    wpAny (model prog w) A (pyIter (.ref l)) Q E s := by
  have lt : ∀ o : Obj, l < s.heap.objs.size → ∀ b ∈ [s.heap.objs.size, l], b < (s.heap.push o).objs.size := fun o hlt b hb => by
    rw [Heap.size_push]
    rcases List.mem_cons.mp hb with rfl | hb
    · exact Nat.lt_succ_self _
    · rcases List.mem_cons.mp hb with rfl | hb
      · exact Nat.lt_succ_of_lt hlt
      · cases hb
  rcases hl with hl | hl
  · have hlt : l < s.heap.objs.size := by obtain ⟨_, e, _⟩ := hl; exact Heap.lt_size e
    exact wpAny_pyIter_list hl (h _ _ _ rfl (Walks.list (A := A) hh _ l (Nat.ne_of_lt hlt) vs) ⟨⟨_, Heap.get?_push_size _ rfl, rfl, rfl⟩, hl.push _⟩ (lt _ hlt))
  · have hlt : l < s.heap.objs.size := by obtain ⟨_, e, _⟩ := hl; exact Heap.lt_size e
    exact wpAny_pyIter_tuple hl (h _ _ _ rfl (Walks.tuple (A := A) hh _ l (Nat.ne_of_lt hlt) vs) ⟨⟨_, Heap.get?_push_size _ rfl, rfl, rfl⟩, hl.push _⟩ (lt _ hlt))
end

/-! ### sum, all, any -/
def dSum : FN
  | [.lst ds] => (intsD ds).map fun is => (false, .int is.sum)
  | [.tup ds] => (intsD ds).map fun is => (false, .int is.sum)
  | _ => none
def dAll : FN
  | [.lst ds] => (boolsD ds).map fun is => (false, .bl (is.all id))
  | _ => none
def dAny : FN
  | [.lst ds] => (boolsD ds).map fun is => (false, .bl (is.any id))
  | _ => none
theorem VwL.seq1 {Z : C3} {F H : Hp} {xs : List V} {ds : List D} (h : VwL Z F H xs [.lst ds] ∨ VwL Z F H xs [.tup ds]) : ∃ x, xs = [x] ∧ (Vw Z F H x (.lst ds) ∨ Vw Z F H x (.tup ds)) := by
  rcases h with h | h
  · obtain ⟨x, e, h⟩ := h.one; exact ⟨x, e, .inl h⟩
  · obtain ⟨x, e, h⟩ := h.one; exact ⟨x, e, .inr h⟩
theorem preSum_getD : ∀ (is : List Int) (n : Nat), preSum (fun i => is.getD i 0) n = (is.take n).sum
  | is, 0 => rfl
  | is, n + 1 => by
    show preSum _ n + is.getD n 0 = _
    rw [preSum_getD is n, List.take_add_one, List.sum_append]
    congr 1
    rw [List.getD_eq_getElem?_getD]
    cases is[n]? <;> simp
section
variable {X : Cx}
theorem cd_sum (hc : X.calm = true) : CallR X (.builtin "sum") (RDs (c3 X) dSum) := by
  have main : ∀ (pins : List (Addr × Obj)) (s : Shared) (σ : Sg) (F H : Hp) (xs : List V) (us : List Value) (Q : VK) (ds : List D) (is : List Int), Inv X pins σ H s → Vals xs us → Ex F H → (VwL (c3 X) F H xs [.lst ds] ∨ VwL (c3 X) F H xs [.tup ds]) → intsD ds = some is →
      (∀ v H' F', New F H F' H' → RepN (c3 X) H F' H' v false (.int is.sum) → Q v H') → wpAny (model X.prog X.w) X.A (call (.builtin "sum") us) (EP X pins σ Q) X.xe s := by
    intro pins s σ F H xs us Q ds is I r ex hx e k
    obtain ⟨x, rfl, h1⟩ := VwL.seq1 hx
    obtain ⟨a, ys, its, rfl, hr, rv, hl⟩ := Vw.seq I ex h1
    rw [Vals.ref1 r]
    have ey := hr.toI e
    subst ey
    refine call_sum_walkG (iter_seqV (I.ok.hd hc) hl fun s₂ o St e2 W st lt => ?_)
    subst e2
    refine ⟨_, _, _, _, _, _, (fun i => is.getD i 0), rfl, W, st, lt, fun i v hv => ?_, fun h' tk t' hk => ?_⟩
    · have hv' : its[i]? = some v := by simpa using hv
      have hn := rv.length
      rw [List.length_map] at hn
      have hi : i < its.length := (List.getElem?_eq_some_iff.mp hv').1
      have hg : (is.map V.int)[i]? = some (V.int (is.getD i 0)) := by
        rw [List.getElem?_map, List.getD_eq_getElem?_getD, List.getElem?_eq_getElem (by omega)]; rfl
      obtain ⟨w, ew, rw'⟩ := rv.get hg
      rw [hv'] at ew
      cases ew
      exact rw'
    · refine ⟨.int is.sum, H, I.kept fun b o eo => hk b o (fun hmem => ?_) (Heap.get?_push_of_some _ eo), ⟨t', ?_⟩, k _ H F (.refl ex) (.int _)⟩
      · rcases List.mem_cons.mp hmem with e1 | hmem
        · exact absurd (e1 ▸ Heap.lt_size eo) (Nat.lt_irrefl _)
        · cases hmem
      · rw [preSum_getD]
        have hn := rv.length
        rw [List.length_map] at hn
        rw [List.take_of_length_le (by rw [List.size_toArray]; omega)]
  refine rds_of fun pins s σ F H xs us Q ds b d I r ex hx e k => ?_
  unfold dSum at e
  split at e
  · rename_i ds
    cases h : intsD ds with
    | none => rw [h] at e; cases e
    | some is => rw [h] at e; cases e; exact main pins s σ F H xs us Q ds is I r ex (.inl hx) h k
  · rename_i ds
    cases h : intsD ds with
    | none => rw [h] at e; cases e
    | some is => rw [h] at e; cases e; exact main pins s σ F H xs us Q ds is I r ex (.inr hx) h k
  · cases e
theorem cd_all (hc : X.calm = true) : CallR X (.builtin "all") (RDs (c3 X) dAll) := rds_of fun pins s σ F H xs us Q ds b d I r ex hx e k => by
  unfold dAll at e
  split at e
  · rename_i ds
    cases h : boolsD ds with
    | none => rw [h] at e; cases e
    | some is =>
      rw [h] at e
      cases e
      obtain ⟨x, rfl, h1⟩ := hx.one
      obtain ⟨a, ys, rfl, h2, hr⟩ := h1.lst ex
      have ey := hr.toB h
      subst ey
      exact cr_all hc pins s σ H _ us Q I r ⟨a, is, rfl, h2.sq, k _ H F (.refl ex) (.bl _)⟩
  · cases e
theorem cd_any (hc : X.calm = true) : CallR X (.builtin "any") (RDs (c3 X) dAny) := rds_of fun pins s σ F H xs us Q ds b d I r ex hx e k => by
  unfold dAny at e
  split at e
  · rename_i ds
    cases h : boolsD ds with
    | none => rw [h] at e; cases e
    | some is =>
      rw [h] at e
      cases e
      obtain ⟨x, rfl, h1⟩ := hx.one
      obtain ⟨a, ys, rfl, h2, hr⟩ := h1.lst ex
      have ey := hr.toB h
      subst ey
      exact cr_any hc pins s σ H _ us Q I r ⟨a, is, rfl, h2.sq, k _ H F (.refl ex) (.bl _)⟩
  · cases e
end

/-! ### min, max -/
def bestD (f : D → D → Bool) (d : D) (ds : List D) : D := ds.foldl (fun a y => if f y a then y else a) d
def ordOk : List D → Bool
  | [] => false
  | d :: ds => okq (.lst (d :: ds)) && D.allTy (d :: ds) d.ty && (match d with
    | .non => false
    | _ => true)
def dMinMax (f : D → D → Bool) (g : Int → Int → Int) : FN
  | [.lst ds] => if ordOk ds then (match ds with
    | d :: ds => some (false, bestD f d ds)
    | [] => none) else none
  | [.tup ds] => if ordOk ds then (match ds with
    | d :: ds => some (false, bestD f d ds)
    | [] => none) else none
  | [.int i, .int j] => some (false, .int (g i j))
  | _ => none
def dMin : FN := dMinMax D.lt fun i j => if j < i then j else i
def dMax : FN := dMinMax (fun a b => D.lt b a) fun i j => if j > i then j else i
theorem RpL.getI {Z : C3} {F : Hp} {ys : List V} {its : List Value} {ds : List D} (hr : RpL Z F ys ds) (rv : Vals ys its) {i : Nat} {v : Value} (h : its[i]? = some v) : ∃ y d, RelV y v ∧ Rp Z F y d ∧ ds[i]? = some d := by
  have hi : i < its.length := (List.getElem?_eq_some_iff.mp h).1
  have hn := rv.length
  have h2 : ys[i]? = some ys[i] := List.getElem?_eq_getElem (by omega)
  obtain ⟨w, ew, rw'⟩ := rv.get h2
  rw [h] at ew
  cases ew
  obtain ⟨d, hd, hp⟩ := hr.get h2
  exact ⟨_, d, rw', hp, hd⟩
section
variable {X : Cx} {k : Nat}
theorem ord_facts {d : D} {ds : List D} (ho : ordOk (d :: ds) = true) : (∀ x ∈ d :: ds, D.okD' 39 x = true) ∧ (∀ x ∈ d :: ds, ∀ y ∈ d :: ds, PySem.W.alike x.py y.py = true) ∧ ∀ x ∈ d :: ds, x.py ≠ .none := by
  unfold ordOk at ho
  rw [Bool.and_eq_true, Bool.and_eq_true] at ho
  obtain ⟨⟨h1, h2⟩, h3⟩ := ho
  have h1' : D.okDs' 39 (d :: ds) = true := by simpa [okq, D.okD'] using h1
  refine ⟨okDs_mem h1', fun x hx y hy => ty_alike _ _ _ (allTy_mem h2 x hx) (allTy_mem h2 y hy), fun x hx => ?_⟩
  have t := allTy_mem h2 x hx
  have nn : ∀ {x : D}, D.okD' 39 x = true → D.hasTy x d.ty = true → x.py ≠ .none := fun {x} o h => by
    cases x <;> first
      | (simp [D.hasTy] at h; done)
      | (simp [D.okD'] at o; done)
      | (simp [D.py]; done)
      | skip
  exact nn (okDs_mem h1' x hx) t
theorem cmp_in (hr : Room k X.A) {op : CmpOp} {f : D → D → Bool} (hf : (op = .Lt ∧ f = D.lt) ∨ (op = .Gt ∧ f = fun a b => D.lt b a)) {pins : List (Addr × Obj)} {s : Shared} {σ : Sg} {F H : Hp} {ys : List V} {its : List Value} {d : D} {ds : List D} (I : Inv X pins σ H s) (ex : Ex F H) (hl : RpL (c3 X) F ys (d :: ds)) (rv : Vals ys its) (ho : ordOk (d :: ds) = true) :
    PySem.CmpIn X.prog X.w X.A.in1 op s.heap (fun i v => its.toArray[i]? = some v) (fun i j => f ((d :: ds).getD i .non) ((d :: ds).getD j .non)) := by
  obtain ⟨o1, o2, o3⟩ := ord_facts ho
  intro i j vi vj s' Q E hk hi hj hq
  obtain ⟨y1, d1, r1, p1, g1⟩ := hl.getI rv (show its[i]? = some vi by simpa using hi)
  obtain ⟨y2, d2, r2, p2, g2⟩ := hl.getI rv (show its[j]? = some vj by simpa using hj)
  have m1 := List.mem_of_getElem? g1
  have m2 := List.mem_of_getElem? g2
  have e1 : (d :: ds).getD i .non = d1 := by rw [List.getD_eq_getElem?_getD, g1]; rfl
  have e2 : (d :: ds).getD j .non = d2 := by rw [List.getD_eq_getElem?_getD, g2]; rfl
  have hq : Q (.bool (f ((d :: ds).getD i .non) ((d :: ds).getD j .non))) s' := hq
  rw [e1, e2] at hq
  obtain ⟨a1, q1⟩ := Dp.reads I _ _ _ (p1.dp ex (o1 d1 m1)) r1
  obtain ⟨a2, q2⟩ := Dp.reads I _ _ _ (p2.dp ex (o1 d2 m2)) r2
  have k1 := (py_lay (o1 d1 m1)).2
  have k2 := (py_lay (o1 d2 m2)).2
  have hu := hr.un
  rcases hf with ⟨rfl, rfl⟩ | ⟨rfl, rfl⟩
  · rw [lt_py d1 d2 (o1 d1 m1) (o1 d2 m2) (o2 d1 m1 d2 m2)] at hq
    refine PySem.W.rcLt_alike _ _ X.A.in1 s' vi vj _ _ (PySem.W.reads_keeps hk q1) (PySem.W.reads_keeps hk q2) (o2 d1 m1 d2 m2) (o3 d1 m1) ?_ _ _ E Q hq
    have := Nat.min_le_left d1.py.depth d2.py.depth
    show X.A.units + 1 + _ < _
    omega
  · have hq' : Q (.bool (D.lt d2 d1)) s' := hq
    rw [lt_py d2 d1 (o1 d2 m2) (o1 d1 m1) (o2 d2 m2 d1 m1)] at hq'
    refine PySem.W.rcGt_alike _ _ X.A.in1 s' vi vj _ _ (PySem.W.reads_keeps hk q1) (PySem.W.reads_keeps hk q2) (o2 d1 m1 d2 m2) (o3 d1 m1) ?_ _ _ E Q hq'
    have := Nat.min_le_left d1.py.depth d2.py.depth
    show X.A.units + 1 + _ < _
    omega
theorem best_at {ys : List V} {its : List Value} {d : D} {ds : List D} {Z : C3} {F : Hp} {f : D → D → Bool} (hl : RpL Z F ys (d :: ds)) (rv : Vals ys its) {v : Value} (h : its.toArray[argBest (fun i j => f ((d :: ds).getD i .non) ((d :: ds).getD j .non)) (its.toArray.size - 1)]? = some v) :
    ∃ y, RelV y v ∧ Rp Z F y (bestD f d ds) := by
  have h0 : its[argBest (fun i j => f ((d :: ds).getD i .non) ((d :: ds).getD j .non)) (its.length - 1)]? = some v := by
    rw [List.getElem?_toArray, List.size_toArray] at h
    exact h
  obtain ⟨y, d1, r1, p1, g1⟩ := hl.getI rv h0
  have hn := rv.length
  have hn2 := hl.length
  have e1 : its.toArray.size - 1 = ds.length := by
    rw [List.size_toArray]
    simp at hn2
    omega
  have e2 := (PySem.W.argBest_fold f D.non d ds ds.length (Nat.le_refl _)).2
  rw [List.take_length] at e2
  have e1' : its.length - 1 = ds.length := by
    simp at hn2
    omega
  rw [e1'] at g1
  rw [List.getD_eq_getElem?_getD, g1] at e2
  refine ⟨y, r1, ?_⟩
  have e3 : d1 = bestD f d ds := e2
  rw [← e3]
  exact p1
theorem cd_min (hc : X.calm = true) (hr : Room k X.A) : CallR X (.builtin "min") (RDs (c3 X) dMin) := by
  have main : ∀ (pins : List (Addr × Obj)) (s : Shared) (σ : Sg) (F H : Hp) (xs : List V) (us : List Value) (Q : VK) (d : D) (ds : List D), Inv X pins σ H s → Vals xs us → Ex F H → (VwL (c3 X) F H xs [.lst (d :: ds)] ∨ VwL (c3 X) F H xs [.tup (d :: ds)]) → ordOk (d :: ds) = true →
      (∀ v H' F', New F H F' H' → RepN (c3 X) H F' H' v false (bestD D.lt d ds) → Q v H') → wpAny (model X.prog X.w) X.A (call (.builtin "min") us) (EP X pins σ Q) X.xe s := by
    intro pins s σ F H xs us Q d ds I r ex hx ho k
    obtain ⟨x, rfl, h1⟩ := VwL.seq1 hx
    obtain ⟨a, ys, its, rfl, hr', rv, hl⟩ := Vw.seq I ex h1
    rw [Vals.ref1 r]
    refine PySem.call_min_walkH (iter_seqW (A := X.A.in1) (I.ok.hd hc) hl fun s₂ o St e W st hfp hw hk => ?_)
    refine ⟨_, _, _, _, _, _, _, s.heap, _, rfl, W, st, hfp, ?_, hw, hk, cmp_in hr (.inl ⟨rfl, rfl⟩) I ex hr' rv ho, fun v s' hP m => ?_⟩
    · have := rv.length
      have := hr'.length
      simp at *
      omega
    · obtain ⟨h', tk, rfl, hk'⟩ := PySem.W.moved_old e rfl m
      obtain ⟨y, ry, hy⟩ := best_at hr' rv hP
      exact ⟨y, H, I.kept hk', ry, k _ H F (.refl ex) hy⟩
  refine rds_of fun pins s σ F H xs us Q ds b d I r ex hx e k => ?_
  unfold dMin dMinMax at e
  split at e
  · split at e
    · rename_i ho
      split at e
      · cases e; exact main pins s σ F H xs us Q _ _ I r ex (.inl hx) ho k
      · cases e
    · cases e
  · split at e
    · rename_i ho
      split at e
      · cases e; exact main pins s σ F H xs us Q _ _ I r ex (.inr hx) ho k
      · cases e
    · cases e
  · cases e
    obtain ⟨x, y, rfl, h1, h2⟩ := hx.two
    rw [h1.int, h2.int] at r
    exact call_min2 hc pins s σ H _ us Q I r ⟨_, _, rfl, k _ H F (.refl ex) (.int _)⟩
  · cases e
theorem cd_max (hc : X.calm = true) (hr : Room k X.A) : CallR X (.builtin "max") (RDs (c3 X) dMax) := by
  have main : ∀ (pins : List (Addr × Obj)) (s : Shared) (σ : Sg) (F H : Hp) (xs : List V) (us : List Value) (Q : VK) (d : D) (ds : List D), Inv X pins σ H s → Vals xs us → Ex F H → (VwL (c3 X) F H xs [.lst (d :: ds)] ∨ VwL (c3 X) F H xs [.tup (d :: ds)]) → ordOk (d :: ds) = true →
      (∀ v H' F', New F H F' H' → RepN (c3 X) H F' H' v false (bestD (fun a b => D.lt b a) d ds) → Q v H') → wpAny (model X.prog X.w) X.A (call (.builtin "max") us) (EP X pins σ Q) X.xe s := by
    intro pins s σ F H xs us Q d ds I r ex hx ho k
    obtain ⟨x, rfl, h1⟩ := VwL.seq1 hx
    obtain ⟨a, ys, its, rfl, hr', rv, hl⟩ := Vw.seq I ex h1
    rw [Vals.ref1 r]
    refine PySem.call_max_walkH (iter_seqW (A := X.A.in1) (I.ok.hd hc) hl fun s₂ o St e W st hfp hw hk => ?_)
    refine ⟨_, _, _, _, _, _, _, s.heap, _, rfl, W, st, hfp, ?_, hw, hk, cmp_in hr (.inr ⟨rfl, rfl⟩) I ex hr' rv ho, fun v s' hP m => ?_⟩
    · have := rv.length
      have := hr'.length
      simp at *
      omega
    · obtain ⟨h', tk, rfl, hk'⟩ := PySem.W.moved_old e rfl m
      obtain ⟨y, ry, hy⟩ := best_at (f := fun a b => D.lt b a) hr' rv hP
      exact ⟨y, H, I.kept hk', ry, k _ H F (.refl ex) hy⟩
  refine rds_of fun pins s σ F H xs us Q ds b d I r ex hx e k => ?_
  unfold dMax dMinMax at e
  split at e
  · split at e
    · rename_i ho
      split at e
      · cases e; exact main pins s σ F H xs us Q _ _ I r ex (.inl hx) ho k
      · cases e
    · cases e
  · split at e
    · rename_i ho
      split at e
      · cases e; exact main pins s σ F H xs us Q _ _ I r ex (.inr hx) ho k
      · cases e
    · cases e
  · cases e
    obtain ⟨x, y, rfl, h1, h2⟩ := hx.two
    rw [h1.int, h2.int] at r
    exact call_max2 hc pins s σ H _ us Q I r ⟨_, _, rfl, k _ H F (.refl ex) (.int _)⟩
  · cases e
end
end Gr
end
section
/-! Methods; append, extend, pop. -/
namespace Gr
open PySem PySem.Spec PyProof.Rows L2

/-! ### methods of built-in types, any reason for the type -/
/-- x is of the type T wherever the state is H -/
def TpX (X : Cx) (T : String) (x : V) (H : Hp) : Prop := ∀ (pins : List (Addr × Obj)) (σ : Sg) (s : Shared) (v : Value), Inv X pins σ H s → RelV x v → s.TypeIs v T ∧ ∀ a, v = .ref a → ∃ ob, s.heap.get? a = some ob ∧ ob.dict = none
def tBD (X : Cx) (T : String) (r : V → List V → Hp → VK → Prop) (to : TE) (t : TA) : TE := fun σ H Q => to σ H fun x H1 => TpX X T x H1 ∧ t σ H1 fun xs H2 => r x xs H2 Q
def tBD0 (X : Cx) (T : String) (r : V → List V → Hp → VK → Prop) (to : TE) : TE := fun σ H Q => to σ H fun x H1 => TpX X T x H1 ∧ r x [] H1 Q
section
variable {X : Cx} {o e : Expr} {es : List Expr} {to : TE} {t : TA} {name : Str} {apos cpos : Pos} {T id : String} {r : V → List V → Hp → VK → Prop}
theorem pe_bd (pa : PlainAttrs T) (slot : Slot T name id) (hty : typeOf (.builtin id) = pure (.type "method_descriptor")) (hm : MtR X id r) (ho : PE X o to) (ha : PA X (e :: es) t)
    (hbase : attributeBase o name X.env (eval o X.env) = eval o X.env := by rfl)
    (hfew : ((backTo cpos (starEach (e :: es) X.env)).all (fun x => !x.1) && (backToKw cpos (keywordEach [] X.env)).all (fun x => x.1.isSome)
      && decide ((e :: es).length + ([] : List Keyword).length + (if ([] : List Keyword).isEmpty then 0 else 1) < 30)) = true := by rfl)
    (hline : (apos.endLine == cpos.line) = true := by rfl) (hs : starEach (e :: es) X.env = (false, eval e X.env) :: starEach es X.env := by rfl) (hplain : (backTo cpos (starEach es X.env)).any (·.1) = false := by rfl) :
    PE X (.Call (.Attribute o name apos) (e :: es) [] cpos) (tBD X T r to t) := by
  refine ⟨fun pins s σ H Q I h => ?_⟩
  refine wpAny_Call_method_late hbase hfew hline rfl (thn (ho.run pins s σ H _ I h) fun v s1 ⟨x, H1, I1, r1, ty, q1⟩ => ?_)
  obtain ⟨h1, h2⟩ := ty _ _ _ _ I1 r1
  refine ⟨T, id, pa, slot, hty, h1, h2, ?_⟩
  have hA := ha.run cpos pins s1 σ H1 _ I1 q1
  rw [hs] at hA ⊢
  refine Calls.callWith_builtin (by show (false || (backTo cpos (starEach es X.env)).any (·.1)) = false; rw [hplain] <;> rfl) (Calls.evalArgs_plain ?_)
  exact thn hA fun us s2 ⟨vs, H2, I2, r2, q2⟩ => hm pins s2 σ H2 x vs v us Q I2 r1 r2 q2
theorem pe_bd0 (pa : PlainAttrs T) (slot : Slot T name id) (hty : typeOf (.builtin id) = pure (.type "method_descriptor")) (hm : MtR X id r) (ho : PE X o to)
    (hbase : attributeBase o name X.env (eval o X.env) = eval o X.env := by rfl) (hline : (apos.endLine == cpos.line) = true := by rfl) : PE X (.Call (.Attribute o name apos) [] [] cpos) (tBD0 X T r to) := by
  refine ⟨fun pins s σ H Q I h => ?_⟩
  refine wpAny_Call_method0_late hbase hline (thn (ho.run pins s σ H _ I h) fun v s1 ⟨x, H1, I1, r1, ty, q1⟩ => ?_)
  obtain ⟨h1, h2⟩ := ty _ _ _ _ I1 r1
  exact ⟨T, id, pa, slot, hty, h1, h2, Calls.callWith_builtin rfl (PySem.evalArgs_none (hm pins s1 σ H1 x [] v [] Q I1 r1 .nil q1))⟩
theorem tpx_lst {a : Addr} {xs : List V} {H : Hp} (h : RdL X.K H a xs) : TpX X "list" (.ref a) H := fun pins σ s v I r => tyV_is (T := "list") I r (.inl ⟨rfl, xs, h.sq⟩)
theorem tpx_str {z : Str} {H : Hp} : TpX X "str" (.str z) H := fun pins σ s v I r => tyV_is (T := "str") I r rfl
theorem tpx_dK {a : Addr} {es : List (Key × V)} {H : Hp} (h : H a = some (.dK es)) : TpX X "dict" (.ref a) H := fun pins σ s v I r => tyV_is (T := "dict") I r (.inr (.inr (.inl ⟨rfl, .inl ⟨es, h⟩⟩)))
theorem tpx_ext {a : Addr} {o : Obj} {es : List Ent} {H : Hp} (h : H a = some (.ext (IsO a o))) (x : DObj (c3 X) a o es) : TpX X "dict" (.ref a) H := fun pins σ s v I r => by
  cases r
  have ho : s.heap.get? a = some o := (I.hok a _ h).1
  obtain ⟨xs, _, ds, ep, ed, _, _⟩ := x.ob
  refine ⟨⟨o, ho, ed.1⟩, fun b e => ?_⟩
  cases e
  exact ⟨o, ho, ed.2.1⟩
end

/-! ### the thing of a slot changes -/
theorem mut_slot {Z : C3} {F H : Hp} {σ : Sg} {env : En} {i : Nat} {a : Addr} {s : SV} {d d' : D} {o : HO} (S : RepS Z F H σ env) (he : env[i]? = some s) (hc : s.cont = some d) (hs : σ[i]? = some (some (.ref a))) (ow : Ow Z F (upd H a o) a d') :
    Go F H σ env F (upd H a o) σ (env.modify i fun s => s.put d') ∧ RepS Z F (upd H a o) σ (env.modify i fun s => s.put d') := by
  obtain ⟨a', h1, nF, oa⟩ := S.own i s d he hc
  rw [hs] at h1
  cases h1
  have get : ∀ {j : Nat} {t : SV}, (env.modify i fun s => s.put d')[j]? = some t → (j = i ∧ t = s.put d') ∨ (j ≠ i ∧ env[j]? = some t) := fun {j t} h => by
    rw [List.getElem?_modify] at h
    by_cases q : i = j
    · subst q
      rw [he] at h
      have h' : s.put d' = t := by simpa using h
      exact .inl ⟨rfl, h'.symm⟩
    · cases e0 : env[j]? with
      | none => rw [e0] at h; cases h
      | some u =>
        rw [e0] at h
        have h' : u = t := by simpa [q] using h
        exact .inr ⟨Ne.symm q, by rw [h']⟩
  have old : ∀ {j : Nat} {t : SV} {e : D}, (env.modify i fun s => s.put d')[j]? = some t → t.cont = some e → ∃ t0 e0, env[j]? = some t0 ∧ t0.cont = some e0 := fun {j t e} h c => by
    rcases get h with ⟨rfl, rfl⟩ | ⟨_, h⟩
    · exact ⟨s, d, he, hc⟩
    · exact ⟨t, e, h, c⟩
  have ne : ∀ {j : Nat} {t : SV} {e : D} {b : Addr}, j ≠ i → env[j]? = some t → t.cont = some e → σ[j]? = some (some (V.ref b)) → b ≠ a := fun {j t e b} q g c z w => by
    subst w
    exact q (S.sep j i b t s e d g he c hc z hs)
  refine ⟨⟨Evl.Ex.refl F, fun b u h n => ?_, fun b h => ?_, fun b h => .inl h, fun b ⟨j, t, e, g1, g2, g3⟩ => ?_, fun j e h => ?_⟩, ⟨by rw [List.length_modify]; exact S.len, fun b u h => ?_, fun j e h => ?_, fun j t e h c => ?_, fun j k c t u d1 d2 f1 f2 f3 f4 f5 f6 => ?_⟩⟩
  · rw [upd_ne fun z => n ⟨i, s, d, he, hc, by rw [z]; exact hs⟩]; exact h
  · by_cases q : b = a
    · subst q; rw [upd_same] at h; cases h
    · rw [upd_ne q] at h; exact h
  · obtain ⟨t0, e0, x1, x2⟩ := old g1 g2
    exact .inl ⟨j, t0, e0, x1, x2, g3⟩
  · rcases get h with ⟨rfl, z⟩ | ⟨_, h⟩
    · cases s with
      | bor d0 => exact ⟨⟨d0, he⟩, rfl⟩
      | _ => cases z
    · exact ⟨⟨e, h⟩, rfl⟩
  · rw [upd_ne (ne_of_none h nF)]; exact S.ex b u h
  · rcases get h with ⟨rfl, z⟩ | ⟨_, h⟩
    · cases s with
      | fro d0 => cases hc
      | no => cases hc
      | own d0 => cases z
      | bor d0 => cases z
    · exact S.fro j e h
  · rcases get h with ⟨rfl, rfl⟩ | ⟨q, h⟩
    · rw [put_cont hc] at c
      cases c
      exact ⟨a, hs, nF, ow⟩
    · obtain ⟨b, y1, y2, y3⟩ := S.own j t e h c
      exact ⟨b, y1, y2, y3.mono (Evl.Ex.refl F) fun ob z => by rw [upd_ne (ne q h c y1)]; exact z⟩
  · obtain ⟨t0, e0, x1, x2⟩ := old f1 f3
    obtain ⟨u0, k0, y1, y2⟩ := old f2 f4
    exact S.sep j k c t0 u0 e0 k0 x1 y1 x2 y2 f5 f6

/-! ### mutators by data: the old thing, the arguments; the new thing, the result -/
abbrev FMu := D → List D → Option (D × D)
def RMu (Z : C3) (f : FMu) : V → List V → Hp → VK → Prop := fun x xs H Q => ∃ F a d ds d' r, x = .ref a ∧ Ex F H ∧ F a = none ∧ Ow Z F H a d ∧ VwL Z F H xs ds ∧ f d ds = some (d', r) ∧ ∀ o v, Ow Z F (upd H a o) a d' → Rp Z F v r → Q v (upd H a o)
def mMu (tk : Bool) (T : D → Bool) (f : FMu) (mo : M) (t : MA) : M := fun env => (mo env).and fun r e => match r with
  | .slot i => (match (e[i]?).bind SV.cont with
    | some d0 => if T d0 then (t e).and fun rs e1 => (match (if tk then takes e1 rs else (sees e1 rs).map fun ds => (ds, e1)) with
      | some (ds, e2) => (match (e2[i]?).bind SV.cont with
        | some d => (match f d ds with
          | some (d', r) => .ok (.fro r) (e2.modify i fun s => s.put d')
          | none => .stuck)
        | none => .stuck)
      | none => .stuck) else .stuck
    | none => .stuck)
  | _ => .stuck
theorem RpL.vw {Z : C3} {F H : Hp} : ∀ {vs : List V} {ds : List D}, RpL Z F vs ds → VwL Z F H vs ds
  | _, _, .nil => .nil
  | _, _, .cons h r => .cons (.inl h) r.vw
theorem bind_cont {e : En} {i : Nat} {d : D} (h : (e[i]?).bind SV.cont = some d) : ∃ s, e[i]? = some s ∧ s.cont = some d := by
  cases q : e[i]? with
  | none => rw [q] at h; cases h
  | some s => rw [q] at h; exact ⟨s, rfl, h⟩
def IsTy (X : Cx) (T : String) (p : D → Bool) : Prop := ∀ (F H : Hp) (a : Addr) (d : D), Ow (c3 X) F H a d → p d = true → TpX X T (.ref a) H
section
variable {X : Cx} {W : WX} {o e : Expr} {es : List Expr} {mo : M} {t : MA} {name : Str} {apos cpos : Pos} {T id : String} {f : FMu} {tk : Bool} {p : D → Bool}
theorem t_mu {σ : Sg} {H : Hp} {Q : VK} (ht : IsTy X T p) (q : tE (c3 X) W (mMu tk p f mo t) σ H Q) : tBD X T (RMu (c3 X) f) (tE (c3 X) W mo) (tA (c3 X) W t) σ H Q := by
  obtain ⟨env, F, S, q⟩ := q
  refine tE_and .refl S q fun r e1 v H1 F1 q1 g1 gb1 S1 r1 f1 w1 => ?_
  cases r with
  | fro d => exact w1.elim
  | tmp d => exact w1.elim
  | slot i =>
    simp only at w1
    cases e0 : (e1[i]?).bind SV.cont with
    | none => rw [e0] at w1; exact w1.elim
    | some d0 =>
      simp only [e0] at w1
      by_cases hp : p d0 = true
      · rw [if_pos hp] at w1
        obtain ⟨s0, x1, x2⟩ := bind_cont e0
        obtain ⟨a, y1, y2, y3⟩ := S1.own i s0 d0 x1 x2
        have hv : σ[i]? = some (some v) := r1
        rw [y1] at hv
        cases hv
        refine ⟨ht F1 H1 a d0 y3 hp, ?_⟩
        refine tA_and gb1 S1 w1 fun rs e2 vs H2 F2 q2 g2 gb2 S2 r2 w2 => ?_
        cases et : (if tk then takes e2 rs else (sees e2 rs).map fun ds => (ds, e2)) with
        | none => rw [et] at w2; exact w2.elim
        | some de =>
          obtain ⟨ds, e3⟩ := de
          simp only [et] at w2
          have fin : ∃ F3, Go F H σ env F3 H2 σ e3 ∧ RepS (c3 X) F3 H2 σ e3 ∧ VwL (c3 X) F3 H2 vs ds := by
            cases tk with
            | true =>
              simp only [if_true] at et
              obtain ⟨F3, g3, S3, p3, _⟩ := (r2.back gb1.dom).take gb2 S2 et
              exact ⟨F3, g3, S3, p3.vw⟩
            | false =>
              simp only [Bool.false_eq_true, if_false] at et
              cases es : sees e2 rs with
              | none => rw [es] at et; cases et
              | some ds' =>
                rw [es] at et
                cases et
                exact ⟨F2, gb2, S2, r2.see S2 es⟩
          obtain ⟨F3, g3, S3, p3⟩ := fin
          cases ec : (e3[i]?).bind SV.cont with
          | none => rw [ec] at w2; exact w2.elim
          | some d =>
            simp only [ec] at w2
            obtain ⟨s1, z1, z2⟩ := bind_cont ec
            obtain ⟨a', u1, u2, u3⟩ := S3.own i s1 d z1 z2
            rw [y1] at u1
            cases u1
            cases ef : f d ds with
            | none => rw [ef] at w2; exact w2.elim
            | some dr =>
              obtain ⟨d', r'⟩ := dr
              rw [ef] at w2
              refine ⟨F3, a, d, ds, d', r', rfl, S3.ex, u2, u3, p3, ef, fun ob v ow rp => ?_⟩
              obtain ⟨g4, S4⟩ := mut_slot S3 z1 z2 y1 ow
              exact w2 v _ F3 (g3.trans g4) S4 rp trivial
      · rw [if_neg hp] at w1; exact w1.elim
theorem em_mu (pa : PlainAttrs T) (slot : Slot T name id) (hty : typeOf (.builtin id) = pure (.type "method_descriptor")) (hm : MtR X id (RMu (c3 X) f)) (ht : IsTy X T p) (ho : EM X W o mo) (ha : AM X W (e :: es) t)
    (hbase : attributeBase o name X.env (eval o X.env) = eval o X.env := by rfl)
    (hfew : ((backTo cpos (starEach (e :: es) X.env)).all (fun x => !x.1) && (backToKw cpos (keywordEach [] X.env)).all (fun x => x.1.isSome)
      && decide ((e :: es).length + ([] : List Keyword).length + (if ([] : List Keyword).isEmpty then 0 else 1) < 30)) = true := by rfl)
    (hline : (apos.endLine == cpos.line) = true := by rfl) (hs : starEach (e :: es) X.env = (false, eval e X.env) :: starEach es X.env := by rfl) (hplain : (backTo cpos (starEach es X.env)).any (·.1) = false := by rfl) :
    EM X W (.Call (.Attribute o name apos) (e :: es) [] cpos) (mMu tk p f mo t) := ⟨pe_mono (pe_bd pa slot hty hm ho.pe ha.pa hbase hfew hline hs hplain) fun σ H Q q => t_mu ht q⟩
theorem em_mu0 (pa : PlainAttrs T) (slot : Slot T name id) (hty : typeOf (.builtin id) = pure (.type "method_descriptor")) (hm : MtR X id (RMu (c3 X) f)) (ht : IsTy X T p) (ho : EM X W o mo)
    (hbase : attributeBase o name X.env (eval o X.env) = eval o X.env := by rfl) (hline : (apos.endLine == cpos.line) = true := by rfl) :
    EM X W (.Call (.Attribute o name apos) [] [] cpos) (mMu false p f mo aNil) := ⟨pe_mono (pe_bd0 pa slot hty hm ho.pe hbase hline) fun σ H Q q => by
  have q' := t_mu (T := T) ht q
  -- no arguments: they are there at once
  obtain ⟨env, F, S, q⟩ := q
  refine tE_and .refl S q fun r e1 v H1 F1 q1 g1 gb1 S1 r1 f1 w1 => ?_
  cases r with
  | fro d => exact w1.elim
  | tmp d => exact w1.elim
  | slot i =>
    simp only at w1
    cases e0 : (e1[i]?).bind SV.cont with
    | none => rw [e0] at w1; exact w1.elim
    | some d0 =>
      simp only [e0] at w1
      by_cases hp : p d0 = true
      · rw [if_pos hp] at w1
        obtain ⟨s0, x1, x2⟩ := bind_cont e0
        obtain ⟨a, y1, y2, y3⟩ := S1.own i s0 d0 x1 x2
        have hv : σ[i]? = some (some v) := r1
        rw [y1] at hv
        cases hv
        refine ⟨ht F1 H1 a d0 y3 hp, ?_⟩
        have w2 : Wi (c3 X) W σ Q F H env (match (e1[i]?).bind SV.cont with
          | some d => (match f d [] with
            | some (d', r) => ER.ok (.fro r) (e1.modify i fun s => s.put d')
            | none => .stuck)
          | none => .stuck) := w1
        rw [e0] at w2
        cases ef : f d0 [] with
        | none => simp only [ef] at w2; exact w2.elim
        | some dr =>
          obtain ⟨d', r'⟩ := dr
          simp only [ef] at w2
          refine ⟨F1, a, d0, [], d', r', rfl, S1.ex, y2, y3, .nil, ef, fun ob v ow rp => ?_⟩
          obtain ⟨g4, S4⟩ := mut_slot S1 x1 x2 y1 ow
          exact w2 v _ F1 (gb1.trans g4) S4 rp trivial
      · rw [if_neg hp] at w1; exact w1.elim⟩
end

/-! ### lists -/
def isLst : D → Bool
  | .lst _ => true
  | _ => false
theorem ty_lst {X : Cx} : IsTy X "list" isLst := fun F H a d o h => by
  cases d with
  | lst ds =>
    obtain ⟨xs, h, _⟩ := o
    exact tpx_lst (RdL.of h)
  | _ => cases h
def fApp : FMu
  | .lst ds, [d] => if ds.length < szl then some (.lst (ds ++ [d]), .non) else none
  | _, _ => none
def fExt : FMu
  | .lst ds, [.lst es] => if ds.length + es.length ≤ szl then some (.lst (ds ++ es), .non) else none
  | _, _ => none
def fPop : FMu
  | .lst ds, [] => (match ds[ds.length - 1]? with
    | some d => some (.lst ds.dropLast, d)
    | none => none)
  | _, _ => none
theorem RpL.dropLast {Z : C3} {F : Hp} : ∀ {vs : List V} {ds : List D}, RpL Z F vs ds → RpL Z F vs.dropLast ds.dropLast
  | _, _, .nil => .nil
  | _, _, .cons h .nil => .nil
  | _, _, .cons h (.cons h2 r) => .cons h (RpL.dropLast (.cons h2 r))
theorem Vw.rp {Z : C3} {F H : Hp} {v : V} {d : D} : Vw Z F H v d → Rp Z F v d ∨ ∃ a, v = .ref a ∧ Ow Z F H a d := id
def allRp (Z : C3) (F : Hp) (vs : List V) (ds : List D) : Prop := RpL Z F vs ds
section
variable {X : Cx} {W : WX}
theorem mt_extR : MtR X "list.extend" (fun x vs H Q => ∃ l b xs zs, x = .ref l ∧ vs = [.ref b] ∧ H l = some (.lst xs) ∧ RdL X.K H b zs ∧ xs.length + zs.length ≤ sizeLine ∧ Q .non (upd H l (.lst (xs ++ zs)))) := by
  intro pins s σ H x vs v us Q I rx rv h
  obtain ⟨l, b, xs, zs, rfl, rfl, hH, hB, hz, q⟩ := h
  cases rx
  obtain ⟨u, rfl, ru⟩ := rv.one
  cases ru
  obtain ⟨z, its, n, r, hl, e⟩ := I.lstM hH
  obtain ⟨z2, its2, n2, r2, e2⟩ := Inv.lstR I hB
  have hl2 := r2.length
  have hsz : its.toArray.size + its2.toArray.size ≤ sizeLine := by rw [List.size_toArray, List.size_toArray]; omega
  have hlong : ¬ (!its.toArray.isEmpty && Builtin.List.listTooLong (its.toArray.size + its2.toArray.size)) = true := by
    rw [notLongL hsz, Bool.and_false]
    exact Bool.false_ne_true
  refine call_meets PySem.F.slot_list_extend ⟨_, e, rfl⟩ PySem.F.entry_list_extend (PySem.F.args_list_extend_2 _ _)
    (AutoSeq1.list_extend_list_list_0 l its.toArray n b its2.toArray n2 hlong (by rw [List.size_toArray]; omega) (by first | omega | (rw [List.size_toArray]; omega))) ⟨e, e2, ?_⟩
  refine ⟨.non, _, I.lset (its' := its ++ its2) hH e (by simp) (r.append r2) ?_, rfl, q⟩
  rw [List.length_append]
  omega
/-- appending wants a frozen thing: its argument is taken -/
def RMuT (Z : C3) (f : FMu) : V → List V → Hp → VK → Prop := fun x xs H Q => ∃ F a d ds d' r, x = .ref a ∧ Ex F H ∧ F a = none ∧ Ow Z F H a d ∧ RpL Z F xs ds ∧ f d ds = some (d', r) ∧ ∀ o v, Ow Z F (upd H a o) a d' → Rp Z F v r → Q v (upd H a o)
theorem mtd_ext : MtR X "list.extend" (RMu (c3 X) fExt) := fun pins s σ H x xs v us Q I rx rv ⟨F, a, d, ds, d', r, ex', ex, nF, ow, hx, e, k⟩ => by
  subst ex'
  unfold fExt at e
  split at e
  · rename_i ds es
    split at e
    · rename_i hz
      cases e
      obtain ⟨ys, hl, hr⟩ := ow
      obtain ⟨y, rfl, h1⟩ := hx.one
      obtain ⟨b, zs, rfl, hb, rb⟩ := h1.lst ex
      exact mt_extR pins s σ H _ _ v us Q I rx rv ⟨a, b, ys, zs, rfl, rfl, hl, hb, by rw [hr.length, rb.length]; exact szl_ok hz, k _ _ ⟨_, upd_same, hr.append rb⟩ .non⟩
    · cases e
  · cases e
theorem mtd_pop : MtR X "list.pop" (RMu (c3 X) fPop) := fun pins s σ H x xs v us Q I rx rv ⟨F, a, d, ds, d', r, ex', ex, nF, ow, hx, e, k⟩ => by
  subst ex'
  unfold fPop at e
  split at e
  · rename_i ds
    split at e
    · rename_i d0 hd
      cases e
      obtain ⟨ys, hl, hr⟩ := ow
      cases hx
      obtain ⟨y, hy, ry⟩ := hr.getD hd
      rw [← hr.length] at hy
      exact mt_pop pins s σ H _ _ v us Q I rx rv ⟨a, ys, y, rfl, rfl, hl, hy, k _ _ ⟨_, upd_same, hr.dropLast⟩ ry⟩
    · cases e
  · cases e
end
/-! with taken arguments -/
def mMuT (T : D → Bool) (f : FMu) (mo : M) (t : MA) : M := mMu true T f mo t
section
variable {X : Cx} {W : WX} {o e : Expr} {es : List Expr} {mo : M} {t : MA} {name : Str} {apos cpos : Pos} {T id : String} {f : FMu} {p : D → Bool}
theorem t_muT {σ : Sg} {H : Hp} {Q : VK} (ht : IsTy X T p) (q : tE (c3 X) W (mMuT p f mo t) σ H Q) : tBD X T (RMuT (c3 X) f) (tE (c3 X) W mo) (tA (c3 X) W t) σ H Q := by
  obtain ⟨env, F, S, q⟩ := q
  refine tE_and .refl S q fun r e1 v H1 F1 q1 g1 gb1 S1 r1 f1 w1 => ?_
  cases r with
  | fro d => exact w1.elim
  | tmp d => exact w1.elim
  | slot i =>
    simp only at w1
    cases e0 : (e1[i]?).bind SV.cont with
    | none => rw [e0] at w1; exact w1.elim
    | some d0 =>
      simp only [e0] at w1
      by_cases hp : p d0 = true
      · rw [if_pos hp] at w1
        obtain ⟨s0, x1, x2⟩ := bind_cont e0
        obtain ⟨a, y1, y2, y3⟩ := S1.own i s0 d0 x1 x2
        have hv : σ[i]? = some (some v) := r1
        rw [y1] at hv
        cases hv
        refine ⟨ht F1 H1 a d0 y3 hp, ?_⟩
        refine tA_and gb1 S1 w1 fun rs e2 vs H2 F2 q2 g2 gb2 S2 r2 w2 => ?_
        simp only [if_true] at w2
        cases et : takes e2 rs with
        | none => rw [et] at w2; exact w2.elim
        | some de =>
          obtain ⟨ds, e3⟩ := de
          simp only [et] at w2
          obtain ⟨F3, g3, S3, p3, _⟩ := (r2.back gb1.dom).take gb2 S2 et
          cases ec : (e3[i]?).bind SV.cont with
          | none => rw [ec] at w2; exact w2.elim
          | some d =>
            simp only [ec] at w2
            obtain ⟨s1, z1, z2⟩ := bind_cont ec
            obtain ⟨a', u1, u2, u3⟩ := S3.own i s1 d z1 z2
            rw [y1] at u1
            cases u1
            cases ef : f d ds with
            | none => rw [ef] at w2; exact w2.elim
            | some dr =>
              obtain ⟨d', r'⟩ := dr
              rw [ef] at w2
              refine ⟨F3, a, d, ds, d', r', rfl, S3.ex, u2, u3, p3, ef, fun ob v ow rp => ?_⟩
              obtain ⟨g4, S4⟩ := mut_slot S3 z1 z2 y1 ow
              exact w2 v _ F3 (g3.trans g4) S4 rp trivial
      · rw [if_neg hp] at w1; exact w1.elim
theorem em_muT (pa : PlainAttrs T) (slot : Slot T name id) (hty : typeOf (.builtin id) = pure (.type "method_descriptor")) (hm : MtR X id (RMuT (c3 X) f)) (ht : IsTy X T p) (ho : EM X W o mo) (ha : AM X W (e :: es) t)
    (hbase : attributeBase o name X.env (eval o X.env) = eval o X.env := by rfl)
    (hfew : ((backTo cpos (starEach (e :: es) X.env)).all (fun x => !x.1) && (backToKw cpos (keywordEach [] X.env)).all (fun x => x.1.isSome)
      && decide ((e :: es).length + ([] : List Keyword).length + (if ([] : List Keyword).isEmpty then 0 else 1) < 30)) = true := by rfl)
    (hline : (apos.endLine == cpos.line) = true := by rfl) (hs : starEach (e :: es) X.env = (false, eval e X.env) :: starEach es X.env := by rfl) (hplain : (backTo cpos (starEach es X.env)).any (·.1) = false := by rfl) :
    EM X W (.Call (.Attribute o name apos) (e :: es) [] cpos) (mMuT p f mo t) := ⟨pe_mono (pe_bd pa slot hty hm ho.pe ha.pa hbase hfew hline hs hplain) fun σ H Q q => t_muT ht q⟩
theorem mtd_app : MtR X "list.append" (RMuT (c3 X) fApp) := fun pins s σ H x xs v us Q I rx rv ⟨F, a, d, ds, d', r, ex', ex, nF, ow, hx, e, k⟩ => by
  subst ex'
  unfold fApp at e
  split at e
  · rename_i ds d0
    split at e
    · rename_i hz
      cases e
      obtain ⟨ys, hl, hr⟩ := ow
      cases hx with
      | cons h1 t =>
        cases t
        exact mt_append pins s σ H _ _ v us Q I rx rv ⟨a, ys, _, rfl, rfl, hl, by rw [hr.length]; exact szl_lt (Nat.le_of_lt hz), k _ _ ⟨_, upd_same, hr.append (.one h1)⟩ .non⟩
    · cases e
  · cases e
/-- xs.append(e), xs.extend(e), xs.pop() -/
def mApp (mo : M) (t : MA) : M := mMuT isLst fApp mo t
def mExt (mo : M) (t : MA) : M := mMu false isLst fExt mo t
def mPop (mo : M) : M := mMu false isLst fPop mo aNil
end
section
variable {X : Cx} {W : WX} {o e : Expr} {mo me : M} {apos cpos : Pos}
theorem em_app (ho : EM X W o mo) (ha : EM X W e me) (hbase : attributeBase o "append" X.env (eval o X.env) = eval o X.env := by rfl) (hline : (apos.endLine == cpos.line) = true := by rfl)
    (hfew : ((backTo cpos (starEach [e] X.env)).all (fun x => !x.1) && (backToKw cpos (keywordEach [] X.env)).all (fun x => x.1.isSome)
      && decide ([e].length + ([] : List Keyword).length + (if ([] : List Keyword).isEmpty then 0 else 1) < 30)) = true := by rfl) (hs : starEach [e] X.env = [(false, eval e X.env)] := by rfl) :
    EM X W (.Call (.Attribute o "append" apos) [e] [] cpos) (mApp mo (aCons me aNil)) :=
  em_muT PySem.F.plainAttrs_list PySem.F.slot_list_append PySem.F.type_list_append mtd_app ty_lst ho (am_cons ha am_nil hs) hbase hfew hline hs rfl
theorem em_ext (ho : EM X W o mo) (ha : EM X W e me) (hbase : attributeBase o "extend" X.env (eval o X.env) = eval o X.env := by rfl) (hline : (apos.endLine == cpos.line) = true := by rfl)
    (hfew : ((backTo cpos (starEach [e] X.env)).all (fun x => !x.1) && (backToKw cpos (keywordEach [] X.env)).all (fun x => x.1.isSome)
      && decide ([e].length + ([] : List Keyword).length + (if ([] : List Keyword).isEmpty then 0 else 1) < 30)) = true := by rfl) (hs : starEach [e] X.env = [(false, eval e X.env)] := by rfl) :
    EM X W (.Call (.Attribute o "extend" apos) [e] [] cpos) (mExt mo (aCons me aNil)) :=
  em_mu PySem.F.plainAttrs_list PySem.F.slot_list_extend PySem.F.type_list_extend mtd_ext ty_lst ho (am_cons ha am_nil hs) hbase hfew hline hs rfl
theorem em_pop (ho : EM X W o mo) (hbase : attributeBase o "pop" X.env (eval o X.env) = eval o X.env := by rfl) (hline : (apos.endLine == cpos.line) = true := by rfl) :
    EM X W (.Call (.Attribute o "pop" apos) [] [] cpos) (mPop mo) :=
  em_mu0 PySem.F.plainAttrs_list PySem.F.slot_list_pop PySem.F.type_list_pop mtd_pop ty_lst ho hbase hline
end
end Gr
end
section
set_option maxHeartbeats 1000000
/-! zip of two things, each a list or a tuple; the pair unpacked or kept. -/
namespace Gr
open PySem PySem.Spec PyProof.Rows L2
open PySem.Sem (wp)

/-- an iterator over a tuple (b) or a list -/
def SIt (b : Bool) (h : Heap) (it l : Addr) (k : Nat) : Prop := match b with
  | true => h.IsTupleIter it l k
  | false => h.IsListIter it l k
def SSq (b : Bool) (h : Heap) (l : Addr) (xs : Array Value) : Prop := match b with
  | true => h.IsTuple l xs
  | false => h.IsList l xs
section
variable {b : Bool} {h h' : Heap} {it l z : Addr} {k : Nat} {xs : Array Value}
theorem SIt.ext (x : SIt b h it l k) (e : Heap.ExtBut z h h') (n : it ≠ z) : SIt b h' it l k := by
  cases b with
  | true => exact Heap.IsTupleIter.extBut x e n
  | false => exact Heap.IsListIter.extBut x e n
theorem SSq.ext (x : SSq b h l xs) (e : Heap.ExtBut z h h') (n : l ≠ z) : SSq b h' l xs := by
  cases b with
  | true => exact Heap.IsTuple.extBut x e n
  | false => exact Heap.IsList.extBut x e n
theorem SIt.at (x : SIt b h it l k) (e : ∀ o, h.get? it = some o → h'.get? it = some o) : SIt b h' it l k := by
  cases b with
  | true => exact Heap.IsTupleIter.at x e
  | false => exact Heap.IsListIter.at x e
theorem SSq.at (x : SSq b h l xs) (e : ∀ o, h.get? l = some o → h'.get? l = some o) : SSq b h' l xs := by
  cases b with
  | true => exact Heap.IsTuple.at x e
  | false => exact Heap.IsList.at x e
theorem SIt.there (x : SIt b h it l k) : ∃ o, h.get? it = some o ∧ ∀ v, o.data ≠ .cell v := by
  cases b with
  | true => obtain ⟨o, e, _, d⟩ := x; exact ⟨o, e, fun v q => by rw [d] at q; cases q⟩
  | false => obtain ⟨o, e, _, d⟩ := x; exact ⟨o, e, fun v q => by rw [d] at q; cases q⟩
theorem SSq.lt (x : SSq b h l xs) : l < h.objs.size := by
  cases b with
  | true => obtain ⟨o, e, _⟩ := x; exact Heap.lt_size e
  | false => obtain ⟨o, e, _⟩ := x; exact Heap.lt_size e
end
/-- the zip's own object -/
abbrev ZR (h : Heap) (z : Addr) (v : Value) (f : Bool) (TI TO : Addr) : Prop :=
  h.get? z = some { cls := .type "zip", dict := none, data := .fields #[v, .bool f, .bool false, .ref TI, .ref TO], slots := #[] }
def ZV (v : Value) : Prop := v = .none ∨ ∃ T : Addr, v = rawInt T
section
variable {prog : Program} {w : World} {A : Around} {E : Value → Shared → Prop} {s : Shared}
theorem side_item {b : Bool} {it l : Addr} {i : Nat} {items : Array Value} {x : Value} {Q : Value → Shared → Prop} (hit : SIt b s.heap it l i)
    (hl : SSq b s.heap l items) (hx : items[i]? = some x) (hQ : ∀ h', SIt b h' it l (i + 1) → Heap.SameBut it s.heap h' → Q x { s with heap := h' }) :
    wpAny (model prog w) A (Builtin.SmallTypes.nextOf (.ref it)) Q E s := by
  cases b with
  | true => exact RZ.nextOf_tuple_item hit hl hx hQ
  | false => exact wpAny_nextOf_list_item hit hl hx hQ
theorem side_end {b : Bool} {it l : Addr} {i : Nat} {items : Array Value} {Q : Value → Shared → Prop} (hh : A.handled = none) (hit : SIt b s.heap it l i)
    (hl : SSq b s.heap l items) (hx : items[i]? = none) (hE : ∀ h' e, Heap.ExtBut it s.heap h' → (∃ o, h'.get? e = some o ∧ o.cls = .type "StopIteration") → E (.ref e) { s with heap := h' }) :
    wpAny (model prog w) A (Builtin.SmallTypes.nextOf (.ref it)) Q E s := by
  cases b with
  | true => exact RZ.nextOf_tuple_end hh hit hl hx hE
  | false => exact wpAny_nextOf_list_end hh hit hl hx hE
theorem zown {z TI TO : Addr} {v : Value} {f : Bool} {Q : Bool → Shared → Prop} (hz : ZR s.heap z v f TI TO) (hv : ZV v) (h0 : Q true s)
    (h1 : ∀ (T : Addr) h', ZR h' z (rawInt T) true TI TO → Heap.SameBut z s.heap h' → Q false { s with heap := h' }) : wpAny (model prog w) A (Builtin.SmallTypes.ownedTupleIsFree (.ref z)) Q E s := by
  unfold Builtin.SmallTypes.ownedTupleIsFree
  rcases hv with rfl | ⟨T, rfl⟩
  · exact wpAny_bind (wpAny_field hz rfl (x := .none) rfl (wpAny_pure h0))
  · refine wpAny_bind (wpAny_field hz rfl (x := rawInt T) rfl ?_)
    show wpAny _ _ (loadIfAlive ((T : Int).toNat) >>= _) _ _ _
    rw [Int.toNat_natCast]
    cases hT : s.heap.get? T with
    | none =>
      refine wpAny_bind (wpAny_mono (show wpAny (model prog w) A (loadIfAlive T) (fun r s' => r = none ∧ s' = s) E s from fun _ _ _ => ⟨hT, rfl⟩) (fun r s' e => ?_) fun _ _ e => e)
      obtain ⟨rfl, rfl⟩ := e
      simp only [Option.isNone_none, if_true]
      exact wpAny_pure h0
    | some oT =>
      refine wpAny_bind (PySem.W.kdx_alive hT ?_)
      simp only [Option.isNone_some, Bool.false_eq_true, if_false]
      refine wpAny_bind (wpAny_field hz rfl (x := .bool f) rfl ?_)
      cases f with
      | true =>
        rw [if_neg (show ¬ ((Value.bool true != Value.bool true) = true) from Bool.false_ne_true)]
        exact wpAny_pure (h1 T s.heap hz (Heap.SameBut.refl _ _))
      | false =>
        rw [if_pos (show (Value.bool false != Value.bool true) = true from rfl)]
        exact wpAny_bind (wpAny_setField_rec hz (by simp) fun h₁ hz₁ hs₁ => wpAny_pure (h1 T h₁ hz₁ hs₁))
theorem zipA_item {b1 b2 : Bool} {z TI TO i1 i2 l1 l2 : Addr} {k1 k2 : Nat} {xs ys : Array Value} {x y a b v : Value} {f : Bool} {Q : Value → Shared → Prop} (D : ZipApart z TI TO i1 i2 l1 l2)
    (hz : ZR s.heap z v f TI TO) (hv : ZV v) (hTI : IsPair s.heap TI (.ref i1) (.ref i2)) (hTO : IsPair s.heap TO a b)
    (h1 : SIt b1 s.heap i1 l1 k1) (h2 : SIt b2 s.heap i2 l2 k2) (hl1 : SSq b1 s.heap l1 xs) (hl2 : SSq b2 s.heap l2 ys) (hx : xs[k1]? = some x) (hy : ys[k2]? = some y)
    (hQ : ∀ h' v' f', ZR h' z v' f' TI TO → ZV v' → (∃ a b, IsPair h' TO a b) → SIt b1 h' i1 l1 (k1 + 1) → SIt b2 h' i2 l2 (k2 + 1) → IsPair h' s.heap.objs.size x y → h'.objs.size = s.heap.objs.size + 1 →
      (∀ c o, c ≠ z → c ≠ TO → c ≠ i1 → c ≠ i2 → s.heap.get? c = some o → h'.get? c = some o) → Q (.ref s.heap.objs.size) { s with heap := h' }) :
    wpAny (model prog w) A (Builtin.«zip.__next__» ⟨[.ref z], []⟩) (fun fin s' => ∃ v, fin = .done (.ret v) ∧ Q v s') E s := by
  show wpAny _ _ (field (.ref z) 2 >>= _) _ _ _
  refine wpAny_bind (wpAny_field hz rfl (x := .bool false) rfl ?_)
  show wpAny _ _ (field (.ref z) 3 >>= _) _ _ _
  refine wpAny_bind (wpAny_field hz rfl (x := .ref TI) rfl ?_)
  refine wpAny_bind (wpAny_seqItems hTI rfl ?_)
  show wpAny _ _ (Builtin.SmallTypes.ownedTupleIsFree (.ref z) >>= _) _ _ _
  refine wpAny_bind (zown hz hv ?_ fun T h₁ hz₁ hs₁ => ?_)
  · simp only [if_true]
    refine wpAny_bind (wpAny_rule ?_)
    refine wpAny_bind (wpAny_field hz rfl (x := .ref TO) rfl ?_)
    refine wpAny_bind (wpAny_setField_rec hz (by simp) fun h₁ hz₁ hs₁ => ?_)
    replace hz₁ : ZR h₁ z .ellipsis f TI TO := hz₁
    refine wpAny_bind ?_
    simp only [List.zipIdx_cons, List.zipIdx_nil, List.forIn_cons, List.forIn_nil]
    refine wpAny_bind (wpAny_bind (wpAny_onRaise ?_))
    show wpAny _ _ (Builtin.SmallTypes.nextOf (.ref i1) >>= _) _ _ _
    refine wpAny_bind (side_item (h1.ext hs₁.extBut D.i1z) (hl1.ext hs₁.extBut D.l1z) hx fun h₂ h1₂ hs₂ => wpAny_pure ?_)
    have hTO₂ : IsPair h₂ TO a b := hs₂.extBut _ _ D.TOi1 (hs₁.extBut _ _ D.TOz hTO)
    refine wpAny_bind (wpAny_seqItems hTO₂ rfl ?_)
    refine wpAny_bind (wpAny_updateSeq_pair hTO₂ fun h₃ hTO₃ hs₃ => ?_)
    replace hTO₃ : IsPair h₃ TO x b := hTO₃
    refine wpAny_bind (wpAny_letGo (wpAny_pure ?_))
    refine wpAny_bind (wpAny_bind (wpAny_onRaise ?_))
    show wpAny _ _ (Builtin.SmallTypes.nextOf (.ref i2) >>= _) _ _ _
    refine wpAny_bind (side_item (((h2.ext hs₁.extBut D.i2z).ext hs₂.extBut D.i12.symm).ext hs₃.extBut D.TOi2.symm)
      (((hl2.ext hs₁.extBut D.l2z).ext hs₂.extBut D.l2i1).ext hs₃.extBut D.l2TO) hy fun h₄ h2₄ hs₄ => wpAny_pure ?_)
    have hTO₄ : IsPair h₄ TO x b := hs₄.extBut _ _ D.TOi2 hTO₃
    refine wpAny_bind (wpAny_seqItems hTO₄ rfl ?_)
    refine wpAny_bind (wpAny_updateSeq_pair hTO₄ fun h₅ hTO₅ hs₅ => ?_)
    replace hTO₅ : IsPair h₅ TO x y := hTO₅
    refine wpAny_bind (wpAny_letGo (wpAny_pure (wpAny_pure ?_)))
    refine wpAny_bind (wpAny_seqItems hTO₅ rfl ?_)
    refine wpAny_bind (wpAny_newTuple ?_)
    have hsz : h₅.objs.size = s.heap.objs.size := by rw [hs₅.1, hs₄.1, hs₃.1, hs₂.1, hs₁.1]
    have hz₅ : ZR h₅ z .ellipsis f TI TO := hs₅.extBut _ _ D.TOz.symm (hs₄.extBut _ _ D.i2z.symm (hs₃.extBut _ _ D.TOz.symm (hs₂.extBut _ _ D.i1z.symm hz₁)))
    have hk₅ : ∀ c o, c ≠ z → c ≠ TO → c ≠ i1 → c ≠ i2 → s.heap.get? c = some o → h₅.get? c = some o := fun c o c1 c2 c3 c4 e =>
      hs₅.extBut _ _ c2 (hs₄.extBut _ _ c4 (hs₃.extBut _ _ c2 (hs₂.extBut _ _ c3 (hs₁.extBut _ _ c1 e))))
    have h1₅ : SIt b1 h₅ i1 l1 (k1 + 1) := ((h1₂.ext hs₃.extBut D.TOi1.symm).ext hs₄.extBut D.i12).ext hs₅.extBut D.TOi1.symm
    have h2₅ : SIt b2 h₅ i2 l2 (k2 + 1) := h2₄.ext hs₅.extBut D.TOi2.symm
    have hzlt : z < h₅.objs.size := Heap.lt_size hz₅
    show wpAny _ _ (Builtin.SmallTypes.ownedTupleHandOut (.ref z) (.ref h₅.objs.size) >>= _) _ _ _
    refine wpAny_bind ?_
    unfold Builtin.SmallTypes.ownedTupleHandOut
    have hz₆ : ZR (h₅.push { cls := .type "tuple", data := .seq #[x, y] }) z .ellipsis f TI TO := Heap.get?_push_of_some _ hz₅
    refine wpAny_bind (wpAny_setField_rec hz₆ (by simp) fun h₇ hz₇ hs₇ => ?_)
    replace hz₇ : ZR h₇ z (rawInt h₅.objs.size) f TI TO := hz₇
    refine wpAny_setField_rec hz₇ (by simp) fun h₈ hz₈ hs₈ => ?_
    replace hz₈ : ZR h₈ z (rawInt h₅.objs.size) false TI TO := hz₈
    have up : ∀ c o, c ≠ z → h₅.get? c = some o → h₈.get? c = some o := fun c o c1 e => hs₈.extBut _ _ c1 (hs₇.extBut _ _ c1 (Heap.get?_push_of_some _ e))
    have hT₈ : IsPair h₈ h₅.objs.size x y := hs₈.extBut _ _ (Nat.ne_of_gt hzlt) (hs₇.extBut _ _ (Nat.ne_of_gt hzlt) (Heap.get?_push_size _ rfl))
    have hz8 : h₈.objs.size = h₅.objs.size + 1 := by rw [hs₈.1, hs₇.1, Heap.size_push]
    rw [hsz] at hz₈ hT₈ hz8
    refine wpAny_pure ⟨_, rfl, ?_⟩
    show Q (.ref h₅.objs.size) _
    rw [hsz]
    exact hQ h₈ _ _ hz₈ (.inr ⟨_, rfl⟩) ⟨_, _, up _ _ D.TOz hTO₅⟩ (h1₅.at fun o e => up _ o D.i1z e) (h2₅.at fun o e => up _ o D.i2z e) hT₈ hz8 fun c o c1 c2 c3 c4 e => up c o c1 (hk₅ c o c1 c2 c3 c4 e)
  · simp only [Bool.false_eq_true, if_false]
    refine wpAny_bind ?_
    rw [← Array.forIn_toList]
    simp only [List.forIn_cons, List.forIn_nil]
    refine wpAny_bind (wpAny_bind (wpAny_holding ?_))
    show wpAny _ _ (Builtin.SmallTypes.nextOf (.ref i1) >>= _) _ _ _
    refine wpAny_bind (side_item (s := { s with heap := h₁ }) (h1.ext hs₁.extBut D.i1z) (hl1.ext hs₁.extBut D.l1z) hx fun h₂ h1₂ hs₂ => wpAny_pure ?_)
    refine wpAny_pure ?_
    refine wpAny_bind (wpAny_bind (wpAny_holding ?_))
    show wpAny _ _ (Builtin.SmallTypes.nextOf (.ref i2) >>= _) _ _ _
    refine wpAny_bind (side_item (s := { s with heap := h₂ }) ((h2.ext hs₁.extBut D.i2z).ext hs₂.extBut D.i12.symm) ((hl2.ext hs₁.extBut D.l2z).ext hs₂.extBut D.l2i1) hy fun h₃ h2₃ hs₃ => wpAny_pure ?_)
    refine wpAny_pure (wpAny_pure ?_)
    show wpAny _ _ (newTuple [x, y] >>= _) _ _ _
    refine wpAny_bind (wpAny_newTuple ?_)
    have hsz : h₃.objs.size = s.heap.objs.size := by rw [hs₃.1, hs₂.1, hs₁.1]
    have hz₃ : ZR h₃ z (rawInt T) true TI TO := hs₃.extBut _ _ D.i2z.symm (hs₂.extBut _ _ D.i1z.symm hz₁)
    have hk : ∀ c o, c ≠ z → c ≠ i1 → c ≠ i2 → s.heap.get? c = some o → h₃.get? c = some o := fun c o c1 c2 c3 e => hs₃.extBut _ _ c3 (hs₂.extBut _ _ c2 (hs₁.extBut _ _ c1 e))
    have h1₃ : SIt b1 h₃ i1 l1 (k1 + 1) := h1₂.ext hs₃.extBut D.i12
    refine wpAny_pure ⟨_, rfl, ?_⟩
    show Q (.ref h₃.objs.size) _
    have hp : IsPair (h₃.push { cls := .type "tuple", data := .seq #[x, y] }) h₃.objs.size x y := Heap.get?_push_size _ rfl
    have hz4 : (h₃.push { cls := .type "tuple", data := .seq #[x, y] }).objs.size = h₃.objs.size + 1 := Heap.size_push ..
    rw [hsz] at hp hz4 ⊢
    exact hQ _ _ _ (Heap.get?_push_of_some _ hz₃) (.inr ⟨_, rfl⟩) ⟨a, b, Heap.get?_push_of_some _ (hk _ _ D.TOz D.TOi1 D.TOi2 hTO)⟩ (h1₃.at fun o e => Heap.get?_push_of_some _ e) (h2₃.at fun o e => Heap.get?_push_of_some _ e) hp hz4 fun c o c1 _ c2 c3 e => Heap.get?_push_of_some _ (hk c o c1 c2 c3 e)
theorem zipA_end {b1 b2 : Bool} {z TI TO i1 i2 l1 l2 : Addr} {k1 k2 : Nat} {xs ys : Array Value} {a b v : Value} {f : Bool} {Q : Fin → Shared → Prop} (hh : A.handled = none) (D : ZipApart z TI TO i1 i2 l1 l2)
    (hz : ZR s.heap z v f TI TO) (hv : ZV v) (hTI : IsPair s.heap TI (.ref i1) (.ref i2)) (hTO : IsPair s.heap TO a b)
    (h1 : SIt b1 s.heap i1 l1 k1) (h2 : SIt b2 s.heap i2 l2 k2) (hl1 : SSq b1 s.heap l1 xs) (hl2 : SSq b2 s.heap l2 ys) (hend : xs[k1]? = none ∨ ys[k2]? = none)
    (hE : ∀ h' e, (∀ c o, c ≠ z → c ≠ TO → c ≠ i1 → c ≠ i2 → s.heap.get? c = some o → h'.get? c = some o) → (∃ o, h'.get? e = some o ∧ o.cls = .type "StopIteration") → E (.ref e) { s with heap := h' }) :
    wpAny (model prog w) A (Builtin.«zip.__next__» ⟨[.ref z], []⟩) Q E s := by
  show wpAny _ _ (field (.ref z) 2 >>= _) _ _ _
  refine wpAny_bind (wpAny_field hz rfl (x := .bool false) rfl ?_)
  show wpAny _ _ (field (.ref z) 3 >>= _) _ _ _
  refine wpAny_bind (wpAny_field hz rfl (x := .ref TI) rfl ?_)
  refine wpAny_bind (wpAny_seqItems hTI rfl ?_)
  show wpAny _ _ (Builtin.SmallTypes.ownedTupleIsFree (.ref z) >>= _) _ _ _
  refine wpAny_bind (zown hz hv ?_ fun T h₁ hz₁ hs₁ => ?_)
  · simp only [if_true]
    refine wpAny_bind (wpAny_rule ?_)
    refine wpAny_bind (wpAny_field hz rfl (x := .ref TO) rfl ?_)
    refine wpAny_bind (wpAny_setField_rec hz (by simp) fun h₁ hz₁ hs₁ => ?_)
    replace hz₁ : ZR h₁ z .ellipsis f TI TO := hz₁
    refine wpAny_bind ?_
    simp only [List.zipIdx_cons, List.zipIdx_nil, List.forIn_cons, List.forIn_nil]
    refine wpAny_bind (wpAny_bind (wpAny_onRaise ?_))
    show wpAny _ _ (Builtin.SmallTypes.nextOf (.ref i1) >>= _) _ _ _
    cases hx : xs[k1]? with
    | none =>
      refine wpAny_bind (side_end hh (h1.ext hs₁.extBut D.i1z) (hl1.ext hs₁.extBut D.l1z) hx fun h₂ e hs₂ he => ?_)
      obtain ⟨oe, hoe, hce⟩ := he
      have hz₂ : ZR h₂ z .ellipsis f TI TO := hs₂ _ _ D.i1z.symm hz₁
      have hez : e ≠ z := fun x => by subst x; rw [hz₂] at hoe; cases hoe; simp at hce
      refine wpAny_setField_rec hz₂ (by simp) fun h₃ _ hs₃ => hE h₃ e (fun c o c1 _ c3 _ x => hs₃.extBut _ _ c1 (hs₂ _ _ c3 (hs₁.extBut _ _ c1 x))) ⟨oe, hs₃.extBut _ _ hez hoe, hce⟩
    | some x =>
      have hy : ys[k2]? = none := by rcases hend with h | h; rw [hx] at h; cases h; exact h
      refine wpAny_bind (side_item (h1.ext hs₁.extBut D.i1z) (hl1.ext hs₁.extBut D.l1z) hx fun h₂ h1₂ hs₂ => wpAny_pure ?_)
      have hTO₂ : IsPair h₂ TO a b := hs₂.extBut _ _ D.TOi1 (hs₁.extBut _ _ D.TOz hTO)
      refine wpAny_bind (wpAny_seqItems hTO₂ rfl ?_)
      refine wpAny_bind (wpAny_updateSeq_pair hTO₂ fun h₃ hTO₃ hs₃ => ?_)
      refine wpAny_bind (wpAny_letGo (wpAny_pure ?_))
      refine wpAny_bind (wpAny_bind (wpAny_onRaise ?_))
      show wpAny _ _ (Builtin.SmallTypes.nextOf (.ref i2) >>= _) _ _ _
      refine wpAny_bind (side_end hh (((h2.ext hs₁.extBut D.i2z).ext hs₂.extBut D.i12.symm).ext hs₃.extBut D.TOi2.symm)
        (((hl2.ext hs₁.extBut D.l2z).ext hs₂.extBut D.l2i1).ext hs₃.extBut D.l2TO) hy fun h₄ e hs₄ he => ?_)
      obtain ⟨oe, hoe, hce⟩ := he
      have hz₄ : ZR h₄ z .ellipsis f TI TO := hs₄ _ _ D.i2z.symm (hs₃.extBut _ _ D.TOz.symm (hs₂.extBut _ _ D.i1z.symm hz₁))
      have hez : e ≠ z := fun x => by subst x; rw [hz₄] at hoe; cases hoe; simp at hce
      refine wpAny_setField_rec hz₄ (by simp) fun h₅ _ hs₅ => hE h₅ e (fun c o c1 c2 c3 c4 x => hs₅.extBut _ _ c1 (hs₄ _ _ c4 (hs₃.extBut _ _ c2 (hs₂.extBut _ _ c3 (hs₁.extBut _ _ c1 x))))) ⟨oe, hs₅.extBut _ _ hez hoe, hce⟩
  · simp only [Bool.false_eq_true, if_false]
    refine wpAny_bind ?_
    rw [← Array.forIn_toList]
    simp only [List.forIn_cons, List.forIn_nil]
    refine wpAny_bind (wpAny_bind (wpAny_holding ?_))
    show wpAny _ _ (Builtin.SmallTypes.nextOf (.ref i1) >>= _) _ _ _
    cases hx : xs[k1]? with
    | none =>
      refine wpAny_bind (side_end (s := { s with heap := h₁ }) hh (h1.ext hs₁.extBut D.i1z) (hl1.ext hs₁.extBut D.l1z) hx fun h₂ e hs₂ he => ?_)
      exact hE h₂ e (fun c o c1 _ c2 _ x => hs₂ _ _ c2 (hs₁.extBut _ _ c1 x)) he
    | some x =>
      have hy : ys[k2]? = none := by rcases hend with h | h; rw [hx] at h; cases h; exact h
      refine wpAny_bind (side_item (s := { s with heap := h₁ }) (h1.ext hs₁.extBut D.i1z) (hl1.ext hs₁.extBut D.l1z) hx fun h₂ h1₂ hs₂ => wpAny_pure ?_)
      refine wpAny_pure ?_
      refine wpAny_bind (wpAny_bind (wpAny_holding ?_))
      show wpAny _ _ (Builtin.SmallTypes.nextOf (.ref i2) >>= _) _ _ _
      refine wpAny_bind (side_end (s := { s with heap := h₂ }) hh ((h2.ext hs₁.extBut D.i2z).ext hs₂.extBut D.i12.symm) ((hl2.ext hs₁.extBut D.l2z).ext hs₂.extBut D.l2i1) hy fun h₃ e hs₃ he => ?_)
      exact hE h₃ e (fun c o c1 _ c2 c3 x => hs₃ _ _ c3 (hs₂.extBut _ _ c2 (hs₁.extBut _ _ c1 x))) he
theorem zipA_next {b1 b2 : Bool} {z TI TO i1 i2 l1 l2 : Addr} {k1 k2 : Nat} {xs ys : Array Value} {x y a b v : Value} {f : Bool} {Q : Option Value → Shared → Prop} (D : ZipApart z TI TO i1 i2 l1 l2)
    (hz : ZR s.heap z v f TI TO) (hv : ZV v) (hTI : IsPair s.heap TI (.ref i1) (.ref i2)) (hTO : IsPair s.heap TO a b)
    (h1 : SIt b1 s.heap i1 l1 k1) (h2 : SIt b2 s.heap i2 l2 k2) (hl1 : SSq b1 s.heap l1 xs) (hl2 : SSq b2 s.heap l2 ys) (hx : xs[k1]? = some x) (hy : ys[k2]? = some y)
    (hQ : ∀ h' v' f', ZR h' z v' f' TI TO → ZV v' → (∃ a b, IsPair h' TO a b) → SIt b1 h' i1 l1 (k1 + 1) → SIt b2 h' i2 l2 (k2 + 1) → IsPair h' s.heap.objs.size x y → h'.objs.size = s.heap.objs.size + 1 →
      (∀ c o, c ≠ z → c ≠ TO → c ≠ i1 → c ≠ i2 → s.heap.get? c = some o → h'.get? c = some o) → Q (some (.ref s.heap.objs.size)) { s with heap := h' }) :
    wpAny (model prog w) A (pyNext (.ref z)) Q E s := by
  have hT : s.TypeIs (.ref z) "zip" := ⟨_, hz, rfl⟩
  unfold pyNext
  exact wpAny_bind (wpAny_attempt (wpAny_callSpecial?_slot (name := Str.ofString "__next__") hT PySem.F.slot_zip_next
    (wpAny_call_entry PySem.F.slot_zip_next hT PySem.F.entry_zip_next
      (zipA_item D hz hv hTI hTO h1 h2 hl1 hl2 hx hy fun h' v' f' a1 a2 a3 a4 a5 a6 a7 a8 => wpAny_pure (hQ h' v' f' a1 a2 a3 a4 a5 a6 a7 a8)) (PySem.F.args_zip_next_1 _))))
theorem zipA_stop {b1 b2 : Bool} {z TI TO i1 i2 l1 l2 : Addr} {k1 k2 : Nat} {xs ys : Array Value} {a b v : Value} {f : Bool} {Q : Option Value → Shared → Prop} (hh : A.handled = none) (D : ZipApart z TI TO i1 i2 l1 l2)
    (hz : ZR s.heap z v f TI TO) (hv : ZV v) (hTI : IsPair s.heap TI (.ref i1) (.ref i2)) (hTO : IsPair s.heap TO a b)
    (h1 : SIt b1 s.heap i1 l1 k1) (h2 : SIt b2 s.heap i2 l2 k2) (hl1 : SSq b1 s.heap l1 xs) (hl2 : SSq b2 s.heap l2 ys) (hend : xs[k1]? = none ∨ ys[k2]? = none)
    (hQ : ∀ h', (∀ c o, c ≠ z → c ≠ TO → c ≠ i1 → c ≠ i2 → s.heap.get? c = some o → h'.get? c = some o) → Q none { s with heap := h' }) : wpAny (model prog w) A (pyNext (.ref z)) Q E s := by
  have hT : s.TypeIs (.ref z) "zip" := ⟨_, hz, rfl⟩
  unfold pyNext
  refine wpAny_bind (wpAny_attempt (wpAny_callSpecial?_slot (name := Str.ofString "__next__") hT PySem.F.slot_zip_next
    (wpAny_call_entry PySem.F.slot_zip_next hT PySem.F.entry_zip_next (zipA_end hh D hz hv hTI hTO h1 h2 hl1 hl2 hend fun h' e hk he => ?_) (PySem.F.args_zip_next_1 _))))
  obtain ⟨o, ho, hc⟩ := he
  refine wpAny_bind (wpAny_isInstance (T := "StopIteration") (b := true) ⟨o, ho, hc⟩ isSubtype_stop ?_)
  exact wpAny_pure (hQ _ hk)
/-- the step ahead of the store: to names in a tuple, or to a name -/
def TgOk (tg : Expr) : Prop := (∃ elts k p, tg = .Tuple elts k p) ∨ ∃ x p, tg = .Name x p
theorem zipA_go {tg : Expr} (ht : TgOk tg) {z TI TO T : Addr} {v : Value} {f : Bool} {Q : Unit → Shared → Prop} (hz : ZR s.heap z v f TI TO) (hv : ZV v)
    (hQ : ∀ h' v', ZR h' z v' f TI TO → ZV v' → Heap.SameBut z s.heap h' → Q () { s with heap := h' }) : wpAny (model prog w) A (letOwnedTupleGo tg (.ref z) (.ref T)) Q E s := by
  rcases ht with ⟨elts, k, p, rfl⟩ | ⟨x, p, rfl⟩
  · unfold letOwnedTupleGo
    refine wpAny_bind (wpAny_load hz ?_)
    show wpAny _ _ (if (["enumerate", "zip", "dict_itemiterator", "dict_reverseitemiterator", "odict_iterator", "itertools.zip_longest", "itertools.pairwise"].contains "zip" &&
        (#[v, .bool f, .bool false, .ref TI, .ref TO] : Array Value)[0]? == some (rawInt T)) = true then _ else _) Q E s
    split
    · refine wpAny_bind (wpAny_rule ?_)
      show wpAny _ _ (setField (.ref z) 0 .none) Q E s
      exact wpAny_setField_rec hz (by simp) fun h' hz' hs' => hQ h' .none hz' (.inl rfl) hs'
    · exact wpAny_pure (hQ s.heap v hz hv (Heap.SameBut.refl _ _))
  · exact wpAny_pure (hQ s.heap v hz hv (Heap.SameBut.refl _ _))
end

/-! ### the new zip -/
def cI (b : Bool) : String := match b with
  | true => "tuple_iterator"
  | false => "list_iterator"
abbrev zS1 (b : Bool) (h : Heap) (l1 : Addr) : Heap := h.push { cls := .type (cI b), data := .fields #[.ref l1, .int 0 0] }
abbrev zS2 (b b2 : Bool) (h : Heap) (l1 l2 : Addr) : Heap := (zS1 b h l1).push { cls := .type (cI b2), data := .fields #[.ref l2, .int 0 0] }
abbrev zS3 (b b2 : Bool) (h : Heap) (l1 l2 : Addr) : Heap := (zS2 b b2 h l1 l2).push { cls := .type "tuple", data := .seq #[.ref h.objs.size, .ref (zS1 b h l1).objs.size] }
abbrev zS4 (b b2 : Bool) (h : Heap) (l1 l2 : Addr) : Heap := (zS3 b b2 h l1 l2).push { cls := .type "tuple", data := .seq #[.none, .none] }
abbrev zS5 (b b2 : Bool) (h : Heap) (l1 l2 : Addr) : Heap := (zS4 b b2 h l1 l2).push { cls := .type "zip", data := .fields #[.none, .bool false, .bool false, .ref (zS2 b b2 h l1 l2).objs.size, .ref (zS3 b b2 h l1 l2).objs.size] }
theorem meets_zS (b b2 : Bool) (l1 l2 : Addr) (xs ys : Array Value) :
    Meets (Builtin.«zip.__new__» ⟨[.type "zip", .ref l1, .ref l2], []⟩) (fun _ R s => SSq b s.heap l1 xs ∧ SSq b2 s.heap l2 ys ∧
      R (.ok (.ret (.ref (zS4 b b2 s.heap l1 l2).objs.size))) { s with heap := zS5 b b2 s.heap l1 l2 }) := by
  cases b <;> cases b2
  · exact meets_zip_new l1 l2 xs ys
  · exact .of_wp fun prog w A R s h => by
      obtain ⟨hp, g, d, tk, os⟩ := s; obtain ⟨hl1, hl2, h⟩ := h
      have hsub := sub_zip
      have hL1 : Heap.IsList (Shared.heap ⟨hp, g, d, tk, os⟩) l1 xs := hl1
      have hL2 : Heap.IsTuple (Shared.heap ⟨hp.push { cls := .type "list_iterator", data := .fields #[.ref l1, .int 0 0] }, g, d, tk, os⟩) l2 ys := Heap.IsTuple.push hl2 _
      wp_walk using wpAny_pyIter_list hL1, wpAny_pyIter_tuple hL2
      exact ⟨_, rfl, h⟩
  · exact .of_wp fun prog w A R s h => by
      obtain ⟨hp, g, d, tk, os⟩ := s; obtain ⟨hl1, hl2, h⟩ := h
      have hsub := sub_zip
      have hL1 : Heap.IsTuple (Shared.heap ⟨hp, g, d, tk, os⟩) l1 xs := hl1
      have hL2 : Heap.IsList (Shared.heap ⟨hp.push { cls := .type "tuple_iterator", data := .fields #[.ref l1, .int 0 0] }, g, d, tk, os⟩) l2 ys := Heap.IsList.push hl2 _
      wp_walk using wpAny_pyIter_tuple hL1, wpAny_pyIter_list hL2
      exact ⟨_, rfl, h⟩
  · exact RZ.meets_zipT_new l1 l2 xs ys
theorem call_zS {prog : Program} {w : World} {A : Around} {E : Value → Shared → Prop} {s : Shared} {b b2 : Bool} {l1 l2 : Addr} {xs ys : Array Value} {Q : Value → Shared → Prop} (hl1 : SSq b s.heap l1 xs) (hl2 : SSq b2 s.heap l2 ys)
    (h : ∀ h', ZR h' (s.heap.objs.size + 4) .none false (s.heap.objs.size + 2) (s.heap.objs.size + 3) → IsPair h' (s.heap.objs.size + 2) (.ref s.heap.objs.size) (.ref (s.heap.objs.size + 1)) →
      IsPair h' (s.heap.objs.size + 3) .none .none → SIt b h' s.heap.objs.size l1 0 → SIt b2 h' (s.heap.objs.size + 1) l2 0 → h'.objs.size = s.heap.objs.size + 5 →
      (∀ c o, s.heap.get? c = some o → h'.get? c = some o) → Q (.ref (s.heap.objs.size + 4)) { s with heap := h' }) :
    wpAny (model prog w) A (call (.type "zip") [.ref l1, .ref l2]) Q E s := by
  refine callType_new PySem.F.called_zip (by decide) (PySem.F.typeCall_zip_2 _ _) (PySem.F.newCall_zip_2 _ _) (fun obj => PySem.F.args_object_init_3 obj _ _) PySem.F.entry_zip_new
    (meets_zS b b2 l1 l2 xs ys) ⟨hl1, hl2, ?_⟩
  have z1 : (zS1 b s.heap l1).objs.size = s.heap.objs.size + 1 := Heap.size_push ..
  have z2 : (zS2 b b2 s.heap l1 l2).objs.size = s.heap.objs.size + 2 := by rw [Heap.size_push, z1]
  have z3 : (zS3 b b2 s.heap l1 l2).objs.size = s.heap.objs.size + 3 := by rw [Heap.size_push, z2]
  have z4 : (zS4 b b2 s.heap l1 l2).objs.size = s.heap.objs.size + 4 := by rw [Heap.size_push, z3]
  have z5 : (zS5 b b2 s.heap l1 l2).objs.size = s.heap.objs.size + 5 := by rw [Heap.size_push, z4]
  have g5 : (zS5 b b2 s.heap l1 l2).get? (zS4 b b2 s.heap l1 l2).objs.size = some _ := Heap.get?_push_size _ rfl
  have g4 : (zS5 b b2 s.heap l1 l2).get? (zS3 b b2 s.heap l1 l2).objs.size = some _ := Heap.get?_push_of_some _ (Heap.get?_push_size _ rfl)
  have g3 : (zS5 b b2 s.heap l1 l2).get? (zS2 b b2 s.heap l1 l2).objs.size = some _ := Heap.get?_push_of_some _ (Heap.get?_push_of_some _ (Heap.get?_push_size _ rfl))
  have g2 : (zS5 b b2 s.heap l1 l2).get? (zS1 b s.heap l1).objs.size = some _ := Heap.get?_push_of_some _ (Heap.get?_push_of_some _ (Heap.get?_push_of_some _ (Heap.get?_push_size _ rfl)))
  have g1 : (zS5 b b2 s.heap l1 l2).get? s.heap.objs.size = some _ := Heap.get?_push_of_some _ (Heap.get?_push_of_some _ (Heap.get?_push_of_some _ (Heap.get?_push_of_some _ (Heap.get?_push_size _ rfl))))
  show _ ∧ _
  rw [z2, z3, z4] at g5
  rw [z1, z2] at g3
  rw [z3] at g4
  rw [z1] at g2
  rw [z4]
  refine ⟨⟨_, g5, rfl⟩, h _ g5 g3 g4 ?_ ?_ z5 fun c o x =>
    Heap.get?_push_of_some _ (Heap.get?_push_of_some _ (Heap.get?_push_of_some _ (Heap.get?_push_of_some _ (Heap.get?_push_of_some _ x))))⟩
  · cases b with
    | true => exact ⟨_, g1, rfl, rfl⟩
    | false => exact ⟨_, g1, rfl, rfl⟩
  · cases b2 with
    | true => exact ⟨_, g2, rfl, rfl⟩
    | false => exact ⟨_, g2, rfl, rfl⟩
end Gr
end
section
set_option maxHeartbeats 1000000
/-! for .. in zip(a, b), enumerate(a). -/
namespace Gr
open PySem PySem.Spec PyProof.Rows L2

def Sq (b : Bool) (K : PySem.W.Frag) (H : Hp) (a : Addr) (xs : List V) : Prop := match b with
  | true => SqT K H a xs
  | false => SqL K H a xs
theorem Sq.at {X : Cx} {pins : List (Addr × Obj)} {s : Shared} {σ : Sg} {H : Hp} {b : Bool} {a : Addr} {xs : List V} (I : Inv X pins σ H s) (h : Sq b X.K H a xs) : ∃ its, Vals xs its ∧ SSq b s.heap a its.toArray := by
  cases b with
  | true => obtain ⟨its, rv, p, _⟩ := I.tuple h; exact ⟨its, rv, p⟩
  | false => obtain ⟨its, rv, p, _⟩ := I.list h; exact ⟨its, rv, p.isList⟩
theorem Sq.inj {X : Cx} {pins : List (Addr × Obj)} {s : Shared} {σ : Sg} {H : Hp} {b : Bool} {a : Addr} {xs ys : List V} (I : Inv X pins σ H s) (h : Sq b X.K H a xs) (h' : Sq b X.K H a ys) : xs = ys := by
  cases b with
  | true => exact I.tuple_inj h h'
  | false => exact I.list_inj h h'
theorem Sq.ex {K : PySem.W.Frag} {F H : Hp} {b : Bool} {a : Addr} {xs : List V} (e : Ex F H) (h : Sq b K F a xs) : Sq b K H a xs := by
  cases b with
  | true => exact Evl.ex_t e h
  | false => exact Evl.ex_l e h
def ItzS (K : PySem.W.Frag) (b1 b2 : Bool) (a b : Addr) : It :=
  ⟨fun i H => ∃ (xs ys : List V) (x y : V), Sq b1 K H a xs ∧ Sq b2 K H b ys ∧ xs[i]? = some x ∧ ys[i]? = some y,
    fun i H v H' => ∃ T x y, v = .ref T ∧ H T = none ∧ H' = upd H T (.tup [x, y]) ∧ (∀ xs, Sq b1 K H a xs → xs[i]? = some x) ∧ ∀ ys, Sq b2 K H b ys → ys[i]? = some y,
    fun i H => ∃ xs ys : List V, Sq b1 K H a xs ∧ Sq b2 K H b ys ∧ (xs.length ≤ i ∨ ys.length ≤ i)⟩
theorem turn_zS {P : Program} {w : World} {K : PySem.W.Frag} {tg : Expr} (ht : TgOk tg) {b1 b2 : Bool} {a b z TI TO i1 i2 : Addr} (D : ZipApart z TI TO i1 i2 a b) :
    Turn P w K tg (ItzS K b1 b2 a b) [z, TI, TO, i1, i2] z (fun i h => (∃ v f, ZR h z v f TI TO ∧ ZV v) ∧ IsPair h TI (.ref i1) (.ref i2) ∧ (∃ x y, IsPair h TO x y) ∧ SIt b1 h i1 a i ∧ SIt b2 h i2 b i) where
  mem := by simp
  obj := fun i h st c hc => by
    obtain ⟨⟨v, f, hz, hv⟩, hTI, ⟨x, y, hTO⟩, h1, h2⟩ := st
    have e' : c = z ∨ c = TI ∨ c = TO ∨ c = i1 ∨ c = i2 := by simpa using hc
    rcases e' with q | q | q | q | q
    · rw [q]; exact ⟨_, hz, fun v q => nomatch q⟩
    · rw [q]; exact ⟨_, hTI, fun v q => nomatch q⟩
    · rw [q]; exact ⟨_, hTO, fun v q => nomatch q⟩
    · rw [q]; exact h1.there
    · rw [q]; exact h2.there
  keep := fun i h h' st k => by
    obtain ⟨⟨v, f, hz, hv⟩, hTI, ⟨x, y, hTO⟩, h1, h2⟩ := st
    exact ⟨⟨v, f, k z (by simp) _ hz, hv⟩, k TI (by simp) _ hTI, ⟨x, y, k TO (by simp) _ hTO⟩, h1.at fun o q => k i1 (by simp) o q, h2.at fun o q => k i2 (by simp) o q⟩
  item := by
    intro X hP hw hK hc i pins s σ H E I hf st hg
    subst hP hw hK
    obtain ⟨⟨v, f, hz, hv⟩, hTI, ⟨x0, y0, hTO⟩, h1, h2⟩ := st
    obtain ⟨xs, ys, x, y, hqx, hqy, hx, hy⟩ := hg
    obtain ⟨its, rv, p⟩ := hqx.at I
    obtain ⟨its2, rv2, p2⟩ := hqy.at I
    obtain ⟨u, hu, ru⟩ := rv.get hx
    obtain ⟨u2, hu2, ru2⟩ := rv2.get hy
    have hzl : z < s.heap.objs.size := Heap.lt_size hz
    refine zipA_next D hz hv hTI hTO h1 h2 p p2 (x := u) (y := u2) (by simpa using hu) (by simpa using hu2) fun h' v' f' z' hv' TO' h1' h2' hT hsz hk => ?_
    refine ⟨_, rfl, zipA_go ht (s := { s with heap := h' }) z' hv' fun h'' v'' z'' hv'' sb => ?_⟩
    have hT2 : h''.get? s.heap.objs.size = some { cls := .type "tuple", data := .seq #[u, u2] } := (sb.2 _ (Nat.ne_of_gt hzl)).trans hT
    have new : ObjOk X.prog X.w (upd H s.heap.objs.size (.tup [x, y])) h'' s.heap.objs.size (.tup [x, y]) :=
      ⟨by show 2 ≤ sizeLine; decide, [u, u2], .cons ru (.cons ru2 .nil), ⟨_, hT2, rfl, _, rfl⟩⟩
    have I1 : Inv X pins σ (upd H s.heap.objs.size (.tup [x, y])) { s with heap := h'' } :=
      I.turnedNew (t' := s.toks) (ch := [z, TI, TO, i1, i2]) (fun c o hb q => (sb.2 c (fun q' => hb (by simp [q']))).trans (hk c o (fun q' => hb (by simp [q'])) (fun q' => hb (by simp [q'])) (fun q' => hb (by simp [q'])) (fun q' => hb (by simp [q'])) q)) hf (Nat.le_refl _) new
    obtain ⟨xa, ya, TO''⟩ := TO'
    obtain ⟨o1, e1, _⟩ := h1.there
    obtain ⟨o2, e2, _⟩ := h2.there
    refine ⟨.ref s.heap.objs.size, _, I1, rfl, ⟨_, x, y, rfl, I.hok.fresh (Nat.le_refl _), rfl, fun l hl => by rw [hl.inj I hqx]; exact hx, fun l hl => by rw [hl.inj I hqy]; exact hy⟩, ⟨⟨v'', f', z'', hv''⟩, ?_, ⟨xa, ya, ?_⟩, ?_, ?_⟩, fun c hcm => ?_⟩
    · exact (sb.2 _ D.TIz).trans (hk _ _ D.TIz D.TITO D.TIi1 D.TIi2 hTI)
    · exact (sb.2 _ D.TOz).trans TO''
    · exact h1'.at fun o q => (sb.2 _ D.i1z).trans q
    · exact h2'.at fun o q => (sb.2 _ D.i2z).trans q
    · have hlt : c < s.heap.objs.size := by
        have e' : c = z ∨ c = TI ∨ c = TO ∨ c = i1 ∨ c = i2 := by simpa using hcm
        rcases e' with q | q | q | q | q
        · rw [q]; exact hzl
        · rw [q]; exact Heap.lt_size hTI
        · rw [q]; exact Heap.lt_size hTO
        · rw [q]; exact Heap.lt_size e1
        · rw [q]; exact Heap.lt_size e2
      rw [upd_ne (Nat.ne_of_lt hlt)]
      exact (hf c hcm).1
  done := by
    intro X hP hw hK hc i pins s σ H E I hf st hg
    subst hP hw hK
    obtain ⟨⟨v, f, hz, hv⟩, hTI, ⟨x0, y0, hTO⟩, h1, h2⟩ := st
    obtain ⟨xs, ys, hqx, hqy, hend⟩ := hg
    obtain ⟨its, rv, p⟩ := hqx.at I
    obtain ⟨its2, rv2, p2⟩ := hqy.at I
    have l1 := rv.length
    have l2 := rv2.length
    have he : its.toArray[i]? = none ∨ its2.toArray[i]? = none := by
      rcases hend with q | q
      · exact .inl (by simp; omega)
      · exact .inr (by simp; omega)
    exact zipA_stop (I.ok.hd hc) D hz hv hTI hTO h1 h2 p p2 he fun h' hk => ⟨rfl, I.turnedL (t' := s.toks) (ch := [z, TI, TO, i1, i2]) (fun c o hb q =>
      hk c o (fun q' => hb (by simp [q'])) (fun q' => hb (by simp [q'])) (fun q' => hb (by simp [q'])) (fun q' => hb (by simp [q'])) q) hf⟩
  self := fun A i s Q E st h => by
    obtain ⟨⟨v, f, hz, hv⟩, _⟩ := st
    have hT : s.TypeIs (.ref z) "zip" := ⟨_, hz, rfl⟩
    refine wpAny_pyIter_slot hT PySem.F.slot_zip_iter (wpAny_call_entry PySem.F.slot_zip_iter hT PySem.F.entry_zip_iter ?_ (PySem.F.args_zip_iter_1 _))
    show wpAny _ _ (ret (.ref z)) _ _ s
    exact wpAny_pure ⟨_, rfl, "zip", _, hT, PySem.F.slot_zip_next.lookup, h⟩
def iZS (K : PySem.W.Frag) (ta : TA) : TI := fun σ H R => ta σ H fun vs H1 => ∃ a b xs ys b1 b2, vs = [.ref a, .ref b] ∧ Sq b1 K H1 a xs ∧ Sq b2 K H1 b ys ∧ R (ItzS K b1 b2 a b) H1
theorem pi_zS {X : Cx} {e e2 tg : Expr} (ht : TgOk tg) {ta : TA} {p pos : Pos} (hg : Gl X "zip") (hm : X.mg "zip" = none) (ha : PA X [e, e2] ta)
    (hs : starEach [e, e2] X.env = (false, eval e X.env) :: starEach [e2] X.env := by rfl) (hpl : (backTo pos (starEach [e2] X.env)).any (·.1) = false := by rfl) :
    PI X tg (.Call (.Name "zip" p) [e, e2] [] pos) (iZS X.K ta) := by
  refine ⟨fun pins s σ H R I h => ?_⟩
  refine Call_ (ld_blt I hg hm PyProof.Rows.boot_zip (PyProof.Rows.callWith_type1 (thn (ha.run pos pins s σ H _ I h) fun us s1 ⟨vs, H1, I1, r1, q1⟩ => ?_) hs hpl))
  obtain ⟨a, b, xs, ys, b1, b2, ex, hqx, hqy, q⟩ := q1
  subst ex
  cases r1 with
  | cons r rr =>
    cases rr with
    | cons r' rr =>
      cases rr
      cases r
      cases r'
      have fresh5 : ∀ c, c ∈ [s1.heap.objs.size + 4, s1.heap.objs.size + 2, s1.heap.objs.size + 3, s1.heap.objs.size, s1.heap.objs.size + 1] → FpOk X pins H1 c := fun c hcm => by
        have e' : c = s1.heap.objs.size + 4 ∨ c = s1.heap.objs.size + 2 ∨ c = s1.heap.objs.size + 3 ∨ c = s1.heap.objs.size ∨ c = s1.heap.objs.size + 1 := by simpa using hcm
        have hle : s1.heap.objs.size ≤ c := by
          rcases e' with z | z | z | z | z
          · rw [z]; exact Nat.le_add_right _ _
          · rw [z]; exact Nat.le_add_right _ _
          · rw [z]; exact Nat.le_add_right _ _
          · rw [z]; exact Nat.le_refl _
          · rw [z]; exact Nat.le_add_right _ _
        exact I1.fpOk hle (I1.hok.fresh hle)
      obtain ⟨its, rv, p1⟩ := hqx.at I1
      obtain ⟨its2, rv2, p2⟩ := hqy.at I1
      refine call_zS p1 p2 fun h' hz hTI hTO h1 h2 hsz hk => wpAny_pyIter_zip hz ?_
      have I2 : Inv X pins σ H1 { s1 with heap := h' } := I1.kept (t' := s1.toks) hk
      exact ⟨s1.heap.objs.size + 4, [s1.heap.objs.size + 4, s1.heap.objs.size + 2, s1.heap.objs.size + 3, s1.heap.objs.size, s1.heap.objs.size + 1], _, _, H1, rfl, I2, turn_zS ht (PySem.W.ktu_apart s1.heap.objs.size a b p1.lt p2.lt), ⟨⟨_, _, hz, .inl rfl⟩, hTI, ⟨_, _, hTO⟩, h1, h2⟩, fresh5, q⟩

/-! ### by data -/
def zipD : List D → List D → List D
  | x :: xs, y :: ys => .tup [x, y] :: zipD xs ys
  | _, _ => []
theorem zipD_get : ∀ {xs ys : List D} {i : Nat} {x y : D}, xs[i]? = some x → ys[i]? = some y → (zipD xs ys)[i]? = some (.tup [x, y])
  | [], _, i, x, y, h, _ => by simp at h
  | _ :: _, [], i, x, y, _, h => by simp at h
  | a :: xs, b :: ys, 0, x, y, h, h2 => by
    simp at h h2
    subst h; subst h2
    rfl
  | a :: xs, b :: ys, i + 1, x, y, h, h2 => by
    show (zipD xs ys)[i]? = _
    exact zipD_get (by simpa using h) (by simpa using h2)
theorem zipD_length : ∀ {xs ys : List D}, (zipD xs ys).length = min xs.length ys.length
  | [], _ => by simp [zipD]
  | _ :: _, [] => by simp [zipD]
  | _ :: xs, _ :: ys => by
    show (zipD xs ys).length + 1 = _
    rw [zipD_length]
    simp
def seqL : D → Option (List D)
  | .lst ds => some ds
  | .tup ds => some ds
  | _ => none
theorem Rp.sq {Z : C3} {F : Hp} {v : V} {d : D} {ds : List D} (h : Rp Z F v d) (e : seqL d = some ds) : ∃ b a xs, v = .ref a ∧ Sq b Z.K F a xs ∧ RpL Z F xs ds := by
  cases d with
  | lst l =>
    cases e
    cases h with
    | lst hs hr => exact ⟨false, _, _, rfl, hs.sq, hr⟩
  | tup l =>
    cases e
    cases h with
    | tup hs hr => exact ⟨true, _, _, rfl, hs, hr⟩
  | _ => cases e
theorem wk_zip {Z : C3} {F0 : Hp} {b1 b2 : Bool} {a b : Addr} {xs ys : List V} {ds es : List D} (h : Sq b1 Z.K F0 a xs) (h2 : Sq b2 Z.K F0 b ys) (r : RpL Z F0 xs ds) (r2 : RpL Z F0 ys es) : Wk Z (ItzS Z.K b1 b2 a b) (zipD ds es) F0 := by
  refine ⟨fun H => Sq b1 Z.K H a xs ∧ Sq b2 Z.K H b ys, fun i H v H' => ∃ T x y, v = .ref T ∧ H T = none ∧ H' = upd H T (.tup [x, y]) ∧ xs[i]? = some x ∧ ys[i]? = some y, ⟨fun i H hi q => ?_, fun H q => ?_, fun i H x H' hi q y => ?_⟩, fun F H e e2 => ⟨h.ex (e.trans e2), h2.ex (e.trans e2)⟩, fun i F H x H' hi e e2 y => ?_⟩
  · rw [zipD_length, ← r.length, ← r2.length] at hi
    exact ⟨xs, ys, _, _, q.1, q.2, List.getElem?_eq_getElem (Nat.lt_of_lt_of_le hi (Nat.min_le_left ..)), List.getElem?_eq_getElem (Nat.lt_of_lt_of_le hi (Nat.min_le_right ..))⟩
  · rw [zipD_length, ← r.length, ← r2.length]
    exact ⟨xs, ys, q.1, q.2, by omega⟩
  · obtain ⟨T, u, v, e1, e2, e3, e4, e5⟩ := y
    exact ⟨T, u, v, e1, e2, e3, e4 _ q.1, e5 _ q.2⟩
  · obtain ⟨T, u, v, rfl, e2', rfl, e4, e5⟩ := y
    obtain ⟨d, hd, rd⟩ := r.get e4
    obtain ⟨d2, hd2, rd2⟩ := r2.get e5
    have nw : New F H (upd F T (.tup [u, v])) (upd H T (.tup [u, v])) := New.froz e2 e2'
    exact ⟨_, _, zipD_get hd hd2, nw, Rp.tup (.of upd_same) (.cons (rd.mono (e.trans nw.exF)) (.cons (rd2.mono (e.trans nw.exF)) .nil))⟩
def iZip (t : MA) : MI := fun env => match t env with
  | .ok rs e => (match takes e rs with
    | some ([d1, d2], e') => (match seqL d1, seqL d2 with
      | some xs, some ys => .ok (zipD xs ys) e'
      | _, _ => .stuck)
    | _ => .stuck)
  | .exc c e => .exc c e
  | .stuck => .stuck
theorem im_zip {X : Cx} {W : WX} {e e2 tg : Expr} {t : MA} {p pos : Pos} (ht : TgOk tg) (hg : Gl X "zip") (hm : X.mg "zip" = none) (ha : AM X W [e, e2] t)
    (hs : starEach [e, e2] X.env = (false, eval e X.env) :: starEach [e2] X.env := by rfl) (hpl : (backTo pos (starEach [e2] X.env)).any (·.1) = false := by rfl) :
    IM X W tg (.Call (.Name "zip" p) [e, e2] [] pos) (iZip t) := ⟨pi_mono (pi_zS ht hg hm ha.pa hs hpl) fun σ H R q => by
  obtain ⟨env, F, S, q⟩ := q
  refine ⟨env, F, S, ?_⟩
  unfold iZip at q
  cases em : t env with
  | stuck => rw [em] at q; exact q.elim
  | exc c e => rw [em] at q; exact q
  | ok rs e =>
    simp only [em] at q
    intro vs H1 F1 g1 S1 r1
    cases et : takes e rs with
    | none => rw [et] at q; exact q.elim
    | some de =>
      obtain ⟨ds, e'⟩ := de
      rw [et] at q
      obtain ⟨F2, g2, S2, p2, x2⟩ := r1.take g1 S1 et
      cases p2 with
      | nil => exact q.elim
      | cons a1 t1 =>
        cases t1 with
        | nil => exact q.elim
        | cons a2 t2 =>
          cases t2 with
          | cons _ _ => exact q.elim
          | nil =>
            simp only at q
            rename_i v1 d1 v2 d2
            cases e1 : seqL d1 with
            | none => rw [e1] at q; exact q.elim
            | some xs =>
              cases e2 : seqL d2 with
              | none => rw [e1, e2] at q; exact q.elim
              | some ys =>
                simp only [e1, e2] at q
                obtain ⟨b1, a, us, rfl, hs1, hr1⟩ := a1.sq e1
                obtain ⟨b2, b, vs, rfl, hs2, hr2⟩ := a2.sq e2
                exact ⟨a, b, us, vs, b1, b2, rfl, hs1.ex S2.ex, hs2.ex S2.ex, q _ H1 F2 g2 S2 (wk_zip hs1 hs2 hr1 hr2)⟩⟩

/-! ### enumerate of a list -/
def enumD (i : Int) : List D → List D
  | [] => []
  | x :: xs => .tup [.int i, x] :: enumD (i + 1) xs
theorem enumD_get : ∀ {xs : List D} {k : Int} {i : Nat} {x : D}, xs[i]? = some x → (enumD k xs)[i]? = some (.tup [.int (k + i), x])
  | [], _, i, x, h => by simp at h
  | a :: xs, k, 0, x, h => by
    simp at h
    subst h
    show some _ = some _
    simp
  | a :: xs, k, i + 1, x, h => by
    show (enumD (k + 1) xs)[i]? = _
    rw [enumD_get (by simpa using h)]
    have e : k + 1 + (i : Int) = k + ((i + 1 : Nat) : Int) := by omega
    rw [e]
theorem enumD_length : ∀ {xs : List D} {k : Int}, (enumD k xs).length = xs.length
  | [], _ => rfl
  | _ :: xs, k => congrArg (· + 1) (enumD_length (xs := xs))
theorem wk_enum {Z : C3} {F0 : Hp} {a : Addr} {xs : List V} {ds : List D} (h : SqL Z.K F0 a xs) (r : RpL Z F0 xs ds) : Wk Z (Ite Z.K a) (enumD 0 ds) F0 := by
  refine ⟨fun H => SqL Z.K H a xs, fun i H v H' => ∃ T x, v = .ref T ∧ H T = none ∧ H' = upd H T (.tup [.int (i : Nat), x]) ∧ xs[i]? = some x, ⟨fun i H hi q => ?_, fun H q => ?_, fun i H x H' hi q y => ?_⟩, fun F H e e2 => Evl.ex_l (e.trans e2) h, fun i F H x H' hi e e2 y => ?_⟩
  · rw [enumD_length, ← r.length] at hi
    exact ⟨xs, _, q, List.getElem?_eq_getElem hi⟩
  · rw [enumD_length, ← r.length]
    exact ⟨xs, q, Nat.le_refl _⟩
  · obtain ⟨T, u, e1, e2, e3, e4⟩ := y
    exact ⟨T, u, e1, e2, e3, e4 _ q⟩
  · obtain ⟨T, u, rfl, e2', rfl, e4⟩ := y
    obtain ⟨d, hd, rd⟩ := r.get e4
    have nw : New F H (upd F T (.tup [.int (i : Nat), u])) (upd H T (.tup [.int (i : Nat), u])) := New.froz e2 e2'
    refine ⟨_, _, enumD_get hd, nw, Rp.tup (.of upd_same) (.cons ?_ (.cons (rd.mono (e.trans nw.exF)) .nil))⟩
    rw [Int.zero_add]
    exact .int _
def iEnumM (t : MA) : MI := fun env => match t env with
  | .ok rs e => (match takes e rs with
    | some ([.lst xs], e') => .ok (enumD 0 xs) e'
    | _ => .stuck)
  | .exc c e => .exc c e
  | .stuck => .stuck
theorem im_enum {X : Cx} {W : WX} {e : Expr} {t : MA} {p pos tpos : Pos} {elts : List Expr} {kk : Nat} (hg : Gl X "enumerate") (hm : X.mg "enumerate" = none) (ha : AM X W [e] t) (hs : starEach [e] X.env = [(false, eval e X.env)] := by rfl) :
    IM X W (.Tuple elts kk tpos) (.Call (.Name "enumerate" p) [e] [] pos) (iEnumM t) := ⟨pi_mono (pi_enum hg hm ha.pa hs) fun σ H R q => by
  obtain ⟨env, F, S, q⟩ := q
  refine ⟨env, F, S, ?_⟩
  unfold iEnumM at q
  cases em : t env with
  | stuck => rw [em] at q; exact q.elim
  | exc c e => rw [em] at q; exact q
  | ok rs e =>
    simp only [em] at q
    intro vs H1 F1 g1 S1 r1
    cases et : takes e rs with
    | none => rw [et] at q; exact q.elim
    | some de =>
      obtain ⟨ds, e'⟩ := de
      rw [et] at q
      obtain ⟨F2, g2, S2, p2, x2⟩ := r1.take g1 S1 et
      cases p2 with
      | nil => exact q.elim
      | cons a1 t1 =>
        cases t1 with
        | cons _ _ => cases a1 <;> exact q.elim
        | nil =>
          cases a1 with
          | lst hs hr => exact ⟨_, _, rfl, (hs.mono S2.ex).sq, q _ H1 F2 g2 S2 (wk_enum hs.sq hr)⟩
          | _ => exact q.elim⟩
end Gr
end
section
/-! a, b = x, y; a, b = f(..); n += e; statements that never run. -/
namespace Gr
open PySem PySem.Spec PyProof.Rows L2

/-! ### several names at once: things held by a slot are frozen first -/
def settle (env : En) : List R → Option (List R × En)
  | [] => some ([], env)
  | .slot i :: rs => (match (R.slot i).take env with
    | some (d, e1) => (match settle e1 rs with
      | some (qs, e2) => some (.fro d :: qs, e2)
      | none => none)
    | none => none)
  | r :: rs => (match settle env rs with
    | some (qs, e2) => some (r :: qs, e2)
    | none => none)
def puts : List Nat → List R → En → Option En
  | [], [], env => some env
  | i :: is, .fro d :: rs, env => (match putF i d env with
    | some e => puts is rs e
    | none => none)
  | i :: is, .tmp d :: rs, env => (match putO i d env with
    | some e => puts is rs e
    | none => none)
  | _, _, _ => none
theorem settle_ok {Z : C3} {Hb : Hp} {σ : Sg} : ∀ {rs : List R} {F H : Hp} {env env' : En} {vs : List V} {qs : List R}, RepS Z F H σ env → RepRs Z F H σ env Hb vs rs → settle env rs = some (qs, env') →
    ∃ F', Go F H σ env F' H σ env' ∧ RepS Z F' H σ env' ∧ RepRs Z F' H σ env' Hb vs qs ∧ (∀ (j : Nat) (d : D), qs[j]? = some (R.tmp d) → rs[j]? = some (R.tmp d))
  | [], F, H, env, env', _, qs, S, .nil, e => by
    cases e
    exact ⟨F, .refl, S, .nil, fun j d h => by simp at h⟩
  | r :: rs, F, H, env, env', _, qs, S, .cons (v := v) (vs := vs) h fr ne t, e => by
    cases r with
    | slot i =>
      unfold settle at e
      cases e1 : (R.slot i).take env with
      | none => rw [e1] at e; cases e
      | some de =>
        obtain ⟨d, env1⟩ := de
        simp only [e1] at e
        cases e2 : settle env1 rs with
        | none => rw [e2] at e; cases e
        | some de2 =>
          obtain ⟨q2, env2⟩ := de2
          rw [e2] at e
          cases e
          obtain ⟨F1, g1, S1, p1, x1, c1⟩ := RepR.take .refl S h (trivial : FrR H v (.slot i)) e1
          obtain ⟨F2, g2, S2, r2, k2⟩ := settle_ok S1 (RepRs.carry c1 t ne) e2
          refine ⟨F2, g1.trans g2, S2, .cons (p1.mono g2.exF) trivial (fun d e => by cases e) r2, fun j d hj => ?_⟩
          cases j with
          | zero => simp at hj
          | succ j => simpa using k2 j d (by simpa using hj)
    | fro d =>
      unfold settle at e
      cases e2 : settle env rs with
      | none => rw [e2] at e; cases e
      | some de2 =>
        obtain ⟨q2, env2⟩ := de2
        rw [e2] at e
        cases e
        obtain ⟨F2, g2, S2, r2, k2⟩ := settle_ok S t e2
        refine ⟨F2, g2, S2, .cons (h.after g2) fr (fun d e => by cases e) r2, fun j d hj => ?_⟩
        cases j with
        | zero => simpa using hj
        | succ j => simpa using k2 j d (by simpa using hj)
    | tmp d =>
      unfold settle at e
      cases e2 : settle env rs with
      | none => rw [e2] at e; cases e
      | some de2 =>
        obtain ⟨q2, env2⟩ := de2
        rw [e2] at e
        cases e
        obtain ⟨F2, g2, S2, r2, k2⟩ := settle_ok S t e2
        refine ⟨F2, g2, S2, .cons (h.after g2) fr (fun d e j w d' hj hq => ne d e j w d' hj (k2 j d' hq)) r2, fun j d hj => ?_⟩
        cases j with
        | zero => simpa using hj
        | succ j => simpa using k2 j d (by simpa using hj)
def setsV : List Nat → List V → Sg → Sg
  | i :: is, v :: vs, σ => setsV is vs (σ.set i (some v))
  | _, _, σ => σ
/-- a result that no slot bears, behind a store of another -/
theorem RepR.behind {Z : C3} {F H : Hp} {σ : Sg} {env : En} {i : Nat} {s : SV} {v w : V} {r : R} (hi : i < env.length) (hs : ∀ j, r ≠ .slot j) (h : RepR Z F H σ env w r) (ne : ∀ d d', s = .own d → r = .tmp d' → w ≠ v) (nb : ∀ d, s ≠ .bor d) : RepR Z F H (σ.set i (some v)) (env.set i s) w r := by
  cases r with
  | fro d => exact h
  | slot j => exact absurd rfl (hs j)
  | tmp d =>
    obtain ⟨a, rfl, n, no, o⟩ := h
    refine ⟨a, rfl, n, fun z => ?_, o⟩
    rcases owned_set hi z with ⟨d0, c, e⟩ | ⟨j, t, d0, nj, h1, h2, h3⟩
    · cases e
      cases s with
      | own d1 => exact ne d1 d rfl rfl rfl
      | bor d1 => exact nb d1 rfl
      | _ => cases c
    · exact no ⟨j, t, d0, h1, h2, h3⟩
theorem RepRs.behind {Z : C3} {F H Hb : Hp} {σ : Sg} {env : En} {i : Nat} {s : SV} {v : V} (hi : i < env.length) (nb : ∀ d, s ≠ .bor d) : ∀ {vs : List V} {rs : List R}, (∀ r ∈ rs, ∀ j, r ≠ .slot j) → (∀ d, s = .own d → ∀ (j : Nat) w d', vs[j]? = some w → rs[j]? = some (.tmp d') → w ≠ v) → RepRs Z F H σ env Hb vs rs → RepRs Z F H (σ.set i (some v)) (env.set i s) Hb vs rs
  | [], [], _, _, .nil => .nil
  | w1 :: vs, r :: rs, hs, ne, .cons a b c t => .cons (a.behind hi (hs r (by simp)) (fun d d' e1 e2 => ne d e1 0 w1 d' rfl (by rw [e2]; rfl)) nb) b c
      (RepRs.behind hi nb (fun q hq => hs q (List.mem_cons_of_mem _ hq)) (fun d e j w d' h1 h2 => ne d e (j + 1) w d' (by simpa using h1) (by simpa using h2)) t)
theorem putF_eq {i : Nat} {d : D} {env env' : En} (e : putF i d env = some env') : i < env.length ∧ env' = env.set i (.fro d) := by
  unfold putF at e
  cases q : env[i]? with
  | none => simp only [q] at e; cases e
  | some s =>
    simp only [q] at e
    refine ⟨(List.getElem?_eq_some_iff.mp q).1, ?_⟩
    cases s <;> first | (cases e; rfl) | cases e
theorem putO_eq {i : Nat} {d : D} {env env' : En} (e : putO i d env = some env') : i < env.length ∧ env' = env.set i (.own d) := by
  unfold putO at e
  cases q : env[i]? with
  | none => simp only [q] at e; cases e
  | some s =>
    simp only [q] at e
    refine ⟨(List.getElem?_eq_some_iff.mp q).1, ?_⟩
    cases s <;> first | (cases e; rfl) | cases e
theorem puts_ok {Z : C3} {Fb Hb : Hp} {σb : Sg} {eb : En} : ∀ {is : List Nat} {rs : List R} {F H : Hp} {σ : Sg} {env env' : En} {vs : List V}, Go Fb Hb σb eb F H σ env → RepS Z F H σ env → RepRs Z F H σ env Hb vs rs → puts is rs env = some env' →
    Go Fb Hb σb eb F H (setsV is vs σ) env' ∧ RepS Z F H (setsV is vs σ) env'
  | [], [], F, H, σ, env, env', _, gb, S, .nil, e => by
    cases e
    exact ⟨gb, S⟩
  | [], _ :: _, _, _, _, _, _, _, _, _, _, e => by cases e
  | _ :: _, [], _, _, _, _, _, _, _, _, _, e => by cases e
  | i :: is, r :: rs, F, H, σ, env, env', _, gb, S, .cons (v := v) (vs := vs) h fr ne t, e => by
    have ns : ∀ {is : List Nat} {rs : List R} {e1 e2 : En}, puts is rs e1 = some e2 → ∀ r ∈ rs, ∀ j, r ≠ .slot j := by
      intro is
      induction is with
      | nil => intro rs e1 e2 h r hr; cases rs with
        | nil => simp at hr
        | cons _ _ => cases h
      | cons i is ih =>
        intro rs e1 e2 h r hr j z
        subst z
        cases rs with
        | nil => simp at hr
        | cons q rs =>
          cases q with
          | slot k => cases h
          | fro d =>
            unfold puts at h
            cases e : putF i d e1 with
            | none => rw [e] at h; cases h
            | some e3 =>
              simp only [e] at h
              rcases List.mem_cons.mp hr with z | hr
              · cases z
              · exact ih h _ hr j rfl
          | tmp d =>
            unfold puts at h
            cases e : putO i d e1 with
            | none => rw [e] at h; cases h
            | some e3 =>
              simp only [e] at h
              rcases List.mem_cons.mp hr with z | hr
              · cases z
              · exact ih h _ hr j rfl
    cases r with
    | slot j => cases e
    | fro d =>
      unfold puts at e
      cases ep : putF i d env with
      | none => rw [ep] at e; cases e
      | some e1 =>
        simp only [ep] at e
        obtain ⟨g1, S1⟩ := putF_ok gb S h ep
        obtain ⟨hi, rfl⟩ := putF_eq ep
        have t' := RepRs.behind (s := .fro d) (v := v) hi (fun d e => by cases e) (ns e) (fun d e => by cases e) t
        have r := puts_ok g1 S1 t' e
        exact r
    | tmp d =>
      unfold puts at e
      cases ep : putO i d env with
      | none => rw [ep] at e; cases e
      | some e1 =>
        simp only [ep] at e
        obtain ⟨a, rfl, n, no, o⟩ := h
        obtain ⟨b, eb', hb⟩ := fr
        cases eb'
        obtain ⟨g1, S1⟩ := putO_ok gb S n no hb o ep
        obtain ⟨hi, rfl⟩ := putO_eq ep
        have t' := RepRs.behind (s := .own d) (v := .ref a) hi (fun d e => by cases e) (ns e) (fun d0 _ => ne d rfl) t
        have r := puts_ok g1 S1 t' e
        exact r
def sPar (is : List Nat) (t : MA) : MS := fun env => match t env with
  | .ok rs e => (match settle e rs with
    | some (qs, e1) => (match puts is qs e1 with
      | some e2 => .nx e2
      | none => .stuck)
    | none => .stuck)
  | .exc c e => .exc c e
  | .stuck => .stuck
theorem t_par {Z : C3} {W : WX} {D : Ends} {σ : Sg} {H : Hp} {is : List Nat} {t : MA} (q : tS Z W (sPar is t) D σ H) : tA Z W t σ H fun vs H1 => vs.length = is.length ∧ D.nx (setsV is vs σ) H1 := by
  obtain ⟨env, F, S, q⟩ := q
  refine ⟨env, F, S, ?_⟩
  unfold sPar at q
  cases em : t env with
  | stuck => rw [em] at q; exact q.elim
  | exc c e => rw [em] at q; exact fun H' F' g S' => q σ H' F' g S'
  | ok rs e =>
    simp only [em] at q
    intro vs H1 F1 g1 S1 r1
    cases es : settle e rs with
    | none => rw [es] at q; exact q.elim
    | some de =>
      obtain ⟨qs, e1⟩ := de
      simp only [es] at q
      cases ep : puts is qs e1 with
      | none => rw [ep] at q; exact q.elim
      | some e2 =>
        rw [ep] at q
        obtain ⟨F2, g2, S2, r2, _⟩ := settle_ok S1 r1 es
        obtain ⟨g3, S3⟩ := puts_ok (g1.trans g2) S2 r2 ep
        refine ⟨?_, q _ H1 F2 g3 S3⟩
        have len : ∀ {is : List Nat} {qs : List R} {e1 e2 : En}, puts is qs e1 = some e2 → qs.length = is.length := by
          intro is
          induction is with
          | nil => intro qs e1 e2 h; cases qs with
            | nil => rfl
            | cons _ _ => cases h
          | cons i is ih =>
            intro qs e1 e2 h
            cases qs with
            | nil => cases h
            | cons r qs =>
              cases r with
              | slot j => cases h
              | fro d =>
                unfold puts at h
                cases e : putF i d e1 with
                | none => rw [e] at h; cases h
                | some e3 => simp only [e] at h; exact congrArg (· + 1) (ih h)
              | tmp d =>
                unfold puts at h
                cases e : putO i d e1 with
                | none => rw [e] at h; cases h
                | some e3 => simp only [e] at h; exact congrArg (· + 1) (ih h)
        have l2 : ∀ {vs : List V} {rs : List R}, RepRs Z F2 H1 σ e1 H vs rs → vs.length = rs.length := by
          intro vs rs h
          induction h with
          | nil => rfl
          | cons _ _ _ _ ih => exact congrArg (· + 1) ih
        rw [l2 r2, len ep]
theorem ta_mono2 {Z : C3} {W : WX} {t : MA} {σ : Sg} {H : Hp} {Q Q' : List V → Hp → Prop} (q : tA Z W t σ H Q) (k : ∀ vs H', Q vs H' → Q' vs H') : tA Z W t σ H Q' := ta_mono q k
section
variable {X : Cx} {W : WX} {i j l : Nat} {x y z : Str} {a b c : Expr} {t : MA} {px py pz pt pos : Pos} {kt k2 pt2}
theorem sm_par (hc : X.calm = true) (hN : X.N.Nodup) (ha : AM X W [a, b] t) (hi : X.N[i]? = some x := by rfl) (hj : X.N[j]? = some y := by rfl) (hij : i ≠ j := by decide)
    (hx : X.env.scope.names.lookup x = some .local := by rfl) (hy : X.env.scope.names.lookup y = some .local := by rfl)
    (hw : swappedStores [.Tuple [.Name x px, .Name y py] kt pt] (.Tuple [a, b] k2 pt2) X.env = pure (some [x, y]) := by rfl)
    (hs : swapsWithSole [.Tuple [.Name x px, .Name y py] kt pt] (.Tuple [a, b] k2 pt2) pos.line X.env = pure false := by rfl) :
    SM X W (.Assign [.Tuple [.Name x px, .Name y py] kt pt] (.Tuple [a, b] k2 pt2) pos) (sPar [i, j] t) := ⟨ps_mono (ps_par hc hN hi hj hij hx hy ha.pa hw hs) fun D σ H q => ta_mono (t_par q) fun vs H1 ⟨e, q⟩ => by
  match vs, e with
  | [v, w], _ => exact ⟨v, w, rfl, q⟩⟩
theorem sm_par3 (hc : X.calm = true) (hN : X.N.Nodup) (ha : AM X W [a, b, c] t) (hi : X.N[i]? = some x := by rfl) (hj : X.N[j]? = some y := by rfl) (hl : X.N[l]? = some z := by rfl) (hij : i ≠ j := by decide) (hil : i ≠ l := by decide) (hjl : j ≠ l := by decide)
    (hx : X.env.scope.names.lookup x = some .local := by rfl) (hy : X.env.scope.names.lookup y = some .local := by rfl) (hz : X.env.scope.names.lookup z = some .local := by rfl)
    (hw : swappedStores [.Tuple [.Name x px, .Name y py, .Name z pz] kt pt] (.Tuple [a, b, c] k2 pt2) X.env = pure (some [x, y, z]) := by rfl)
    (hs : swapsWithSole [.Tuple [.Name x px, .Name y py, .Name z pz] kt pt] (.Tuple [a, b, c] k2 pt2) pos.line X.env = pure false := by rfl) :
    SM X W (.Assign [.Tuple [.Name x px, .Name y py, .Name z pz] kt pt] (.Tuple [a, b, c] k2 pt2) pos) (sPar [i, j, l] t) := ⟨ps_mono (ps_par3 hc hN hi hj hl hij hil hjl hx hy hz ha.pa hw hs) fun D σ H q => ta_mono (t_par q) fun vs H1 ⟨e, q⟩ => by
  match vs, e with
  | [u, v, w], _ => exact ⟨u, v, w, rfl, q⟩⟩
end

/-! ### a target that is unpacked -/
def sAsg (g : MG) (m : M) : MS := fun env => (m env).andS fun r e => match r.take e with
  | some (d, e1) => (match g d e1 with
    | some e2 => .nx e2
    | none => .stuck)
  | none => .stuck
theorem sm_asg {X : Cx} {W : WX} {tg e : Expr} {m : M} {g : MG} {vs : List Nat} {pos : Pos} (he : EM X W e m) (hg : GM X tg vs g) (hs : swapsWithSole [tg] e pos.line X.env = pure false := by rfl) (hw : swappedStores [tg] e X.env = pure none := by rfl)
    (h1 : (assignEach [tg] X.env).map (·.2) = [assign tg X.env] := by rfl) : SM X W (.Assign [tg] e pos) (sAsg g m) := by
  obtain ⟨tt, ht, hk⟩ := hg.ex
  refine ⟨ps_mono (ps_asg he.pe ht hs hw h1) fun D σ H q => ?_⟩
  obtain ⟨env, F, S, q⟩ := q
  refine tE_andS S q fun r e1 v H1 F1 _ g1 S1 r1 f1 w => ?_
  cases et : r.take e1 with
  | none => rw [et] at w; exact w.elim
  | some de =>
    obtain ⟨d, e2⟩ := de
    simp only [et] at w
    obtain ⟨F2, g2, S2, p2, _⟩ := RepR.take g1 S1 r1 f1 et
    cases eg : g d e2 with
    | none => rw [eg] at w; exact w.elim
    | some e3 =>
      rw [eg] at w
      exact hk v d σ H1 F2 e2 e3 _ S2 p2 eg fun σ' g3 S3 _ => w σ' H1 F2 (g2.trans g3) S3

/-! ### n op= e, of ints -/
def sAug (i : Nat) (f : Int → Int → Int) (m : M) : MS := fun env => match env[i]? with
  | some (.fro (.int k)) => (m env).andS fun r e => (match r.see e with
    | some (.int j) => (match putF i (.int (f k j)) e with
      | some e' => .nx e'
      | none => .stuck)
    | _ => .stuck)
  | _ => .stuck
theorem sm_aug {X : Cx} {W : WX} {i : Nat} {x : Str} {e : Expr} {m : M} {op : Operator} {f : Int → Int → Int} {pos pos' : Pos} (hN : X.N.Nodup) (he : EM X W e m) (ho : PIp X op (ipI f)) (hi : X.N[i]? = some x := by rfl) (hx : Loc X.env.scope x := by first | exact Or.inl rfl | exact Or.inr rfl)
    (hf : X.fn x = true ∨ X.env.scope.names.lookup x = some .local := by first | exact .inl rfl | exact .inr rfl | assumption) : SM X W (.AugAssign (.Name x pos') op e pos) (sAug i f m) := ⟨ps_mono (ps_aug hN hi hx he.pe ho hf) fun D σ H q => by
  obtain ⟨env, F, S, q⟩ := q
  have q' : WiS (c3 X) W D σ F H env (sAug i f m env) := q
  unfold sAug at q'
  cases e0 : env[i]? with
  | none => rw [e0] at q'; exact q'.elim
  | some s =>
    rw [e0] at q'
    cases s with
    | fro d =>
      cases d with
      | int k =>
        obtain ⟨v, h1, h2⟩ := S.fro i _ e0
        cases h2
        refine ⟨.int k, h1, ?_⟩
        simp only at q'
        refine tE_andS S q' fun r e1 v H1 F1 _ g1 S1 r1 f1 w => ?_
        cases es : r.see e1 with
        | none => rw [es] at w; exact w.elim
        | some d =>
          cases d with
          | int j =>
            simp only [es] at w
            cases ep : putF i (.int (f k j)) e1 with
            | none => rw [ep] at w; exact w.elim
            | some e' =>
              rw [ep] at w
              obtain ⟨g2, S2⟩ := putF_ok g1 S1 (.int (f k j)) ep
              exact ⟨k, j, rfl, (r1.see S1 es).int, w _ H1 F1 g2 S2⟩
          | _ => rw [es] at w; exact w.elim
      | _ => exact q'.elim
    | _ => exact q'.elim⟩
/-! ### what never runs -/
def mNo : M := fun _ => .stuck
def sNo : MS := fun _ => .stuck
def tNo : MT := fun _ => .stuck
theorem em_no {X : Cx} {W : WX} {e : Expr} : EM X W e mNo := ⟨⟨fun pins s σ H Q I q => by obtain ⟨_, _, _, q⟩ := q; exact q.elim⟩⟩
theorem sm_no {X : Cx} {W : WX} {e : Stmt} : SM X W e sNo := ⟨⟨fun pins s σ H D I q => by obtain ⟨_, _, _, q⟩ := q; exact q.elim⟩⟩
theorem tm_no {X : Cx} {W : WX} {e : Expr} : TM X W e tNo := ⟨⟨fun pins s σ H Q I q => by obtain ⟨_, _, _, q⟩ := q; exact q.elim⟩⟩
end Gr
end
section
/-! Dicts made and changed; k in d; d.get; list * int. -/
namespace Gr
open PySem PySem.Spec PyProof.Rows L2

/-! ### storing -/
def swapE (k : NestedKey) (v : V) : List Ent → List Ent
  | [] => []
  | e :: r => (if NestedKey.beq e.1 k then (e.1, e.2.1, v) else e) :: swapE k v r
def putE (k : NestedKey) (a : Addr) (v : V) (found : Bool) (es : List Ent) : List Ent := if found then swapE k v es else es ++ [(k, a, v)]
theorem swap_paired {k : NestedKey} {v : V} {u : Value} (r : RelV v u) : ∀ {es : List Ent} {xs : List (NestedKey × Addr × Value)}, Paired PrX es xs → Paired PrX (swapE k v es) (xs.map (putAt k u))
  | _, _, .nil => .nil
  | _, _, .cons (a := e) (b := x) (l₁ := es) (l₂ := xs) ⟨p1, p2, p3⟩ t => by
    show Paired PrX (_ :: swapE k v es) (putAt k u x :: xs.map (putAt k u))
    refine .cons ?_ (swap_paired r t)
    unfold putAt
    by_cases q : NestedKey.beq e.1 k = true
    · have ek := beq_iff.mp q
      rw [if_pos q, if_pos (by rw [← p1, ek])]
      exact ⟨p1, p2, r⟩
    · have nk : ¬ x.1 = k := fun z => q (beq_iff.mpr (by rw [p1, z]))
      rw [if_neg q, if_neg nk]
      exact ⟨p1, p2, p3⟩
theorem swap_rp {Z : C3} {F : Hp} {k : NestedKey} {v : V} {d : D} (h : Rp Z F v d) : ∀ {es : List Ent} {kvs : List (D × D)}, RpK Z F es kvs → RpK Z F (swapE k v es) (swapK k d kvs)
  | _, _, .nil => .nil
  | _, _, .cons (k := k1) (a := a) (v := v0) (es := es) (kd := kd) (d := d0) (kvs := kvs) e dp hk h0 r => by
    show RpK Z F ((if NestedKey.beq k1 k then (k1, a, v) else (k1, a, v0)) :: swapE k v es) ((match kd.nk with
      | some k' => if NestedKey.beq k' k then (kd, d) else (kd, d0)
      | none => (kd, d0)) :: swapK k d kvs)
    rw [e]
    by_cases q : NestedKey.beq k1 k = true
    · simp only [q, if_true]
      exact .cons e dp hk h (swap_rp h r)
    · simp only [q, if_false]
      exact .cons e dp hk h0 (swap_rp h r)
theorem RpK.snoc {Z : C3} {F : Hp} {k : NestedKey} {a : Addr} {v : V} {kd d : D} (e : kd.nk = some k) (dp : k.depth ≤ 8) (hk : Rp Z F (.ref a) kd) (h : Rp Z F v d) : ∀ {es : List Ent} {kvs : List (D × D)}, RpK Z F es kvs → RpK Z F (es ++ [(k, a, v)]) (kvs ++ [(kd, d)])
  | _, _, .nil => .cons e dp hk h .nil
  | _, _, .cons e0 d0 k0 h0 r => .cons e0 d0 k0 h0 (r.snoc e dp hk h)
theorem paired_snoc {es : List Ent} {xs : List (NestedKey × Addr × Value)} {e : Ent} {x : NestedKey × Addr × Value} (h : Paired PrX es xs) (r : PrX e x) : Paired PrX (es ++ [e]) (xs ++ [x]) := by
  induction h with
  | nil => exact .cons r .nil
  | cons a t ih => exact .cons a ih
/-- the entries behind a store -/
theorem put_ok {Z : C3} {F : Hp} {k : NestedKey} {b : Addr} {v : V} {u : Value} {kd d : D} {es : List Ent} {xs : List (NestedKey × Addr × Value)} {kvs : List (D × D)} (rk : RpK Z F es kvs) (hp : Paired PrX es xs) (e : kd.nk = some k) (dp : k.depth ≤ 8) (hk : Rp Z F (.ref b) kd) (h : Rp Z F v d) (r : RelV v u) :
    ∃ es', Paired PrX es' (storedH xs k b u) ∧ RpK Z F es' (putK kd k d kvs) := by
  unfold storedH putK
  rcases lookK_ok (k := k) rk hp with ⟨e1, e2⟩ | ⟨d', z, c, w, e1, e2, _, _⟩
  · rw [e1, e2]
    exact ⟨_, paired_snoc hp ⟨rfl, rfl, r⟩, rk.snoc e dp hk h⟩
  · rw [e1, e2]
    exact ⟨_, swap_paired r hp, swap_rp h rk⟩
theorem putK_length {kd d : D} {k : NestedKey} {kvs : List (D × D)} : (putK kd k d kvs).length ≤ kvs.length + 1 := by
  have sw : ∀ l : List (D × D), (swapK k d l).length = l.length := fun l => by
    induction l with
    | nil => rfl
    | cons x l ih => exact congrArg (· + 1) ih
  unfold putK
  split
  · rw [sw]; omega
  · simp
/-- a dict object in the heap, as it is tracked -/
theorem dobj_of {X : Cx} {h : Heap} {a : Addr} {es : List Ent} {xs : List (NestedKey × Addr × Value)} (hs : (a == sysModules) = false) (hm : h.DictOfH (nestedKind X.prog X.w) a xs) (hp : Paired PrX es xs) (hl : es.length ≤ sizeLine) : ∃ o, h.get? a = some o ∧ DObj (c3 X) a o es := by
  obtain ⟨o, ds, ep, ho, hx, hd, he, hall, hn⟩ := hm
  have e : es.map (·.1) = xs.map (·.1) := by
    clear he hn hl hall
    induction hp with
    | nil => rfl
    | cons r t ih => rw [List.map_cons, List.map_cons, ih, r.1]
  exact ⟨o, ho, ⟨hs, hl, by rw [e]; exact hn, xs, hp, ds, ep, hx, hd, he⟩⟩
theorem isO_ok {P : Program} {w : World} {H : Hp} {h : Heap} {a : Addr} {o : Obj} (e : h.get? a = some o) : ObjOk P w H h a (.ext (IsO a o)) := ⟨e, ⟨_, e⟩, fun _ _ p k => k _ p⟩
def storeD : D → D → D → Option D
  | .dct kvs, kd, d => (match keyOf kd with
    | some k => if kvs.length < szl then some (.dct (putK kd k d kvs)) else none
    | none => none)
  | .lst ds, .int i, d => (ixN ds.length i).map fun j => .lst (ds.set j d)
  | _, _, _ => none
def TSt (Z : C3) : TSet := fun o i v H Q => ∃ F a c kd d c', o = .ref a ∧ Ex F H ∧ F a = none ∧ Ow Z F H a c ∧ Rp Z F i kd ∧ Rp Z F v d ∧ storeD c kd d = some c' ∧ ∀ ob, Ow Z F (upd H a ob) a c' → Q (upd H a ob)
theorem set_st {X : Cx} {k : Nat} (hr : Room k X.A) : PSet X (TSt (c3 X)) := by
  intro pins s σ H o i v ov iv u Q I ro ri rv ⟨F, a, c, kd, d, c', eo, ex, nF, ow, hi, hv, e, q⟩
  subst eo
  cases ro
  unfold storeD at e
  split at e
  · rename_i kvs
    cases hk : keyOf kd with
    | none => rw [hk] at e; cases e
    | some kk =>
      simp only [hk] at e
      split at e
      · rename_i hz
        cases e
        obtain ⟨o, es, ha, dx, rk⟩ := ow
        obtain ⟨b, rfl, rfl, hb, _⟩ := key_at I ex hk (.inl hi) ri
        obtain ⟨xs, hm, hp⟩ := dx.at I ex ha rk
        obtain ⟨k1, k2, _⟩ := keyOf_ok hk
        obtain ⟨es', hp', rk'⟩ := put_ok rk hp k1 k2 hi hv rv
        have hl : xs.length = kvs.length := by rw [← Paired.length hp, rk.length]
        refine wpAny_setItem_heap (room8 hr) hb hm (fun h' hm' sb => ?_) (by rw [hl]; exact Nat.le_of_lt (szl_lt (Nat.le_of_lt hz)))
        have hl' : es'.length ≤ sizeLine := by
          rw [rk'.length]
          have := putK_length (kd := kd) (d := d) (k := kk) (kvs := kvs)
          exact szl_ok (by omega)
        obtain ⟨o', ho', dx'⟩ := dobj_of dx.sys hm' hp' hl'
        refine ⟨_, I.write (x := a) (e := a) (o := .ext (IsO a o')) (by rw [ha]; exact trivial) (.inl rfl) (fun b' u' hb' hu' => (sb.2 b' hb').trans hu') ⟨_, ho'⟩ (isO_ok ho'), q _ ⟨o', es', upd_same, dx', rk'⟩⟩
      · cases e
  · rename_i ds i
    cases hj : ixN ds.length i with
    | none => rw [hj] at e; cases e
    | some j =>
      rw [hj] at e
      cases e
      obtain ⟨xs, ha, r⟩ := ow
      cases hi
      refine set_list pins s σ H (.ref a) _ _ _ iv u Q I rfl ri rv ⟨a, xs, i, j, rfl, rfl, ha, by rw [r.length]; exact hj, q _ ⟨_, upd_same, r.set hv j⟩⟩
  · cases e
def sPut (me mo mk : M) : MS := fun env => (me env).andS fun r e1 => (mo e1).andS fun ro e2 => (mk e2).andS fun rk e3 => match ro, rk with
  | .slot i, .fro kd => (match r.take e3 with
    | some (d, e4) => (match (e4[i]?).bind SV.cont with
      | some c => (match storeD c kd d with
        | some c' => .nx (e4.modify i fun s => s.put c')
        | none => .stuck)
      | none => .stuck)
    | none => .stuck)
  | _, _ => .stuck
theorem tE_andS' {Z : C3} {W : WX} {m : M} {k : R → En → SR} {σ : Sg} {H : Hp} {D : Ends} {env eb : En} {F Fb Hb : Hp} {Q' : VK} (gb : Go Fb Hb σ eb F H σ env) (S : RepS Z F H σ env) (h : WiS Z W D σ Fb Hb eb ((m env).andS k))
    (n : ∀ r env' v H' F', Go F H σ env F' H' σ env' → Go Fb Hb σ eb F' H' σ env' → RepS Z F' H' σ env' → RepR Z F' H' σ env' v r → FrR H v r → WiS Z W D σ Fb Hb eb (k r env') → Q' v H') : tE Z W m σ H Q' := by
  refine ⟨env, F, S, ?_⟩
  cases e : m env with
  | stuck => rw [e] at h; exact h
  | exc c e' => rw [e] at h; exact fun H' F' g S' => h σ H' F' (gb.trans g) S'
  | ok r e' =>
    rw [e] at h
    exact fun v H' F' g S' rr fr => n r e' v H' F' g (gb.trans g) S' rr fr h
theorem sm_put {X : Cx} {W : WX} {k : Nat} {o i e : Expr} {tpos pos : Pos} {me mo mk : M} (hr : Room k X.A) (he : EM X W e me) (ho : EM X W o mo) (hi : EM X W i mk)
    (ha : ∀ v, assign (.Subscript o i tpos) X.env v = (do
      let ov ← holding [v] (eval o X.env)
      let iv ← holding [v, ov] (eval i X.env)
      standAt tpos
      holding [v, ov, iv] (setItem ov iv v)
      release [v, ov, iv] []) := by intro _; rfl)
    (hs : swapsWithSole [.Subscript o i tpos] e pos.line X.env = pure false := by rfl) (hw : swappedStores [.Subscript o i tpos] e X.env = pure none := by rfl)
    (h1 : (assignEach [.Subscript o i tpos] X.env).map (·.2) = [assign (.Subscript o i tpos) X.env] := by rfl) : SM X W (.Assign [.Subscript o i tpos] e pos) (sPut me mo mk) :=
  ⟨ps_mono (ps_asg he.pe (pg_sub ho.pe hi.pe (set_st hr) ha) hs hw h1) fun D σ H q => by
    obtain ⟨env, F, S, q⟩ := q
    refine tE_andS' .refl S q fun r e1 v H1 F1 _ g1 S1 r1 f1 w1 => ?_
    refine tE_andS' g1 S1 w1 fun ro e2 vo H2 F2 g12 g2 S2 r2 f2 w2 => ?_
    refine tE_andS' g2 S2 w2 fun rk e3 vk H3 F3 g23 g3 S3 r3 f3 w3 => ?_
    cases ro with
    | fro _ => exact w3.elim
    | tmp _ => exact w3.elim
    | slot j =>
      cases rk with
      | slot _ => exact w3.elim
      | tmp _ => exact w3.elim
      | fro kd =>
        simp only at w3
        cases et : r.take e3 with
        | none => rw [et] at w3; exact w3.elim
        | some de =>
          obtain ⟨d, e4⟩ := de
          simp only [et] at w3
          have r1' := (r1.after g12).after g23
          obtain ⟨F4, g4, S4, p4, x4, _⟩ := RepR.take g3 S3 r1' f1 et
          cases ec : (e4[j]?).bind SV.cont with
          | none => rw [ec] at w3; exact w3.elim
          | some c =>
            simp only [ec] at w3
            cases es : storeD c kd d with
            | none => rw [es] at w3; exact w3.elim
            | some c' =>
              rw [es] at w3
              obtain ⟨s1, z1, z2⟩ := bind_cont ec
              obtain ⟨a, u1, u2, u3⟩ := S4.own j s1 c z1 z2
              have hv : σ[j]? = some (some vo) := r2
              rw [u1] at hv
              cases hv
              refine ⟨F4, a, c, kd, d, c', rfl, S4.ex, u2, u3, r3.mono x4, p4, es, fun ob ow => ?_⟩
              obtain ⟨g5, S5⟩ := mut_slot S4 z1 z2 u1 ow
              exact w3 σ _ F4 (g4.trans g5) S5⟩

/-! ### {} -/
def mDct0 : M := fun env => .ok (.tmp (.dct [])) env
theorem em_dct0 {X : Cx} {W : WX} {pos : Pos} : EM X W (.Dict [] [] pos) mDct0 := ⟨⟨fun pins s σ H Q I q => by
  obtain ⟨env, F, S, q⟩ := q
  have hget : (s.heap.push { cls := .type "dict", data := .dict #[] }).get? s.heap.objs.size = some { cls := .type "dict", data := .dict #[] } := Heap.get?_push_size _ rfl
  have hs : (s.heap.objs.size == sysModules) = false := beq_eq_false_iff_ne.mpr (Ne.symm (Nat.ne_of_lt I.big))
  obtain ⟨o, ho, dx⟩ := dobj_of (X := X) (es := []) (xs := []) hs (Heap.DictOfH.new s.heap) .nil (Nat.zero_le _)
  refine wpAny_Dict_empty ⟨.ref s.heap.objs.size, upd H s.heap.objs.size (.ext (IsO s.heap.objs.size o)), I.laid (t' := s.toks) (fun _ _ q => Heap.get?_push_of_some _ q) (Nat.le_refl _) (isO_ok ho), rfl, ?_⟩
  have hn : H s.heap.objs.size = none := I.hok.fresh (Nat.le_refl _)
  have n : New F H F (upd H s.heap.objs.size (.ext (IsO s.heap.objs.size o))) := New.mine S.ex hn
  have rn : RepN (c3 X) H F (upd H s.heap.objs.size (.ext (IsO s.heap.objs.size o))) (.ref s.heap.objs.size) true (.dct []) := ⟨_, rfl, hn, dom_of S.ex _ hn, o, [], upd_same, dx, .nil⟩
  exact q _ _ F n.go (n.repS S) (n.repR (b := true) S rn) (New.frR (b := true) (fun _ h => h) rn)⟩⟩

/-! ### k in d -/
section
variable {X : Cx} {k : Nat}
theorem xin_dct (hr : Room k X.A) {pins : List (Addr × Obj)} {s : Shared} {σ : Sg} {F H : Hp} {x y : V} {v u : Value} {Q : VK} {kvs : List (D × D)} {kd : D} {kk : NestedKey} (I : Inv X pins σ H s) (ex : Ex F H) (rx : RelV x v) (ry : RelV y u) (hx : Vw (c3 X) F H x kd) (hy : Vw (c3 X) F H y (.dct kvs)) (hk : keyOf kd = some kk)
    (q : Q (.bl (lookK kk kvs).isSome) H) : wpAny (model X.prog X.w) X.A (compareOp .In v u) (EP X pins σ Q) X.xe s := by
  obtain ⟨a, o, es, rfl, ha, dx, rk⟩ := hy.dct ex
  cases ry
  obtain ⟨b, rfl, rfl, hb, _⟩ := key_at I ex hk hx rx
  obtain ⟨xs, hm, hp⟩ := dx.at I ex ha rk
  refine wpAny_in_heap (room8 hr) hb dx.sys hm ⟨.bl (lookK kk kvs).isSome, H, I.tok _, ?_, q⟩
  show Value.bool _ = Value.bool _
  rcases lookK_ok (k := kk) rk hp with ⟨e1, e2⟩ | ⟨d', z, c, w, e1, e2, _, _⟩
  · rw [e1, e2]; rfl
  · rw [e1, e2]; rfl
end
/-! ### list * int -/
def mRep (ma mb : M) : M := fun env => (ma env).and fun ra e1 => (mb e1).and fun rb e2 => match ra, rb.see e2 with
  | .tmp (.lst ds), some (.int k) => if ds.length * k.toNat ≤ szl ∧ okI k = true then .ok (.tmp (.lst (List.replicate k.toNat ds).flatten)) e2 else .stuck
  | _, _ => .stuck
theorem RpL.rep {Z : C3} {F : Hp} {vs : List V} {ds : List D} (r : RpL Z F vs ds) : ∀ n : Nat, RpL Z F (List.replicate n vs).flatten (List.replicate n ds).flatten
  | 0 => .nil
  | n + 1 => by
    rw [List.replicate_succ, List.replicate_succ, List.flatten_cons, List.flatten_cons]
    exact r.append (r.rep n)
theorem em_rep {X : Cx} {W : WX} {a b : Expr} {pos : Pos} {ma mb : M} (ha : EM X W a ma) (hb : EM X W b mb) : EM X W (.BinOp a .Mult b pos) (mRep ma mb) := ⟨pe_mono (pe_op op_rep ha.pe hb.pe) fun σ H Q q => by
  obtain ⟨env, F, S, q⟩ := q
  refine tE_and .refl S q fun ra e1 va H1 F1 _ g1 gb1 S1 r1 f1 w1 => ?_
  refine tE_and gb1 S1 w1 fun rb e2 vb H2 F2 _ g2 gb2 S2 r2 f2 w2 => ?_
  cases ra with
  | fro _ => exact w2.elim
  | slot _ => exact w2.elim
  | tmp d =>
    cases d with
    | lst ds =>
      cases eb : rb.see e2 with
      | none => rw [eb] at w2; exact w2.elim
      | some d2 =>
        cases d2 with
        | int k =>
          simp only [eb] at w2
          by_cases hc : ds.length * k.toNat ≤ szl ∧ okI k = true
          · rw [if_pos hc] at w2
            obtain ⟨l, rfl, n, no, xs, hl, hx⟩ := (r1.after g2 : RepR (c3 X) F2 H2 σ e2 va (.tmp (.lst ds)))
            obtain ⟨z1, z2⟩ := big62 (okI_iff hc.2)
            refine ⟨l, k, xs, rfl, (r2.see S2 eb).int, hl, by omega, by omega, by rw [hx.length]; exact szl_ok hc.1, fun p hp => ?_⟩
            have nw : New F2 H2 F2 (upd H2 p (.lst (List.replicate k.toNat xs).flatten)) := New.mine S2.ex hp
            have rn : RepN (c3 X) H2 F2 (upd H2 p (.lst (List.replicate k.toNat xs).flatten)) (.ref p) true (.lst (List.replicate k.toNat ds).flatten) := RepN.newL S2.ex hp (hx.rep _)
            exact w2 _ _ F2 (gb2.trans nw.go) (nw.repS S2) (nw.repR (b := true) S2 rn) (New.frR (b := true) gb2.dom rn)
          · rw [if_neg hc] at w2; exact w2.elim
        | _ => rw [eb] at w2; exact w2.elim
    | _ => exact w2.elim⟩
end Gr
end
section
/-! dict(zip(a, b)); in, not in; d.get. -/
namespace Gr
open PySem PySem.Spec PyProof.Rows L2

/-! ### in, not in, of dicts too -/
def dInA : F2
  | kd, .dct kvs => (match keyOf kd with
    | some k => some (false, .bl (lookK k kvs).isSome)
    | none => none)
  | a, b => dIn a b
def dNotInA : F2
  | kd, .dct kvs => (match keyOf kd with
    | some k => some (false, .bl (!(lookK k kvs).isSome))
    | none => none)
  | a, b => dNotIn a b
section
variable {X : Cx} {k : Nat}
theorem od_inA (hr : Room k X.A) : OpR X (compareOp .In) (RD (c3 X) dInA) := fun pins s σ H x y v u Q I rx ry ⟨F, da, db, b, d, ex, hx, hy, e, k⟩ => by
  unfold dInA at e
  split at e
  · rename_i kvs
    cases hk : keyOf da with
    | none => rw [hk] at e; cases e
    | some kk =>
      rw [hk] at e
      cases e
      exact xin_dct hr I ex rx ry hx hy hk (k _ H F (.refl ex) (.bl _))
  · exact od_in hr pins s σ H x y v u Q I rx ry ⟨F, da, db, b, d, ex, hx, hy, e, k⟩
theorem od_notinA (hr : Room k X.A) : OpR X (compareOp .NotIn) (RD (c3 X) dNotInA) := fun pins s σ H x y v u Q I rx ry ⟨F, da, db, b, d, ex, hx, hy, e, k⟩ => by
  unfold dNotInA at e
  split at e
  · rename_i kvs
    cases hk : keyOf da with
    | none => rw [hk] at e; cases e
    | some kk =>
      rw [hk] at e
      cases e
      obtain ⟨a, o, es, rfl, ha, dx, rk⟩ := hy.dct ex
      cases ry
      obtain ⟨b, rfl, rfl, hb, _⟩ := key_at I ex hk hx rx
      obtain ⟨xs, hm, hp⟩ := dx.at I ex ha rk
      refine PySem.notIn_keyed (room8 hr) hb dx.sys ⟨xs, hm, rfl⟩ ⟨.bl (!(lookK kk kvs).isSome), H, I.tok _, ?_, k _ H F (.refl ex) (.bl _)⟩
      show Value.bool _ = Value.bool _
      rw [valueAt_pairsH]
      rcases lookK_ok (k := kk) rk hp with ⟨e1, e2⟩ | ⟨d', z, c, w, e1, e2, _, _⟩
      · rw [e1, e2]; rfl
      · rw [e1, e2]; rfl
  · exact od_notin hr pins s σ H x y v u Q I rx ry ⟨F, da, db, b, d, ex, hx, hy, e, k⟩
end

/-! ### d.get(k, x) -/
def dGet : D → List D → Option D
  | .dct kvs, [kd, x] => (match keyOf kd with
    | some k => some ((lookK k kvs).getD x)
    | none => none)
  | _, _ => none
/-- the arguments are taken, the dict is read -/
def RGet (Z : C3) : V → List V → Hp → VK → Prop := fun x xs H Q => ∃ F d ds r, Ex F H ∧ Vw Z F H x d ∧ RpL Z F xs ds ∧ dGet d ds = some r ∧ ∀ v, Rp Z F v r → Q v H
theorem mtd_get {X : Cx} {k : Nat} (hr : Room k X.A) : MtR X "dict.get" (RGet (c3 X)) := fun pins s σ H x xs v us Q I rx rv ⟨F, d, ds, r, ex, hx, hl, e, q⟩ => by
  unfold dGet at e
  split at e
  · rename_i kvs kd x0
    cases hk : keyOf kd with
    | none => rw [hk] at e; cases e
    | some kk =>
      rw [hk] at e
      cases e
      cases hl with
      | cons h1 t1 =>
        cases t1 with
        | cons h2 t2 =>
          cases t2
          cases rv with
          | cons r1 w1 =>
            cases w1 with
            | cons r2 w2 =>
              cases w2
              obtain ⟨a, o, es, rfl, ha, dx, rk⟩ := hx.dct ex
              cases rx
              obtain ⟨b, rfl, rfl, hb, _⟩ := key_at I ex hk (.inl h1) r1
              obtain ⟨xs, hm, hp⟩ := dx.at I ex ha rk
              refine PySem.getOr_keyed (room8 hr) hb dx.sys ⟨xs, hm, rfl⟩ ?_
              rw [valueAt_pairsH]
              rcases lookK_ok (k := kk) rk hp with ⟨e1, e2⟩ | ⟨d', z, c, w, e1, e2, e3, e4⟩
              · rw [e2]
                rw [e1] at q
                exact ⟨_, H, I.tok _, r2, q _ h2⟩
              · rw [e2]
                rw [e1] at q
                exact ⟨z, H, I.tok _, e3, q _ e4⟩
  · cases e
def notTmp : R → Bool
  | .tmp _ => false
  | _ => true
def mGet (mo : M) (t : MA) : M := fun env => (mo env).and fun r e => match r.see e, notTmp r with
  | some (.dct _), true => (t e).and fun rs e1 => (match takes e1 rs with
    | some (ds, e2) => (match r.see e2 with
      | some d => (match dGet d ds with
        | some x => .ok (.fro x) e2
        | none => .stuck)
      | none => .stuck)
    | none => .stuck)
  | _, _ => .stuck
/-- a result that is not one's own alone goes on -/
theorem RepR.on {Z : C3} {F F' H H' : Hp} {σ : Sg} {env env' : En} {v : V} {r : R} (h : RepR Z F H σ env v r) (n : notTmp r = true) (e : Ex F F') : RepR Z F' H' σ env' v r := by
  cases r with
  | tmp _ => cases n
  | fro d => exact Rp.mono e h
  | slot i => exact h
theorem em_get {X : Cx} {W : WX} {k : Nat} {o e : Expr} {es : List Expr} {mo : M} {t : MA} {apos cpos : Pos} (hr : Room k X.A) (ho : EM X W o mo) (ha : AM X W (e :: es) t)
    (hbase : attributeBase o "get" X.env (eval o X.env) = eval o X.env := by rfl)
    (hfew : ((backTo cpos (starEach (e :: es) X.env)).all (fun x => !x.1) && (backToKw cpos (keywordEach [] X.env)).all (fun x => x.1.isSome)
      && decide ((e :: es).length + ([] : List Keyword).length + (if ([] : List Keyword).isEmpty then 0 else 1) < 30)) = true := by rfl)
    (hline : (apos.endLine == cpos.line) = true := by rfl) (hs : starEach (e :: es) X.env = (false, eval e X.env) :: starEach es X.env := by rfl) (hplain : (backTo cpos (starEach es X.env)).any (·.1) = false := by rfl) :
    EM X W (.Call (.Attribute o "get" apos) (e :: es) [] cpos) (mGet mo t) := ⟨pe_mono (pe_bd PySem.F.plainAttrs_dict PySem.F.slot_dict_get PySem.F.type_dict_get (mtd_get hr) ho.pe ha.pa hbase hfew hline hs hplain) fun σ H Q q => by
  obtain ⟨env, F, S, q⟩ := q
  refine tE_and .refl S q fun r e1 v H1 F1 _ g1 gb1 S1 r1 f1 w1 => ?_
  cases es : r.see e1 with
  | none => rw [es] at w1; exact w1.elim
  | some d0 =>
    cases d0 with
    | dct kvs0 =>
      cases en : notTmp r with
      | false => simp only [es, en] at w1; exact w1.elim
      | true =>
        simp only [es, en] at w1
        obtain ⟨a, o', ee, rfl, ha', dx, rk⟩ := (r1.see S1 es).dct S1.ex
        refine ⟨tpx_ext ha' dx, ?_⟩
        refine tA_and gb1 S1 w1 fun rs e2 vs H2 F2 _ g2 gb2 S2 r2 w2 => ?_
        cases et : takes e2 rs with
        | none => rw [et] at w2; exact w2.elim
        | some de =>
          obtain ⟨ds, e3⟩ := de
          simp only [et] at w2
          obtain ⟨F3, g3, S3, p3, x3⟩ := (r2.back gb1.dom).take gb2 S2 et
          have r3 : RepR (c3 X) F3 H2 σ e3 (.ref a) r := r1.on en (g2.exF.trans x3)
          cases ed : r.see e3 with
          | none => rw [ed] at w2; exact w2.elim
          | some d =>
            simp only [ed] at w2
            cases eg : dGet d ds with
            | none => rw [eg] at w2; exact w2.elim
            | some x =>
              rw [eg] at w2
              exact ⟨F3, d, ds, x, S3.ex, r3.see S3 ed, p3, eg, fun v rv => w2 v H2 F3 g3 S3 rv trivial⟩
    | _ => simp only [es] at w1; exact w1.elim⟩

/-! ### dict(zip(a, b)) -/
def buildK : List D → List D → List (D × D) → Option (List (D × D))
  | x :: xs, y :: ys, acc => (match keyOf x with
    | some k => buildK xs ys (putK x k y acc)
    | none => none)
  | _, _, acc => some acc
section
variable {prog : Program} {w : World}
theorem pairArg_zS {b1 b2 : Bool} (z TI TO i1 i2 l1 l2 : Addr) (D : ZipApart z TI TO i1 i2 l1 l2) (xs ys : Array Value) :
    PairArg prog w "zip" z [z, TI, TO, i1, i2, l1, l2] [z, TO, i1, i2] (min xs.size ys.size) (fun i k v => xs[i]? = some k ∧ ys[i]? = some v)
      (fun h => ZR h z .none false TI TO ∧ IsPair h TI (.ref i1) (.ref i2) ∧ (∃ a b, IsPair h TO a b) ∧ SIt b1 h i1 l1 0 ∧ SIt b2 h i2 l2 0 ∧ SSq b1 h l1 xs ∧ SSq b2 h l2 ys) where
  type := fun s ok => ⟨_, ok.1, rfl⟩
  notDict := by decide
  keep := fun h h' ok hk => by
    obtain ⟨hz, hTI, ⟨a, b, hTO⟩, h1, h2, hl1, hl2⟩ := ok
    exact ⟨hk _ _ hz, hk _ _ hTI, ⟨a, b, hk _ _ hTO⟩, h1.at fun o e => hk _ o e, h2.at fun o e => hk _ o e, hl1.at fun o e => hk _ o e, hl2.at fun o e => hk _ o e⟩
  there := fun h ok b hb => by
    obtain ⟨hz, hTI, ⟨a, c, hTO⟩, h1, h2, hl1, hl2⟩ := ok
    obtain ⟨o1, e1, _⟩ := h1.there
    obtain ⟨o2, e2, _⟩ := h2.there
    have q1 : ∃ o, h.get? l1 = some o := by
      cases b1 with
      | true => obtain ⟨o, e, _⟩ := hl1; exact ⟨o, e⟩
      | false => obtain ⟨o, e, _⟩ := hl1; exact ⟨o, e⟩
    have q2 : ∃ o, h.get? l2 = some o := by
      cases b2 with
      | true => obtain ⟨o, e, _⟩ := hl2; exact ⟨o, e⟩
      | false => obtain ⟨o, e, _⟩ := hl2; exact ⟨o, e⟩
    have e' : b = z ∨ b = TI ∨ b = TO ∨ b = i1 ∨ b = i2 ∨ b = l1 ∨ b = l2 := by simpa using hb
    rcases e' with q | q | q | q | q | q | q
    · rw [q]; exact ⟨_, hz⟩
    · rw [q]; exact ⟨_, hTI⟩
    · rw [q]; exact ⟨_, hTO⟩
    · rw [q]; exact ⟨_, e1⟩
    · rw [q]; exact ⟨_, e2⟩
    · rw [q]; exact q1
    · rw [q]; exact q2
  sub := fun b hb => by
    have e' : b = z ∨ b = TO ∨ b = i1 ∨ b = i2 := by simpa using hb
    rcases e' with q | q | q | q <;> simp [q]
  noKeys := fun A s Q E hA ok h => getAttrOr_miss_zip ok.1 rfl rfl rfl zip_no_keys (by decide +kernel) hA h
  iter := fun A s d Q E hA ok hd hdf h => by
    obtain ⟨hz, hTI, ⟨a, b, hTO⟩, h1, h2, hl1, hl2⟩ := ok
    have nd : ¬ d = z ∧ ¬ d = TI ∧ ¬ d = TO ∧ ¬ d = i1 ∧ ¬ d = i2 ∧ ¬ d = l1 ∧ ¬ d = l2 := by simpa using hdf
    obtain ⟨dz, dTI, dTO, di1, di2, dl1, dl2⟩ := nd
    refine wpAny_pyIter_zip hz (h z [z, TO, i1, i2] (fun i h => (∃ v f, ZR h z v f TI TO ∧ ZV v) ∧ IsPair h TI (.ref i1) (.ref i2) ∧ (∃ x y, IsPair h TO x y) ∧ SIt b1 h i1 l1 i ∧ SIt b2 h i2 l2 i ∧ SSq b1 h l1 xs ∧ SSq b2 h l2 ys) s.heap s.toks ?_
      ⟨⟨_, _, hz, .inl rfl⟩, hTI, ⟨a, b, hTO⟩, h1, h2, hl1, hl2⟩ (fun _ _ e => e) fun b hb => .inl hb)
    exact {
      off := fun hm => by
        have e' : d = z ∨ d = TO ∨ d = i1 ∨ d = i2 := by simpa using hm
        rcases e' with e | e | e | e
        · exact dz e
        · exact dTO e
        · exact di1 e
        · exact di2 e
      frame := fun i h₁ h₂ st hk => by
        obtain ⟨⟨v, f, hz, hv⟩, hTI, ⟨x, y, hTO⟩, h1, h2, hl1, hl2⟩ := st
        exact ⟨⟨v, f, hk _ _ (Ne.symm dz) hz, hv⟩, hk _ _ (Ne.symm dTI) hTI, ⟨x, y, hk _ _ (Ne.symm dTO) hTO⟩, h1.at fun o e => hk _ o (Ne.symm di1) e, h2.at fun o e => hk _ o (Ne.symm di2) e, hl1.at fun o e => hk _ o (Ne.symm dl1) e, hl2.at fun o e => hk _ o (Ne.symm dl2) e⟩
      item := fun i s₁ Q₁ E₁ hi st hds hQ => by
        obtain ⟨⟨v, f, hz, hv⟩, hTI, ⟨x, y, hTO⟩, h1, h2, hl1, hl2⟩ := st
        have ex := Array.getElem?_eq_getElem (Nat.lt_of_lt_of_le hi (Nat.min_le_left ..))
        have ey := Array.getElem?_eq_getElem (Nat.lt_of_lt_of_le hi (Nat.min_le_right ..))
        refine zipA_next D hz hv hTI hTO h1 h2 hl1 hl2 ex ey fun h' v' f' a1 a1' a2 a3 a4 a5 a6 hk => ?_
        exact hQ s₁.heap.objs.size _ _ h' s₁.toks ⟨ex, ey⟩ (.inl ⟨_, a5, rfl, _, rfl⟩)
          ⟨⟨v', f', a1, a1'⟩, hk _ _ D.TIz D.TITO D.TIi1 D.TIi2 hTI, a2, a3, a4, hl1.at fun o e => hk _ o D.l1z D.l1TO D.l1i1 D.l1i2 e, hl2.at fun o e => hk _ o D.l2z D.l2TO D.l2i1 D.l2i2 e⟩
          fun c o hc e => hk c o (fun q => hc (by simp [q])) (fun q => hc (by simp [q])) (fun q => hc (by simp [q])) (fun q => hc (by simp [q])) e
      done := fun s₁ Q₁ E₁ st hQ => by
        obtain ⟨⟨v, f, hz, hv⟩, hTI, ⟨x, y, hTO⟩, h1, h2, hl1, hl2⟩ := st
        have hend : xs[min xs.size ys.size]? = none ∨ ys[min xs.size ys.size]? = none := by
          rcases Nat.le_total xs.size ys.size with h | h
          · exact .inl (Array.getElem?_eq_none (by rw [Nat.min_eq_left h]; exact Nat.le_refl _))
          · exact .inr (Array.getElem?_eq_none (by rw [Nat.min_eq_right h]; exact Nat.le_refl _))
        exact zipA_stop hA D hz hv hTI hTO h1 h2 hl1 hl2 hend fun h' hk => hQ h' s₁.toks fun c o hc e => hk c o (fun q => hc (by simp [q])) (fun q => hc (by simp [q])) (fun q => hc (by simp [q])) (fun q => hc (by simp [q])) e }
end
section
variable {X : Cx} {k : Nat} {pins : List (Addr × Obj)} {s : Shared} {σ : Sg} {F H : Hp}
theorem build_ok (I : Inv X pins σ H s) (ex : Ex F H) : ∀ {ds1 ds2 : List D} {vs1 vs2 : List V} {us1 us2 : List Value} {acc kvs : List (D × D)}, RpL (c3 X) F vs1 ds1 → RpL (c3 X) F vs2 ds2 → Vals vs1 us1 → Vals vs2 us2 → buildK ds1 ds2 acc = some kvs →
    ∃ ps : List (NestedKey × Addr × Value), ps.length = min us1.length us2.length ∧ (∀ (i : Nat) (key v : Value), us1[i]? = some key → us2[i]? = some v → ∃ kk b, ps[i]? = some (kk, b, v) ∧ key = .ref b) ∧ (∀ x ∈ ps, (nestedKind X.prog X.w).is s.heap x.1 x.2.1) ∧
      ∀ es xs, RpK (c3 X) F es acc → Paired PrX es xs → ∃ es', Paired PrX es' (storedAllH xs ps) ∧ RpK (c3 X) F es' kvs
  | [], ds2, vs1, vs2, us1, us2, acc, kvs, h1, h2, r1, r2, e => by
    cases h1
    cases r1
    cases ds2 <;> (cases e; exact ⟨[], by simp, fun i key v h => by simp at h, fun x h => (nomatch h), fun es xs a b => ⟨es, b, a⟩⟩)
  | d :: ds1, [], vs1, vs2, us1, us2, acc, kvs, h1, h2, r1, r2, e => by
    cases h2
    cases r2
    cases e
    exact ⟨[], by simp, fun i key v _ h => by simp at h, fun x h => (nomatch h), fun es xs a b => ⟨es, b, a⟩⟩
  | d :: ds1, d2 :: ds2, _, _, _, _, acc, kvs, .cons (vs := vs1) a1 t1, .cons (vs := vs2) a2 t2, .cons (l₂ := us1) r1 w1, .cons (b := u2) (l₂ := us2) r2 w2, e => by
    unfold buildK at e
    cases hk : keyOf d with
    | none => rw [hk] at e; cases e
    | some kk =>
      simp only [hk] at e
      obtain ⟨ps, p1, p2, p3, p4⟩ := build_ok I ex t1 t2 w1 w2 e
      obtain ⟨b, eb, rfl, hb, hbr⟩ := key_at I ex hk (.inl a1) r1
      subst eb
      obtain ⟨k1, k2, _⟩ := keyOf_ok hk
      refine ⟨(kk, b, u2) :: ps, by simp [p1], fun i key v h h' => ?_, fun x hx => ?_, fun es xs ha hb => ?_⟩
      · cases i with
        | zero =>
          simp at h h'
          subst h; subst h'
          exact ⟨kk, b, rfl, rfl⟩
        | succ i => exact p2 i key v (by simpa using h) (by simpa using h')
      · rcases List.mem_cons.mp hx with rfl | hx
        · exact hb
        · exact p3 x hx
      · obtain ⟨es1, q1, q2⟩ := put_ok ha hb k1 k2 hbr a2 r2
        exact p4 es1 _ q2 q1
end

theorem ne_new {n m k : Nat} (h : n < m) : n ≠ m + k := by omega
def tDz (X : Cx) (ta : TA) : TE := fun σ H Q => ta σ H fun vs H1 => ∃ F v1 v2 d1 d2 ds1 ds2 kvs, vs = [v1, v2] ∧ Ex F H1 ∧ Rp (c3 X) F v1 d1 ∧ Rp (c3 X) F v2 d2 ∧ seqL d1 = some ds1 ∧ seqL d2 = some ds2 ∧ buildK ds1 ds2 [] = some kvs ∧ kvs.length ≤ szl ∧ ds1.length ≤ szl ∧
  ∀ p o es, H1 p = none → DObj (c3 X) p o es → RpK (c3 X) F es kvs → Q (.ref p) (upd H1 p (.ext (IsO p o)))
theorem pe_dz {X : Cx} {k : Nat} {e e2 : Expr} {ta : TA} {pd pz posz posd : Pos} (hr : Room k X.A) (hc : X.calm = true) (hgd : Gl X "dict") (hmd : X.mg "dict" = none) (hg : Gl X "zip") (hm : X.mg "zip" = none) (ha : PA X [e, e2] ta)
    (hs : starEach [e, e2] X.env = (false, eval e X.env) :: starEach [e2] X.env := by rfl) (hpl : (backTo posz (starEach [e2] X.env)).any (·.1) = false := by rfl)
    (hsd : starEach [.Call (.Name "zip" pz) [e, e2] [] posz] X.env = [(false, eval (.Call (.Name "zip" pz) [e, e2] [] posz) X.env)] := by rfl) :
    PE X (.Call (.Name "dict" pd) [.Call (.Name "zip" pz) [e, e2] [] posz] [] posd) (tDz X ta) := by
  refine ⟨fun pins s σ H Q I h => ?_⟩
  refine Call_ (ld_blt I hgd hmd PyProof.Rows.boot_dict (PyProof.Rows.callWith_type1 ?_ hsd rfl))
  rw [hsd]
  show wpAny _ _ (spliced ((false, eval (.Call (.Name "zip" pz) [e, e2] [] posz) X.env) :: [])) _ _ s
  refine Calls.spliced_cons ?_
  refine Call_ (ld_blt I hg hm PyProof.Rows.boot_zip (PyProof.Rows.callWith_type1 (thn (ha.run posz pins s σ H _ I h) fun us s1 ⟨vs, H1, I1, r1, q1⟩ => ?_) hs hpl))
  obtain ⟨F, v1, v2, d1, d2, ds1, ds2, kvs, ev, ex, hp1, hp2, e1, e2', eb, hz, hz1, q⟩ := q1
  subst ev
  cases r1 with
  | cons ra rr =>
    cases rr with
    | cons rb rr =>
      cases rr
      obtain ⟨b1, a, xs, rfl, ha1, hr1⟩ := hp1.sq e1
      obtain ⟨b2, b, ys, rfl, hb1, hr2⟩ := hp2.sq e2'
      cases ra
      cases rb
      obtain ⟨its, rv, p1⟩ := (ha1.ex ex).at I1
      obtain ⟨its2, rv2, p2⟩ := (hb1.ex ex).at I1
      obtain ⟨ps, l1, l2, l3, l4⟩ := build_ok I1 ex hr1 hr2 rv rv2 eb
      refine call_zS p1 p2 fun h' hzz hTI hTO h1 h2 hsz hk => ?_
      refine Calls.spliced_nil ?_
      have p1' : SSq b1 h' a its.toArray := p1.at fun o e => hk _ o e
      have p2' : SSq b2 h' b its2.toArray := p2.at fun o e => hk _ o e
      have na : ∀ {c : Addr} {o : Obj}, s1.heap.get? c = some o → c ∉ [s1.heap.objs.size + 4, s1.heap.objs.size + 3, s1.heap.objs.size, s1.heap.objs.size + 1] := fun {c o} e hm => by
        have lt := Heap.lt_size e
        have e' : c = s1.heap.objs.size + 4 ∨ c = s1.heap.objs.size + 3 ∨ c = s1.heap.objs.size ∨ c = s1.heap.objs.size + 1 := by simpa using hm
        rcases e' with z | z | z | z
        · exact ne_new lt z
        · exact ne_new lt z
        · exact Nat.ne_of_lt lt z
        · exact ne_new lt z
      have rm : (nestedKind X.prog X.w).room X.A.in1.in1 := by
        have := hr.un
        show X.A.units + 1 + 1 + 8 < cLine
        omega
      have len1 : its.length = ds1.length := by rw [← rv.length, hr1.length]
      refine call_dict_pairsH (s := { s1 with heap := h' }) (pairArg_zS _ _ _ _ _ a b (PySem.W.ktu_apart s1.heap.objs.size a b p1.lt p2.lt) its.toArray its2.toArray) (I.ok.hd hc) rm ⟨hzz, hTI, ⟨_, _, hTO⟩, h1, h2, p1', p2'⟩ ⟨by rw [l1]; simp, fun i key v ⟨g1, g2⟩ => l2 i key v (by simpa using g1) (by simpa using g2)⟩ (fun h'' kk x hx => ?_) ?_ fun h'' tk hd' hk' => ?_
      · refine nestedKind_stays.stays (fun c o vs n e _ => kk c o (fun z => ?_) (na e) (hk c o e)) (l3 x hx)
        exact ne_new (k := 5) (Heap.lt_size e) (z.trans hsz)
      · rw [List.size_toArray, List.size_toArray, len1]
        exact Nat.le_trans (Nat.min_le_left _ _) (szl_ok hz1)
      · have old : ∀ c o, s1.heap.get? c = some o → h''.get? c = some o := fun c o e => hk' c o (na e) (hk c o e)
        obtain ⟨es', q1, q2⟩ := l4 [] [] .nil .nil
        have hsys : ((h'.objs.size : Addr) == sysModules) = false := beq_eq_false_iff_ne.mpr fun z => by
          exact ne_new (k := 5) I1.big (z.symm.trans hsz)
        obtain ⟨o, ho, dx⟩ := dobj_of (X := X) hsys hd' q1 (by rw [q2.length]; exact szl_ok hz)
        have hle : s1.heap.objs.size ≤ h'.objs.size := by rw [hsz]; exact Nat.le_add_right _ _
        exact ⟨.ref h'.objs.size, _, I1.laid (t' := tk) (a := h'.objs.size) (o := .ext (IsO h'.objs.size o)) old hle (isO_ok ho), rfl, q _ o es' (I1.hok.fresh hle) dx q2⟩
def mDz (t : MA) : M := fun env => match t env with
  | .ok rs e => (match takes e rs with
    | some ([d1, d2], e') => (match seqL d1, seqL d2 with
      | some xs, some ys => (match buildK xs ys [] with
        | some kvs => if kvs.length ≤ szl ∧ xs.length ≤ szl then .ok (.tmp (.dct kvs)) e' else .stuck
        | none => .stuck)
      | _, _ => .stuck)
    | _ => .stuck)
  | .exc c e => .exc c e
  | .stuck => .stuck
theorem em_dz {X : Cx} {W : WX} {k : Nat} {e e2 : Expr} {t : MA} {pd pz posz posd : Pos} (hr : Room k X.A) (hc : X.calm = true) (hgd : Gl X "dict") (hmd : X.mg "dict" = none) (hg : Gl X "zip") (hm : X.mg "zip" = none) (ha : AM X W [e, e2] t)
    (hs : starEach [e, e2] X.env = (false, eval e X.env) :: starEach [e2] X.env := by rfl) (hpl : (backTo posz (starEach [e2] X.env)).any (·.1) = false := by rfl)
    (hsd : starEach [.Call (.Name "zip" pz) [e, e2] [] posz] X.env = [(false, eval (.Call (.Name "zip" pz) [e, e2] [] posz) X.env)] := by rfl) :
    EM X W (.Call (.Name "dict" pd) [.Call (.Name "zip" pz) [e, e2] [] posz] [] posd) (mDz t) := ⟨pe_mono (pe_dz hr hc hgd hmd hg hm ha.pa hs hpl hsd) fun σ H Q q => by
  obtain ⟨env, F, S, q⟩ := q
  refine ⟨env, F, S, ?_⟩
  unfold mDz at q
  cases em : t env with
  | stuck => rw [em] at q; exact q.elim
  | exc c e => rw [em] at q; exact q
  | ok rs e =>
    simp only [em] at q
    intro vs H1 F1 g1 S1 r1
    cases et : takes e rs with
    | none => rw [et] at q; exact q.elim
    | some de =>
      obtain ⟨ds, e'⟩ := de
      rw [et] at q
      obtain ⟨F2, g2, S2, p2, x2⟩ := r1.take g1 S1 et
      cases p2 with
      | nil => exact q.elim
      | cons a1 t1 =>
        cases t1 with
        | nil => exact q.elim
        | cons a2 t2 =>
          cases t2 with
          | cons _ _ => exact q.elim
          | nil =>
            simp only at q
            rename_i v1 d1 v2 d2
            cases e1 : seqL d1 with
            | none => rw [e1] at q; exact q.elim
            | some xs =>
              cases e2 : seqL d2 with
              | none => rw [e1, e2] at q; exact q.elim
              | some ys =>
                simp only [e1, e2] at q
                cases eb : buildK xs ys [] with
                | none => rw [eb] at q; exact q.elim
                | some kvs =>
                  simp only [eb] at q
                  by_cases hz : kvs.length ≤ szl ∧ xs.length ≤ szl
                  · rw [if_pos hz] at q
                    refine ⟨F2, v1, v2, d1, d2, xs, ys, kvs, rfl, S2.ex, a1, a2, e1, e2, eb, hz.1, hz.2, fun p o es hp dx rk => ?_⟩
                    have n : New F2 H1 F2 (upd H1 p (.ext (IsO p o))) := New.mine S2.ex hp
                    have rn : RepN (c3 X) H1 F2 (upd H1 p (.ext (IsO p o))) (.ref p) true (.dct kvs) := ⟨_, rfl, hp, dom_of S2.ex _ hp, o, es, upd_same, dx, rk⟩
                    exact q _ _ F2 (g2.trans n.go) (n.repS S2) (n.repR (b := true) S2 rn) (New.frR (b := true) g2.dom rn)
                  · rw [if_neg hz] at q; exact q.elim⟩
end Gr
end
section
/-! # Gr: methods that read their receiver and give a value -/
namespace Gr
open PySem PySem.Spec PySem.W L2 PyProof.Rows
def RRm (Z : C3) (f : D → List D → Option D) : V → List V → Hp → VK → Prop := fun x xs H Q => ∃ F d ds r, Ex F H ∧ Vw Z F H x d ∧ RpL Z F xs ds ∧ f d ds = some r ∧ ∀ v, Rp Z F v r → Q v H
def mRm (p : D → Bool) (f : D → List D → Option D) (mo : M) (t : MA) : M := fun env => (mo env).and fun r e => match r.see e, notTmp r with
  | some d0, true => if p d0 = true then (t e).and fun rs e1 => (match takes e1 rs with
    | some (ds, e2) => (match r.see e2 with
      | some d => (match f d ds with
        | some x => .ok (.fro x) e2
        | none => .stuck)
      | none => .stuck)
    | none => .stuck) else .stuck
  | _, _ => .stuck
def IsTyV (X : Cx) (T : String) (p : D → Bool) : Prop := ∀ (F H : Hp) (v : V) (d : D), Ex F H → Vw (c3 X) F H v d → p d = true → TpX X T v H
theorem em_rm {X : Cx} {W : WX} {T id : String} {name : Str} {o e : Expr} {es : List Expr} {mo : M} {t : MA} {apos cpos : Pos} {p : D → Bool} {f : D → List D → Option D} (pa : PlainAttrs T) (slot : Slot T name id) (hty : typeOf (.builtin id) = pure (.type "method_descriptor"))
    (hm : MtR X id (RRm (c3 X) f)) (ht : IsTyV X T p) (ho : EM X W o mo) (ha : AM X W (e :: es) t)
    (hbase : attributeBase o name X.env (eval o X.env) = eval o X.env := by rfl)
    (hfew : ((backTo cpos (starEach (e :: es) X.env)).all (fun x => !x.1) && (backToKw cpos (keywordEach [] X.env)).all (fun x => x.1.isSome)
      && decide ((e :: es).length + ([] : List Keyword).length + (if ([] : List Keyword).isEmpty then 0 else 1) < 30)) = true := by rfl)
    (hline : (apos.endLine == cpos.line) = true := by rfl) (hs : starEach (e :: es) X.env = (false, eval e X.env) :: starEach es X.env := by rfl) (hplain : (backTo cpos (starEach es X.env)).any (·.1) = false := by rfl) :
    EM X W (.Call (.Attribute o name apos) (e :: es) [] cpos) (mRm p f mo t) := ⟨pe_mono (pe_bd pa slot hty hm ho.pe ha.pa hbase hfew hline hs hplain) fun σ H Q q => by
  obtain ⟨env, F, S, q⟩ := q
  refine tE_and .refl S q fun r e1 v H1 F1 _ g1 gb1 S1 r1 f1 w1 => ?_
  cases es : r.see e1 with
  | none => rw [es] at w1; exact w1.elim
  | some d0 =>
    cases en : notTmp r with
    | false => simp only [es, en] at w1; exact w1.elim
    | true =>
      simp only [es, en] at w1
      by_cases hp : p d0 = true
      · rw [if_pos hp] at w1
        refine ⟨ht _ _ _ _ S1.ex (r1.see S1 es) hp, ?_⟩
        refine tA_and gb1 S1 w1 fun rs e2 vs H2 F2 _ g2 gb2 S2 r2 w2 => ?_
        cases et : takes e2 rs with
        | none => rw [et] at w2; exact w2.elim
        | some de =>
          obtain ⟨ds, e3⟩ := de
          simp only [et] at w2
          obtain ⟨F3, g3, S3, p3, x3⟩ := (r2.back gb1.dom).take gb2 S2 et
          have r3 : RepR (c3 X) F3 H2 σ e3 v r := r1.on en (g2.exF.trans x3)
          cases ed : r.see e3 with
          | none => rw [ed] at w2; exact w2.elim
          | some d =>
            simp only [ed] at w2
            cases eg : f d ds with
            | none => rw [eg] at w2; exact w2.elim
            | some x =>
              rw [eg] at w2
              exact ⟨F3, d, ds, x, S3.ex, r3.see S3 ed, p3, eg, fun v rv => w2 v H2 F3 g3 S3 rv trivial⟩
      · rw [if_neg hp] at w1; exact w1.elim⟩
theorem tyv_lst {X : Cx} : IsTyV X "list" isLst := fun F H v d ex h hp => by
  cases d with
  | lst ds =>
    obtain ⟨a, xs, rfl, h, _⟩ := h.lst ex
    exact tpx_lst h
  | _ => cases hp
/-! ### list.count of ints -/
def fCnt : D → List D → Option D
  | .lst ds, [.int k] => (intsD ds).map fun is => .int (is.count k : Nat)
  | _, _ => none
theorem mtd_cnt {X : Cx} : MtR X "list.count" (RRm (c3 X) fCnt) := fun pins s σ H x xs v us Q I rx rv ⟨F, d, ds, r, ex, hx, hl, e, q⟩ => by
  unfold fCnt at e
  split at e
  · rename_i ds k
    cases hi : intsD ds with
    | none => rw [hi] at e; cases e
    | some is =>
      rw [hi] at e
      cases e
      obtain ⟨a, ys, rfl, ha, ra⟩ := hx.lst ex
      cases hl with
      | cons h1 t1 =>
        cases t1
        cases h1
        refine mt_lcount pins s σ H _ _ v us Q I rx rv ⟨a, is, k, rfl, rfl, ?_, q _ (.int _)⟩
        rw [← ra.toI hi]
        exact ha.sq
  · cases e
theorem em_cnt {X : Cx} {W : WX} {o e : Expr} {mo : M} {t : MA} {apos cpos : Pos} (ho : EM X W o mo) (ha : AM X W [e] t)
    (hbase : attributeBase o "count" X.env (eval o X.env) = eval o X.env := by rfl)
    (hfew : ((backTo cpos (starEach [e] X.env)).all (fun x => !x.1) && (backToKw cpos (keywordEach [] X.env)).all (fun x => x.1.isSome)
      && decide ([e].length + ([] : List Keyword).length + (if ([] : List Keyword).isEmpty then 0 else 1) < 30)) = true := by rfl)
    (hline : (apos.endLine == cpos.line) = true := by rfl) (hs : starEach [e] X.env = [(false, eval e X.env)] := by rfl) :
    EM X W (.Call (.Attribute o "count" apos) [e] [] cpos) (mRm isLst fCnt mo t) :=
  em_rm PySem.F.plainAttrs_list PySem.F.slot_list_count PySem.F.type_list_count mtd_cnt tyv_lst ho ha hbase hfew hline hs rfl
end Gr
end
section
/-! The end of a law. -/
namespace Gr
open PySem PySem.Spec PyProof.Rows L2

def mNon : M := mC .non
theorem relR (a : Addr) : RelV (.ref a) (.ref a) := rfl
theorem relI (i : Int) (t : Tok) : RelV (.int i) (.int i t) := ⟨t, rfl⟩
theorem relS (i : Str) (t : Tok) : RelV (.str i) (.str i t) := ⟨t, rfl⟩
theorem takes0 {X : Cx} {cv : Nat → Value} : L2.Takes X (Lw cv W0) := fun u s' ⟨a, B, sI, pins, σ, H, cls, d, e, I, nb, up, sky, na, os, ag, w⟩ => by
  obtain ⟨c, _, _, z⟩ := w
  exact z.elim
theorem em_ty {X : Cx} {W : WX} {x : Str} {T : String} {pos : Pos} (hg : Gl X x) (hm : X.mg x = none) (hv : bootBuiltins x = some (.type T)) (hn : x ≠ "__name__" := by decide) (hdb : (x == ("__debug__" : Str)) = false := by decide) : EM X W (.Name x pos) (mGl (.opq (.ty T))) :=
  ⟨pe_mono (pe_bltn hg hm hv (v := .ty T) rfl hn hdb) fun σ H Q q => by
    obtain ⟨env, F, S, q⟩ := q
    exact q (.ty T) H F .refl S (.opq _) trivial⟩
theorem walk_gr {l : PySem.W.OpenLaw} {n k : Nat} {q : Program} {loose : List Str} {XP : (Str → Option Value) → Heap → Prop} {YP : World → Heap → Prop} {d : DefRec} {K : Params → PySem.W.Frag} {x : Str} {fs : FS} {cv : World → Nat → Value}
    (hn : l.most = some n) (hn2 : n ≤ sizeLine) (hdf : d.params.defaults = []) (hr : Room k callerA) (hY : ∀ (w : World) (h : Heap), YP w h → (K w.params).In h)
    (F : ∀ (w : World) (mg : Str → Option Value) (fa : Addr) (h : Heap), (K w.params).In h → h.Ns mainGlobals mg → mg d.name = some (.ref fa) →
      ∃ fd : FuncData, (∀ (s : Shared) (u : Value), BindsTo s fd ⟨[u], []⟩ [(x, u)]) ∧
        ∀ base : Heap, (K w.params).In base → base.Ns mainGlobals mg → FnOk l.prog w (K w.params) mg base (L2.CX l.prog w) k fa fd [x] (spF ⟨l.prog, w, K w.params, []⟩ (cv w) [false] false fs))
    (good : ∀ ns : List Int, ns.length ≤ n → (∀ z ∈ ns, Builtin.Int.intBits z ≤ 1048576) → fs [.lst (ns.map D.int)] = .ok (.bl true) []) :
    PySem.W.WalkO q loose XP YP l.row.toRowW d [] (fun f vs => PySem.call f vs) := by
  refine Att.attach_callB hn hdf fun w s₀ s₁ mg mb fa o pm cd doc a vs ns G Y ho hd hcd hmg hobj hints hlen hbits hg => ?_
  have KX := hY w _ Y
  obtain ⟨fd, hb, hF⟩ := F w mg fa _ KX G.T.g hmg
  refine L2.law_call KX G.T.g G.T.b G.T.builtins G.T.nolimit hg hobj hints (Nat.le_trans hlen hn2) hr hF hb (fun H hO hS => ?_) (fun H e s' h => ?_)
  · have hints2 : ∀ (p : Program) (F : Hp) (l : List Int), RpL ⟨p, w, K w.params, []⟩ F (l.map V.int) (l.map D.int) := fun p F l => by
      induction l with
      | nil => exact .nil
      | cons x l ih => exact .cons (.int x) ih
    refine ⟨H, [.lst (ns.map D.int)], Evl.Ex.refl H, .fro (.lst ?_ (hints2 _ H ns)) .nil, ?_⟩
    · rcases hS with h | ⟨o, its, nn, hk, hc, hdn, hdt, hl, rv⟩
      · exact .inl h
      · have e := KX a o hk
        rw [hobj] at e
        have e' := Option.some.inj e
        subst e'
        have e2 : vs.toArray = its := by injection hdt
        subst e2
        exact .inr ⟨vs, hk, by simpa using hl, by simpa using rv⟩
    · rw [good ns hlen hbits]
      intro v H' F' _ _ r
      have r' : Rp _ F' v (.bl true) := r
      cases r'
      rfl
  · obtain ⟨_, _, _, _, _, _, _, _, _, _, _, _, z⟩ := h
    exact z
end Gr
end
section
/-! Reckoning with plain functions. -/
namespace Gr
open PySem PySem.Spec PyProof.Rows L2

theorem sSeq_nx {a b : MS} {e e' : En} (h : a e = .nx e') : sSeq a b e = b e' := by unfold sSeq; rw [h]
theorem sSeq_rt {a b : MS} {e e' : En} {r : R} (h : a e = .rt r e') : sSeq a b e = .rt r e' := by unfold sSeq; rw [h]
theorem sIf_t {t : MT} {a b : MS} {e e' : En} (h : t e = .ok true e') : sIf t a b e = a e' := by unfold sIf; rw [h]
theorem sIf_f {t : MT} {a b : MS} {e e' : En} (h : t e = .ok false e') : sIf t a b e = b e' := by unfold sIf; rw [h]
theorem sSet_ok {i : Nat} {m : M} {e e1 e2 : En} {r : R} (h : m e = .ok r e1) (p : putR i r e1 = some e2) : sSet i m e = .nx e2 := by
  unfold sSet ER.andS
  rw [h]
  simp only [p]
theorem sRet_ok {m : M} {e e1 : En} {r : R} (h : m e = .ok r e1) : sRet m e = .rt r e1 := by
  unfold sRet ER.andS
  rw [h]
theorem sExpr_ok {m : M} {e e1 : En} {r : R} (h : m e = .ok r e1) : sExpr m e = .nx e1 := by
  unfold sExpr ER.andS
  rw [h]
theorem m2_ok {f : F2} {a b : M} {e e1 e2 : En} {ra rb : R} {da db d : D} {k : Bool} (h1 : a e = .ok ra e1) (h2 : b e1 = .ok rb e2) (s1 : ra.see e2 = some da) (s2 : rb.see e2 = some db) (hf : f da db = some (k, d)) : m2 f a b e = .ok (mkR k d) e2 := by
  unfold m2
  rw [h1]
  show ((b e1).and _) = _
  rw [h2]
  show (match ra.see e2, rb.see e2 with
    | some da, some db => outR (f da db) e2
    | _, _ => .stuck) = _
  rw [s1, s2]
  show outR (f da db) e2 = _
  rw [hf]
  rfl
theorem mB_ok {f : FN} {t : MA} {e e1 : En} {rs : List R} {ds : List D} {d : D} {k : Bool} (h1 : t e = .ok rs e1) (s1 : sees e1 rs = some ds) (hf : f ds = some (k, d)) : mB f t e = .ok (mkR k d) e1 := by
  unfold mB
  rw [h1]
  show (match sees e1 rs with
    | some ds => outR (f ds) e1
    | none => .stuck) = _
  rw [s1]
  show outR (f ds) e1 = _
  rw [hf]
  rfl
theorem aCons_ok {m : M} {t : MA} {e e1 e2 : En} {r : R} {rs : List R} (h1 : m e = .ok r e1) (h2 : t e1 = .ok rs e2) : aCons m t e = .ok (r :: rs) e2 := by
  unfold aCons
  rw [h1]
  simp only [h2]
theorem tmV_ok {m : M} {e e1 : En} {r : R} {b : Bool} (h : m e = .ok r e1) (s : r.see e1 = some (.bl b)) : tmV m e = .ok b e1 := by
  unfold tmV
  rw [h]
  simp only [s]
theorem mCall_ok {f : FS} {modes : List Bool} {fresh : Bool} {t : MA} {e e1 e2 e3 : En} {rs : List R} {ls : List (Option D)} {ds bs : List D} {d : D} (h1 : t e = .ok rs e1) (h2 : takesM e1 modes rs = some (ls, e2)) (h3 : lends e2 rs ls [] = some ds) (h4 : f ds = .ok d bs) (h5 : backs e2 modes rs bs = some e3) :
    mCall f modes fresh t e = .ok (mkR fresh d) e3 := by
  unfold mCall
  rw [h1]
  simp only [AR.and, h2, h3, h4, h5]
theorem fBody_rt {n : Nat} {modes : List Bool} {fresh : Bool} {m : MS} {ds : List D} {r : R} {e : En} (h : m (initE n modes ds) = .rt r e) : fBody n modes fresh m ds = finR fresh modes r e := by
  unfold fBody
  rw [h]
theorem fBody_nx {n : Nat} {modes : List Bool} {fresh : Bool} {m : MS} {ds : List D} {e : En} (h : m (initE n modes ds) = .nx e) : fBody n modes fresh m ds = finR fresh modes (.fro .non) e := by
  unfold fBody
  rw [h]

theorem mVar_fro {i : Nat} {e : En} {d : D} (h : e[i]? = some (.fro d)) : mVar i e = .ok (.fro d) e := by
  unfold mVar
  rw [h]
theorem mVar_own {i : Nat} {e : En} {d : D} (h : e[i]? = some (.own d)) : mVar i e = .ok (.slot i) e := by
  unfold mVar
  rw [h]
/-- a draw: script and town, and a number -/
theorem mCall_ftf {f : FS} {a0 a2 : M} {j : Nat} {E : En} {x0 x2 T T' d : D} (h0 : a0 E = .ok (.fro x0) E) (hj : E[j]? = some (.own T)) (h2 : a2 E = .ok (.fro x2) E) (hf : f [x0, T, x2] = .ok d [T']) :
    mCall f [false, true, false] false (aCons a0 (aCons (mVar j) (aCons a2 aNil))) E = .ok (.fro d) (E.modify j fun s => s.put T') := by
  refine mCall_ok (fresh := false) (rs := [.fro x0, .slot j, .fro x2]) (e1 := E) (e2 := E) (ls := [some x0, none, some x2]) (ds := [x0, T, x2]) (bs := [T']) (aCons_ok h0 (aCons_ok (mVar_own hj) (aCons_ok h2 rfl))) rfl ?_ hf rfl
  unfold lends lends lends
  rw [hj]
  rfl
/-! ### what the kernel reckons -/
def isNx : SR → Bool
  | .nx _ => true
  | _ => false
def getNx : SR → En
  | .nx e => e
  | _ => []
theorem nx_get {r : SR} (h : isNx r = true) : r = .nx (getNx r) := by cases r <;> first | rfl | cases h
def isYes : SR → Bool
  | .rt (.fro (.bl true)) _ => true
  | _ => false
theorem yes_get {r : SR} (h : isYes r = true) : ∃ e, r = .rt (.fro (.bl true)) e := by
  cases r with
  | rt r e =>
    cases r with
    | fro d =>
      cases d with
      | bl b =>
        cases b with
        | true => exact ⟨e, rfl⟩
        | false => cases h
      | _ => cases h
    | _ => cases h
  | _ => cases h
theorem fBody_yes {n : Nat} {m : MS} {ds : List D} (h : isYes (m (initE n [false] ds)) = true) : fBody n [false] false m ds = .ok (.bl true) [] := by
  obtain ⟨e, h⟩ := yes_get h
  rw [fBody_rt h]
  rfl
theorem yes_seq {a b : MS} {e e' : En} (h : a e = .nx e') (h2 : isYes (b e') = true) : isYes (sSeq a b e) = true := by rw [sSeq_nx h]; exact h2

/-! ### lists of ints -/
theorem ix_nat {ds : List D} {j : Nat} {d : D} (h : ds[j]? = some d) : dIx (.lst ds) (.int (j : Nat)) = some (false, d) := by
  have e : L2.atI ds (j : Int) = some d := by
    have hj : j < ds.length := (List.getElem?_eq_some_iff.mp h).1
    unfold L2.atI ixN
    rw [if_pos (by omega), if_pos (by omega)]
    simpa using h
  show (L2.atI ds (j : Int)).map (fun d => (false, d)) = _
  rw [e]
  rfl
theorem ix_nat' {ds : List D} {j : Nat} {d : D} {i : Int} (hi : i = (j : Nat)) (h : ds[j]? = some d) : dIx (.lst ds) (.int i) = some (false, d) := by
  rw [hi]
  exact ix_nat h
theorem okDs_int : ∀ (ns : List Int) (n : Nat), D.okDs' n (ns.map D.int) = true
  | [], _ => rfl
  | x :: ns, n => by
    show (D.okD' n (.int x) && D.okDs' n (ns.map D.int)) = true
    rw [okDs_int ns n]
    cases n <;> rfl
theorem eq_nil (ns : List Int) : dEq (.lst (ns.map D.int)) (.lst []) = some (false, .bl (ns.isEmpty)) := by
  have e : okq (.lst (ns.map D.int)) = true := okDs_int ns 39
  have e2 : okq (.lst []) = true := by decide
  unfold dEq
  rw [e, e2]
  cases ns <;> rfl
end Gr
end
section
/-! Reckoning with loops, tables, labels. -/
namespace Gr
open PySem PySem.Spec PyProof.Rows L2

/-- a comprehension whose body leaves everything as it was -/
theorem loopC_pure {vs : List Nat} {g : MG} {t : MT} {m : M} {env : En} (b : D → Bool) (f : D → D) : ∀ (ds : List D), (∀ d ∈ ds, ∃ e1 e2, g d (wipeE env vs) = some e1 ∧ t e1 = .ok (b d) e2 ∧ (b d = false → unw env e2 vs = env) ∧
    (b d = true → ∃ r e3 e4, m e2 = .ok r e3 ∧ r.take e3 = some (f d, e4) ∧ unw env e4 vs = env)) → loopC vs g t m ds env = some ((ds.filter b).map f, env)
  | [], _ => rfl
  | d :: ds, h => by
    obtain ⟨e1, e2, h1, h2, h3, h4⟩ := h d (by simp)
    have ih := loopC_pure (vs := vs) (g := g) (t := t) (m := m) (env := env) b f ds fun x hx => h x (List.mem_cons_of_mem _ hx)
    unfold loopC
    rw [h1]
    simp only [h2]
    cases hb : b d with
    | false =>
      simp only [h3 hb]
      rw [ih, List.filter_cons_of_neg (by simp [hb])]
    | true =>
      obtain ⟨r, e3, e4, h5, h6, h7⟩ := h4 hb
      simp only [h5, h6, h7]
      rw [ih, List.filter_cons_of_pos hb]
      rfl
theorem mLc_ok {vs : List Nat} {i : MI} {g : MG} {t : MT} {m : M} {e e1 e2 : En} {ds ys : List D} (h1 : i e = .ok ds e1) (h2 : loopC vs g t m ds e1 = some (ys, e2)) (hl : ys.length ≤ szl) : mLc vs i g t m e = .ok (.tmp (.lst ys)) e2 := by
  unfold mLc
  rw [h1]
  simp only [h2, outC, if_pos hl]
/-- a loop by what holds behind the part done -/
theorem loopF_inv {g : MG} {b : MS} (P : List D → En → Prop) : ∀ (ds pre : List D) (env : En), P pre env → (∀ pre d post env, pre ++ d :: post = pre ++ d :: post → d ∈ ds → P pre env → ∃ e1 e2, g d env = some e1 ∧ b e1 = .nx e2 ∧ P (pre ++ [d]) e2) → ∃ e, loopF g b ds env = .nx e ∧ P (pre ++ ds) e
  | [], pre, env, h, _ => ⟨env, rfl, by rw [List.append_nil]; exact h⟩
  | d :: ds, pre, env, h, k => by
    obtain ⟨e1, e2, h1, h2, h3⟩ := k pre d ds env rfl (by simp) h
    obtain ⟨e, h4, h5⟩ := loopF_inv P ds (pre ++ [d]) e2 h3 fun p x q env' z hx => k p x q env' z (List.mem_cons_of_mem _ hx)
    refine ⟨e, ?_, by rw [List.append_assoc] at h5; exact h5⟩
    unfold loopF
    rw [h1]
    simp only [h2]
    exact h4
theorem sFor_ok {i : MI} {g : MG} {b : MS} {e e1 e2 : En} {ds : List D} (h1 : i e = .ok ds e1) (h2 : loopF g b ds e1 = .nx e2) : sFor i g b e = .nx e2 := by
  unfold sFor
  rw [h1]
  exact h2
theorem sAsg_ok {g : MG} {m : M} {e e1 e2 e3 : En} {r : R} {d : D} (h1 : m e = .ok r e1) (h2 : r.take e1 = some (d, e2)) (h3 : g d e2 = some e3) : sAsg g m e = .nx e3 := by
  unfold sAsg ER.andS
  rw [h1]
  simp only [h2, h3]
theorem iSeq_ok {m : M} {e e1 e2 : En} {r : R} {d : D} {ds : List D} (h1 : m e = .ok r e1) (h2 : r.take e1 = some (d, e2)) (h3 : seqOf d = some ds) : iSeq m e = .ok ds e2 := by
  unfold iSeq
  rw [h1]
  simp only [h2, h3]

theorem mDz_ok {t : MA} {e e1 e2 : En} {rs : List R} {d1 d2 : D} {xs ys : List D} {kvs : List (D × D)} (h1 : t e = .ok rs e1) (h2 : takes e1 rs = some ([d1, d2], e2)) (h3 : seqL d1 = some xs) (h4 : seqL d2 = some ys) (h5 : buildK xs ys [] = some kvs) (h6 : kvs.length ≤ szl ∧ xs.length ≤ szl) : mDz t e = .ok (.tmp (.dct kvs)) e2 := by
  unfold mDz
  rw [h1]
  simp only [h2, h3, h4, h5]
  rw [if_pos h6]
theorem iZip_ok {t : MA} {e e1 e2 : En} {rs : List R} {d1 d2 : D} {xs ys : List D} (h1 : t e = .ok rs e1) (h2 : takes e1 rs = some ([d1, d2], e2)) (h3 : seqL d1 = some xs) (h4 : seqL d2 = some ys) : iZip t e = .ok (zipD xs ys) e2 := by
  unfold iZip
  rw [h1]
  simp only [h2, h3, h4]
theorem sPut_ok {me mo mk : M} {e e1 e2 e3 e4 : En} {r : R} {i : Nat} {kd d c c' : D} (h1 : me e = .ok r e1) (h2 : mo e1 = .ok (.slot i) e2) (h3 : mk e2 = .ok (.fro kd) e3) (h4 : r.take e3 = some (d, e4)) (h5 : (e4[i]?).bind SV.cont = some c) (h6 : storeD c kd d = some c') : sPut me mo mk e = .nx (e4.modify i fun s => s.put c') := by
  unfold sPut ER.andS
  rw [h1]
  simp only [h2, h3, h4, h5, h6]
theorem mLst_ok {t : MA} {e e1 e2 : En} {rs : List R} {ds : List D} (h1 : t e = .ok rs e1) (h2 : takes e1 rs = some (ds, e2)) (h3 : ds.length ≤ szl) : mLst t e = .ok (.tmp (.lst ds)) e2 := by
  unfold mLst
  rw [h1]
  simp only [AR.and, h2]
  rw [if_pos h3]
theorem mTup_ok {t : MA} {e e1 e2 : En} {rs : List R} {ds : List D} (h1 : t e = .ok rs e1) (h2 : takes e1 rs = some (ds, e2)) (h3 : ds.length ≤ szl) : mTup t e = .ok (.fro (.tup ds)) e2 := by
  unfold mTup
  rw [h1]
  simp only [AR.and, h2]
  rw [if_pos h3]
theorem fApp_ok {ds : List D} {d : D} (h : ds.length < szl) : fApp (.lst ds) [d] = some (.lst (ds ++ [d]), .non) := by
  show (if ds.length < szl then some (D.lst (ds ++ [d]), D.non) else none) = _
  rw [if_pos h]
theorem mApp_ok {mo : M} {t : MA} {e e1 e2 e3 : En} {rs : List R} {i : Nat} {ds : List D} {d : D} {c : List D} {c0 : List D} (h1 : mo e = .ok (.slot i) e1) (h0 : (e1[i]?).bind SV.cont = some (.lst c0)) (h2 : t e1 = .ok rs e2) (h3 : takes e2 rs = some ([d], e3)) (h4 : (e3[i]?).bind SV.cont = some (.lst c)) (h5 : c.length < szl) : mApp mo t e = .ok (.fro .non) (e3.modify i fun s => s.put (.lst (c ++ [d]))) := by
  unfold mApp mMuT mMu
  rw [h1]
  simp only [ER.and, h0, isLst, if_true, AR.and, h2, h3, h4, fApp_ok h5]
theorem szl_big {n : Nat} (h : n ≤ 1000) : n ≤ szl := Nat.le_trans h (by decide)
theorem szl_big' {n : Nat} (h : n ≤ 1000) : n < szl := Nat.lt_of_le_of_lt h (by decide)
/-! ### tables over points -/
/-- the place of a key -/
def idxK (k : NestedKey) : List D → Nat → Option Nat
  | [], _ => none
  | p :: ps, i => match p.nk with
    | some k' => if NestedKey.beq k' k then some i else idxK k ps (i + 1)
    | none => idxK k ps (i + 1)
theorem lookK_zip (k : NestedKey) : ∀ (ps vs : List D) (i j : Nat), vs.length = ps.length → idxK k ps i = some j → i ≤ j ∧ lookK k (ps.zip vs) = vs[j - i]?
  | [], _, _, _, _, h => by cases h
  | p :: ps, [], _, _, h, _ => by simp at h
  | p :: ps, v :: vs, i, j, hl, h => by
    unfold idxK at h
    show _ ∧ lookK k ((p, v) :: ps.zip vs) = _
    unfold lookK
    cases e : p.nk with
    | none =>
      rw [e] at h
      simp only at h
      obtain ⟨h1, h2⟩ := lookK_zip k ps vs (i + 1) j (by simpa using hl) h
      refine ⟨by omega, ?_⟩
      simp only
      rw [h2, show j - i = (j - (i + 1)) + 1 by omega]
      rfl
    | some k' =>
      rw [e] at h
      simp only at h ⊢
      by_cases q : NestedKey.beq k' k = true
      · rw [if_pos q] at h ⊢
        cases h
        exact ⟨Nat.le_refl _, by simp⟩
      · rw [if_neg q] at h
        obtain ⟨h1, h2⟩ := lookK_zip k ps vs (i + 1) j (by simpa using hl) h
        refine ⟨by omega, ?_⟩
        rw [if_neg q, h2, show j - i = (j - (i + 1)) + 1 by omega]
        rfl
theorem idxK_none (k : NestedKey) : ∀ (ps : List D) (i : Nat), (∀ p ∈ ps, p.nk ≠ some k) → idxK k ps i = none
  | [], _, _ => rfl
  | p :: ps, i, h => by
    unfold idxK
    cases e : p.nk with
    | none => exact idxK_none k ps (i + 1) fun q hq => h q (List.mem_cons_of_mem _ hq)
    | some k' =>
      have nb : ¬ NestedKey.beq k' k = true := fun z => h p (by simp) (by rw [e, beq_iff.mp z])
      simp only [nb, if_false]
      exact idxK_none k ps (i + 1) fun q hq => h q (List.mem_cons_of_mem _ hq)
theorem lookK_none {k : NestedKey} : ∀ (kvs : List (D × D)), (∀ x ∈ kvs, x.1.nk ≠ some k) → lookK k kvs = none
  | [], _ => rfl
  | (p, d) :: r, h => by
    unfold lookK
    cases e : p.nk with
    | none => exact lookK_none r fun q hq => h q (List.mem_cons_of_mem _ hq)
    | some k' =>
      have nb : ¬ NestedKey.beq k' k = true := fun z => h (p, d) (by simp) (by rw [← beq_iff.mp z]; exact e)
      simp only [nb, if_false]
      exact lookK_none r fun q hq => h q (List.mem_cons_of_mem _ hq)
/-- keys in a row, each once -/
def keysOk : List D → Bool
  | [] => true
  | p :: ps => (match keyOf p with
    | some k => (ps.all fun q => match q.nk with
      | some k' => !NestedKey.beq k' k
      | none => true)
    | none => false) && keysOk ps
theorem keysOk_cons {p : D} {ps : List D} (h : keysOk (p :: ps) = true) : ∃ k, keyOf p = some k ∧ (∀ q ∈ ps, q.nk ≠ some k) ∧ keysOk ps = true := by
  unfold keysOk at h
  rw [Bool.and_eq_true] at h
  cases e : keyOf p with
  | none => rw [e] at h; exact absurd h.1 (by simp)
  | some k =>
    rw [e] at h
    refine ⟨k, rfl, fun q hq z => ?_, h.2⟩
    have := List.all_eq_true.mp h.1 q hq
    rw [z] at this
    simp [NestedKey.beq_self] at this
/-- a table is built as it is read -/
theorem buildK_zip : ∀ (ps vs : List D) (acc : List (D × D)), vs.length = ps.length → keysOk ps = true → (∀ p ∈ ps, ∀ x ∈ acc, ∀ k, p.nk = some k → x.1.nk ≠ some k) → buildK ps vs acc = some (acc ++ ps.zip vs)
  | [], [], acc, _, _, _ => by simp [buildK]
  | [], _ :: _, _, h, _, _ => by simp at h
  | _ :: _, [], _, h, _, _ => by simp at h
  | p :: ps, v :: vs, acc, hl, hk, ha => by
    obtain ⟨k, h1, h2, h3⟩ := keysOk_cons hk
    obtain ⟨n1, _⟩ := keyOf_ok h1
    unfold buildK
    rw [h1]
    have e : putK p k v acc = acc ++ [(p, v)] := by
      unfold putK
      rw [lookK_none acc fun x hx => ha p (by simp) x hx k n1]
    simp only [e]
    rw [buildK_zip ps vs (acc ++ [(p, v)]) (by simpa using hl) h3 fun q hq x hx k' hk' => ?_]
    · rw [List.append_assoc]
      rfl
    · rcases List.mem_append.mp hx with hx | hx
      · exact ha q (List.mem_cons_of_mem _ hq) x hx k' hk'
      · have ex : x = (p, v) := by simpa using hx
        subst ex
        intro z
        rw [n1] at z
        cases z
        exact h2 q hq hk'

theorem store_new {p v : D} {k : NestedKey} {acc : List (D × D)} (h1 : keyOf p = some k) (hn : ∀ x ∈ acc, x.1.nk ≠ some k) (hz : acc.length < szl) : storeD (.dct acc) p v = some (.dct (acc ++ [(p, v)])) := by
  have e : putK p k v acc = acc ++ [(p, v)] := by
    unfold putK
    rw [lookK_none acc hn]
  unfold storeD
  simp only [h1]
  rw [if_pos hz, e]
/-! ### data equal to itself -/
mutual
theorem eqv_refl : ∀ {n : Nat} {d : D}, D.okD' n d = true → D.eqv d d = true
  | n, d, h => by
    cases d with
    | non => rfl
    | bl b => simp [D.eqv]
    | int i => simp [D.eqv]
    | str x => simp [D.eqv]
    | tup xs =>
      cases n with
      | zero => simp [D.okD'] at h
      | succ n =>
        simp only [D.eqv]
        exact eqvs_refl (n := n) (by simpa [D.okD'] using h)
    | lst xs =>
      cases n with
      | zero => simp [D.okD'] at h
      | succ n =>
        simp only [D.eqv]
        exact eqvs_refl (n := n) (by simpa [D.okD'] using h)
    | dct _ => simp [D.okD'] at h
    | dci _ => simp [D.okD'] at h
    | opq _ => simp [D.okD'] at h
    | exo _ => simp [D.okD'] at h
    | fnv _ => simp [D.okD'] at h
theorem eqvs_refl : ∀ {n : Nat} {ds : List D}, D.okDs' n ds = true → D.eqvs ds ds = true
  | _, [], _ => rfl
  | n, d :: ds, h => by
    simp only [D.okDs', Bool.and_eq_true] at h
    simp only [D.eqvs]
    rw [eqv_refl h.1, eqvs_refl h.2]
    rfl
end
theorem okDs_filter {n : Nat} (b : D → Bool) : ∀ {ds : List D}, D.okDs' n ds = true → D.okDs' n (ds.filter b) = true
  | [], _ => rfl
  | d :: ds, h => by
    simp only [D.okDs', Bool.and_eq_true] at h
    have ih := okDs_filter b h.2
    rw [List.filter_cons]
    split
    · simp only [D.okDs', Bool.and_eq_true]; exact ⟨h.1, ih⟩
    · exact ih
theorem dEq_self {d : D} (h : okq d = true) : dEq d d = some (false, .bl true) := by
  unfold dEq
  rw [h]
  simp only [Bool.and_self, if_true]
  rw [eqv_refl (n := 40) h]
theorem dNe_self {d : D} (h : okq d = true) : dNe d d = some (false, .bl false) := by
  unfold dNe
  rw [h]
  simp only [Bool.and_self, if_true]
  rw [eqv_refl (n := 40) h]
  rfl
theorem dEq_nil {ds : List D} (h : okq (.lst ds) = true) : dEq (.lst ds) (.lst []) = some (false, .bl ds.isEmpty) := by
  unfold dEq
  rw [h, show okq (.lst []) = true by decide]
  cases ds <;> rfl

/-! ### labels -/
def Lab (l : Int) : Prop := l = 0 ∨ l = 1 ∨ l = 2
theorem lst_getD {ls : List Int} {i : Nat} (h : i < ls.length) : (ls.map D.int)[i]? = some (.int (ls.getD i 0)) := by
  rw [List.getElem?_map, List.getD_eq_getElem?_getD, List.getElem?_eq_getElem h]
  rfl
theorem sort3 (a b c : Int) (ha : Lab a) (hb : Lab b) (hc : Lab c) : ∃ ds bb, dSorted [.lst [.int a, .int b, .int c]] = some (true, .lst ds) ∧ dEq (.lst ds) (.lst [.int 0, .int 1, .int 2]) = some (false, .bl bb) := by
  rcases ha with rfl | rfl | rfl <;> rcases hb with rfl | rfl | rfl <;> rcases hc with rfl | rfl | rfl <;> exact ⟨_, _, rfl, rfl⟩
/-- the thing at each point of a table -/
theorem zip_look : ∀ (ps vs : List D), keysOk ps = true → vs.length = ps.length → ∀ x ∈ ps.zip vs, dIx (.dct (ps.zip vs)) x.1 = some (false, x.2) := by
  have gen : ∀ (ps vs : List D), keysOk ps = true → vs.length = ps.length → ∀ x ∈ ps.zip vs, ∃ k, keyOf x.1 = some k ∧ lookK k (ps.zip vs) = some x.2 := by
    intro ps
    induction ps with
    | nil => intro vs _ _ x hx; simp at hx
    | cons p ps ih =>
      intro vs hk hl x hx
      cases vs with
      | nil => simp at hl
      | cons v vs =>
        obtain ⟨k, h1, h2, h3⟩ := keysOk_cons hk
        obtain ⟨n1, _⟩ := keyOf_ok h1
        rcases List.mem_cons.mp (show x ∈ (p, v) :: ps.zip vs from hx) with rfl | hx
        · refine ⟨k, h1, ?_⟩
          show lookK k ((p, v) :: ps.zip vs) = _
          unfold lookK
          rw [n1]
          simp only [NestedKey.beq_self, if_true]
        · obtain ⟨k', h4, h5⟩ := ih vs h3 (by simpa using hl) x hx
          refine ⟨k', h4, ?_⟩
          show lookK k' ((p, v) :: ps.zip vs) = _
          unfold lookK
          rw [n1]
          have nb : ¬ NestedKey.beq k k' = true := fun z => by
            have e := beq_iff.mp z
            subst e
            exact h2 x.1 (List.of_mem_zip hx).1 (keyOf_ok h4).1
          simp only [nb, if_false]
          exact h5
  intro ps vs hk hl x hx
  obtain ⟨k, h1, h2⟩ := gen ps vs hk hl x hx
  show (match keyOf x.1 with
    | some k => (lookK k (ps.zip vs)).map fun d => (false, d)
    | none => none) = _
  rw [h1]
  simp only
  rw [h2]
  rfl
/-- a point's coordinate -/
def cAt : D → Int → Int
  | .tup [.int a, .int b, .int c], l => if l = 0 then a else if l = 1 then b else c
  | _, _ => 0
def isPt : D → Bool
  | .tup [.int a, .int b, .int c] => decide (0 ≤ a) && decide (0 ≤ b) && decide (0 ≤ c)
  | _ => false
theorem isPt_get {p : D} (h : isPt p = true) : ∃ a b c : Int, p = .tup [.int a, .int b, .int c] ∧ 0 ≤ a ∧ 0 ≤ b ∧ 0 ≤ c := by
  unfold isPt at h
  split at h
  · rename_i a b c
    rw [Bool.and_eq_true, Bool.and_eq_true] at h
    exact ⟨a, b, c, rfl, of_decide_eq_true h.1.1, of_decide_eq_true h.1.2, of_decide_eq_true h.2⟩
  · cases h
theorem cAt_ix {p : D} {l : Int} (h : isPt p = true) (hl : Lab l) : dIx p (.int l) = some (false, .int (cAt p l)) ∧ 0 ≤ cAt p l := by
  obtain ⟨a, b, c, rfl, h1, h2, h3⟩ := isPt_get h
  rcases hl with rfl | rfl | rfl
  · exact ⟨rfl, h1⟩
  · exact ⟨rfl, h2⟩
  · exact ⟨rfl, h3⟩
theorem filter_empty {α : Type} (f : α → Bool) : ∀ l : List α, (l.filter f).isEmpty = l.all fun x => !f x
  | [] => rfl
  | x :: l => by
    rw [List.filter_cons, List.all_cons]
    cases h : f x with
    | true => simp
    | false => simpa using filter_empty f l
theorem bools_map {α : Type} (f : α → Bool) : ∀ l : List α, boolsD (l.map fun x => D.bl (f x)) = some (l.map f)
  | [] => rfl
  | x :: l => by
    show (match boolsD (l.map fun x => D.bl (f x)) with
      | some is => some (f x :: is)
      | none => none) = _
    rw [bools_map f l]
    rfl
theorem dAll_map {α : Type} (f : α → Bool) (l : List α) : dAll [.lst (l.map fun x => D.bl (f x))] = some (false, .bl (l.all f)) := by
  show (boolsD (l.map fun x => D.bl (f x))).map (fun is => (false, D.bl (is.all id))) = _
  rw [bools_map]
  show some (false, D.bl ((l.map f).all id)) = _
  rw [List.all_map]
  rfl
end Gr
end
section
/-! # Gr: sums over edges; turns and signs -/
namespace Gr
/-! ### formal sums of edges -/
abbrev Eg := Nat × Nat
def isum (l : List Int) : Int := l.foldr (· + ·) 0
theorem isum_append (a b : List Int) : isum (a ++ b) = isum a + isum b := by
  induction a with
  | nil => simp [isum]
  | cons x a ih =>
    show x + isum (a ++ b) = x + isum a + isum b
    rw [ih]
    omega
def gsum (g : Nat → Nat → Int) (es : List Eg) : Int := isum (es.map fun e => g e.1 e.2)
theorem gsum_cons (g : Nat → Nat → Int) (e : Eg) (es : List Eg) : gsum g (e :: es) = g e.1 e.2 + gsum g es := rfl
theorem gsum_append (g : Nat → Nat → Int) (a b : List Eg) : gsum g (a ++ b) = gsum g a + gsum g b := by
  unfold gsum
  rw [List.map_append, isum_append]
/-- one edge away: e and its turned one are struck out -/
def strike (e : Eg) : List Eg → Option (List Eg)
  | [] => none
  | x :: es => if x.1 = e.2 ∧ x.2 = e.1 then some es else (strike e es).map (x :: ·)
/-- struck out as long as it goes -/
def cancel : List Eg → List Eg → List Eg
  | [], acc => acc
  | e :: es, acc => match strike e acc with
    | some acc' => cancel es acc'
    | none => cancel es (e :: acc)
def Anti (g : Nat → Nat → Int) (es : List Eg) : Prop := ∀ e ∈ es, g e.2 e.1 = - g e.1 e.2
theorem strike_sum {g : Nat → Nat → Int} {e : Eg} (he : g e.2 e.1 = - g e.1 e.2) : ∀ {es es' : List Eg}, strike e es = some es' → gsum g es = gsum g es' - g e.1 e.2 ∧ ∀ x ∈ es', x ∈ es
  | [], es', h => by cases h
  | x :: es, es', h => by
    unfold strike at h
    split at h
    · rename_i hx
      cases h
      refine ⟨?_, fun x hx => List.mem_cons_of_mem _ hx⟩
      rw [gsum_cons, hx.1, hx.2, he]
      omega
    · cases q : strike e es with
      | none => rw [q] at h; cases h
      | some r =>
        rw [q] at h
        cases h
        obtain ⟨h1, h2⟩ := strike_sum he q
        refine ⟨?_, fun y hy => ?_⟩
        · rw [gsum_cons, gsum_cons, h1]
          omega
        · rcases List.mem_cons.mp hy with rfl | hy
          · simp
          · exact List.mem_cons_of_mem _ (h2 y hy)
theorem cancel_sum {g : Nat → Nat → Int} : ∀ {es acc : List Eg}, (∀ e ∈ es, g e.2 e.1 = - g e.1 e.2) → gsum g (cancel es acc) = gsum g es + gsum g acc
  | [], acc, _ => by simp [cancel, gsum, isum]
  | e :: es, acc, h => by
    unfold cancel
    have he := h e (by simp)
    have hs : ∀ x ∈ es, g x.2 x.1 = - g x.1 x.2 := fun x hx => h x (List.mem_cons_of_mem _ hx)
    cases q : strike e acc with
    | none =>
      simp only
      rw [cancel_sum hs, gsum_cons, gsum_cons]
      omega
    | some acc' =>
      simp only
      rw [cancel_sum hs, gsum_cons, (strike_sum he q).1]
      omega
/-- what is left over when the one is struck out of the other's turn is nothing: the sums are equal -/
def turnE (es : List Eg) : List Eg := es.map fun e => (e.2, e.1)
theorem gsum_turn {g : Nat → Nat → Int} : ∀ {es : List Eg}, (∀ e ∈ es, g e.2 e.1 = - g e.1 e.2) → gsum g (turnE es) = - gsum g es
  | [], _ => rfl
  | e :: es, h => by
    show g e.2 e.1 + gsum g (turnE es) = - (g e.1 e.2 + gsum g es)
    rw [gsum_turn (fun x hx => h x (List.mem_cons_of_mem _ hx)), h e (by simp)]
    omega
theorem sums_eq {g : Nat → Nat → Int} {as bs : List Eg} (hg : ∀ i j, g j i = - g i j) (h : cancel (as ++ turnE bs) [] = []) : gsum g as = gsum g bs := by
  have e := cancel_sum (g := g) (es := as ++ turnE bs) (acc := []) fun e _ => hg _ _
  rw [h, gsum_append, gsum_turn fun e _ => hg _ _] at e
  have z : gsum g [] = 0 := rfl
  rw [z] at e
  omega
/-! the same with edges that have no way, by twos -/
def strike2 (e : Eg) : List Eg → Option (List Eg)
  | [] => none
  | x :: es => if (x.1 = e.2 ∧ x.2 = e.1) ∨ (x.1 = e.1 ∧ x.2 = e.2) then some es else (strike2 e es).map (x :: ·)
def cancel2 : List Eg → List Eg → List Eg
  | [], acc => acc
  | e :: es, acc => match strike2 e acc with
    | some acc' => cancel2 es acc'
    | none => cancel2 es (e :: acc)
theorem strike2_sum {g : Nat → Nat → Int} (hg : ∀ i j, g j i = g i j) {e : Eg} : ∀ {es es' : List Eg}, strike2 e es = some es' → gsum g es = gsum g es' + g e.1 e.2
  | [], es', h => by cases h
  | x :: es, es', h => by
    unfold strike2 at h
    split at h
    · rename_i hx
      cases h
      rw [gsum_cons]
      rcases hx with ⟨h1, h2⟩ | ⟨h1, h2⟩
      · rw [h1, h2, hg]
        omega
      · rw [h1, h2]
        omega
    · cases q : strike2 e es with
      | none => rw [q] at h; cases h
      | some r =>
        rw [q] at h
        cases h
        rw [gsum_cons, gsum_cons, strike2_sum hg q]
        omega
theorem cancel2_sum {g : Nat → Nat → Int} (hg : ∀ i j, g j i = g i j) : ∀ {es acc : List Eg}, (gsum g (cancel2 es acc) - gsum g es - gsum g acc) % 2 = 0
  | [], acc => by
    have z : gsum g [] = 0 := rfl
    unfold cancel2
    rw [z]
    omega
  | e :: es, acc => by
    unfold cancel2
    cases q : strike2 e acc with
    | none =>
      simp only
      have := cancel2_sum hg (es := es) (acc := e :: acc)
      rw [gsum_cons] at this ⊢
      omega
    | some acc' =>
      simp only
      have := cancel2_sum hg (es := es) (acc := acc')
      rw [gsum_cons, strike2_sum hg q]
      omega
theorem sums_even {g : Nat → Nat → Int} {as bs : List Eg} (hg : ∀ i j, g j i = g i j) (h : cancel2 (as ++ bs) [] = []) : (gsum g as - gsum g bs) % 2 = 0 := by
  have e := cancel2_sum hg (es := as ++ bs) (acc := [])
  rw [h, gsum_append] at e
  have z : gsum g [] = 0 := rfl
  rw [z] at e
  omega
/-! ### turns and signs of labels -/
def tau (a b : Int) : Int := if b = a then 0 else if (b - a) % 3 = 1 then 1 else -1
def sig (a b c : Int) : Int := if a = b ∨ b = c ∨ c = a then 0 else if (b - a) % 3 = 1 then 1 else -1
theorem tau_anti {a b : Int} (ha : Lab a) (hb : Lab b) : tau b a = - tau a b := by
  rcases ha with rfl | rfl | rfl <;> rcases hb with rfl | rfl | rfl <;> decide
theorem tau3 {a b c : Int} (ha : Lab a) (hb : Lab b) (hc : Lab c) : tau a b + tau b c + tau c a = 3 * sig a b c := by
  rcases ha with rfl | rfl | rfl <;> rcases hb with rfl | rfl | rfl <;> rcases hc with rfl | rfl | rfl <;> decide
def cellE : List (Nat × Nat × Nat) → List Eg
  | [] => []
  | (i, j, k) :: cs => (i, j) :: (j, k) :: (k, i) :: cellE cs
theorem cells_sum {g : Nat → Nat → Int} {s : Nat → Nat → Nat → Int} (h : ∀ i j k, g i j + g j k + g k i = 3 * s i j k) : ∀ cs : List (Nat × Nat × Nat), gsum g (cellE cs) = 3 * isum (cs.map fun c => s c.1 c.2.1 c.2.2)
  | [] => rfl
  | (i, j, k) :: cs => by
    have e := h i j k
    have ih := cells_sum h cs
    show g i j + (g j k + (g k i + gsum g (cellE cs))) = 3 * (s i j k + isum (cs.map fun c => s c.1 c.2.1 c.2.2))
    rw [ih]
    omega
end Gr
end
section
/-! # Gr: plain functions reckoned by rules: what the tactic «walk_at "ev"» applies -/
namespace Gr
open PySem PySem.Spec PyProof.Rows L2

/-! ### statements -/
def thenS (o : SR) (b : MS) : SR := match o with
  | .nx e => b e
  | o => o
def condS {α : Type} (b : Bool) (x y : α) : α := match b with
  | true => x
  | false => y
section
variable {a b : MS} {e e1 e2 : En} {o o1 : SR} {m : M} {t : MT} {r : R} {i : Nat} {bb : Bool}
theorem ev_seq (h1 : a e = o1) (h2 : thenS o1 b = o) : sSeq a b e = o := by
  unfold sSeq
  rw [h1]
  exact h2
theorem th_nx (h : b e = o) : thenS (.nx e) b = o := h
theorem th_rt : thenS (.rt r e) b = .rt r e := rfl
theorem th_bk : thenS (.bk e) b = .bk e := rfl
theorem th_ct : thenS (.ct e) b = .ct e := rfl
theorem th_exc {c : Nat} : thenS (.exc c e) b = .exc c e := rfl
theorem ev_nil : sNil e = .nx e := rfl
theorem ev_brk : sBrk e = .bk e := rfl
theorem ev_cnt : sCnt e = .ct e := rfl
theorem ev_retN : sRetN e = .rt (.fro .non) e := rfl
theorem ev_set (h : m e = .ok r e1) (p : putR i r e1 = some e2) : sSet i m e = .nx e2 := sSet_ok h p
theorem ev_ret (h : m e = .ok r e1) : sRet m e = .rt r e1 := sRet_ok h
theorem ev_expr (h : m e = .ok r e1) : sExpr m e = .nx e1 := sExpr_ok h
theorem ev_if (h : t e = .ok bb e1) (h2 : condS bb (a e1) (b e1) = o) : sIf t a b e = o := by
  unfold sIf
  rw [h]
  cases bb <;> exact h2
theorem cd_t {α : Type} {x y o : α} (h : bb = true) (h2 : x = o) : condS bb x y = o := by subst h; exact h2
theorem cd_f {α : Type} {x y o : α} (h : bb = false) (h2 : y = o) : condS bb x y = o := by subst h; exact h2
theorem ev_asg {g : MG} {d : D} {e3 : En} (h1 : m e = .ok r e1) (h2 : r.take e1 = some (d, e2)) (h3 : g d e2 = some e3) : sAsg g m e = .nx e3 := sAsg_ok h1 h2 h3
theorem ev_aug {f : Int → Int → Int} {k j : Int} (h0 : e[i]? = some (.fro (.int k))) (h1 : m e = .ok r e1) (h2 : r.see e1 = some (.int j)) (h3 : putF i (.int (f k j)) e1 = some e2) : sAug i f m e = .nx e2 := by
  unfold sAug ER.andS
  rw [h0]
  simp only [h1, h2, h3]
theorem ev_for {mi : MI} {g : MG} {ds : List D} (h1 : mi e = .ok ds e1) (h2 : loopF g b ds e1 = o) : sFor mi g b e = o := by
  unfold sFor
  rw [h1]
  exact h2
theorem ev_par {is : List Nat} {t : MA} {rs qs : List R} (h1 : t e = .ok rs e1) (h2 : (match settle e1 rs with
    | some (qs, e1) => puts is qs e1
    | none => none) = some e2) : sPar is t e = .nx e2 := by
  unfold sPar
  rw [h1]
  simp only
  cases q : settle e1 rs with
  | none => rw [q] at h2; cases h2
  | some p =>
    obtain ⟨qs, e3⟩ := p
    rw [q] at h2
    simp only at h2 ⊢
    rw [h2]
theorem ev_put {me mo mk : M} {e3 e4 : En} {kd d c c' : D} (h1 : me e = .ok r e1) (h2 : mo e1 = .ok (.slot i) e2) (h3 : mk e2 = .ok (.fro kd) e3) (h4 : r.take e3 = some (d, e4)) (h5 : (e4[i]?).bind SV.cont = some c) (h6 : storeD c kd d = some c') {e5 : En} (h7 : (e4.modify i fun s => s.put c') = e5) : sPut me mo mk e = .nx e5 := by
  rw [← h7]
  exact sPut_ok h1 h2 h3 h4 h5 h6
end
/-! ### expressions -/
section
variable {e e1 e2 e3 : En} {m ma mb mc : M} {t : MT} {r ra rb : R} {i : Nat} {bb k : Bool} {d da db : D} {o : ER} {f : F2}
def thenE (o : ER) (k : En → ER) : ER := match o with
  | .ok _ e => k e
  | .exc c e => .exc c e
  | .stuck => .stuck
theorem ev_2 {rr : R} (h1 : ma e = .ok ra e1) (h2 : mb e1 = .ok rb e2) (s1 : ra.see e2 = some da) (s2 : rb.see e2 = some db) (hf : f da db = some (k, d)) (hr : mkR k d = rr) : m2 f ma mb e = .ok rr e2 := by
  rw [← hr]
  exact m2_ok h1 h2 s1 s2 hf
theorem ev_1 {f : F1} {rr : R} (h1 : ma e = .ok ra e1) (s1 : ra.see e1 = some da) (hf : f da = some (k, d)) (hr : mkR k d = rr) : m1 f ma e = .ok rr e1 := by
  rw [← hr]
  unfold m1
  rw [h1]
  show (match ra.see e1 with
    | some da => outR (f da) e1
    | _ => .stuck) = _
  rw [s1]
  show outR (f da) e1 = _
  rw [hf]
  rfl
theorem ev_B {f : FN} {t : MA} {rs : List R} {ds : List D} {rr : R} (h1 : t e = .ok rs e1) (s1 : sees e1 rs = some ds) (hf : f ds = some (k, d)) (hr : mkR k d = rr) : mB f t e = .ok rr e1 := by
  rw [← hr]
  exact mB_ok h1 s1 hf
theorem ev_call {f : FS} {modes : List Bool} {fresh : Bool} {t : MA} {rs : List R} {ls : List (Option D)} {ds bs : List D} {rr : R} (h1 : t e = .ok rs e1) (h2 : takesM e1 modes rs = some (ls, e2)) (h3 : lends e2 rs ls [] = some ds) (h4 : f ds = .ok d bs) (h5 : backs e2 modes rs bs = some e3) (hr : mkR fresh d = rr) :
    mCall f modes fresh t e = .ok rr e3 := by
  rw [← hr]
  exact mCall_ok h1 h2 h3 h4 h5
theorem ev_callX {f : FS} {modes : List Bool} {fresh : Bool} {t : MA} {rs : List R} {ls : List (Option D)} {ds bs : List D} {c : Nat} (h1 : t e = .ok rs e1) (h2 : takesM e1 modes rs = some (ls, e2)) (h3 : lends e2 rs ls [] = some ds) (h4 : f ds = .exc c bs) (h5 : backs e2 modes rs bs = some e3) :
    mCall f modes fresh t e = .exc c e3 := by
  unfold mCall
  rw [h1]
  simp only [AR.and, h2, h3, h4, h5]
theorem ev_aN : aNil e = .ok [] e := rfl
theorem ev_aC {t : MA} {rs : List R} (h1 : m e = .ok r e1) (h2 : t e1 = .ok rs e2) : aCons m t e = .ok (r :: rs) e2 := aCons_ok h1 h2
theorem ev_tup {t : MA} {rs : List R} {ds : List D} (h1 : t e = .ok rs e1) (h2 : takes e1 rs = some (ds, e2)) (h3 : decide (ds.length ≤ 1000) = true) : mTup t e = .ok (.fro (.tup ds)) e2 := mTup_ok h1 h2 (szl_big (of_decide_eq_true h3))
theorem ev_lst {t : MA} {rs : List R} {ds : List D} (h1 : t e = .ok rs e1) (h2 : takes e1 rs = some (ds, e2)) (h3 : decide (ds.length ≤ 1000) = true) : mLst t e = .ok (.tmp (.lst ds)) e2 := mLst_ok h1 h2 (szl_big (of_decide_eq_true h3))
theorem ev_mif {o : ER} (h : t e = .ok bb e1) (h2 : condS bb (ma e1) (mb e1) = o) : mIf t ma mb e = o := by
  unfold mIf
  rw [h]
  cases bb <;> exact h2
theorem ev_and {o : ER} (h : ma e = .ok r e1) (s : r.see e1 = some (.bl bb)) (h2 : condS bb (mb e1) (.ok (.fro (.bl false)) e1) = o) : mAnd ma mb e = o := by
  unfold mAnd
  rw [h]
  show (match r.see e1 with
    | some (.bl true) => mb e1
    | some (.bl false) => ER.ok (.fro (.bl false)) e1
    | _ => .stuck) = _
  rw [s]
  cases bb <;> exact h2
theorem ev_or {o : ER} (h : ma e = .ok r e1) (s : r.see e1 = some (.bl bb)) (h2 : condS bb (.ok (.fro (.bl true)) e1) (mb e1) = o) : mOr ma mb e = o := by
  unfold mOr
  rw [h]
  show (match r.see e1 with
    | some (.bl true) => ER.ok (.fro (.bl true)) e1
    | some (.bl false) => mb e1
    | _ => .stuck) = _
  rw [s]
  cases bb <;> exact h2
theorem ev_not (h : ma e = .ok r e1) (s : r.see e1 = some (.bl bb)) : mNot ma e = .ok (.fro (.bl (!bb))) e1 := by
  unfold mNot
  rw [h]
  show (match r.see e1 with
    | some (.bl b) => ER.ok (.fro (.bl (!b))) e1
    | _ => .stuck) = _
  rw [s]
/-- the second comparison of a chain -/
def ch2 (g : F2) (mc : M) (rb : R) (e : En) : ER := (mc e).and fun rc e3 => match rb.see e3, rc.see e3 with
  | some db', some dc => (match g db' dc with
    | some (false, .bl b) => .ok (.fro (.bl b)) e3
    | _ => .stuck)
  | _, _ => .stuck
theorem ev_ch {f g : F2} {o : ER} (h1 : ma e = .ok ra e1) (h2 : mb e1 = .ok rb e2) (s1 : ra.see e2 = some da) (s2 : rb.see e2 = some db) (hf : f da db = some (false, .bl bb)) (h3 : condS bb (ch2 g mc rb e2) (.ok (.fro (.bl false)) e2) = o) : mCh f g ma mb mc e = o := by
  unfold mCh
  rw [h1]
  show ((mb e1).and _) = _
  rw [h2]
  show (match ra.see e2, rb.see e2 with
    | some da, some db => _
    | _, _ => ER.stuck) = _
  rw [s1, s2]
  show (match f da db with
    | some (false, .bl true) => _
    | some (false, .bl false) => _
    | _ => ER.stuck) = _
  rw [hf]
  cases bb <;> exact h3
theorem ev_ch2 {g : F2} {rc : R} {dc : D} (h1 : mc e2 = .ok rc e3) (s1 : rb.see e3 = some db) (s2 : rc.see e3 = some dc) (hf : g db dc = some (false, .bl bb)) : ch2 g mc rb e2 = .ok (.fro (.bl bb)) e3 := by
  unfold ch2
  rw [h1]
  show (match rb.see e3, rc.see e3 with
    | some db, some dc => _
    | _, _ => ER.stuck) = _
  rw [s1, s2]
  show (match g db dc with
    | some (false, .bl b) => ER.ok (.fro (.bl b)) e3
    | _ => ER.stuck) = _
  rw [hf]
theorem ev_sl {lo hi : Option M} {l u : Option Int} {rr : R} (h1 : ma e = .ok ra e1) (h2 : (mPart lo e1 fun l e2 => mPart hi e2 fun u e3 => match ra.see e3 with
    | some d => outR (dSl d l u) e3
    | none => .stuck) = o) : mSl ma lo hi e = o := by
  unfold mSl
  rw [h1]
  exact h2
theorem ev_pN {k : Option Int → En → ER} (h : k none e = o) : mPart none e k = o := h
theorem ev_pS {k : Option Int → En → ER} {l : Int} (h1 : m e = .ok r e1) (s : r.see e1 = some (.int l)) (h : k (some l) e1 = o) : mPart (some m) e k = o := by
  unfold mPart
  simp only [ER.and, h1, s, h]
theorem ev_slE {l u : Option Int} {rr : R} (s : ra.see e1 = some d) (hf : dSl d l u = some (k, da)) (hr : mkR k da = rr) : (match ra.see e1 with
    | some d => outR (dSl d l u) e1
    | none => ER.stuck) = .ok rr e1 := by
  rw [s, ← hr]
  show outR (dSl d l u) e1 = _
  rw [hf]
  rfl
theorem ev_app {t : MA} {rs : List R} {c c0 : List D} (h1 : m e = .ok (.slot i) e1) (h0 : (e1[i]?).bind SV.cont = some (.lst c0)) (h2 : t e1 = .ok rs e2) (h3 : takes e2 rs = some ([d], e3)) (h4 : (e3[i]?).bind SV.cont = some (.lst c)) (h5 : c.length < szl) {e4 : En} (h6 : (e3.modify i fun s => s.put (.lst (c ++ [d]))) = e4) : mApp m t e = .ok (.fro .non) e4 := by
  rw [← h6]
  exact mApp_ok (ds := []) h1 h0 h2 h3 h4 h5
theorem ev_dz {t : MA} {rs : List R} {d1 d2 : D} {xs ys : List D} {kvs : List (D × D)} (h1 : t e = .ok rs e1) (h2 : takes e1 rs = some ([d1, d2], e2)) (h3 : seqL d1 = some xs) (h4 : seqL d2 = some ys) (h5 : buildK xs ys [] = some kvs) (h6 : kvs.length ≤ szl ∧ xs.length ≤ szl) : mDz t e = .ok (.tmp (.dct kvs)) e2 := mDz_ok h1 h2 h3 h4 h5 h6
theorem ev_get {t : MA} {rs : List R} {kvs : List (D × D)} {ds : List D} {x : D} (h1 : m e = .ok r e1) (s : r.see e1 = some (.dct kvs)) (nt : notTmp r = true) (h2 : t e1 = .ok rs e2) (h3 : takes e2 rs = some (ds, e3)) (h4 : r.see e3 = some d) (h5 : dGet d ds = some x) : mGet m t e = .ok (.fro x) e3 := by
  unfold mGet
  simp only [ER.and, h1, s, nt, h2, AR.and, h3, h4, h5]
theorem ev_rm {p : D → Bool} {f : D → List D → Option D} {t : MA} {rs : List R} {d0 : D} {ds : List D} {x : D} (h1 : m e = .ok r e1) (s : r.see e1 = some d0) (nt : notTmp r = true) (hp : p d0 = true) (h2 : t e1 = .ok rs e2) (h3 : takes e2 rs = some (ds, e3)) (h4 : r.see e3 = some d) (h5 : f d ds = some x) : mRm p f m t e = .ok (.fro x) e3 := by
  unfold mRm
  simp only [ER.and, h1, s, nt, hp, if_true, h2, AR.and, h3, h4, h5]
/-! ### tests -/
theorem ev_tV (h : m e = .ok r e1) (s : r.see e1 = some (.bl bb)) : tmV m e = .ok bb e1 := tmV_ok h s
theorem ev_tN {t : MT} (h : t e = .ok bb e1) : tmNot t e = .ok (!bb) e1 := by
  unfold tmNot
  rw [h]
theorem ev_tA {ta tb : MT} {o : TR} (h : ta e = .ok bb e1) (h2 : condS bb (tb e1) (.ok false e1) = o) : tmAnd ta tb e = o := by
  unfold tmAnd
  rw [h]
  cases bb <;> exact h2
theorem ev_tO {ta tb : MT} {o : TR} (h : ta e = .ok bb e1) (h2 : condS bb (.ok true e1) (tb e1) = o) : tmOr ta tb e = o := by
  unfold tmOr
  rw [h]
  cases bb <;> exact h2
/-! ### what is walked -/
theorem ev_iS {ds : List D} (h1 : m e = .ok r e1) (h2 : r.take e1 = some (d, e2)) (h3 : seqOf d = some ds) : iSeq m e = .ok ds e2 := iSeq_ok h1 h2 h3
theorem ev_iR {f : List D → Option (List D)} {t : MA} {rs : List R} {ds l : List D} (h1 : t e = .ok rs e1) (h2 : sees e1 rs = some ds) (h3 : f ds = some l) : iRange f t e = .ok l e1 := by
  unfold iRange
  rw [h1]
  simp only [h2, h3]
theorem ev_iZ {t : MA} {rs : List R} {d1 d2 : D} {xs ys : List D} (h1 : t e = .ok rs e1) (h2 : takes e1 rs = some ([d1, d2], e2)) (h3 : seqL d1 = some xs) (h4 : seqL d2 = some ys) : iZip t e = .ok (zipD xs ys) e2 := iZip_ok h1 h2 h3 h4
theorem ev_iE {t : MA} {rs : List R} {xs : List D} (h1 : t e = .ok rs e1) (h2 : takes e1 rs = some ([.lst xs], e2)) : iEnumM t e = .ok (enumD 0 xs) e2 := by
  unfold iEnumM
  rw [h1]
  simp only [h2]
/-! ### comprehensions over data of a form -/
theorem loopC_form {α : Type} {vs : List Nat} {g : MG} {t : MT} {m : M} {env : En} {F : α → D} {b : α → Bool} {f : α → D} {E1 E2 E3 E4 : α → En} {r : α → R} : ∀ (xs : List α), (∀ x ∈ xs, g (F x) (wipeE env vs) = some (E1 x)) → (∀ x ∈ xs, t (E1 x) = .ok (b x) (E2 x)) → (∀ x ∈ xs, b x = false → unw env (E2 x) vs = env) →
    (∀ x ∈ xs, b x = true → m (E2 x) = .ok (r x) (E3 x)) → (∀ x ∈ xs, (r x).take (E3 x) = some (f x, E4 x)) → (∀ x ∈ xs, unw env (E4 x) vs = env) → loopC vs g t m (xs.map F) env = some ((xs.filter b).map f, env)
  | [], _, _, _, _, _, _ => rfl
  | x :: xs, h1, h2, h3, h4, h5, h6 => by
    have ih := loopC_form (vs := vs) (g := g) (t := t) (m := m) (env := env) (F := F) (b := b) (f := f) (E1 := E1) (E2 := E2) (E3 := E3) (E4 := E4) (r := r) xs (fun y hy => h1 y (List.mem_cons_of_mem _ hy)) (fun y hy => h2 y (List.mem_cons_of_mem _ hy)) (fun y hy => h3 y (List.mem_cons_of_mem _ hy)) (fun y hy => h4 y (List.mem_cons_of_mem _ hy)) (fun y hy => h5 y (List.mem_cons_of_mem _ hy)) (fun y hy => h6 y (List.mem_cons_of_mem _ hy))
    rw [List.map_cons]
    unfold loopC
    rw [h1 x (by simp)]
    simp only [h2 x (by simp)]
    cases hb : b x with
    | false =>
      simp only [h3 x (by simp) hb]
      rw [ih, List.filter_cons_of_neg (by simp [hb])]
    | true =>
      simp only [h4 x (by simp) hb, h5 x (by simp), h6 x (by simp)]
      rw [ih, List.filter_cons_of_pos hb]
      rfl
theorem ev_lc {α : Type} {vs : List Nat} {mi : MI} {g : MG} {ds : List D} {xs : List α} {F : α → D} {b : α → Bool} {f : α → D} {E1 E2 E3 E4 : α → En} {r : α → R} (h0 : mi e = .ok ds e1) (hd : xs.map F = ds) (h1 : ∀ x ∈ xs, g (F x) (wipeE e1 vs) = some (E1 x)) (h2 : ∀ x ∈ xs, t (E1 x) = .ok (b x) (E2 x)) (h3 : ∀ x ∈ xs, b x = false → unw e1 (E2 x) vs = e1)
    (h4 : ∀ x ∈ xs, b x = true → m (E2 x) = .ok (r x) (E3 x)) (h5 : ∀ x ∈ xs, (r x).take (E3 x) = some (f x, E4 x)) (h6 : ∀ x ∈ xs, unw e1 (E4 x) vs = e1) (hl : xs.length ≤ szl) : mLc vs mi g t m e = .ok (.tmp (.lst ((xs.filter b).map f))) e1 := by
  subst hd
  exact mLc_ok h0 (loopC_form xs h1 h2 h3 h4 h5 h6) (by rw [List.length_map]; exact Nat.le_trans (List.length_filter_le _ _) hl)
/-- .. without a test -/
theorem ev_lcY {α : Type} {vs : List Nat} {mi : MI} {g : MG} {ds : List D} {xs : List α} {F : α → D} {f : α → D} {E1 E3 E4 : α → En} {r : α → R} (h0 : mi e = .ok ds e1) (hd : xs.map F = ds) (h1 : ∀ x ∈ xs, g (F x) (wipeE e1 vs) = some (E1 x))
    (h4 : ∀ x ∈ xs, m (E1 x) = .ok (r x) (E3 x)) (h5 : ∀ x ∈ xs, (r x).take (E3 x) = some (f x, E4 x)) (h6 : ∀ x ∈ xs, unw e1 (E4 x) vs = e1) (hl : xs.length ≤ szl) : mLc vs mi g tmYes m e = .ok (.tmp (.lst (xs.map f))) e1 := by
  have := ev_lc (t := tmYes) (b := fun _ => true) (E2 := E1) h0 hd h1 (fun _ _ => rfl) (fun _ _ z => by cases z) (fun x hx _ => h4 x hx) h5 h6 hl
  rwa [List.filter_eq_self.mpr fun _ _ => rfl] at this
end
/-! ### defs -/
def finE (modes : List Bool) (fresh : Bool) (s : SR) : FR := match s with
  | .rt r e => finR fresh modes r e
  | .nx e => finR fresh modes (.fro .non) e
  | .exc c e => (match bors 0 modes e with
    | some bs => .exc c bs
    | none => .stuck)
  | _ => .stuck
theorem ev_F {n : Nat} {modes : List Bool} {fresh : Bool} {m : MS} {ds : List D} {e0 : En} {o : FR} {s : SR} (h0 : initE n modes ds = e0) (h : m e0 = s) (h2 : finE modes fresh s = o) : fBody n modes fresh m ds = o := by
  subst h0
  subst h
  subst h2
  unfold fBody finE
  cases m (initE n modes ds) <;> rfl
end Gr
end
section
/-! # Gr: raise, try, isinstance of what is caught -/
theorem L2H.RoomH.ru {k : Nat} {A : PySem.Around} (r : L2H.RoomH k A) : A.units + 66 < PySem.cLine := by have := r.un; omega
namespace Gr
open PySem PySem.Spec PyProof.Rows L2

/-! ### raise -/
def sRaise (c : Nat) : MS := fun env => .exc c env
def veB : List Value := [.type "ValueError", .type "Exception", .type "BaseException", .type "object"]
/-- what K says of the class of number n: it may be raised -/
def clsOk (K : PySem.W.Frag) (n : Nat) : Bool := match cvOf K n with
  | .ref C => PySem.W.excIn K C veB "ValueError.__new__" && (PySem.W.keepIn K (.ref C) && (decide (PySem.W.subIn K (.ref C) (.type "BaseException") = some true) && decide (PySem.W.typeIn K (.ref C) = some (.type "type"))))
  | _ => false
theorem clsOk_get {K : PySem.W.Frag} {n : Nat} (h : clsOk K n = true) : ∃ C, cvOf K n = .ref C ∧ PySem.W.excIn K C veB "ValueError.__new__" = true ∧ PySem.W.keepIn K (.ref C) = true ∧ PySem.W.subIn K (.ref C) (.type "BaseException") = some true ∧ PySem.W.typeIn K (.ref C) = some (.type "type") := by
  unfold clsOk at h
  split at h
  · rename_i C e
    simp only [Bool.and_eq_true, decide_eq_true_eq] at h
    exact ⟨C, e, h.1, h.2.1, h.2.2.1, h.2.2.2⟩
  · cases h
theorem cvOf_gl {K : PySem.W.Frag} {n : Nat} {x : Str} {C : Addr} (hx : excNames[n]? = some x) (h : cvOf K n = .ref C) : glV K x = some (.ref C) := by
  unfold cvOf at h
  rw [hx] at h
  simp only at h
  cases q : glV K x with
  | none => rw [q] at h; cases h
  | some v =>
    rw [q] at h
    have h' : v = .ref C := h
    rw [h']
/-- what is in K of the top's names stands in mg -/
def GlOk (K : PySem.W.Frag) (mg : Str → Option Value) : Prop := ∀ x v, glV K x = some v → mg x = some v
theorem glOk_of {K : PySem.W.Frag} {h : Heap} {mg : Str → Option Value} (X : K.In h) (G : h.Ns mainGlobals mg) : GlOk K mg := fun x v e => by
  unfold glV at e
  split at e
  · rename_i w q
    cases e
    exact PySem.W.mg_of X G q
  · cases e
section
variable {X : Cx} {W : WX} {x m : Str} {j n : Nat} {p p2 pos pos' : Pos}
theorem sm_raise (hx : excNames[n]? = some x) (hc : X.calm = true) (gl : GlOk X.K X.mg) (ok : clsOk X.K n = true) (tk : L2.Takes X (Lw (cvOf X.K) W)) (hg : Gl X x) (hdb : (x == ("__debug__" : Str)) = false := by decide) :
    SM X W (.Raise (some (.Call (.Name x p) [.Constant (.str m) j p2] [] pos)) none pos') (sRaise n) := by
  obtain ⟨C, e, h1, h2, h3, h4⟩ := clsOk_get ok
  refine ⟨ps_mono (ps_raise hc tk (pmk_own PySem.F.excBase_ValueError h1 (gl _ _ (cvOf_gl hx e)) h2 (raises_own h3 h4) hg hdb)) fun D σ H q => ?_⟩
  obtain ⟨env, F, S, q⟩ := q
  exact ⟨n, e.symm, rfl, q σ H F .refl S⟩
end

/-! ### a def called where an exception is handled: one argument, the exception -/
structure FnE (P : Program) (w : World) (K : PySem.W.Frag) (mg : Str → Option Value) (base : Heap) (CX : CXT) (k : Nat) (f : Addr) (fd : FuncData) (ps : List Str) (sp : (Addr × Obj) → Sp) : Prop where
  len : ∀ p vs H Q E, sp p vs H Q E → vs.length = ps.length
  run : ∀ (A : Around) (outer : List Env) (s : Shared) (H : Hp) (args : Args) (us : List Value) (vs : List V) (Q : VK) (E : XK) (p : Addr × Obj), L2H.RoomH k A → L2H.PinOk outer H s p → Env0 P w K mg base A outer s H →
    BindsTo s fd args (ps.zip us) → Vals vs us → sp p vs H Q E → codeAny (model P w) A (.call (.ref f) args) (CR CX outer P w H s Q E) s
theorem fnE_of {CX : CXT} {P : Program} {w : World} {K : PySem.W.Frag} {mg : Str → Option Value} {base : Heap} {k : Nat} {nm qual : Str} {st : Stmt} {f : Addr} {fd : FuncData} {N ps : List Str} {sp : (Addr × Obj) → Sp} (Fn : Fun K nm qual st f fd) (S : FnScope N ps (defScope st)) (len : ∀ p vs H Q E, sp p vs H Q E → vs.length = ps.length)
    (bd : ∀ (cdv : Value) (A : Around) (outer : List Env) (s : Shared) (H : Hp) (vs : List V) (Q : VK) (E : XK) (p : Addr × Obj), L2H.RoomH k (A.deeper (envOfC qual (defScope st) s.heap.objs.size f cdv)) → sp p vs H Q E →
      ∃ t, PSs (L2H.cxH CX P w K mg base N qual (defScope st) f cdv A outer s H E p) (defBody st) t ∧ t { nx := fun _ H' => Q .non H', rt := Q } (L2.start N vs) H) : FnE P w K mg base CX (k + 1) f fd ps sp := by
  obtain ⟨oc, od, kV, doc, pm, an, cdv, ct, osl, rfl, lk, hcd⟩ := Fn.ex
  constructor
  · exact len
  intro A outer s H args us vs Q E p room pin env0 bt rv want
  have vl : vs.length = ps.length := len _ _ _ _ _ want
  have inK : K.In s.heap := env0.mod.kin.keeps fun a o h => (env0.bs a o h).1
  have noLim : s.heap.NoLimit := env0.mod.nolimit.keeps fun a o h => (env0.bs a o h).1
  refine codeAny_call_function room.depth (inK _ _ lk) rfl S.co S.gen rfl (PySem.W.codeRec_of inK hcd) (bt _ _ _ _ ?_)
  refine wpAny_newFunctionEnv_cells S.kind (fun y hy => ?_) fun env he s1 x => ?_
  · obtain ⟨n, v⟩ := y
    exact (S.par n (List.of_mem_zip hy).1).imp id fun q => ⟨q, PySem.W.cellsFrom_some _ _ _ (.inl q)⟩
  cases he
  refine ⟨noLim.keeps x.toInCall.keep, codeAny_func ?_⟩
  obtain ⟨t, pt, qt⟩ := bd cdv A outer s H vs Q E p (room.deeper _) want
  refine wpAny_mono (pt.run [] s1 (L2.start N vs) H _ (L2H.inv_startH S pin env0 vl rv x) qt) (fun fl s' z => ?_) fun _ _ z => z
  match fl, z with
  | .ret u, ⟨v, σ', H', J, r, q⟩ => exact ⟨v, H', J.os, J.bare, J.base, J.hok, r, q⟩
  | .next, ⟨σ', H', J, q⟩ => exact ⟨.non, H', J.os, J.bare, J.base, J.hok, rfl, q⟩
  | .brk, ⟨_, _, _, q⟩ => exact q.elim
  | .cont, ⟨_, _, _, q⟩ => exact q.elim
/-- THE DEF, called so, by its body -/
theorem fn_bodyE {P : Program} {w : World} {K : PySem.W.Frag} {mg : Str → Option Value} {base : Heap} {cv : Nat → Value} {x qual : Str} {st : Stmt} {f : Addr} {fd : FuncData} {N ps : List Str} {k : Nat} {modes : List Bool} {fresh : Bool} {m : MS}
    (Fn : Fun K x qual st f fd) (S : FnScope N ps (defScope st)) (hm : modes.length = ps.length) (hN : modes.length ≤ N.length)
    (body : ∀ (cdv : Value) (A : Around) (outer : List Env) (s : Shared) (H : Hp) (E : XK) (W : WX) (p : Addr × Obj), L2H.RoomH k (A.deeper (envOfC qual (defScope st) s.heap.objs.size f cdv)) →
      L2.Takes (L2H.cxH (L2.CX P w) P w K mg base N qual (defScope st) f cdv A outer s H E p) (Lw cv W) → PassesOwn (model P w) (L2H.cxH (L2.CX P w) P w K mg base N qual (defScope st) f cdv A outer s H E p).A (L2H.cxH (L2.CX P w) P w K mg base N qual (defScope st) f cdv A outer s H E p).env (L2H.cxH (L2.CX P w) P w K mg base N qual (defScope st) f cdv A outer s H E p).xe →
      SMs (L2H.cxH (L2.CX P w) P w K mg base N qual (defScope st) f cdv A outer s H E p) W (defBody st) m) :
    FnE P w K mg base (L2.CX P w) (k + 1) f fd ps (fun p => spF ⟨P, w, K, [p]⟩ cv modes fresh (fBody N.length modes fresh m)) := by
  refine fnE_of Fn S (fun p vs H Q E h => ?_) (fun cdv A outer s H vs Q E p hr h => ?_)
  · obtain ⟨F, ds, _, a, _⟩ := h
    rw [a.length, hm]
  · obtain ⟨F, ds, ex, a, h⟩ := h
    have tk : L2.Takes (L2H.cxH (L2.CX P w) P w K mg base N qual (defScope st) f cdv A outer s H E p) (Lw cv fun c _ H' => E (cv c) none H') := (takes_of rfl rfl rfl rfl).imp fun cls d σ H ⟨c, e1, e2, z⟩ => by
      subst e1; subst e2
      exact z
    have b := body cdv A outer s H E (fun c _ H' => E (cv c) none H') p hr tk (passes_of rfl)
    refine ⟨_, b.pss, initE N.length modes ds, F, initE_ok ex a hN, ?_⟩
    unfold fBody at h
    cases em : m (initE N.length modes ds) with
    | stuck => rw [em] at h; exact h.elim
    | bk e => rw [em] at h; exact h.elim
    | ct e => rw [em] at h; exact h.elim
    | rt r e => rw [em] at h; exact fun v σ' H' F' g S' rr fr => fin_ok a g S' rr fr h
    | nx e => rw [em] at h; exact fun σ' H' F' g S' => fin_ok (v := .non) (r := .fro .non) a g S' .non trivial h
    | exc c e =>
      simp only [em] at h
      intro σ' H' F' g S'
      cases eb : bors 0 modes e with
      | none => rw [eb] at h; exact h.elim
      | some bs =>
        rw [eb] at h
        have bo := bors_ok g S' a.length (i := 0) List.drop_zero List.drop_zero eb
        exact h H' F' (g.fg a S' bo.free) bo
/-! ### isinstance of what is caught -/
/-- what K says of the class of number n: its instances may be asked; m: whether they are of the class of number m -/
def isiOk (K : PySem.W.Frag) (n : Nat) : Bool := match cvOf K n with
  | .ref D => decide (PySem.W.findIn K (.ref D) "__getattribute__" = some (some (.builtin "BaseException.__getattribute__"))) && (decide (PySem.W.findIn K (.ref D) "__getattr__" = some none) && (decide (PySem.W.subIn K (.ref D) (.type "BaseException") = some true) && (PySem.W.hasDictIn K D &&
    (decide (PySem.W.findIn K (.ref D) "__class__" = some (some (.builtin "object.__class__"))) && (decide (PySem.W.specialIn K (.builtin "object.__class__") "__get__" = some (some (.builtin "getset_descriptor.__get__"))) && (decide (PySem.W.takesIn K (.builtin "object.__class__") = some true) && (decide (PySem.W.mroIn K D (.type "object") = some true) &&
      (decide (PySem.W.kitOne K (.ref D) (.type "ValueError") = some true) && (List.range 14).all fun m => decide (PySem.W.kitOne K (.ref D) (cvOf K m) = some (n == m))))))))))
  | _ => false
theorem isiOk_get {K : PySem.W.Frag} {n : Nat} (h : isiOk K n = true) : ∃ D, cvOf K n = .ref D ∧ ExcC K D ∧ PySem.W.kitOne K (.ref D) (.type "ValueError") = some true ∧ ∀ m, m < 14 → PySem.W.kitOne K (.ref D) (cvOf K m) = some (n == m) := by
  unfold isiOk at h
  split at h
  · rename_i D e
    simp only [Bool.and_eq_true, decide_eq_true_eq, List.all_eq_true, List.mem_range] at h
    obtain ⟨h1, h2, h3, h4, h5, h6, h7, h8, h9, h10⟩ := h
    exact ⟨D, e, ⟨h1, h2, h3, h4, h5, h6, h7, h8⟩, h9, h10⟩
  · cases h
theorem isi_held {X : Cx} {a D : Addr} {oe : Obj} (C : ExcC X.K D) (hm : (a, oe) ∈ X.pn) (hz : Zc (.ref D) none oe) (hf : ∃ vs, oe.data = .fields vs) {pins : List (Addr × Obj)} {σ : Sg} {H : Hp} {s : Shared} {Q : VK} {cv : Value} {b : Bool} (I : Inv X pins σ H s) (e : PySem.W.kitOne X.K (.ref D) cv = some b) (q : Q (.bl b) H) :
    wpAny (model X.prog X.w) X.A (call (.builtin "isinstance") [.ref a, cv]) (EP X pins σ Q) X.xe s := by
  have there := (I.pin (a, oe) (List.mem_append.mpr (.inl hm))).1
  obtain ⟨vs, hv⟩ := hf
  have at_ : PySem.W.InstAt s.heap a oe D none := by
    cases oe with
    | mk c d da sl =>
      obtain ⟨rfl, rfl⟩ : c = .ref D ∧ d = none := hz
      obtain rfl : da = .fields vs := hv
      exact ⟨there, rfl, rfl, trivial⟩
  exact PySem.W.kia_one (PySem.W.handS_kitx_exc C.hg C.hk C.hs C.hd C.ha C.hn C.ht C.hm) I.kIn at_ e (fun z => nomatch z) fun tk => ⟨.bl b, H, I.kept (t' := tk) fun _ _ z => z, rfl, q⟩
/-- isinstance(x, C): x in slot i, C the class of number m; from 14 on: ValueError -/
def mIsE (cs : List Nat) (m i : Nat) : M := fun env => match env[i]? with
  | some (.fro (.exo n)) => if cs.contains n = true then .ok (.fro (.bl (decide (14 ≤ m) || n == m))) env else .stuck
  | _ => .stuck
section
variable {X : Cx} {W : WX} {cs : List Nat} {i m : Nat} {x y : Str} {p p1 p2 pos : Pos}
theorem pn_of {a : Addr} {oe : Obj} (h : (a, oe) ∈ (c3 X).pn) : (a, oe) ∈ X.pn := by
  have h' : (a, oe) ∈ pnOf X := h
  unfold pnOf at h'
  split at h'
  · nomatch h'
  · exact h'
theorem em_isE (ok : cs.all (isiOk X.K) = true) (h14 : (14 ≤ m ∧ PE X (.Name y p2) (tC (.ty "ValueError"))) ∨ (m < 14 ∧ ∃ C, cvOf X.K m = .ref C ∧ PE X (.Name y p2) (tC (.ref C)))) (hg : Gl X "isinstance") (hm : X.mg "isinstance" = none) (hN : X.N[i]? = some x := by rfl) (hv : Vis X.env.scope x := by first | exact Or.inl rfl | exact Or.inr (Or.inl rfl) | exact Or.inr (Or.inr rfl)) (hd : (x == ("__debug__" : Str)) = false := by decide)
    (hcd : (x == ("__classdict__" : Str)) = false := by decide) (he : starEach [.Name x p1, .Name y p2] X.env = (false, eval (.Name x p1) X.env) :: starEach [.Name y p2] X.env := by rfl) (he2 : starEach [.Name y p2] X.env = (false, eval (.Name y p2) X.env) :: starEach [] X.env := by rfl) (hpl : (backTo pos (starEach [.Name y p2] X.env)).any (·.1) = false := by rfl) :
    EM X W (.Call (.Name "isinstance" p) [.Name x p1, .Name y p2] [] pos) (mIsE cs m i) := by
  have key : ∀ (cv : V), PE X (.Name y p2) (tC cv) → (∀ n D, cs.contains n = true → cvOf X.K n = .ref D → ∀ u, RelV cv u → PySem.W.kitOne X.K (.ref D) u = some (decide (14 ≤ m) || n == m)) → EM X W (.Call (.Name "isinstance" p) [.Name x p1, .Name y p2] [] pos) (mIsE cs m i) := fun cv pc hk => by
    refine ⟨pe_mono (pe_callB (r := fun xs H Q => ∃ a oe n D, xs = [.ref a, cv] ∧ (a, oe) ∈ X.pn ∧ Zc (.ref D) none oe ∧ (∃ vs, oe.data = .fields vs) ∧ cs.contains n = true ∧ cvOf X.K n = .ref D ∧ Q (.bl (decide (14 ≤ m) || n == m)) H) (fun pins s σ H xs us Q I r h => ?_) hg hm rfl (pa_cons (pe_var hN hv hd hcd) (pa_cons pc pa_nil he2) he) (by decide) (by decide) he hpl) fun σ H Q q => ?_⟩
    · obtain ⟨a, oe, n, D, rfl, h1, h2, h3, h4, h5, q⟩ := h
      match us, r with
      | [_, u], .cons rx (.cons rt .nil) =>
        obtain ⟨D', e', C, _⟩ := isiOk_get (List.all_eq_true.mp ok n (List.contains_iff_mem.mp h4))
        rw [h5] at e'
        cases e'
        cases rx
        exact isi_held C h1 h2 h3 I (hk n D h4 h5 u rt) q
    · obtain ⟨env, F, S, q⟩ := q
      have q' : Wi (c3 X) W σ Q F H env (mIsE cs m i env) := q
      unfold mIsE at q'
      cases e : env[i]? with
      | none => rw [e] at q'; exact q'.elim
      | some s =>
        rw [e] at q'
        cases s with
        | fro d =>
          cases d with
          | exo n =>
            simp only at q'
            by_cases hc : cs.contains n = true
            · rw [if_pos hc] at q'
              obtain ⟨v, hs, r⟩ := S.fro i _ e
              cases r with
              | exo h1 h2 h3 =>
                obtain ⟨D, e', _⟩ := isiOk_get (List.all_eq_true.mp ok n (List.contains_iff_mem.mp hc))
                refine ⟨_, hs, ?_⟩
                exact ⟨_, _, n, D, rfl, pn_of h1, e' ▸ h2, h3, hc, e', q' _ H F .refl S (.bl _) trivial⟩
            · rw [if_neg hc] at q'; exact q'.elim
          | _ => exact q'.elim
        | _ => exact q'.elim
  rcases h14 with ⟨h, pc⟩ | ⟨h, C, hC, pc⟩
  · refine key _ pc fun n D hc hD u ru => ?_
    obtain ⟨D', e', _, z, _⟩ := isiOk_get (List.all_eq_true.mp ok n (List.contains_iff_mem.mp hc))
    rw [hD] at e'
    cases e'
    have eu : u = .type "ValueError" := ru
    rw [eu, z, decide_eq_true h]
    rfl
  · refine key _ pc fun n D hc hD u ru => ?_
    obtain ⟨D', e', _, _, z⟩ := isiOk_get (List.all_eq_true.mp ok n (List.contains_iff_mem.mp hc))
    rw [hD] at e'
    cases e'
    have eu : u = .ref C := ru
    rw [eu, ← hC, z m h, decide_eq_false (by omega)]
    rfl
end
/-! ### try: .. except GridError as e: return which(e) -/
def isTI : D → Bool
  | .tup [.str _, .int _] => true
  | _ => false
theorem isTI_rp {Z Z' : C3} {F : Hp} {v : V} {d : D} (hK : Z'.K = Z.K) (h : isTI d = true) (r : Rp Z F v d) : Rp Z' F v d := by
  unfold isTI at h
  split at h
  · cases r with
    | tup hs hr =>
      cases hr with
      | cons r1 t1 =>
        cases t1 with
        | cons r2 t2 =>
          cases t2
          cases r1
          cases r2
          exact .tup (by rw [hK]; exact hs) (.cons (.str _) (.cons (.int _) .nil))
  · cases h
def sTryW (cs : List Nat) (i : Nat) (fw : FS) (b : MS) : MS := fun env => match b env with
  | .exc c e => if cs.contains c = true ∧ i < e.length then (match fw [.exo c] with
    | .ok d [] => if isTI d = true then .rt (.fro d) e else .stuck
    | _ => .stuck) else .stuck
  | o => o
theorem c3_tr {X : Cx} (hc : X.calm = true) {pn : List (Addr × Obj)} {xe : Value → Shared → Prop} : c3 (X.tr pn xe) = c3 X := by
  unfold c3 pnOf
  show (⟨X.prog, X.w, X.K, match X.calm with
    | true => []
    | false => pn⟩ : C3) = ⟨X.prog, X.w, X.K, match X.calm with
    | true => []
    | false => X.pn⟩
  rw [hc]
section
variable {X : Cx} {W : WX} {cs : List Nat} {i k : Nat} {n x wh : Str} {f G : Addr} {fd : FuncData} {ps : List Str} {fw : FS} {np p p1 p2 p3 pos pos' : Pos} {body : List Stmt} {mb : MS}
/-- the suite's wish -/
def tsW (Z : C3) (cv : Nat → Value) (i : Nat) (fw : FS) (a : Addr) (cls : Value) (d : Option Addr) : TS := fun D σ H => ∃ c r F, cls = cv c ∧ d = none ∧ σ[i]? = some (some (.ref a)) ∧ Ex F H ∧ fw [.exo c] = .ok r [] ∧ isTI r = true ∧ ∀ v H' F', New F H F' H' → Rp Z F' v r → D.rt v H'
theorem suite_ok (hN : X.N[i]? = some n) (hv : Vis X.env.scope n) (hd : (n == ("__debug__" : Str)) = false) (hcd : (n == ("__classdict__" : Str)) = false) (Fw : FnE X.prog X.w X.K X.mg X.base (L2.CX X.prog X.w) k f fd ps (fun p => spF ⟨X.prog, X.w, X.K, [p]⟩ (cvOf X.K) [false] false fw)) (hr : Room k X.A) (hg : Gl X wh) (hm : X.mg wh = some (.ref f))
    (kp : PySem.W.keepIn X.K (.ref f) = true) (hb : Binds X.K fd ps []) (hdw : (wh == ("__debug__" : Str)) = false) (he : starEach [.Name n p1] X.env = [(false, eval (.Name n p1) X.env)]) (a : Addr) (oe : Obj) (cls : Value) (d : Option Addr) (pn : List (Addr × Obj)) (hz : Zc cls d oe) (hf : ∃ vs, oe.data = .fields vs) :
    PSs (X.suite a ((a, oe) :: pn)) [.Return (some (.Call (.Name wh p) [.Name n p1] [] p2)) p3] (tsW (c3 X) (cvOf X.K) i fw a cls d) := by
  have pe : PE (X.suite a ((a, oe) :: pn)) (.Call (.Name wh p) [.Name n p1] [] p2) (fun σ H Q => tsW (c3 X) (cvOf X.K) i fw a cls d { nx := fun _ _ => False, rt := Q } σ H) := by
    refine ⟨fun pins s σ H Q I h => ?_⟩
    obtain ⟨c, r, F, rfl, rfl, hs, ex, e1, e2, q⟩ := h
    refine wpAny_Call_Name_kw (ld_glob I hg hm ?_ hdw)
    have arg : PA (X.suite a ((a, oe) :: pn)) [.Name n p1] (tCons (tVar i) tNil) := pa_cons (pe_var hN hv hd hcd) pa_nil he
    refine PySem.W.callWith_K (h₀ := X.base) I.ok.mod.kin kp (thn (arg.run p2 pins s σ H (fun vs H1 => vs = [V.ref a] ∧ H = H1) I ⟨_, hs, rfl, rfl⟩) fun us s1 hh => ?_) he rfl
    obtain ⟨vs, H1, I1, r1, ev, eH⟩ := hh
    subst ev
    subst eH
    refine ⟨I1.kIn, ?_⟩
    have P1 := I1.pin (a, oe) (List.mem_append_left _ List.mem_cons_self)
    have pinOk : L2H.PinOk X.stack H s1 (a, oe) := ⟨P1.1, P1.2.1, fun z => (List.mem_cons.mp (I1.stkSub a z)).elim P1.2.2.1 P1.2.2.2.1, P1.2.2.2.2⟩
    have promise : spF ⟨X.prog, X.w, X.K, [(a, oe)]⟩ (cvOf X.K) [false] false fw [V.ref a] H Q (fun _ _ _ => False) := by
      refine ⟨F, [.exo c], ex, .fro (.exo (List.mem_singleton.mpr rfl) hz hf) .nil, ?_⟩
      rw [e1]
      intro v H' F' fg _ rn
      exact q v H' F' ⟨fg.exF, fun b o hb => fg.keep b o hb fun ⟨j, hj, _⟩ => by
        match j with
        | 0 => cases hj
        | j + 1 => simp at hj, fg.grow, fg.ex'⟩ (isTI_rp (Z := ⟨X.prog, X.w, X.K, [(a, oe)]⟩) rfl e2 rn)
    have ul : us.length = ps.length := by rw [← r1.length]; exact Fw.len _ _ _ _ _ promise
    have bt := hb s1 us I1.kIn (by rw [List.append_nil]; exact ul)
    rw [List.append_nil] at bt
    refine wpAny_call (codeAny_mono (Fw.run _ _ s1 H ⟨us, []⟩ us _ Q _ (a, oe) ⟨hr.dp, hr.un⟩ pinOk I1.env0 bt r1 promise) fun r s' z => ?_)
    match r, z with
    | .error e, z =>
      obtain ⟨_, _, _, _, _, _, _, _, _, _, _, _, z⟩ := z
      exact z.elim
    | .ok (.ret u), z => exact I1.after z
    | .ok .next, z => exact z.elim
    | .ok .brk, z => exact z.elim
    | .ok .cont, z => exact z.elim
  refine pss_mono (pss_one (ps_ret pe)) fun D σ H q => ?_
  exact q
end
section
variable {X : Cx} {W : WX} {cs : List Nat} {i k : Nat} {n wh : Str} {f G : Addr} {fd : FuncData} {ps : List Str} {fw : FS} {np p p1 p2 p3 pos pos' : Pos} {body : List Stmt} {mb : MS}
theorem fg_go {F H F' H' F2 H2 : Hp} {σ σ' : Sg} {env e1 : En} (g : Go F H σ env F' H' σ' e1) (n : New F' H' F2 H2) : Go F H σ env F2 H2 σ' e1 := g.trans n.go
theorem sm_tryW (hc : X.calm = true) (hst : X.stack = X.env :: X.outer) (hfr : X.env.frame = some X.env.locals) (hN : X.N.Nodup) (gl : GlOk X.K X.mg) (hG : glV X.K "GridError" = some (.ref G)) (hgG : Gl X "GridError")
    (catch_ : (cs.all fun c => decide (PySem.W.exmOne X.K (cvOf X.K c) (.ref G) = some true)) = true) (tk : L2.Takes X (Lw (cvOf X.K) W))
    (Fw : FnE X.prog X.w X.K X.mg X.base (L2.CX X.prog X.w) k f fd ps (fun p => spF ⟨X.prog, X.w, X.K, [p]⟩ (cvOf X.K) [false] false fw)) (hr : Room k X.A) (hg : Gl X wh) (hm : X.mg wh = some (.ref f)) (kp : PySem.W.keepIn X.K (.ref f) = true) (hb : Binds X.K fd ps [])
    (hbody : ∀ (W' : WX) (pn : List (Addr × Obj)) (xe : Value → Shared → Prop), L2.Takes (X.tr pn xe) (Lw (cvOf X.K) W') → PassesOwn (model X.prog X.w) X.A X.env xe → SMs (X.tr pn xe) W' body mb)
    (hi : X.N[i]? = some n := by rfl) (hln : X.env.kindOf n = some .local := by rfl) (hd : (n == ("__debug__" : Str)) = false := by decide) (hcd : (n == ("__classdict__" : Str)) = false := by decide) (hdw : (wh == ("__debug__" : Str)) = false := by decide)
    (he : starEach [.Name n p1] X.env = [(false, eval (.Name n p1) X.env)] := by rfl) :
    SM X W (.Try body [.ExceptHandler (some (.Name "GridError" np)) (some n) [.Return (some (.Call (.Name wh p) [.Name n p1] [] p2)) p3] pos'] [] [] pos) (sTryW cs i fw mb) := by
  have main := ps_try_as (X := X) (x := "GridError") (n := n) (c := .ref G) (i := i) (body := body) (suite := []) (b₀ := .Return (some (.Call (.Name wh p) [.Name n p1] [] p2)) p3) (np := np) (pos := pos) (pos' := pos') (Wout := Lw (cvOf X.K) W)
    (tb := fun W' => tS (c3 X) (fun c σ H => W' (cvOf X.K c) none σ H) mb) (ts := tsW (c3 X) (cvOf X.K) i fw)
    hst hfr hN hi hln ⟨hgG, by decide, .inl (gl _ _ hG)⟩ tk
    (fun W' pn xe tk' ps' => by
      have b := (hbody (fun c σ H => W' (cvOf X.K c) none σ H) pn xe (tk'.imp fun cls d σ H ⟨c, e1, e2, z⟩ => by subst e1; subst e2; exact z) ps').pss
      rwa [c3_tr hc] at b)
    (fun a oe cls d pn hz hf => suite_ok (X := X) (i := i) hi (.inl hln) hd hcd Fw hr hg hm kp hb hdw he a oe cls d pn hz hf)
  refine ⟨ps_mono main fun D σ H q => ?_⟩
  obtain ⟨env, F, S, q⟩ := q
  refine ⟨env, F, S, ?_⟩
  unfold sTryW at q
  cases em : mb env with
  | nx e => rw [em] at q; exact q
  | rt r e => rw [em] at q; exact q
  | bk e => rw [em] at q; exact q
  | ct e => rw [em] at q; exact q
  | stuck => rw [em] at q; exact q
  | exc c e1 =>
    simp only [em] at q
    intro σ1 H1 F1 g1 S1
    by_cases hcs : cs.contains c = true ∧ i < e1.length
    · rw [if_pos hcs] at q
      have ex := List.all_eq_true.mp catch_ c (List.contains_iff_mem.mp hcs.1)
      refine ⟨true, of_decide_eq_true ex, fun _ a ha => ?_, fun z => by cases z⟩
      cases ef : fw [.exo c] with
      | stuck => rw [ef] at q; exact q.elim
      | exc _ _ => rw [ef] at q; exact q.elim
      | ok r bs =>
        cases bs with
        | cons _ _ => rw [ef] at q; exact q.elim
        | nil =>
          simp only [ef] at q
          by_cases ht : isTI r = true
          · rw [if_pos ht] at q
            refine ⟨c, r, F1, rfl, rfl, List.getElem?_set_self (by rw [← S1.len]; exact hcs.2), S1.ex, ef, ht, fun v H' F' nw rv => ?_⟩
            exact q v σ1 H' F' (g1.trans nw.go) (nw.repS S1) rv trivial
          · rw [if_neg ht] at q; exact q.elim
    · rw [if_neg hcs] at q; exact q.elim
end
def cl14 (K : PySem.W.Frag) : Bool := (List.range 14).all fun m => match cvOf K m with
  | .ref _ => true
  | _ => false
theorem cls_pe {X : Cx} {m : Nat} {x : Str} {pos : Pos} (gl : GlOk X.K X.mg) (h : cl14 X.K = true) (hm : m < 14) (hx : excNames[m]? = some x) (hg : Gl X x) (hdb : (x == ("__debug__" : Str)) = false := by decide) : ∃ C, cvOf X.K m = .ref C ∧ PE X (.Name x pos) (tC (.ref C)) := by
  have q := List.all_eq_true.mp h m (List.mem_range.mpr hm)
  split at q
  · rename_i C e
    exact ⟨C, e, pe_glob hg (gl _ _ (cvOf_gl hx e)) (v := .ref C) rfl hdb⟩
  · cases q
theorem glV_of {K : PySem.W.Frag} {x : Str} {v : Value} (h : PySem.W.nsIn K mainGlobals x = some (some v)) : glV K x = some v := by
  unfold glV
  rw [h]
end Gr
end
section
/-! # Gr: list.count and list.index of data -/
namespace Gr
open PySem PySem.Spec PySem.W L2 PyProof.Rows
/-- how many things are equal to it -/
def fCntD : D → List D → Option D
  | .lst ds, [d] => if okq (.lst ds) && okq d then some (.int (ds.countP fun z => D.eqv z d : Nat)) else none
  | _, _ => none
/-- the place of the first thing that is equal to it -/
def fIdx : D → List D → Option D
  | .lst ds, [d] => if okq (.lst ds) && okq d && decide (ds.findIdx (fun z => D.eqv z d) < ds.length) then some (.int (ds.findIdx fun z => D.eqv z d : Nat)) else none
  | _, _ => none
theorem okDs_all {n : Nat} : ∀ {ds : List D}, D.okDs' n ds = true → ∀ d ∈ ds, D.okD' n d = true
  | [], _, d, h => nomatch h
  | x :: xs, h, d, hd => by
    simp only [D.okDs', Bool.and_eq_true] at h
    rcases List.mem_cons.mp hd with rfl | hd
    · exact h.1
    · exact okDs_all h.2 d hd
theorem pys_map : ∀ ds : List D, D.pys ds = ds.map D.py
  | [] => by simp [D.pys]
  | d :: ds => by simp [D.pys, pys_map ds]
theorem okq_lst {ds : List D} (h : okq (.lst ds) = true) : ∀ d ∈ ds, D.okD' 39 d = true := okDs_all (n := 39) (by simpa [okq, D.okD'] using h)
section
variable {X : Cx}
theorem mtd_cntD (hu : X.A.units + 66 < cLine) : MtR X "list.count" (RRm (c3 X) fCntD) := fun pins s σ H x xs v us Q I rx rv ⟨F, d, ds, r, ex, hx, hl, e, q⟩ => by
  unfold fCntD at e
  split at e
  · rename_i ds d
    split at e
    · rename_i ho
      rw [Bool.and_eq_true] at ho
      cases e
      cases hl with
      | cons h1 t1 =>
        cases t1
        cases rv with
        | cons ry rt =>
          rename_i uy ut
          cases rt
          have dl := hx.dp ex ho.1
          simp only [D.py] at dl
          have dy := h1.dp ex ho.2
          obtain ⟨bs, r1⟩ := Dp.reads I _ _ _ dy ry
          have sl := okq_shaped ho.1
          simp only [D.py] at sl
          have sd := okq_shaped ho.2
          obtain ⟨a, ys, rfl, ha, ra⟩ := hx.lst ex
          cases rx
          cases dl with
          | lst hs hds =>
            obtain ⟨its, rvs, ⟨⟨cls, dd, data, sls⟩, n, hob, hc, hdn, hdt⟩, hlen⟩ := I.list hs
            simp only at hc hdt
            subst hc hdt
            obtain ⟨as, h4⟩ := Dp.readsAll I _ _ its hds rvs
            have lay : PyData.canLayAll0 (D.pys ds) = true := SeqAt.canLay_of_shaped sl
            have rm : X.A.units + 1 + min (PyData.depthAll (D.pys ds)) d.py.depth < cLine := room_in_shaped sd (by omega)
            have mp : its.map (SeqAt.readOf s.heap) = D.pys ds := SeqAt.readsAll_map _ its as lay h4
            refine call_meets PySem.F.slot_list_count ⟨_, hob, rfl⟩ PySem.F.entry_list_count (PySem.F.args_list_count_2 _ _) (SeqAt.list_countAt _ its.toArray n dd sls uy fun u => PyData.eqv (SeqAt.readOf s.heap u) d.py) ⟨hob, SeqAt.items_eqAt (vs := its.toArray) h4 r1 lay (SeqAt.canLay_of_shaped sd) rm, ?_⟩
            refine ⟨.int (ds.countP fun z => D.eqv z d : Nat), H, I.tok _, ⟨s.toks, ?_⟩, q _ (.int _)⟩
            have e1 : its.toArray.toList.countP (fun u => PyData.eqv (SeqAt.readOf s.heap u) d.py) = ds.countP fun z => D.eqv z d := by
              show its.countP _ = _
              rw [show (fun u => PyData.eqv (SeqAt.readOf s.heap u) d.py) = ((fun p => PyData.eqv p d.py) ∘ SeqAt.readOf s.heap) from rfl, ← List.countP_map, mp, pys_map, List.countP_map]
              exact List.countP_congr fun z hz => by
                show PyData.eqv z.py d.py = true ↔ D.eqv z d = true
                rw [D.eqv_py (okq_lst ho.1 z hz) ho.2]
            show Value.int ((its.toArray.toList.countP (fun u => PyData.eqv (SeqAt.readOf s.heap u) d.py) : Nat) : Int) s.toks = Value.int ((ds.countP fun z => D.eqv z d : Nat) : Int) s.toks
            rw [e1]
    · cases e
  · cases e
theorem mtd_idx (hu : X.A.units + 66 < cLine) : MtR X "list.index" (RRm (c3 X) fIdx) := fun pins s σ H x xs v us Q I rx rv ⟨F, d, ds, r, ex, hx, hl, e, q⟩ => by
  unfold fIdx at e
  split at e
  · rename_i ds d
    split at e
    · rename_i ho
      rw [Bool.and_eq_true, Bool.and_eq_true] at ho
      obtain ⟨⟨o1, o2⟩, o3⟩ := ho
      cases e
      cases hl with
      | cons h1 t1 =>
        cases t1
        have dl := hx.dp ex o1
        simp only [D.py] at dl
        have lt := of_decide_eq_true o3
        obtain ⟨a, ys, rfl, ha, ra⟩ := hx.lst ex
        have sl := okq_shaped o1
        simp only [D.py] at sl
        refine mt_indexD (by omega) pins s σ H _ _ v us Q I rx rv ⟨a, _, d.py, D.pys ds, ds.findIdx fun z => D.eqv z d, ds[ds.findIdx fun z => D.eqv z d].py, rfl, rfl, dl, h1.dp ex o2, sl, okq_shaped o2, ?_, ?_, fun m z' hm hz' => ?_, q _ (.int _)⟩
        · rw [pys_map, List.getElem?_map, List.getElem?_eq_getElem lt]
          rfl
        · rw [← D.eqv_py (okq_lst o1 _ (List.getElem_mem lt)) o2]
          exact List.findIdx_getElem (p := fun z => D.eqv z d)
        · rw [pys_map, List.getElem?_map] at hz'
          have hm' : m < ds.length := Nat.lt_trans hm lt
          rw [List.getElem?_eq_getElem hm'] at hz'
          cases hz'
          rw [← D.eqv_py (okq_lst o1 _ (List.getElem_mem hm')) o2]
          simpa using List.not_of_lt_findIdx hm
    · cases e
  · cases e
end
section
variable {X : Cx} {W : WX} {o e : Expr} {mo : M} {t : MA} {apos cpos : Pos}
theorem em_cntD (hu : X.A.units + 66 < cLine) (ho : EM X W o mo) (ha : AM X W [e] t)
    (hbase : attributeBase o "count" X.env (eval o X.env) = eval o X.env := by rfl)
    (hfew : ((backTo cpos (starEach [e] X.env)).all (fun x => !x.1) && (backToKw cpos (keywordEach [] X.env)).all (fun x => x.1.isSome)
      && decide ([e].length + ([] : List Keyword).length + (if ([] : List Keyword).isEmpty then 0 else 1) < 30)) = true := by rfl)
    (hline : (apos.endLine == cpos.line) = true := by rfl) (hs : starEach [e] X.env = [(false, eval e X.env)] := by rfl) :
    EM X W (.Call (.Attribute o "count" apos) [e] [] cpos) (mRm isLst fCntD mo t) :=
  em_rm PySem.F.plainAttrs_list PySem.F.slot_list_count PySem.F.type_list_count (mtd_cntD hu) tyv_lst ho ha hbase hfew hline hs rfl
theorem em_idx (hu : X.A.units + 66 < cLine) (ho : EM X W o mo) (ha : AM X W [e] t)
    (hbase : attributeBase o "index" X.env (eval o X.env) = eval o X.env := by rfl)
    (hfew : ((backTo cpos (starEach [e] X.env)).all (fun x => !x.1) && (backToKw cpos (keywordEach [] X.env)).all (fun x => x.1.isSome)
      && decide ([e].length + ([] : List Keyword).length + (if ([] : List Keyword).isEmpty then 0 else 1) < 30)) = true := by rfl)
    (hline : (apos.endLine == cpos.line) = true := by rfl) (hs : starEach [e] X.env = [(false, eval e X.env)] := by rfl) :
    EM X W (.Call (.Attribute o "index" apos) [e] [] cpos) (mRm isLst fIdx mo t) :=
  em_rm PySem.F.plainAttrs_list PySem.F.slot_list_index PySem.F.type_list_index (mtd_idx hu) tyv_lst ho ha hbase hfew hline hs rfl
end
end Gr
end
section
/-! # Gr: defs as values, called by an expression -/
namespace Gr
open PySem PySem.Spec PyProof.Rows L2
theorem em_fnv {X : Cx} {W : WX} {x : Str} {a : Addr} {pos : Pos} (gl : GlOk X.K X.mg) (h : glV X.K x = some (.ref a)) (hg : Gl X x) (hdb : (x == ("__debug__" : Str)) = false := by decide) : EM X W (.Name x pos) (mC (.fnv x)) :=
  em_c (pe_glob hg (gl _ _ h) (v := .ref a) rfl hdb) fun F => .fnv h
/-- one def that may be called by value -/
structure FnV (X : Cx) (k n : Nat) (x : Str) (fs : FS) : Prop where
  ex : ∃ (f : Addr) (fd : FuncData) (ps : List Str), glV X.K x = some (.ref f) ∧ FnOk X.prog X.w X.K X.mg X.base (L2.CX X.prog X.w) k f fd ps (spF (c3 X) (cvOf X.K) (List.replicate n false) false fs) ∧ PySem.W.keepIn X.K (.ref f) = true ∧ Binds X.K fd ps []
def lookF (x : Str) : List (Str × FS) → Option FS
  | [] => none
  | (y, fs) :: r => if y = x then some fs else lookF x r
def FnVs (X : Cx) (k n : Nat) (tbl : List (Str × FS)) : Prop := ∀ x fs, lookF x tbl = some fs → FnV X k n x fs
theorem fnVs_nil {X : Cx} {k n : Nat} : FnVs X k n [] := fun _ _ h => by cases h
theorem fnVs_cons {X : Cx} {k n : Nat} {x : Str} {fs : FS} {tbl : List (Str × FS)} (h : FnV X k n x fs) (t : FnVs X k n tbl) : FnVs X k n ((x, fs) :: tbl) := fun y gs e => by
  unfold lookF at e
  split at e
  · rename_i q
    subst q
    cases e
    exact h
  · exact t y gs e
def mCallV (tbl : List (Str × FS)) (n : Nat) (mf : M) (t : MA) : M := fun env => (mf env).and fun rf e => match rf.see e with
  | some (.fnv x) => (match lookF x tbl with
    | some fs => mCall fs (List.replicate n false) false t e
    | none => .stuck)
  | _ => .stuck
section
variable {X : Cx} {W : WX} {k n : Nat} {tbl : List (Str × FS)} {fn e : Expr} {es : List Expr} {mf : M} {t : MA} {pos : Pos}
theorem em_callV (A : FnVs X k n tbl) (tk : L2.Takes X (Lw (cvOf X.K) W)) (hr : Room k X.A) (hf : EM X W fn mf) (ha : AM X W (e :: es) t)
    (ev : eval (.Call fn (e :: es) [] pos) X.env = (do
      let f ← eval fn X.env
      callWith pos f [] (backTo pos (starEach (e :: es) X.env)) (backToKw pos (keywordEach [] X.env))) := by rfl)
    (he : starEach (e :: es) X.env = (false, eval e X.env) :: starEach es X.env := by rfl) (hpl : (backTo pos (starEach es X.env)).any (·.1) = false := by rfl) :
    EM X W (.Call fn (e :: es) [] pos) (mCallV tbl n mf t) := by
  refine ⟨⟨fun pins s σ H Q I h => ?_⟩⟩
  obtain ⟨env, F, S, h⟩ := h
  rw [ev]
  refine wpAny_bind ?_
  -- the callee
  have h1 : tE (c3 X) W mf σ H fun v H1 => ∃ f fd ps fs, v = .ref f ∧ FnOk X.prog X.w X.K X.mg X.base (L2.CX X.prog X.w) k f fd ps (spF (c3 X) (cvOf X.K) (List.replicate n false) false fs) ∧ PySem.W.keepIn X.K (.ref f) = true ∧ Binds X.K fd ps [] ∧ tE (c3 X) W (mCall fs (List.replicate n false) false t) σ H1 Q := by
    refine tE_and .refl S h fun rf e1 v H1 F1 _ g1 _ S1 r1 _ w1 => ?_
    cases es : rf.see e1 with
    | none => rw [es] at w1; exact w1.elim
    | some d =>
      rw [es] at w1
      cases d with
      | fnv x =>
        simp only at w1
        cases el : lookF x tbl with
        | none => rw [el] at w1; exact w1.elim
        | some fs =>
          rw [el] at w1
          obtain ⟨f, fd, ps, e1', F', kp, hb⟩ := (A x fs el).ex
          have hv : v = .ref f := by
            rcases r1.see S1 es with q | ⟨a, _, q⟩
            · cases q with
              | fnv h =>
                have h' : glV X.K x = _ := h
                rw [e1'] at h'
                cases h'
                rfl
            · exact q.elim
          exact ⟨f, fd, ps, fs, hv, F', kp, hb, e1, F1, S1, w1.after g1⟩
      | _ => exact w1.elim
  refine thn (hf.pe.run pins s σ H _ I h1) fun u s1 ⟨v, H1, I1, r1, f, fd, ps, fs, ev', F', kp, hb, q1⟩ => ?_
  subst ev'
  cases r1
  have q2 := t_call (Z := c3 X) (cv := cvOf X.K) q1
  refine PySem.W.callWith_K (h₀ := X.base) I1.ok.mod.kin kp (thn (ha.pa.run pos pins s1 σ H1 _ I1 q2) fun us s2 ⟨vs, H2, I2, r, q⟩ => ⟨I2.kIn, ?_⟩) he hpl
  exact run_fnS (E := WE (Lw (cvOf X.K) W)) F' hr hb (passAt tk σ) I2 r q
end
end Gr
end
section
/-! # Gr: {k: v}, dict(d), sorted(d.items()) -/
namespace Gr
open PySem PySem.Spec PyProof.Rows L2
def dct1R (rk rv : R) (e2 : En) : ER := match rk, rv with
  | .fro kd, .fro d => (match keyOf kd with
    | some _ => .ok (.tmp (.dct [(kd, d)])) e2
    | none => .stuck)
  | _, _ => .stuck
def mDct1 (mk mv : M) : M := fun env => (mk env).and fun rk e1 => (mv e1).and fun rv e2 => dct1R rk rv e2
theorem room0 {X : Cx} {k : Nat} (hr : Room k X.A) : (nestedKind X.prog X.w).room X.A := by
  have := hr.un
  show X.A.units + 8 < cLine
  omega
set_option maxHeartbeats 1000000 in
theorem em_dct1 {X : Cx} {W : WX} {k : Nat} {ek ev : Expr} {mk mv : M} {pos : Pos} (hr : Room k X.A) (hk : EM X W ek mk) (hv : EM X W ev mv) : EM X W (.Dict [some ek] [ev] pos) (mDct1 mk mv) := ⟨⟨fun pins s σ H Q I q => by
  obtain ⟨env, F, S, q⟩ := q
  have q' : Wi (c3 X) W σ Q F H env (mDct1 mk mv env) := q
  rw [arm_eval_Dict, zip_pairTrees [some ek] [ev] X.env pos rfl rfl, dictDisplay_pairs (pairTrees [some ek] [ev] X.env pos) (List.cons_ne_nil _ _) (show 1 < 17 by decide)]
  refine wpAny_bind (wpAny_standAt (wpAny_bind (wpAny_subDictH (knd := nestedKind X.prog X.w) (Q := fun d s' => wpAny (model X.prog X.w) X.A (pure (Value.ref d)) (EP X pins σ Q) X.xe s') (room0 hr) (show 1 ≤ 15 by decide) ?_)))
  have hs : (s.heap.objs.size == sysModules) = false := beq_eq_false_iff_ne.mpr (Ne.symm (Nat.ne_of_lt I.big))
  obtain ⟨o, ho, dx⟩ := dobj_of (X := X) (es := []) (xs := []) hs (Heap.DictOfH.new s.heap) .nil (Nat.zero_le _)
  have hn : H s.heap.objs.size = none := I.hok.fresh (Nat.le_refl _)
  have I0 : Inv X pins σ (upd H s.heap.objs.size (.ext (IsO s.heap.objs.size o))) { s with heap := s.heap.push { cls := .type "dict", data := .dict #[] } } := I.laid (t' := s.toks) (fun _ _ q => Heap.get?_push_of_some _ q) (Nat.le_refl _) (isO_ok ho)
  generalize s.heap.objs.size = p at *
  have n : New F H F (upd H p (.ext (IsO p o))) := New.mine S.ex hn
  have r0 : RepR (c3 X) F (upd H p (.ext (IsO p o))) σ env (.ref p) (.tmp (.dct [])) := n.repR (b := true) S ⟨_, rfl, hn, dom_of S.ex _ hn, o, [], upd_same, dx, .nil⟩
  have S0 := n.repS S
  have g0 : Go F H σ env F (upd H p (.ext (IsO p o))) σ env := n.go
  show wpAny (model X.prog X.w) X.A (do let kv ← eval ek X.env; let vv ← holding [kv] (do let x ← eval ev X.env; standAt pos; pure x); return (kv, vv) :: (← holding [kv, vv] (pure []))) _ _ _
  unfold mDct1 at q'
  refine wpAny_bind (thn (hk.pe.run pins _ σ _ _ I0 (tE_and g0 S0 q' fun rk e1 x H1 F1 _ g1 gb1 S1 r1 _ w1 => (⟨e1, F1, rk, S1, gb1, r0.after g1, r1, w1⟩ : ∃ e1 F1 rk, RepS (c3 X) F1 H1 σ e1 ∧ Go F H σ env F1 H1 σ e1 ∧ RepR (c3 X) F1 H1 σ e1 (.ref p) (.tmp (.dct [])) ∧ RepR (c3 X) F1 H1 σ e1 x rk ∧ Wi (c3 X) W σ Q F H env ((mv e1).and fun rv e2 => dct1R rk rv e2)))) fun u s1 ⟨x, H1, I1, rx, e1, F1, rk, S1, gb1, p1, r1, w1⟩ => ?_)
  refine wpAny_bind (wpAny_holding (wpAny_bind (thn (hv.pe.run pins s1 σ H1 _ I1 (tE_and gb1 S1 w1 fun rv e2 y H2 F2 _ g2 gb2 S2 r2 _ w2 => (⟨e2, F2, rv, S2, gb2, p1.after g2, r1.after g2, r2, w2⟩ : ∃ e2 F2 rv, RepS (c3 X) F2 H2 σ e2 ∧ Go F H σ env F2 H2 σ e2 ∧ RepR (c3 X) F2 H2 σ e2 (.ref p) (.tmp (.dct [])) ∧ RepR (c3 X) F2 H2 σ e2 x rk ∧ RepR (c3 X) F2 H2 σ e2 y rv ∧ Wi (c3 X) W σ Q F H env (dct1R rk rv e2)))) fun u2 s2 ⟨y, H2, I2, ry, e2, F2, rv, S2, gb2, p2, r1', r2, w2⟩ => wpAny_bind (wpAny_standAt (wpAny_pure (wpAny_bind (wpAny_holding (wpAny_pure (wpAny_pure ?_)))))))))
  cases rk with
  | tmp _ => exact w2.elim
  | slot _ => exact w2.elim
  | fro kd =>
    cases rv with
    | tmp _ => exact w2.elim
    | slot _ => exact w2.elim
    | fro d =>
      unfold dct1R at w2
      simp only at w2
      cases hkd : keyOf kd with
      | none => rw [hkd] at w2; exact w2.elim
      | some kk =>
        rw [hkd] at w2
        obtain ⟨a, ea, nF, no, ow⟩ := p2
        cases ea
        obtain ⟨o2, es, ha, dx2, rk0⟩ := ow
        cases rk0
        obtain ⟨b, rfl, rfl, hb, _⟩ := key_at I2 S2.ex hkd (.inl r1') rx
        obtain ⟨xs, hm, hp⟩ := dx2.at I2 S2.ex ha .nil
        cases hp
        obtain ⟨k1, k2, _⟩ := keyOf_ok hkd
        refine ⟨[(kk, b, u2)], ⟨rfl, rfl, hb, trivial⟩, hm, fun h' tk hm' sb => wpAny_pure ?_⟩
        have hm'' : h'.DictOfH (nestedKind X.prog X.w) p [(kk, b, u2)] := hm'
        obtain ⟨o', ho', dx'⟩ := dobj_of (X := X) (es := [(kk, b, y)]) dx2.sys hm'' (.cons ⟨rfl, rfl, ry⟩ .nil) (by rw [sizeLine_eq]; exact (by decide : 1 ≤ 16777216))
        have I3 : Inv X pins σ (upd H2 p (.ext (IsO p o'))) { s2 with heap := h', toks := tk } := I2.write (x := p) (e := p) (o := .ext (IsO p o')) (by rw [ha]; exact trivial) (.inl rfl) (fun b' u' hb' hu' => (sb.2 b' hb').trans hu') ⟨_, ho'⟩ (isO_ok ho')
        exact ⟨.ref p, _, I3, rfl, w2 (.ref p) _ F2 (gb2.side hn) (S2.side nF no) ⟨p, rfl, nF, no, o', _, upd_same, dx', .cons k1 k2 r1' r2 .nil⟩ ⟨p, rfl, hn⟩⟩⟩⟩
end Gr
end
section
/-! The end of a law, with the row's exceptions. -/
namespace Gr
open PySem PySem.Spec PyProof.Rows L2
theorem walk_grE {l : PySem.W.OpenLaw} {n k : Nat} {q : Program} {loose : List Str} {XP : (Str → Option Value) → Heap → Prop} {YP : World → Heap → Prop} {d : DefRec} {K : Params → PySem.W.Frag} {x : Str} {fs : FS}
    (hn : l.most = some n) (hn2 : n ≤ sizeLine) (hdf : d.params.defaults = []) (hr : Room k callerA) (hY : ∀ (w : World) (h : Heap), YP w h → (K w.params).In h)
    (F : ∀ (w : World) (mg : Str → Option Value) (fa : Addr) (h : Heap), (K w.params).In h → h.Ns mainGlobals mg → mg d.name = some (.ref fa) →
      ∃ fd : FuncData, (∀ (s : Shared) (u : Value), BindsTo s fd ⟨[u], []⟩ [(x, u)]) ∧
        ∀ base : Heap, (K w.params).In base → base.Ns mainGlobals mg → FnOk l.prog w (K w.params) mg base (L2.CX l.prog w) k fa fd [x] (spF ⟨l.prog, w, K w.params, []⟩ (cvOf (K w.params)) [false] false fs))
    (good : ∀ ns : List Int, ns.length ≤ n → (∀ z ∈ ns, Builtin.Int.intBits z ≤ 1048576) → fs [.lst (ns.map D.int)] = .ok (.bl true) []) :
    PySem.W.WalkO q loose XP YP l.row.toRowW d [] (fun f vs => PySem.call f vs)  :=
  walk_gr (cv := fun w => cvOf (K w.params)) hn hn2 hdf hr hY F good
/-! ### a, b = x, y, where a name is a cell: stored from the left -/
theorem ps_parC {X : Cx} {i j : Nat} {x y : Str} {a b : Expr} {ta : TA} {px py pt pos : Pos} {kt k2 pt2} (hc : X.calm = true) (hN : X.N.Nodup) (hi : X.N[i]? = some x) (hj : X.N[j]? = some y)
    (hx : Loc X.env.scope x) (hy : Loc X.env.scope y) (fx : X.fn x = true ∨ X.env.scope.names.lookup x = some .local) (fy : X.fn y = true ∨ X.env.scope.names.lookup y = some .local) (ha : PA X [a, b] ta)
    (hw : swappedStores [.Tuple [.Name x px, .Name y py] kt pt] (.Tuple [a, b] k2 pt2) X.env = pure none)
    (hs : swapsWithSole [.Tuple [.Name x px, .Name y py] kt pt] (.Tuple [a, b] k2 pt2) pos.line X.env = pure false)
    (h1 : (assignEach [.Tuple [.Name x px, .Name y py] kt pt] X.env).map (·.2) = [assign (.Tuple [.Name x px, .Name y py] kt pt) X.env])
    (hn : (assignEach [.Name x px, .Name y py] X.env).length = 2) (hst : (assignEach [.Name x px, .Name y py] X.env).findIdx? (·.1) = none)
    (hm : (assignEach [.Name x px, .Name y py] X.env).map (·.2) = [assign (.Name x px) X.env, assign (.Name y py) X.env]) :
    PS X (.Assign [.Tuple [.Name x px, .Name y py] kt pt] (.Tuple [a, b] k2 pt2) pos) (tPar i j ta) := by
  refine ⟨fun pins s σ H D I h => ?_⟩
  refine wpAny_Assign_stores (Tuple_ (thn (ha.run _ pins s σ H _ I h) fun us s1 ⟨vs, H1, I1, r1, q1⟩ => ?_)) hs hw
  obtain ⟨v, w, e1, q1⟩ := q1
  subst e1
  obtain ⟨u1, u2, rfl, rv, rw'⟩ : ∃ u1 u2, us = [u1, u2] ∧ RelV v u1 ∧ RelV w u2 := by
    cases r1 with
    | cons p q =>
      cases q with
      | cons p' q' =>
        cases q'
        exact ⟨_, _, rfl, p, p'⟩
  refine wpAny_newObj_type ?_ (by show 2 ≤ sizeLine; decide)
  have I2 : Inv X pins σ H1 { s1 with heap := s1.heap.push { cls := .type "tuple", data := .seq [u1, u2].toArray } } := I1.kept (t' := s1.toks) fun b o e => Heap.get?_push_of_some _ e
  rw [h1]
  refine assign_Tuple_tuple (items := #[u1, u2]) (I.ok.hd hc) (IsTup.new s1.heap _) (by simp [hn]) hst fun h' hx' => ?_
  have I3 := I2.kept (h' := h') (t' := s1.toks) fun b o e => hx' b o (Nat.ne_of_lt (Heap.lt_size e)) e
  rw [hm]
  refine assignInOrder_cons (wpAny_assign_Name (store_ok I3 hN hi hx rv (fun s2 I4 => ?_) fx))
  exact assignInOrder_cons (wpAny_assign_Name (store_ok I4 hN hj hy rw' (fun s3 I5 => assignInOrder_nil ⟨_, H1, I5, q1⟩) fy))
theorem sm_parC {X : Cx} {W : WX} {i j : Nat} {x y : Str} {a b : Expr} {t : MA} {px py pt pos : Pos} {kt k2 pt2} (hc : X.calm = true) (hN : X.N.Nodup) (hx : Loc X.env.scope x) (hy : Loc X.env.scope y) (fx : X.fn x = true ∨ X.env.scope.names.lookup x = some .local) (fy : X.fn y = true ∨ X.env.scope.names.lookup y = some .local) (ha : AM X W [a, b] t) (hi : X.N[i]? = some x := by rfl) (hj : X.N[j]? = some y := by rfl)
    (hw : swappedStores [.Tuple [.Name x px, .Name y py] kt pt] (.Tuple [a, b] k2 pt2) X.env = pure none := by rfl)
    (hs : swapsWithSole [.Tuple [.Name x px, .Name y py] kt pt] (.Tuple [a, b] k2 pt2) pos.line X.env = pure false := by rfl)
    (h1 : (assignEach [.Tuple [.Name x px, .Name y py] kt pt] X.env).map (·.2) = [assign (.Tuple [.Name x px, .Name y py] kt pt) X.env] := by rfl)
    (hn : (assignEach [.Name x px, .Name y py] X.env).length = 2 := by rfl) (hst : (assignEach [.Name x px, .Name y py] X.env).findIdx? (·.1) = none := by rfl)
    (hm : (assignEach [.Name x px, .Name y py] X.env).map (·.2) = [assign (.Name x px) X.env, assign (.Name y py) X.env] := by rfl) :
    SM X W (.Assign [.Tuple [.Name x px, .Name y py] kt pt] (.Tuple [a, b] k2 pt2) pos) (sPar [i, j] t) := ⟨ps_mono (ps_parC hc hN hi hj hx hy fx fy ha.pa hw hs h1 hn hst hm) fun D σ H q => ta_mono (t_par q) fun vs H1 ⟨e, q⟩ => by
  match vs, e with
  | [v, w], _ => exact ⟨v, w, rfl, q⟩⟩
end Gr
end
section
/-! sorted(d.items()), d a dict with int keys. -/
namespace Gr
open PySem PySem.Spec PyProof.Rows L2 PySem.W
section
variable {prog : Program} {w : World} {A : Around} {E : Value → Shared → Prop} {s : Shared}
/-- a new list of the values, sorted in place: the end of sorted(..) -/
theorem sort_tail {β : Type} {R : Value → β → Prop} {enc : β → PyData} {bs : List β} {vs : List Value} {Q : Value → Shared → Prop}
    (e : PySem.W.EachIs R vs bs) (er : PySem.W.EachIs (fun v b => ∃ as, Reads s.heap v (enc b) as) vs bs) (hal : PySem.W.AllAlike (bs.map enc)) (hk : PySem.W.Sortable (bs.map enc)) (hL : bs.length ≤ sizeLine)
    (hu : ∀ b, b ∈ bs → A.units + 1 + (enc b).depth < cLine)
    (h : ∀ out, out.length = bs.length → PySem.W.EachIs R out (bs.mergeSort (PySem.W.dataLe false enc)) → Q (.ref s.heap.objs.size) { s with heap := sortedHeap (s.heap.push (PyProof.Rows.seqObj "list" vs.toArray 0)) s.heap.objs.size vs (List.toArray out) }) :
    wpAny (model prog w) A.in1 (Builtin.«list.sort» ⟨[.ref s.heap.objs.size], []⟩) (fun f s' => f = .done (.ret .none) ∧ Q (.ref s.heap.objs.size) s') E { s with heap := s.heap.push (PyProof.Rows.seqObj "list" vs.toArray 0) } := by
  have er' : PySem.W.EachIs (fun v b => ∃ as, Reads (sortingHeap (s.heap.push (PyProof.Rows.seqObj "list" vs.toArray 0)) s.heap.objs.size vs) v (enc b) as) vs bs := er.mono fun _ _ ⟨as, r⟩ => ⟨as, PyProof.Rows.Reads.keeps (fun b o q => sortingHeap_old (Nat.ne_of_lt (Heap.lt_size q)) (Heap.get?_push_of_some _ q)) r⟩
  have hL' : vs.length ≤ sizeLine := by rw [e.length]; exact hL
  have S := PySem.W.SortsAt.data (prog := prog) (w := w) (A := A.in1) (s := { s with heap := sortingHeap (s.heap.push (PyProof.Rows.seqObj "list" vs.toArray 0)) s.heap.objs.size vs }) (PySem.W.each_map (R := fun v d => ∃ as, Reads (sortingHeap (s.heap.push (PyProof.Rows.seqObj "list" vs.toArray 0)) s.heap.objs.size vs) v d as) enc er') hal hk (PySem.W.bound_map hu)
  exact list_sort_vals (s := { s with heap := s.heap.push (PyProof.Rows.seqObj "list" vs.toArray 0) }) (Heap.get?_push_size _ rfl) S hL'
    ⟨rfl, h _ (by rw [sortVals_length false rfl]; exact e.length) (PySem.W.sortVals_data false e er' hal)⟩
theorem sorted_view {K : Type} [DecidableEq K] {knd : PySem.KeyKind prog w K} {r d : Addr} {kvs : List (K × Value)} {ep : Nat} {Q : Value → Shared → Prop} (hh : A.handled = none) (hv : s.heap.IsItemsView r d) (hm : s.heap.DictAt knd d kvs ep) (hn : kvs.length ≤ sizeLine)
    (k : ∀ (h' : Heap) (tk : Nat) (as : List Addr), (∀ b o, s.heap.get? b = some o → h'.get? b = some o) → as.length = kvs.length → KdxG knd kvs s.heap.objs.size h' as →
      ∀ E' : Value → Shared → Prop, wpAny (model prog w) A.in1.in1 (Builtin.«list.sort» ⟨[.ref h'.objs.size], []⟩) (fun f s' => f = .done (.ret .none) ∧ Q (.ref h'.objs.size) s') E' { s with heap := h'.push (PyProof.Rows.seqObj "list" (as.map Value.ref).toArray 0), toks := tk }) :
    wpAny (model prog w) A (call (.builtin "sorted") [.ref r]) Q E s := by
  refine call_function_entry_kw kind_sorted plain_sorted entry_sorted (args_sorted1 _) ?_
  unfold Builtin.«sorted»
  refine wpAny_bind (m := checkCount "sorted" 1 1 _) (wpAny_pure ?_)
  refine wpAny_bind (kdx_collect (A := A.in1) (knd := knd) (kvs := kvs) (ep := ep) hh hv hm hn fun h' tk as hk hl hG => ?_)
  refine wpAny_bind (wpAny_newList ?_ (by rw [List.length_map, hl]; exact hn))
  refine wpAny_bind (wpAny_holding (wpAny_call_entry_kw slot_list_sort ⟨_, Heap.get?_push_size _ rfl, rfl⟩ entry_list_sort ?body (args_list_sort _)))
  case body =>
    show wpAny (model prog w) A.in1.in1 (Builtin.«list.sort» ⟨[.ref h'.objs.size], []⟩) _ _ _
    refine wpAny_mono (k h' tk as hk hl hG _) (fun f s' hf => ?_) fun _ _ e => e
    obtain ⟨rfl, hq⟩ := hf
    exact ⟨_, rfl, wpAny_pure ⟨_, rfl, hq⟩⟩
end
section
variable {X : Cx}
theorem tups_laid {pins : List (Addr × Obj)} {σ : L2.St} {H : Hp} {s : Shared} {h' : Heap} {tk : Nat} {kvs : List (L2.Key × V)} {vs : List (L2.Key × Value)} {as : List Addr} (I : L2.Inv X pins σ H s) (kv : KV kvs vs)
    (hk : ∀ b o, s.heap.get? b = some o → h'.get? b = some o) (hl : as.length = vs.length) (hG : PySem.W.KdxG (mixKind X.prog X.w) vs s.heap.objs.size h' as) :
    (∀ t ∈ as, H t = none) ∧ as.Nodup ∧ L2.Inv X pins σ (LiI.putT H as kvs) { s with heap := h', toks := tk } := by
  have lk : kvs.length = vs.length := Paired.length kv
  have nd : as.Nodup := List.Pairwise.imp (fun {a b} (h : a < b) => Nat.ne_of_lt h) hG.rise
  have new : ∀ t ∈ as, H t = none := fun t ht => I.hok.fresh (Nat.le_of_lt (hG.above t ht))
  have atP := LiI.putT_at as kvs H (by omega) nd
  have off : ∀ b, b ∉ as → LiI.putT H as kvs b = H b := fun b h1 => LiI.putT_off as kvs _ h1
  have low : ∀ b o, s.heap.get? b = some o → b ∉ as := fun b o e z => absurd (Heap.lt_size e) (Nat.not_lt.mpr (Nat.le_of_lt (hG.above b z)))
  have kp : ∀ b u, H b = some u → (LiI.putT H as kvs) b = some u := fun b u e => by
    rw [off b fun z => by rw [new b z] at e; cases e]
    exact e
  refine ⟨new, nd, ?_⟩
  refine I.call' (ch := []) rfl ⟨fun b o q _ _ _ => hk b o q, fun b o q _ _ _ => ⟨o.slots, hk b o q⟩, fun b o q n _ => ?_, fun b o q _ => ⟨o, hk b o q⟩, fun b xs q => kp b _ q, fun b o u q => kp b _ q, fun b ps q => ⟨#[], by rw [kp b _ q]; simp⟩⟩ (fun b u q => ?_) I.bare fun b z => by simp at z
  · rw [off b (low b o q)]
    exact n
  · by_cases hb : b ∈ as
    · obtain ⟨j, pk, e1, e2, e3⟩ := LiI.paired_ix atP hb
      rw [e3] at q
      cases q
      obtain ⟨key, k, x, f1, f2, f3⟩ := hG.pairs j b e1
      obtain ⟨qv, g1, g2, g3⟩ := LiI.paired_get kv e2
      rw [f1] at g1
      cases g1
      have rk : L2.RelV (kV pk.1) key := by
        rw [g2]
        exact relV_key (show keyIs k key = true from f2)
      exact ⟨by show 2 ≤ sizeLine; decide, [key, x], .cons rk (.cons g3 .nil), ⟨_, f3, rfl, _, rfl⟩⟩
    · rw [off b hb] at q
      exact (I.hok b u q).stay (fun d v _ y => hk d v y) (fun d y => kp d _ y) fun d xs y => kp d _ y
end
def kvD (kvs : List (Int × D)) : List D := kvs.map fun p => .tup [.int p.1, p.2]
theorem tups_new {Z : C3} : ∀ (as : List Addr) (es : List (L2.Key × V)) (kvs : List (Int × D)) (F H : Hp), Ex F H → RpI Z F es kvs → as.length = es.length → as.Nodup → (∀ t ∈ as, H t = none) →
    New F H (LiI.putT F as es) (LiI.putT H as es) ∧ RpL Z (LiI.putT F as es) (as.map V.ref) (kvD kvs)
  | [], [], _, F, H, ex, .nil, _, _, _ => ⟨⟨fun _ _ h => h, fun _ _ h => h, fun a h => .inl h, ex⟩, .nil⟩
  | a :: as, (.inl k, v) :: es, (_, d) :: kvs, F, H, ex, .cons h r, hl, nd, fr => by
    have nd' := List.nodup_cons.mp nd
    have ha := fr a (by simp)
    have n1 : New F H (upd F a (.tup [V.int k, v])) (upd H a (.tup [V.int k, v])) := New.froz ex ha
    obtain ⟨n2, r2⟩ := tups_new as es kvs (upd F a (.tup [V.int k, v])) (upd H a (.tup [V.int k, v])) n1.ex' (RpI.mono n1.exF r) (Nat.succ.inj hl) nd'.2 fun t ht => by
      rw [upd_ne (fun e => nd'.1 (by rw [← e]; exact ht))]
      exact fr t (List.mem_cons_of_mem _ ht)
    have n := n1.trans n2
    refine ⟨n, .cons ?_ r2⟩
    have r1 : Rp Z (upd F a (.tup [V.int k, v])) (.ref a) (.tup [.int k, d]) := RepN.newT ex ha (.cons (.int k) (.cons h .nil))
    exact Rp.mono n2.exF r1
theorem sort_items {X : Cx} {k : Nat} (hc : X.calm = true) (hr : Room k X.A) {pins : List (Addr × Obj)} {s : Shared} {σ : Sg} {F H : Hp} {r d : Addr} {es : List (L2.Key × V)} {kvs : List (Int × D)} {Q : VK} (I : L2.Inv X pins σ H s) (ex : Ex F H) (hv : s.heap.IsItemsView r d) (hd : H d = some (.dK es)) (ri : RpI (c3 X) F es kvs)
    (hok : (okq (.lst (kvD kvs)) && sortOk (kvD kvs) && decide ((kvD kvs).length ≤ szl)) = true) (k : ∀ v H' F', New F H F' H' → RepN (c3 X) H F' H' v true (.lst (isort D.le (kvD kvs))) → Q v H') : wpAny (model X.prog X.w) X.A (call (.builtin "sorted") [.ref r]) (EP X pins σ Q) X.xe s := by
  obtain ⟨hz, hs0, vs, kv, hdo⟩ := I.hok d _ hd
  obtain ⟨ep, hat⟩ := hdo.dictAt
  have lk : es.length = vs.length := Paired.length kv
  refine sorted_view (knd := mixKind X.prog X.w) (kvs := vs) (ep := ep) (I.ok.hd hc) hv hat (by omega) fun h' tk as hk hl hG E' => ?_
  obtain ⟨fr, nd, J⟩ := tups_laid (tk := tk) I kv hk hl hG
  obtain ⟨nw, hr'⟩ := tups_new as es kvs F H ex ri (by omega) nd fr
  have rv := LiI.vals_refs as
  generalize hF1 : LiI.putT F as es = F1 at *
  generalize hH1 : LiI.putT H as es = H1 at *
  generalize hds : kvD kvs = ds at *
  generalize hys : as.map V.ref = ys at *
  rw [Bool.and_eq_true, Bool.and_eq_true] at hok
  obtain ⟨⟨h1, h2⟩, h3⟩ := hok
  have h3' := of_decide_eq_true h3
  have hoks : D.okDs' 39 ds = true := by simpa [okq, D.okD'] using h1
  have ea := each_of rv hr'
  have hlen : (ys.zip ds).length = ds.length := by
    have := congrArg List.length (zip_snd hr')
    rwa [List.length_map] at this
  have mem2 : ∀ p ∈ ys.zip ds, p.2 ∈ ds := fun p hp => (List.of_mem_zip hp).2
  have ok2 : ∀ p ∈ ys.zip ds, D.okD' 39 p.2 = true := fun p hp => okDs_mem hoks _ (mem2 p hp)
  have hty : ∃ t, D.allTy ds t = true := by
    cases ds with
    | nil => exact ⟨.non, rfl⟩
    | cons d ds =>
      unfold sortOk at h2
      rw [Bool.and_eq_true] at h2
      exact ⟨_, h2.1⟩
  obtain ⟨t, ht⟩ := hty
  have hal : PySem.W.AllAlike ((ys.zip ds).map fun p => p.2.py) := by
    intro d hd d' hd'
    obtain ⟨p, hp, rfl⟩ := List.mem_map.mp hd
    obtain ⟨p', hp', rfl⟩ := List.mem_map.mp hd'
    exact ty_alike _ _ t (allTy_mem ht _ (mem2 p hp)) (allTy_mem ht _ (mem2 p' hp'))
  have hk2 : PySem.W.Sortable ((ys.zip ds).map fun p => p.2.py) := by
    cases ds with
    | nil =>
      right
      intro d hd
      obtain ⟨p, hp, rfl⟩ := List.mem_map.mp hd
      exact absurd (mem2 p hp) (by simp)
    | cons d ds =>
      unfold sortOk at h2
      rw [Bool.and_eq_true] at h2
      obtain ⟨h4, h5⟩ := h2
      have hh := allTy_mem h4
      cases d with
      | tup xs =>
        cases xs with
        | nil => simp at h5
        | cons x xs =>
          left
          intro d hd
          obtain ⟨p, hp, rfl⟩ := List.mem_map.mp hd
          have z := hh _ (mem2 p hp)
          cases e : p.2 with
          | tup zs =>
            rw [e] at z
            cases zs with
            | nil => simp [D.hasTy, D.ty, D.tys, D.hasTys] at z
            | cons y zs => exact ⟨y.py, D.pys zs, by simp only [D.py, D.pys]⟩
          | _ => rw [e] at z; simp [D.hasTy, D.ty] at z
      | non => simp at h5
      | bl b =>
        right
        intro d hd
        obtain ⟨p, hp, rfl⟩ := List.mem_map.mp hd
        have z := hh _ (mem2 p hp)
        cases e : p.2 with
        | bl _ => simp only [D.py]; exact ⟨fun z => (by cases z), fun _ z => (by cases z)⟩
        | _ => rw [e] at z; simp [D.hasTy, D.ty] at z
      | int b =>
        right
        intro d hd
        obtain ⟨p, hp, rfl⟩ := List.mem_map.mp hd
        have z := hh _ (mem2 p hp)
        cases e : p.2 with
        | int _ => simp only [D.py]; exact ⟨fun z => (by cases z), fun _ z => (by cases z)⟩
        | _ => rw [e] at z; simp [D.hasTy, D.ty] at z
      | str b =>
        right
        intro d hd
        obtain ⟨p, hp, rfl⟩ := List.mem_map.mp hd
        have z := hh _ (mem2 p hp)
        cases e : p.2 with
        | str _ => simp only [D.py]; exact ⟨fun z => (by cases z), fun _ z => (by cases z)⟩
        | _ => rw [e] at z; simp [D.hasTy, D.ty] at z
      | lst xs =>
        right
        intro d hd
        obtain ⟨p, hp, rfl⟩ := List.mem_map.mp hd
        have z := hh _ (mem2 p hp)
        cases e : p.2 with
        | lst _ => simp only [D.py]; exact ⟨fun z => (by cases z), fun _ z => (by cases z)⟩
        | _ => rw [e] at z; cases xs <;> simp [D.hasTy, D.ty] at z
      | _ => have z := hh _ (List.mem_cons_self ..); simp [D.hasTy, D.ty] at z
  have er : PySem.W.EachIs (fun (u : Value) (p : V × D) => ∃ as, Reads h' u p.2.py as) (as.map Value.ref) (ys.zip ds) := by
    refine (PySem.W.each_mem ea).mono fun u p ⟨⟨q1, q2⟩, hp⟩ => ?_
    exact Dp.reads J _ _ _ (q2.dp nw.ex' (ok2 p hp)) q1
  have leq : ∀ p ∈ ys.zip ds, ∀ q ∈ ys.zip ds, D.le p.2 q.2 = PySem.W.dataLe false (fun (p : V × D) => p.2.py) p q := fun p hp q hq => by
    rw [PySem.W.dataLe_eq]
    show D.le p.2 q.2 = !PySem.W.dataLt q.2.py p.2.py
    unfold D.le
    rw [lt_py q.2 p.2 (ok2 q hq) (ok2 p hp) (ty_alike _ _ t (allTy_mem ht _ (mem2 q hq)) (allTy_mem ht _ (mem2 p hp)))]
  -- the insertion sort is the merge sort
  have esort : (ys.zip ds).mergeSort (PySem.W.dataLe false fun (p : V × D) => p.2.py) = isort (fun (p q : V × D) => D.le p.2 q.2) (ys.zip ds) := by
    have T := PySem.W.sortLe_total (listOrd itemOrd) false fun (p : V × D) => PySem.W.keyToks p.2.py
    rw [← isort_merge (le := PySem.W.dataLe false fun (p : V × D) => p.2.py) T]
    have gen : ∀ (l : List (V × D)), (∀ p ∈ l, p ∈ ys.zip ds) → isort (PySem.W.dataLe false fun (p : V × D) => p.2.py) l = isort (fun (p q : V × D) => D.le p.2 q.2) l := by
      intro l
      induction l with
      | nil => intro _; rfl
      | cons x l ih =>
        intro hm
        have gi : ∀ (m : List (V × D)), (∀ p ∈ m, p ∈ ys.zip ds) → ins (PySem.W.dataLe false fun (p : V × D) => p.2.py) x m = ins (fun (p q : V × D) => D.le p.2 q.2) x m := by
          intro m
          induction m with
          | nil => intro _; rfl
          | cons y m ih2 =>
            intro hm2
            unfold ins
            rw [← leq x (hm x (by simp)) y (hm2 y (by simp)), ih2 fun p hp => hm2 p (List.mem_cons_of_mem _ hp)]
        show ins _ x (isort _ l) = ins _ x (isort _ l)
        rw [ih fun p hp => hm p (List.mem_cons_of_mem _ hp)]
        exact gi _ fun p hp => hm p (List.mem_cons_of_mem _ ((isort_perm l).mem_iff.mp hp))
    exact gen _ fun _ h => h

  refine sort_tail (A := X.A.in1) (s := { s with heap := h', toks := tk }) (R := fun (u : Value) (p : V × D) => L2.RelV p.1 u ∧ Rp (c3 X) F1 p.1 p.2) (enc := fun p => p.2.py) (bs := ys.zip ds) ea er hal hk2 (by rw [hlen]; exact szl_ok h3') (fun p hp => ?_) fun out hlo ho => ?_
  · have := (py_lay (ok2 p hp)).2
    have := hr.un
    have q : X.A.in1.units = X.A.units + 1 := rfl
    omega
  · rw [esort] at ho
    obtain ⟨o1, o2⟩ := out_each ho
    rw [isort_map, zip_snd hr'] at o2
    obtain ⟨ep2, he'⟩ := PyProof.Rows.sortedHeap_at (h := h'.push (PyProof.Rows.seqObj "list" (as.map Value.ref).toArray 0)) (a := h'.objs.size) (vs := as.map Value.ref) (n := 0) (out := out.toArray) (Heap.get?_push_size _ rfl)
    have hn : H1 h'.objs.size = none := J.hok.fresh (Nat.le_refl _)
    have hz2 : ((isort (fun (p q : V × D) => D.le p.2 q.2) (ys.zip ds)).map (·.1)).length ≤ sizeLine := by
      rw [List.length_map, isort_length, hlen]
      exact szl_ok h3'
    have keep : ∀ b o, h'.get? b = some o → (PyProof.Rows.sortedHeap (h'.push (PyProof.Rows.seqObj "list" (as.map Value.ref).toArray 0)) h'.objs.size (as.map Value.ref) out.toArray).get? b = some o := fun b o q => by
      have hlt := Heap.lt_size q
      rw [PyProof.Rows.sortedHeap_old (Nat.ne_of_lt hlt) (by rw [PyProof.Rows.size_push']; exact Nat.lt_succ_of_lt hlt)]
      exact Heap.get?_push_of_some _ q
    refine ⟨.ref _, upd H1 h'.objs.size (.lst ((isort (fun (p q : V × D) => D.le p.2 q.2) (ys.zip ds)).map (·.1))), J.laid (t' := tk) (fun b o q => keep b o q) (Nat.le_refl _) ⟨hz2, out, ep2, o1, he'⟩, rfl, ?_⟩
    refine k _ _ F1 (nw.trans (New.mine nw.ex' hn)) ?_
    have rn := RepN.newL (Z := c3 X) nw.ex' hn o2
    obtain ⟨a', e1, e2, e3, e4⟩ := rn
    exact ⟨a', e1, dom_of nw.exH _ e2, e3, e4⟩
def mSortIt (m : M) : M := fun env => (m env).and fun r e => match r.see e with
  | some (.dci kvs) => outR (dSorted [.lst (kvD kvs)]) e
  | _ => .stuck
theorem Vw.dci {Z : C3} {F H : Hp} {v : V} {kvs : List (Int × D)} (ex : Ex F H) (h : Vw Z F H v (.dci kvs)) : ∃ a es, v = .ref a ∧ H a = some (.dK es) ∧ RpI Z F es kvs := by
  rcases h with h | ⟨a, e, es, h, r⟩
  · cases h with
    | dci ho hr => exact ⟨_, _, rfl, ex _ _ ho, hr⟩
  · exact ⟨a, es, e, h, r⟩
theorem em_sortIt {X : Cx} {W : WX} {k : Nat} {e : Expr} {m : M} {p apos cpos pos : Pos} (hc : X.calm = true) (hr : Room k X.A) (he : EM X W e m) (hg : Gl X "sorted") (hm : X.mg "sorted" = none) (hv : bootBuiltins "sorted" = some (.builtin "sorted") := by rfl) (hbase : attributeBase e "items" X.env (eval e X.env) = eval e X.env := by rfl) (hline : (apos.endLine == cpos.line) = true := by rfl)
    (hs : starEach [.Call (.Attribute e "items" apos) [] [] cpos] X.env = (false, eval (.Call (.Attribute e "items" apos) [] [] cpos) X.env) :: starEach [] X.env := by rfl) :
    EM X W (.Call (.Name "sorted" p) [.Call (.Attribute e "items" apos) [] [] cpos] [] pos) (mSortIt m) := by
  refine ⟨⟨fun pins s σ H Q I h => ?_⟩⟩
  obtain ⟨env, F0, S, h⟩ := h
  have te : tE (c3 X) W m σ H fun x H1 => ∃ (F1 : Hp) (d : Addr) (es : List (L2.Key × V)) (kvs : List (Int × D)), x = .ref d ∧ Ex F1 H1 ∧ H1 d = some (.dK es) ∧ RpI (c3 X) F1 es kvs ∧ (okq (.lst (kvD kvs)) && sortOk (kvD kvs) && decide ((kvD kvs).length ≤ szl)) = true ∧ ∀ v H' F', New F1 H1 F' H' → RepN (c3 X) H1 F' H' v true (.lst (isort D.le (kvD kvs))) → Q v H' := by
    refine tE_and .refl S h fun r e1 v H1 F1 q1 g1 gb1 S1 r1 f1 w1 => ?_
    cases es : r.see e1 with
    | none => rw [es] at w1; exact w1.elim
    | some d =>
      rw [es] at w1
      cases d with
      | dci kvs =>
        simp only at w1
        obtain ⟨a, ents, rfl, ha, hri⟩ := (RepR.see S1 r1 es).dci S1.ex
        by_cases hok : (okq (.lst (kvD kvs)) && sortOk (kvD kvs) && decide ((kvD kvs).length ≤ szl)) = true
        · have e2 : dSorted [.lst (kvD kvs)] = some (true, .lst (isort D.le (kvD kvs))) := by
            show (if _ = true then _ else none) = _
            rw [if_pos hok]
          exact ⟨F1, a, ents, kvs, rfl, S1.ex, ha, hri, hok, fun v H' F' n rn => Wi.out gb1 w1 e2 S1 n rn⟩
        · have e2 : dSorted [.lst (kvD kvs)] = none := by
            show (if _ = true then _ else none) = _
            rw [if_neg hok]
          rw [e2] at w1
          exact w1.elim
      | _ => exact w1.elim
  refine wpAny_Call_Name_kw (ld_blt I hg hm hv ?_)
  refine PyProof.Rows.callWith_builtin1 ?_ hs rfl
  rw [hs]
  show wpAny _ _ (spliced ((false, eval (.Call (.Attribute e "items" apos) [] [] cpos) X.env) :: backTo pos (starEach [] X.env))) _ _ s
  refine Calls.spliced_cons ?_
  refine wpAny_Call_method (T := "dict") (id := "dict.items") hbase rfl hline PySem.F.plainAttrs_dict PySem.F.slot_dict_items PySem.F.type_dict_items (thn (he.pe.run pins s σ H _ I te) fun u s1 ⟨x, H1, I1, rx, F1, d, es, kvs, ex, hex, hd, hri, hok, q⟩ => ?_)
  subst ex
  obtain rfl : u = Value.ref d := rx
  obtain ⟨hz, hs0, vs, kv, hdo⟩ := I1.hok d _ hd
  have I2 : L2.Inv X pins σ H1 { s1 with heap := s1.heap.push { cls := .type "dict_items", data := .fields #[.ref d] } } := I1.kept (t' := s1.toks) fun b ob q => Heap.get?_push_of_some _ q
  refine ⟨hdo.typeIs, hdo.mapOf.noDict, ?_⟩
  show wpAny _ _ (callWith cpos (.builtin "dict.items") [.ref d] [] []) _ X.xe s1
  refine method_meetsIn PySem.F.slot_dict_items PySem.F.entry_dict_items rfl (PySem.evalArgs_none ⟨rfl, hdo.typeIs, PySem.F.args_dict_items_1 _, _, meets_dict_items (mixKind X.prog X.w) d hs0, ⟨vs, hdo⟩, ?_⟩)
  refine Calls.spliced_nil ?_
  exact sort_items hc hr I2 hex ⟨_, Heap.get?_push_size _ rfl, rfl, rfl⟩ hd hri hok q
end Gr
end
section
/-! sorted(d), d a dict with tuple keys; n *= e. -/
namespace Gr
open PySem PySem.Spec PyProof.Rows L2 PySem.W
/-! ### n *= e, of small ints -/
def ipM : TIp := fun x y H Q => ∃ i j, x = .int i ∧ y = .int j ∧ CMul i j ∧ Q (.int (i * j)) H
theorem ip_mul {X : Cx} : PIp X .Mult ipM := fun pins s σ H x y v u Q I r1 r2 ⟨i, j, e1, e2, hc, q⟩ => iop_mul pins s σ H x y v u Q I r1 r2 ⟨i, j, e1, e2, hc, q⟩
def sMul (i : Nat) (m : M) : MS := fun env => match env[i]? with
  | some (.fro (.int k)) => (m env).andS fun r e => (match r.see e with
    | some (.int j) => (match smallI j with
      | true => (match putF i (.int (k * j)) e with
        | some e' => .nx e'
        | none => .stuck)
      | false => .stuck)
    | _ => .stuck)
  | _ => .stuck
theorem sm_mul {X : Cx} {W : WX} {i : Nat} {x : Str} {e : Expr} {m : M} {pos pos' : Pos} (hN : X.N.Nodup) (he : EM X W e m) (hi : X.N[i]? = some x := by rfl) (hx : Loc X.env.scope x := by first | exact Or.inl rfl | exact Or.inr rfl)
    (hf : X.fn x = true ∨ X.env.scope.names.lookup x = some .local := by first | exact .inl rfl | exact .inr rfl | assumption) : SM X W (.AugAssign (.Name x pos') .Mult e pos) (sMul i m) := ⟨ps_mono (ps_aug hN hi hx he.pe ip_mul hf) fun D σ H q => by
  obtain ⟨env, F, S, q⟩ := q
  have q' : WiS (c3 X) W D σ F H env (sMul i m env) := q
  unfold sMul at q'
  cases e0 : env[i]? with
  | none => rw [e0] at q'; exact q'.elim
  | some s =>
    rw [e0] at q'
    cases s with
    | fro d =>
      cases d with
      | int k =>
        obtain ⟨v, h1, h2⟩ := S.fro i _ e0
        cases h2
        refine ⟨.int k, h1, ?_⟩
        simp only at q'
        refine tE_andS S q' fun r e1 v H1 F1 _ g1 S1 r1 f1 w => ?_
        cases es : r.see e1 with
        | none => rw [es] at w; exact w.elim
        | some d =>
          cases d with
          | int j =>
            simp only [es] at w
            cases hs : smallI j with
            | false => rw [hs] at w; exact w.elim
            | true =>
              simp only [hs] at w
              cases ep : putF i (.int (k * j)) e1 with
              | none => rw [ep] at w; exact w.elim
              | some e' =>
                rw [ep] at w
                obtain ⟨g2, S2⟩ := putF_ok g1 S1 (.int (k * j)) ep
                refine ⟨k, j, rfl, (r1.see S1 es).int, .inr ?_, w _ H1 F1 g2 S2⟩
                unfold smallI at hs
                have := of_decide_eq_true hs
                omega
          | _ => rw [es] at w; exact w.elim
      | _ => exact q'.elim
    | _ => exact q'.elim⟩
/-! ### sorting what was collected -/
/-- the values of a new list sorted in place: the end of sorted(..) -/
theorem sort_done {X : Cx} {k : Nat} (hr : Room k X.A) {pins : List (Addr × Obj)} {s : Shared} {σ : Sg} {F H : Hp} {ys : List V} {us : List Value} {ds : List D} {Q : VK} (I : L2.Inv X pins σ H s) (ex : Ex F H) (rv : Vals ys us) (hr' : RpL (c3 X) F ys ds)
    (hok : (okq (.lst ds) && sortOk ds && decide (ds.length ≤ szl)) = true) (k : ∀ v H' F', New F H F' H' → RepN (c3 X) H F' H' v true (.lst (isort D.le ds)) → Q v H') (E' : Value → Shared → Prop) :
    wpAny (model X.prog X.w) X.A.in1.in1 (Builtin.«list.sort» ⟨[.ref s.heap.objs.size], []⟩) (fun f s' => f = .done (.ret .none) ∧ EP X pins σ Q (.ref s.heap.objs.size) s') E' { s with heap := s.heap.push (PyProof.Rows.seqObj "list" us.toArray 0) } := by
  rw [Bool.and_eq_true, Bool.and_eq_true] at hok
  obtain ⟨⟨h1, h2⟩, h3⟩ := hok
  have h3' := of_decide_eq_true h3
  have hoks : D.okDs' 39 ds = true := by simpa [okq, D.okD'] using h1
  have ea := each_of rv hr'
  have hlen : (ys.zip ds).length = ds.length := by
    have := congrArg List.length (zip_snd hr')
    rwa [List.length_map] at this
  have mem2 : ∀ p ∈ ys.zip ds, p.2 ∈ ds := fun p hp => (List.of_mem_zip hp).2
  have ok2 : ∀ p ∈ ys.zip ds, D.okD' 39 p.2 = true := fun p hp => okDs_mem hoks _ (mem2 p hp)
  have hty : ∃ t, D.allTy ds t = true := by
    cases ds with
    | nil => exact ⟨.non, rfl⟩
    | cons d ds =>
      unfold sortOk at h2
      rw [Bool.and_eq_true] at h2
      exact ⟨_, h2.1⟩
  obtain ⟨t, ht⟩ := hty
  have hal : PySem.W.AllAlike ((ys.zip ds).map fun p => p.2.py) := by
    intro d hd d' hd'
    obtain ⟨p, hp, rfl⟩ := List.mem_map.mp hd
    obtain ⟨p', hp', rfl⟩ := List.mem_map.mp hd'
    exact ty_alike _ _ t (allTy_mem ht _ (mem2 p hp)) (allTy_mem ht _ (mem2 p' hp'))
  have hk2 : PySem.W.Sortable ((ys.zip ds).map fun p => p.2.py) := by
    cases ds with
    | nil =>
      right
      intro d hd
      obtain ⟨p, hp, rfl⟩ := List.mem_map.mp hd
      exact absurd (mem2 p hp) (by simp)
    | cons d ds =>
      unfold sortOk at h2
      rw [Bool.and_eq_true] at h2
      obtain ⟨h4, h5⟩ := h2
      have hh := allTy_mem h4
      cases d with
      | tup xs =>
        cases xs with
        | nil => simp at h5
        | cons x xs =>
          left
          intro d hd
          obtain ⟨p, hp, rfl⟩ := List.mem_map.mp hd
          have z := hh _ (mem2 p hp)
          cases e : p.2 with
          | tup zs =>
            rw [e] at z
            cases zs with
            | nil => simp [D.hasTy, D.ty, D.tys, D.hasTys] at z
            | cons y zs => exact ⟨y.py, D.pys zs, by simp only [D.py, D.pys]⟩
          | _ => rw [e] at z; simp [D.hasTy, D.ty] at z
      | non => simp at h5
      | bl b =>
        right
        intro d hd
        obtain ⟨p, hp, rfl⟩ := List.mem_map.mp hd
        have z := hh _ (mem2 p hp)
        cases e : p.2 with
        | bl _ => simp only [D.py]; exact ⟨fun z => (by cases z), fun _ z => (by cases z)⟩
        | _ => rw [e] at z; simp [D.hasTy, D.ty] at z
      | int b =>
        right
        intro d hd
        obtain ⟨p, hp, rfl⟩ := List.mem_map.mp hd
        have z := hh _ (mem2 p hp)
        cases e : p.2 with
        | int _ => simp only [D.py]; exact ⟨fun z => (by cases z), fun _ z => (by cases z)⟩
        | _ => rw [e] at z; simp [D.hasTy, D.ty] at z
      | str b =>
        right
        intro d hd
        obtain ⟨p, hp, rfl⟩ := List.mem_map.mp hd
        have z := hh _ (mem2 p hp)
        cases e : p.2 with
        | str _ => simp only [D.py]; exact ⟨fun z => (by cases z), fun _ z => (by cases z)⟩
        | _ => rw [e] at z; simp [D.hasTy, D.ty] at z
      | lst xs =>
        right
        intro d hd
        obtain ⟨p, hp, rfl⟩ := List.mem_map.mp hd
        have z := hh _ (mem2 p hp)
        cases e : p.2 with
        | lst _ => simp only [D.py]; exact ⟨fun z => (by cases z), fun _ z => (by cases z)⟩
        | _ => rw [e] at z; cases xs <;> simp [D.hasTy, D.ty] at z
      | _ => have z := hh _ (List.mem_cons_self ..); simp [D.hasTy, D.ty] at z
  have er : PySem.W.EachIs (fun (u : Value) (p : V × D) => ∃ as, Reads s.heap u p.2.py as) us (ys.zip ds) := by
    refine (PySem.W.each_mem ea).mono fun u p ⟨⟨q1, q2⟩, hp⟩ => ?_
    exact Dp.reads I _ _ _ (q2.dp ex (ok2 p hp)) q1
  have leq : ∀ p ∈ ys.zip ds, ∀ q ∈ ys.zip ds, D.le p.2 q.2 = PySem.W.dataLe false (fun (p : V × D) => p.2.py) p q := fun p hp q hq => by
    rw [PySem.W.dataLe_eq]
    show D.le p.2 q.2 = !PySem.W.dataLt q.2.py p.2.py
    unfold D.le
    rw [lt_py q.2 p.2 (ok2 q hq) (ok2 p hp) (ty_alike _ _ t (allTy_mem ht _ (mem2 q hq)) (allTy_mem ht _ (mem2 p hp)))]
  -- the insertion sort is the merge sort
  have esort : (ys.zip ds).mergeSort (PySem.W.dataLe false fun (p : V × D) => p.2.py) = isort (fun (p q : V × D) => D.le p.2 q.2) (ys.zip ds) := by
    have T := PySem.W.sortLe_total (listOrd itemOrd) false fun (p : V × D) => PySem.W.keyToks p.2.py
    rw [← isort_merge (le := PySem.W.dataLe false fun (p : V × D) => p.2.py) T]
    have gen : ∀ (l : List (V × D)), (∀ p ∈ l, p ∈ ys.zip ds) → isort (PySem.W.dataLe false fun (p : V × D) => p.2.py) l = isort (fun (p q : V × D) => D.le p.2 q.2) l := by
      intro l
      induction l with
      | nil => intro _; rfl
      | cons x l ih =>
        intro hm
        have gi : ∀ (m : List (V × D)), (∀ p ∈ m, p ∈ ys.zip ds) → ins (PySem.W.dataLe false fun (p : V × D) => p.2.py) x m = ins (fun (p q : V × D) => D.le p.2 q.2) x m := by
          intro m
          induction m with
          | nil => intro _; rfl
          | cons y m ih2 =>
            intro hm2
            unfold ins
            rw [← leq x (hm x (by simp)) y (hm2 y (by simp)), ih2 fun p hp => hm2 p (List.mem_cons_of_mem _ hp)]
        show ins _ x (isort _ l) = ins _ x (isort _ l)
        rw [ih fun p hp => hm p (List.mem_cons_of_mem _ hp)]
        exact gi _ fun p hp => hm p (List.mem_cons_of_mem _ ((isort_perm l).mem_iff.mp hp))
    exact gen _ fun _ h => h

  refine sort_tail (A := X.A.in1) (s := s) (R := fun (u : Value) (p : V × D) => L2.RelV p.1 u ∧ Rp (c3 X) F p.1 p.2) (enc := fun p => p.2.py) (bs := ys.zip ds) ea er hal hk2 (by rw [hlen]; exact szl_ok h3') (fun p hp => ?_) fun out hlo ho => ?_
  · have := (py_lay (ok2 p hp)).2
    have := hr.un
    have q : X.A.in1.units = X.A.units + 1 := rfl
    omega
  · rw [esort] at ho
    obtain ⟨o1, o2⟩ := out_each ho
    rw [isort_map, zip_snd hr'] at o2
    obtain ⟨ep2, he'⟩ := PyProof.Rows.sortedHeap_at (h := s.heap.push (PyProof.Rows.seqObj "list" (us).toArray 0)) (a := s.heap.objs.size) (vs := us) (n := 0) (out := out.toArray) (Heap.get?_push_size _ rfl)
    have hn : H s.heap.objs.size = none := I.hok.fresh (Nat.le_refl _)
    have hz2 : ((isort (fun (p q : V × D) => D.le p.2 q.2) (ys.zip ds)).map (·.1)).length ≤ sizeLine := by
      rw [List.length_map, isort_length, hlen]
      exact szl_ok h3'
    have keep : ∀ b o, s.heap.get? b = some o → (PyProof.Rows.sortedHeap (s.heap.push (PyProof.Rows.seqObj "list" (us).toArray 0)) s.heap.objs.size (us) out.toArray).get? b = some o := fun b o q => by
      have hlt := Heap.lt_size q
      rw [PyProof.Rows.sortedHeap_old (Nat.ne_of_lt hlt) (by rw [PyProof.Rows.size_push']; exact Nat.lt_succ_of_lt hlt)]
      exact Heap.get?_push_of_some _ q
    refine ⟨.ref _, upd H s.heap.objs.size (.lst ((isort (fun (p q : V × D) => D.le p.2 q.2) (ys.zip ds)).map (·.1))), I.laid (t' := s.toks) (fun b o q => keep b o q) (Nat.le_refl _) ⟨hz2, out, ep2, o1, he'⟩, rfl, ?_⟩
    refine k _ _ F (New.mine ex hn) ?_
    exact RepN.newL (Z := c3 X) ex hn o2
theorem vals_at : ∀ {vs : List V} {us : List Value}, vs.length = us.length → (∀ (j : Nat) (u : Value), us[j]? = some u → ∃ v, vs[j]? = some v ∧ RelV v u) → Vals vs us
  | [], [], _, _ => .nil
  | v :: vs, u :: us, hl, h => by
    obtain ⟨w, e1, e2⟩ := h 0 u rfl
    cases Option.some.inj (show some v = some w from e1)
    exact .cons e2 (vals_at (Nat.succ.inj hl) fun j u hu => h (j + 1) u hu)
  | [], _ :: _, hl, _ => nomatch hl
  | _ :: _, [], hl, _ => nomatch hl
theorem paired_back {α β : Type} {R : α → β → Prop} : ∀ {l1 : List α} {l2 : List β} {j : Nat} {y : β}, Paired R l1 l2 → l2[j]? = some y → ∃ x, l1[j]? = some x ∧ R x y
  | _, _, 0, y, .cons (b := y') h _, e => by
    cases Option.some.inj (show some y' = some y from e)
    exact ⟨_, rfl, h⟩
  | _, _, j + 1, y, .cons _ t, e => paired_back (j := j) t e

/-! ### sorted(d) -/
def dSortedK : FN
  | [.dct kvs] => if okq (.lst (kvs.map (·.1))) && sortOk (kvs.map (·.1)) && decide ((kvs.map (·.1)).length ≤ szl) then some (true, .lst (isort D.le (kvs.map (·.1)))) else none
  | _ => none
theorem keys_of {Z : C3} {F : Hp} : ∀ {es : List Ent} {kvs : List (D × D)}, RpK Z F es kvs → RpL Z F (es.map fun p => V.ref p.2.1) (kvs.map (·.1))
  | _, _, .nil => .nil
  | _, _, .cons _ _ h _ r => .cons h (keys_of r)
theorem cd_sortedK {X : Cx} {k : Nat} (hc : X.calm = true) (hr : Room k X.A) : CallR X (.builtin "sorted") (RDs (c3 X) dSortedK) := by
  refine rds_of fun pins s σ F H xs us Q ds b d I r ex hx e k => ?_
  unfold dSortedK at e
  split at e
  · rename_i kvs
    split at e
    · rename_i ho
      cases e
      obtain ⟨x, rfl, h1⟩ := hx.one
      obtain ⟨a, o, es, rfl, ha, dx, rk⟩ := h1.dct ex
      rw [Vals.ref1 r]
      obtain ⟨xs, hp, des, ep, hxd, hdat, he⟩ := dx.ob
      have hob := Inv.isO I ha
      have hl1 : es.length = xs.length := Paired.length hp
      have hsz : des.size = xs.length := by rw [← Array.length_toList, he, List.length_map]
      refine call_function_entry_kw kind_sorted plain_sorted entry_sorted (args_sorted1 _) ?_
      unfold Builtin.«sorted»
      refine wpAny_bind (m := checkCount "sorted" 1 1 _) (wpAny_pure ?_)
      refine wpAny_bind (kdu_collect (A := X.A.in1) (PySem.KdlSrc.rawDict (es := des) (ep := ep) dx.sys) (I.ok.hd hc) ⟨o, hob, hxd, hdat⟩ (by have := dx.len; omega) fun h' tk acc hk hacc => ?_)
      have hal : acc.toList.length = es.length := by rw [Array.length_toList, hacc.1, hsz, hl1]
      refine wpAny_bind (wpAny_newList ?_ (by rw [hal]; exact dx.len))
      refine wpAny_bind (wpAny_holding (wpAny_call_entry_kw slot_list_sort ⟨_, Heap.get?_push_size _ rfl, rfl⟩ entry_list_sort ?body (args_list_sort _)))
      case body =>
        have I1 : L2.Inv X pins σ H { s with heap := h', toks := tk } := I.kept hk
        have rv : Vals (es.map fun p => V.ref p.2.1) acc.toList := by
          refine vals_at (by rw [List.length_map, hal]) fun j v hv => ?_
          obtain ⟨hi, ev⟩ := hacc.2 j v (by rw [← Array.getElem?_toList]; exact hv)
          have e1 : des[j]? = some des[j] := Array.getElem?_eq_getElem hi
          rw [← Array.getElem?_toList, he, List.getElem?_map] at e1
          cases ex1 : xs[j]? with
          | none => rw [ex1] at e1; cases e1
          | some x =>
            rw [ex1] at e1
            have e2 := Option.some.inj e1
            obtain ⟨p, hp1, hp2⟩ := paired_back hp ex1
            refine ⟨.ref p.2.1, by rw [List.getElem?_map, hp1]; rfl, ?_⟩
            rw [ev, ← e2]
            show Value.ref x.2.1 = Value.ref p.2.1
            rw [hp2.2.1]
        refine wpAny_mono (sort_done (s := { s with heap := h', toks := tk }) hr I1 ex rv (keys_of rk) ho k _) (fun f s' hf => ?_) fun _ _ e => e
        obtain ⟨rfl, hq⟩ := hf
        exact ⟨_, rfl, wpAny_pure ⟨_, rfl, hq⟩⟩
    · cases e
  · cases e
end Gr
end
section
/-! a dict with int keys: {}, d[k] = v, d.get(k, x). -/
namespace Gr
open PySem PySem.Spec PyProof.Rows L2
def lookI (k : Int) : List (Int × D) → Option D
  | [] => none
  | p :: r => if p.1 = k then some p.2 else lookI k r
def putI (k : Int) (d : D) (kvs : List (Int × D)) : List (Int × D) := if (kvs.any fun p => decide (p.1 = k)) = true then kvs.map (fun p => if p.1 = k then (p.1, d) else p) else kvs ++ [(k, d)]
theorem putI_len {k : Int} {d : D} {kvs : List (Int × D)} : (putI k d kvs).length ≤ kvs.length + 1 := by
  unfold putI
  split
  · rw [List.length_map]; omega
  · rw [List.length_append]; simp
section
variable {Z : C3} {F : Hp}
theorem RpI.length : ∀ {es : List (L2.Key × V)} {kvs : List (Int × D)}, RpI Z F es kvs → es.length = kvs.length
  | _, _, .nil => rfl
  | _, _, .cons _ r => congrArg (· + 1) r.length
theorem RpI.look (k : Int) : ∀ {es : List (L2.Key × V)} {kvs : List (Int × D)}, RpI Z F es kvs → (lookI k kvs = none ∧ valV es (Sum.inl k) = none) ∨ ∃ d v, lookI k kvs = some d ∧ valV es (Sum.inl k) = some v ∧ Rp Z F v d
  | _, _, .nil => .inl ⟨rfl, rfl⟩
  | _, _, .cons (k := j) (v := v) (d := d) h r => by
    unfold lookI
    by_cases e : j = k
    · subst e
      rw [if_pos rfl]
      exact .inr ⟨d, v, rfl, valV_pos rfl, h⟩
    · rw [if_neg e]
      rw [valV_neg (fun q => e (Sum.inl.inj q))]
      exact r.look k
theorem RpI.any (k : Int) : ∀ {es : List (L2.Key × V)} {kvs : List (Int × D)}, RpI Z F es kvs → (es.any fun kv => decide (kv.1 = Sum.inl k)) = kvs.any fun p => decide (p.1 = k)
  | _, _, .nil => rfl
  | _, _, .cons (k := j) h r => by
    rw [List.any_cons, List.any_cons, r.any k]
    congr 1
    by_cases e : j = k
    · subst e; simp
    · rw [decide_eq_false e, decide_eq_false (fun q => e (Sum.inl.inj q))]
theorem RpI.map (k : Int) {w : V} {x : D} (hw : Rp Z F w x) : ∀ {es : List (L2.Key × V)} {kvs : List (Int × D)}, RpI Z F es kvs → RpI Z F (es.map fun kv => if kv.1 = Sum.inl k then (kv.1, w) else kv) (kvs.map fun p => if p.1 = k then (p.1, x) else p)
  | _, _, .nil => .nil
  | _, _, .cons (k := j) h r => by
    rw [List.map_cons, List.map_cons]
    by_cases e : j = k
    · subst e
      rw [if_pos rfl, if_pos rfl]
      exact .cons hw (r.map j hw)
    · rw [if_neg e, if_neg (fun q => e (Sum.inl.inj q))]
      exact .cons h (r.map k hw)
theorem RpI.append {w : V} {x : D} {k : Int} (hw : Rp Z F w x) : ∀ {es : List (L2.Key × V)} {kvs : List (Int × D)}, RpI Z F es kvs → RpI Z F (es ++ [(Sum.inl k, w)]) (kvs ++ [(k, x)])
  | _, _, .nil => .cons hw .nil
  | _, _, .cons h r => .cons h (r.append hw)
theorem RpI.put {w : V} {x : D} (k : Int) (hw : Rp Z F w x) {es : List (L2.Key × V)} {kvs : List (Int × D)} (h : RpI Z F es kvs) : RpI Z F (L2.putK es (Sum.inl k) w) (putI k x kvs) := by
  unfold L2.putK putI
  rw [h.any k]
  split
  · exact h.map k hw
  · exact h.append hw
end
/-! ### {} -/
def mDci0 : M := fun env => .ok (.tmp (.dci [])) env
theorem em_dci0 {X : Cx} {W : WX} {pos : Pos} : EM X W (.Dict [] [] pos) mDci0 := ⟨pe_mono pe_dnewK fun σ H Q q => by
  obtain ⟨env, F, S, q⟩ := q
  intro p hn
  have n : New F H F (upd H p (.dK [])) := New.mine S.ex hn
  have rn : RepN (c3 X) H F (upd H p (.dK [])) (.ref p) true (.dci []) := ⟨_, rfl, hn, dom_of S.ex _ hn, [], upd_same, .nil⟩
  exact q _ _ F n.go (n.repS S) (n.repR (b := true) S rn) (New.frR (b := true) (fun _ h => h) rn)⟩
/-! ### d[k] = v -/
def storeI : D → D → D → Option D
  | .dci kvs, .int k, d => if kvs.length < szl then some (.dci (putI k d kvs)) else none
  | _, _, _ => none
def TStI (Z : C3) : TSet := fun o i v H Q => ∃ F a c kd d c', o = .ref a ∧ Ex F H ∧ F a = none ∧ Ow Z F H a c ∧ Rp Z F i kd ∧ Rp Z F v d ∧ storeI c kd d = some c' ∧ ∀ ob, Ow Z F (upd H a ob) a c' → Q (upd H a ob)
theorem set_stI {X : Cx} {k : Nat} (hr : Room k X.A) : PSet X (TStI (c3 X)) := by
  intro pins s σ H o i v ov iv u Q I ro ri rv ⟨F, a, c, kd, d, c', eo, ex, nF, ow, hi, hv, e, q⟩
  subst eo
  unfold storeI at e
  split at e
  · rename_i kvs k
    split at e
    · rename_i hz
      cases e
      obtain ⟨es, ha, rk⟩ := ow
      cases hi
      refine set_dict (by have := hr.un; omega) pins s σ H (.ref a) (.int k) v ov iv u Q I ro ri rv ⟨a, _, rfl, DPut.k (k := Sum.inl k) ha (by rw [rk.length]; exact szl_lt (Nat.le_of_lt hz)), q _ ⟨_, upd_same, rk.put k hv⟩⟩
    · cases e
  · cases e
def sPutI (me mo mk : M) : MS := fun env => (me env).andS fun r e1 => (mo e1).andS fun ro e2 => (mk e2).andS fun rk e3 => match ro, rk with
  | .slot i, .fro kd => (match r.take e3 with
    | some (d, e4) => (match (e4[i]?).bind SV.cont with
      | some c => (match storeI c kd d with
        | some c' => .nx (e4.modify i fun s => s.put c')
        | none => .stuck)
      | none => .stuck)
    | none => .stuck)
  | _, _ => .stuck
theorem sm_putI {X : Cx} {W : WX} {k : Nat} {o i e : Expr} {tpos pos : Pos} {me mo mk : M} (hr : Room k X.A) (he : EM X W e me) (ho : EM X W o mo) (hi : EM X W i mk)
    (ha : ∀ v, assign (.Subscript o i tpos) X.env v = (do
      let ov ← holding [v] (eval o X.env)
      let iv ← holding [v, ov] (eval i X.env)
      standAt tpos
      holding [v, ov, iv] (setItem ov iv v)
      release [v, ov, iv] []) := by intro _; rfl)
    (hs : swapsWithSole [.Subscript o i tpos] e pos.line X.env = pure false := by rfl) (hw : swappedStores [.Subscript o i tpos] e X.env = pure none := by rfl)
    (h1 : (assignEach [.Subscript o i tpos] X.env).map (·.2) = [assign (.Subscript o i tpos) X.env] := by rfl) : SM X W (.Assign [.Subscript o i tpos] e pos) (sPutI me mo mk) :=
  ⟨ps_mono (ps_asg he.pe (pg_sub ho.pe hi.pe (set_stI hr) ha) hs hw h1) fun D σ H q => by
    obtain ⟨env, F, S, q⟩ := q
    refine tE_andS' .refl S q fun r e1 v H1 F1 _ g1 S1 r1 f1 w1 => ?_
    refine tE_andS' g1 S1 w1 fun ro e2 vo H2 F2 g12 g2 S2 r2 f2 w2 => ?_
    refine tE_andS' g2 S2 w2 fun rk e3 vk H3 F3 g23 g3 S3 r3 f3 w3 => ?_
    cases ro with
    | fro _ => exact w3.elim
    | tmp _ => exact w3.elim
    | slot j =>
      cases rk with
      | slot _ => exact w3.elim
      | tmp _ => exact w3.elim
      | fro kd =>
        simp only at w3
        cases et : r.take e3 with
        | none => rw [et] at w3; exact w3.elim
        | some de =>
          obtain ⟨d, e4⟩ := de
          simp only [et] at w3
          have r1' := (r1.after g12).after g23
          obtain ⟨F4, g4, S4, p4, x4, _⟩ := RepR.take g3 S3 r1' f1 et
          cases ec : (e4[j]?).bind SV.cont with
          | none => rw [ec] at w3; exact w3.elim
          | some c =>
            simp only [ec] at w3
            cases es : storeI c kd d with
            | none => rw [es] at w3; exact w3.elim
            | some c' =>
              rw [es] at w3
              obtain ⟨s1, z1, z2⟩ := bind_cont ec
              obtain ⟨a, u1, u2, u3⟩ := S4.own j s1 c z1 z2
              have hv : σ[j]? = some (some vo) := r2
              rw [u1] at hv
              cases hv
              refine ⟨F4, a, c, kd, d, c', rfl, S4.ex, u2, u3, r3.mono x4, p4, es, fun ob ow => ?_⟩
              obtain ⟨g5, S5⟩ := mut_slot S4 z1 z2 u1 ow
              exact w3 σ _ F4 (g4.trans g5) S5⟩
/-! ### d.get(k, x) -/
def dGetI : D → List D → Option D
  | .dci kvs, [.int k, x] => some ((lookI k kvs).getD x)
  | _, _ => none
def RGetI (Z : C3) : V → List V → Hp → VK → Prop := fun x xs H Q => ∃ F d ds r, Ex F H ∧ Vw Z F H x d ∧ RpL Z F xs ds ∧ dGetI d ds = some r ∧ ∀ v, Rp Z F v r → Q v H
theorem mtd_getI {X : Cx} {k : Nat} (hr : Room k X.A) : MtR X "dict.get" (RGetI (c3 X)) := fun pins s σ H x xs v us Q I rx rv ⟨F, d, ds, r, ex, hx, hl, e, q⟩ => by
  unfold dGetI at e
  split at e
  · rename_i kvs k x0
    cases e
    cases hl with
    | cons h1 t1 =>
      cases t1 with
      | cons h2 t2 =>
        cases t2
        cases rv with
        | cons r1 w1 =>
          cases w1 with
          | cons r2 w2 =>
            cases w2
            obtain ⟨a, es, rfl, ha, rk⟩ := hx.dci ex
            cases rx
            cases h1
            refine d_get2 (by have := hr.un; omega) I (DGet.k (k := Sum.inl k) ha) r1 r2 fun w' s' I' rw' => ?_
            rcases rk.look k with ⟨e1, e2⟩ | ⟨d', z, e1, e2, e3⟩
            · rw [e2] at rw'
              rw [e1] at q
              exact ⟨_, H, I', rw', q _ h2⟩
            · rw [e2] at rw'
              rw [e1] at q
              exact ⟨z, H, I', rw', q _ e3⟩
  · cases e
def mGetI (mo : M) (t : MA) : M := fun env => (mo env).and fun r e => match r.see e, notTmp r with
  | some (.dci _), true => (t e).and fun rs e1 => (match takes e1 rs with
    | some (ds, e2) => (match r.see e2 with
      | some d => (match dGetI d ds with
        | some x => .ok (.fro x) e2
        | none => .stuck)
      | none => .stuck)
    | none => .stuck)
  | _, _ => .stuck
theorem tpx_dci {X : Cx} {a : Addr} {es : List (L2.Key × V)} {H : Hp} (h : H a = some (.dK es)) : TpX X "dict" (.ref a) H := fun pins s σ v I r => by
  cases r
  obtain ⟨hz, hs0, vs, kv, hdo⟩ := I.hok a _ h
  exact ⟨hdo.typeIs, hdo.mapOf.noDict⟩
theorem em_getI {X : Cx} {W : WX} {k : Nat} {o e : Expr} {es : List Expr} {mo : M} {t : MA} {apos cpos : Pos} (hr : Room k X.A) (ho : EM X W o mo) (ha : AM X W (e :: es) t)
    (hbase : attributeBase o "get" X.env (eval o X.env) = eval o X.env := by rfl)
    (hfew : ((backTo cpos (starEach (e :: es) X.env)).all (fun x => !x.1) && (backToKw cpos (keywordEach [] X.env)).all (fun x => x.1.isSome)
      && decide ((e :: es).length + ([] : List Keyword).length + (if ([] : List Keyword).isEmpty then 0 else 1) < 30)) = true := by rfl)
    (hline : (apos.endLine == cpos.line) = true := by rfl) (hs : starEach (e :: es) X.env = (false, eval e X.env) :: starEach es X.env := by rfl) (hplain : (backTo cpos (starEach es X.env)).any (·.1) = false := by rfl) :
    EM X W (.Call (.Attribute o "get" apos) (e :: es) [] cpos) (mGetI mo t) := ⟨pe_mono (pe_bd PySem.F.plainAttrs_dict PySem.F.slot_dict_get PySem.F.type_dict_get (mtd_getI hr) ho.pe ha.pa hbase hfew hline hs hplain) fun σ H Q q => by
  obtain ⟨env, F, S, q⟩ := q
  refine tE_and .refl S q fun r e1 v H1 F1 _ g1 gb1 S1 r1 f1 w1 => ?_
  cases es : r.see e1 with
  | none => rw [es] at w1; exact w1.elim
  | some d0 =>
    cases d0 with
    | dci kvs0 =>
      cases en : notTmp r with
      | false => simp only [es, en] at w1; exact w1.elim
      | true =>
        simp only [es, en] at w1
        obtain ⟨a, ee, rfl, ha', rk⟩ := (r1.see S1 es).dci S1.ex
        refine ⟨tpx_dci ha', ?_⟩
        refine tA_and gb1 S1 w1 fun rs e2 vs H2 F2 _ g2 gb2 S2 r2 w2 => ?_
        cases et : takes e2 rs with
        | none => rw [et] at w2; exact w2.elim
        | some de =>
          obtain ⟨ds, e3⟩ := de
          simp only [et] at w2
          obtain ⟨F3, g3, S3, p3, x3⟩ := (r2.back gb1.dom).take gb2 S2 et
          have r3 : RepR (c3 X) F3 H2 σ e3 (.ref a) r := r1.on en (g2.exF.trans x3)
          cases ed : r.see e3 with
          | none => rw [ed] at w2; exact w2.elim
          | some d =>
            simp only [ed] at w2
            cases eg : dGetI d ds with
            | none => rw [eg] at w2; exact w2.elim
            | some x =>
              rw [eg] at w2
              exact ⟨F3, d, ds, x, S3.ex, r3.see S3 ed, p3, eg, fun v rv => w2 v H2 F3 g3 S3 rv trivial⟩
    | _ => simp only [es] at w1; exact w1.elim⟩
end Gr
end
section
/-! t[::-1] of a tuple. -/
namespace HT
open PySem PySem.Spec PyProof.Rows
theorem fm_congr {α β : Type} {f g : α → Option β} : ∀ {l : List α}, (∀ k ∈ l, f k = g k) → l.filterMap f = l.filterMap g
  | [], _ => rfl
  | x :: l, h => by
    rw [List.filterMap_cons, List.filterMap_cons, h x (by simp), fm_congr fun k hk => h k (List.mem_cons_of_mem _ hk)]
theorem rev_pick (xs : Array Value) : ((List.range xs.size).filterMap fun (k : Nat) => xs[(((xs.size : Int) - 1) + (k : Int) * (-1)).toNat]?).toArray = xs.toList.reverse.toArray := by
  congr 1
  have e : ∀ k ∈ List.range xs.size, xs[(((xs.size : Int) - 1) + (k : Int) * (-1)).toNat]? = ((xs[·]?) ∘ fun k => xs.size - 1 - k) k := fun k hk => by
    have := List.mem_range.mp hk
    show _ = xs[xs.size - 1 - k]?
    rw [show (((xs.size : Int) - 1) + (k : Int) * (-1)).toNat = xs.size - 1 - k by omega]
  rw [fm_congr e, ← List.filterMap_map, PySem.W.krv_range, List.filterMap_reverse, PySem.W.krv_all]
section
variable {prog : Program} {w : World} {A : Around} {E : Value → Shared → Prop} {s : Shared}
theorem rev_places (n : Nat) : Builtin.Slice.slicePlaces ((n : Int) - 1) (-1) (-1) = n := by
  unfold Builtin.Slice.slicePlaces
  rw [if_neg (by decide)]
  split
  · rw [show (-(-1 : Int)) = 1 by decide, Int.ediv_one]
    omega
  · omega
theorem rev_applied {sl : Addr} {n : Nat} {vk : Value} {Q : Int × Int × Nat → Shared → Prop} (hs : s.heap.IsSliceOf sl .none .none vk) (pk : IsPart vk (some (-1))) (q : Q ((n : Int) - 1, -1, n) s) : wpAny (model prog w) A (Builtin.Slice.sliceApplied (.ref sl) (pure (n : Int))) Q E s := by
  obtain ⟨os, hos, hcs, hds⟩ := id hs
  unfold Builtin.Slice.sliceApplied Builtin.Slice.sliceFields
  refine wpAny_bind (wpAny_bind (wpAny_field hos hds (x := .none) rfl (wpAny_bind (wpAny_field hos hds (x := .none) rfl (wpAny_bind (wpAny_field hos hds (x := vk) rfl (wpAny_pure ?_)))))))
  refine wpAny_bind (slicePart_ pk ?_)
  show wpAny _ _ (if ((-1 : Int) == 0) = true then _ else _) _ _ s
  rw [if_neg (by decide)]
  refine wpAny_bind (slicePart_none (wpAny_bind (slicePart_none (wpAny_bind (wpAny_pure ?_)))))
  show wpAny _ _ (pure ((n : Int) - 1, (-1 : Int), Builtin.Slice.slicePlaces ((n : Int) - 1) (-1) (-1))) _ _ s
  rw [rev_places]
  exact wpAny_pure q
theorem getItem_tuple_rev {t sl : Addr} {items : Array Value} {vk : Value} {Q : Value → Shared → Prop} (ht : IsTup s.heap t items) (hs : s.heap.IsSliceOf sl .none .none vk) (pk : IsPart vk (some (-1)))
    (h : Q (.ref s.heap.objs.size) { s with heap := s.heap.push { cls := .type "tuple", data := .seq items.toList.reverse.toArray } })
    (hsz : items.size ≤ sizeLine) : wpAny (model prog w) A (getItem (.ref t) (.ref sl)) Q E s := by
  have htake : sizeOk (.seq items.toList.reverse.toArray) := by
    show items.toList.reverse.toArray.size ≤ sizeLine
    rw [List.size_toArray, List.length_reverse, Array.length_toList]
    exact hsz
  obtain ⟨os, hos, hcs, hds⟩ := id hs
  have hTs : s.TypeIs (.ref sl) "slice" := ⟨os, hos, hcs⟩
  unfold getItem
  try with_reducible refine wpAny_holding ?_
  first | refine wpAny_bind (wpAny_pure ?_) | skip
  refine wpAny_bind (wpAny_sequenceKey ht.typeIs (by decide) ?_)
  refine wpAny_bind (wpAny_callSpecial?_slot (name := Str.ofString "__getitem__") ht.typeIs PyProof.Rows.slot_tuple_getitem
    (wpAny_call_entry PyProof.Rows.slot_tuple_getitem ht.typeIs entry_tuple_getitem ?_ (args_tuple_getitem _ _)))
  show wpAny _ _ (Builtin.Tuple.tupleItemsOf (.ref t) >>= _) _ _ s
  refine wpAny_bind (tupleItemsOf_ ht ?_)
  refine wpAny_bind (wpAny_typeOf hTs ?_)
  rw [if_pos (by decide)]
  refine wpAny_bind (rev_applied hs pk ?_)
  have hno : ¬ ((((items.size : Int) - 1) == 0 && ((-1 : Int) == 1) && items.size == items.size) = true) := by
    intro q
    rw [Bool.and_eq_true, Bool.and_eq_true] at q
    exact absurd q.1.2 (by decide)
  show wpAny _ _ (if (((items.size : Int) - 1) == 0 && ((-1 : Int) == 1) && items.size == items.size) = true then _ else _) _ _ s
  rw [if_neg hno, rev_pick]
  first
    | exact wpAny_bind (m := Builtin.Tuple.tupleExact _) (wpAny_newObj_type (wpAny_pure ⟨_, rfl, wpAny_pure h⟩) htake)
    | exact wpAny_bind (m := Builtin.Tuple.tupleExact _) (wpAny_newObj_type (wpAny_bind (wpAny_pure (wpAny_pure ⟨_, rfl, wpAny_pure h⟩))) htake)
    | exact wpAny_bind (wpAny_bind (m := Builtin.Tuple.tupleExact _) (wpAny_newObj_type (wpAny_pure (wpAny_pure ⟨_, rfl, wpAny_pure h⟩)) htake))
    | exact wpAny_bind (wpAny_bind (m := Builtin.Tuple.tupleExact _) (wpAny_newObj_type (wpAny_pure ⟨_, rfl, wpAny_pure h⟩) htake))
end
end HT
namespace Gr
open PySem PySem.Spec PyProof.Rows L2
def tRv (K : PySem.W.Frag) (te : TE) (ts : TO) : TE := fun σ H Q => te σ H fun x H1 => ts σ H1 fun l H2 => l = some (-1) ∧ ∃ a xs, x = .ref a ∧ SqT K H2 a xs ∧ ∀ p, H2 p = none → Q (.ref p) (upd H2 p (.tup xs.reverse))
theorem pe_rv {X : Cx} {e st : Expr} {te : TE} {ts : TO} {p2 pos : Pos} (he : PE X e te) (hs : PO X (some st) ts) : PE X (.Subscript e (.Slice none none (some st) p2) pos) (tRv X.K te ts) := by
  refine ⟨fun pins s σ H Q I h => ?_⟩
  refine Subscript_ (thn (he.run pins s σ H _ I h) fun v s1 ⟨x, H1, I1, r1, q1⟩ => ?_)
  refine wpAny_Slice ?_
  rw [evalPart_none]
  refine wpAny_pure ?_
  refine wpAny_pure ?_
  refine thn (hs.run pins s1 σ H1 _ I1 q1) fun vk s3 ⟨l, H3, I3, pk, q3⟩ => ?_
  obtain ⟨rfl, a, xs, rfl, hx, q⟩ := q3
  cases r1
  have I4 : Inv X pins σ H3 { s3 with heap := s3.heap.push { cls := .type "slice", data := .fields #[.none, .none, vk] } } := I3.kept (t' := s3.toks) fun b ob q => Heap.get?_push_of_some _ q
  obtain ⟨its, r, ht, hz⟩ := I4.tuple hx
  show wpAny (model X.prog X.w) X.A (subscriptTail e (.Slice none none (some st) p2) (.ref a) (.ref s3.heap.objs.size)) (EP X pins σ Q) X.xe { s3 with heap := s3.heap.push { cls := .type "slice", data := .fields #[.none, .none, vk] } }
  refine tail_any (ops := [.ref a, .ref s3.heap.objs.size]) ht.typeIs PyProof.Rows.slot_tuple_getitem.lookup (HT.getItem_tuple_rev ht (Heap.IsSliceOf.new ..) pk ?_ ?_) (by with_unfolding_all rfl)
  · refine ⟨.ref _, _, I4.laid (t' := s3.toks) (o := .tup xs.reverse) (fun b ob q => Heap.get?_push_of_some _ q) (Nat.le_refl _) ?_, rfl, q _ (I4.hok.fresh (Nat.le_refl _))⟩
    exact ⟨by rw [List.length_reverse]; exact hz, _, r.reverse, IsTup.new _ _⟩
  · rw [List.size_toArray, ← r.length]
    exact hz
def mRv (ma ms : M) : M := fun env => (ma env).and fun r e => mPart (some ms) e fun l e1 => match l, r.see e1 with
  | some (-1), some (.tup ds) => outR (some (false, .tup ds.reverse)) e1
  | _, _ => .stuck
theorem em_rv {X : Cx} {W : WX} {a st : Expr} {p2 pos : Pos} {ma ms : M} (ha : EM X W a ma) (hs : EM X W st ms) : EM X W (.Subscript a (.Slice none none (some st) p2) pos) (mRv ma ms) :=
  ⟨pe_mono (pe_rv ha.pe (om_some hs).t) fun σ H Q q => by
    obtain ⟨env, F, S, q⟩ := q
    refine tE_and .refl S q fun r e1 v H1 F1 q1 g1 gb1 S1 r1 f1 w1 => ?_
    refine t_part gb1 S1 w1 fun l e2 H2 F2 g2 gb2 S2 w2 => ?_
    split at w2
    · rename_i ds e
      have vw := RepR.see S2 (r1.after g2) e
      obtain ⟨a, xs, rfl, ha, ra⟩ := vw.tup S2.ex
      exact ⟨rfl, a, xs, rfl, ha, fun p hp => Wi.out gb2 (d := .tup ds.reverse) (o := some (false, .tup ds.reverse)) w2 rfl S2 (New.froz S2.ex hp) (RepN.newT S2.ex hp ra.reverse)⟩
    · exact w2.elim⟩
/-! ### tuple * int -/
def dRepT : F2
  | .tup ds, .int k => if (!ds.isEmpty && (decide (2 ≤ k) && (decide (k ≤ 1000) && decide (ds.length ≤ 1000)))) = true then some (false, .tup (List.replicate k.toNat ds).flatten) else none
  | _, _ => none
theorem od_repT {X : Cx} : OpR X (binaryOp .Mult) (RD (c3 X) dRepT) := rd_of fun pins s σ F H x y v u Q da db b d I rx ry ex hx hy e k => by
  unfold dRepT at e
  split at e
  · rename_i ds j
    split at e
    · rename_i h
      cases e
      simp only [Bool.and_eq_true, decide_eq_true_eq, Bool.not_eq_true'] at h
      obtain ⟨h0, h1, h2, h3⟩ := h
      rw [hy.int] at ry
      obtain ⟨a, xs, rfl, ha, ra⟩ := hx.tup ex
      refine op_repT pins s σ H _ _ v u Q I rx ry ⟨a, j, xs, rfl, rfl, ha, fun z => ?_, h1, h2, by rw [ra.length]; exact h3, fun p hp => k _ _ _ (New.froz ex hp) (RepN.newT ex hp (ra.rep _))⟩
      subst z
      cases ra
      cases h0
    · cases e
  · cases e
theorem em_repT {X : Cx} {W : WX} {a b : Expr} {pos : Pos} {ma mb : M} (ha : EM X W a ma) (hb : EM X W b mb) : EM X W (.BinOp a .Mult b pos) (m2 dRepT ma mb) := em_op od_repT ha hb
end Gr
end
section
/-! try: .. except A: return d; except GridError as e: return which(e). -/
namespace Gr
open PySem PySem.Spec PyProof.Rows L2
def wTwo (K : PySem.W.Frag) (c1 c2 : Value) (i : Nat) (t1 t2 : Addr → Value → Option Addr → TS) (Wout : L2.WX) (D : Ends) : L2.WX := fun cls d σ H =>
  ∃ b, PySem.W.exmOne K cls c1 = some b ∧ (b = true → ∀ a, H a = none → t1 a cls d D σ H) ∧ (b = false → wAs K c2 i t2 Wout D cls d σ H)
section
variable {X : Cx} {x1 x n : Str} {c1 c : Value} {i : Nat} {body su1 suite : List Stmt} {b1 b₀ : Stmt} {np1 np pos1 pos' pos : Pos} {tb : L2.WX → TS} {t1 ts : Addr → Value → Option Addr → TS} {Wout : L2.WX}
theorem ps_two (hs : X.stack = X.env :: X.outer) (hf : X.env.frame = some X.env.locals) (hN : X.N.Nodup) (hi : X.N[i]? = some n) (hln : X.env.kindOf n = some .local) (hc1 : Names X x1 c1) (hc : Names X x c) (tk : L2.Takes X Wout)
    (hb : ∀ (W : L2.WX) (pn : List (Addr × Obj)) (xe : Value → Shared → Prop), L2.Takes (X.tr pn xe) W → PassesOwn (model X.prog X.w) X.A X.env xe → PSs (X.tr pn xe) body (tb W))
    (hs1 : ∀ (a : Addr) (oe : Obj) (cls : Value) (d : Option Addr) (pn : List (Addr × Obj)), Zc cls d oe → (∃ vs, oe.data = .fields vs) → PSs (X.suite a ((a, oe) :: pn)) (b1 :: su1) (t1 a cls d))
    (hsu : ∀ (a : Addr) (oe : Obj) (cls : Value) (d : Option Addr) (pn : List (Addr × Obj)), Zc cls d oe → (∃ vs, oe.data = .fields vs) → PSs (X.suite a ((a, oe) :: pn)) (b₀ :: suite) (ts a cls d)) :
    PS X (.Try body [.ExceptHandler (some (.Name x1 np1)) none (b1 :: su1) pos1, .ExceptHandler (some (.Name x np)) (some n) (b₀ :: suite) pos'] [] [] pos) (fun D σ H => tb (wTwo X.K c1 c i t1 ts Wout D) D σ H) := by
  refine ⟨fun pins s σ H D I h => ?_⟩
  have ok := I.ok
  have hfr : X.A.frames = some (X.env :: X.outer) := by rw [ok.frames, hs]
  have hloc : Loc X.env.scope n := .inl hln
  refine wpAny_Try_except ?_
  refine wpAny_mono ((hb (wTwo X.K c1 c i t1 ts Wout D) (X.pn ++ pins) (fun e s₁ => wpAny (model X.prog X.w) X.A (noteFrame e X.env) (fun _ s₂ => wpAny (model X.prog X.w) X.A (setFlight e none) (fun _ s₃ =>
    wpAny (model X.prog X.w) X.A (handleBy e X.env [.ExceptHandler (some (.Name x1 np1)) none (b1 :: su1) pos1, .ExceptHandler (some (.Name x np)) (some n) (b₀ :: suite) pos']) (SP X pins D) X.xe s₃) X.xe s₂) X.xe s₁) (fun u s' xx => ?_) PassesOwn.looking).run [] s σ H D (I.toTry _) h) (fun f s1 hsp => ?_) (fun e s1 he => he)
  · obtain ⟨a, B, sI, pins', σ', H', cls, d, rfl, J', nb, up, sky, na, os, ag, p1, hp1, yes1, no1⟩ := xx
    have J : L2.Inv X pins σ' H' sI := J'.ofTry ok
    have sky' : Sky B (X.env :: X.outer) a (Zc cls d) X.env.locals s'.heap := by rw [← hs]; exact sky
    show wpAny (model X.prog X.w) X.A (noteFrame (.ref a) X.env) _ _ _
    refine Sky.land Zc.steady hfr hf sky' fun h3 fl3 up3 => ?_
    have J3 : L2.Inv X pins σ' H' { s' with heap := h3 } := J.landed nb fl3.1 (up.trans up3) os ag
    obtain ⟨oe3, vs3, he3, hz3, hd3⟩ := fl3.there
    have nfr : a ∉ frs (X.env :: X.outer) := fun hm => by
      obtain ⟨_, o', e', hnf⟩ := fl3.2.2.1.mem hm
      rw [he3] at e'; cases e'
      exact hnf _ hd3
    have nL : a ≠ X.env.locals := fun z => nfr (List.mem_filterMap.mpr ⟨X.env, List.mem_cons_self, by rw [hf, z]⟩)
    have nF : a ∉ X.fs := fun hm => by
      obtain ⟨e, he, q⟩ := List.mem_filterMap.mp hm
      exact nfr (List.mem_filterMap.mpr ⟨e, List.mem_cons_of_mem _ he, q⟩)
    have S3 := J3.suite he3 hd3 na nL nF
    have LT : PySem.W.Looks (model X.prog X.w) h3 (typeOf (.ref a)) cls := fun A Q E s k q => wpAny_typeOf_ref (k _ _ he3) (by rw [hz3.1]; exact q)
    have test : ∀ {y : Str} {cy : Value} {py : Pos} {Q : Value → Shared → Prop} {E : Value → Shared → Prop}, Names X y cy → Q cy { s' with heap := h3 } → wpAny (model X.prog X.w) (X.A.mark (some (.ref a))) (eval (.Name y py) X.env) Q E { s' with heap := h3 } := fun {y cy py Q E} hy q => by
      obtain ⟨hg, hdbg, hm | ⟨hm, hv, hnn⟩⟩ := hy
      · exact ld_glob (X := X.suite a ((a, oe3) :: (X.pn ++ pins))) S3 hg hm q hdbg
      · exact ld_blt (X := X.suite a ((a, oe3) :: (X.pn ++ pins))) S3 hg hm hv q hnn hdbg
    refine wpAny_handleBy_cons (codeAny_handlers_test ?_) (by intro q; cases q)
    refine test hc1 ((PySem.W.exm_one (M := model X.prog X.w) (J3.kIn) LT hp1).here ?_)
    cases p1 with
    | true =>
      refine codeAny_handlers_suite ?_
      refine HandSPX.lands_againZ fl3 fun h4 fl4 up4 => ?_
      have J4 : L2.Inv X pins σ' H' { s' with heap := h4 } := J.landed nb fl4.1 ((up.trans up3).trans up4) os ag
      obtain ⟨oe4, vs4, he4, hz4, hd4⟩ := fl4.there
      have S4 := J4.suite he4 hd4 na nL nF
      refine wpAny_mono ((hs1 a oe4 cls d (X.pn ++ pins) hz4 ⟨_, hd4⟩).run [] _ _ H' _ S4 (yes1 rfl a na)) (fun f s6 hsp => ?_) (fun _ _ z => False.elim z)
      cases f with
      | next =>
        obtain ⟨σ6, H6, S6, q6⟩ := hsp
        exact ⟨_, _, S6.unsuite ok, q6⟩
      | brk =>
        obtain ⟨σ6, H6, S6, q6⟩ := hsp
        exact ⟨_, _, S6.unsuite ok, q6⟩
      | cont =>
        obtain ⟨σ6, H6, S6, q6⟩ := hsp
        exact ⟨_, _, S6.unsuite ok, q6⟩
      | ret u =>
        obtain ⟨v6, σ6, H6, S6, r6, q6⟩ := hsp
        exact ⟨_, _, _, S6.unsuite ok, r6, q6⟩
    | false =>
      show wpAny _ X.A (handleBy (.ref a) X.env [.ExceptHandler (some (.Name x np)) (some n) (b₀ :: suite) pos']) _ _ _
      obtain ⟨p2, hp2, yes2, no2⟩ := no1 rfl
      refine wpAny_handleBy_cons (codeAny_handlers_test ?_) (by intro q; cases q)
      refine test hc ((PySem.W.exm_one (M := model X.prog X.w) (J3.kIn) LT hp2).here ?_)
      cases p2 with
      | true =>
        refine codeAny_handlers_suite_as ?_
        refine HandSPX.lands_againZ fl3 fun h4 fl4 up4 => ?_
        have J4 : L2.Inv X pins σ' H' { s' with heap := h4 } := J.landed nb fl4.1 ((up.trans up3).trans up4) os ag
        obtain ⟨oe4, vs4, he4, hz4, hd4⟩ := fl4.there
        have S4 := J4.suite he4 hd4 na nL nF
        refine store_ok (X := X.suite a ((a, oe4) :: (X.pn ++ pins))) (v := .ref a) S4 hN hi hloc rfl (fun s5 S5 => ?_) (.inr hln)
        refine wpAny_mono ((hsu a oe4 cls d (X.pn ++ pins) hz4 ⟨_, hd4⟩).run [] s5 _ H' _ S5 (yes2 rfl a na)) (fun f s6 hsp => ?_) (fun _ _ z => False.elim z)
        have end_ : ∀ {σ6 : L2.St} {H6 : Hp} {Q : Shared → Prop}, L2.Inv (X.suite a ((a, oe4) :: (X.pn ++ pins))) [] σ6 H6 s6 → (∀ s7, L2.Inv X pins (σ6.set i none) H6 s7 → Q s7) →
            wpAny (model X.prog X.w) X.A (do bindName X.env n .none; unbindBehindTheSuite X.env n pos') (fun _ s7 => Q s7) X.xe s6 := fun {σ6 H6 Q} S6 hq => gone_ok (S6.unsuite ok) hN hi hln hq
        cases f with
        | next =>
          obtain ⟨σ6, H6, S6, q6⟩ := hsp
          exact end_ S6 fun s7 J7 => ⟨_, _, J7, q6⟩
        | brk =>
          obtain ⟨σ6, H6, S6, q6⟩ := hsp
          exact end_ S6 fun s7 J7 => ⟨_, _, J7, q6⟩
        | cont =>
          obtain ⟨σ6, H6, S6, q6⟩ := hsp
          exact end_ S6 fun s7 J7 => ⟨_, _, J7, q6⟩
        | ret u =>
          obtain ⟨v6, σ6, H6, S6, r6, q6⟩ := hsp
          exact end_ S6 fun s7 J7 => ⟨_, _, _, J7, r6, q6⟩
      | false =>
        show wpAny _ X.A (handleBy (.ref a) X.env []) _ _ _
        refine wpAny_handleBy_nil ?_
        obtain ⟨k1, k2, k3, oe, vs, T, oT, ts', he, hz, hd, h1, hr⟩ := id fl3
        unfold PySem.passOn
        refine wpAny_bind (wpAny_field he hd h1 ?_)
        rw [if_neg (show ¬ ((Value.ref T == Value.none) = true) from by simp)]
        have fin : wpAny (model X.prog X.w) X.A (setFlight (.ref a) X.env.frame) (fun _ s4 => wpAny (model X.prog X.w) X.A (throw (.ref a) : Sem Flow) (SP X pins D) X.xe s4) X.xe { s' with heap := h3 } := by
          rw [hf]
          refine HandSPX.setFlight_upZ fl3 fun h4 hh4 up4 => wpAny_throw (tk _ _ ?_)
          exact ⟨a, B, sI, pins, σ', H', cls, d, rfl, J, nb, (up.trans up3).trans up4, .inr (.inr (by rw [hs]; exact hh4)), na, os, ag, no2 rfl⟩
        first
          | exact wpAny_bind (wpAny_pure (wpAny_bind fin))
          | exact wpAny_bind fin
  · cases f with
    | next =>
      obtain ⟨σ', H', J', q⟩ := hsp
      exact wpAny_execs_nil ⟨σ', H', J'.ofTry ok, q⟩
    | brk =>
      obtain ⟨σ', H', J', q⟩ := hsp
      exact ⟨σ', H', J'.ofTry ok, q⟩
    | cont =>
      obtain ⟨σ', H', J', q⟩ := hsp
      exact ⟨σ', H', J'.ofTry ok, q⟩
    | ret u =>
      obtain ⟨v, σ', H', J', r, q⟩ := hsp
      exact ⟨v, σ', H', J'.ofTry ok, r, q⟩
end
def sTry2 (cs : List Nat) (i : Nat) (d1 : D) (fw : FS) (b : MS) : MS := fun env => match b env with
  | .exc c e => if cs.contains c = true ∧ i < e.length then (if (c == 14) = true then .rt (.fro d1) e else (match fw [.exo c] with
    | .ok d [] => if isTI d = true then .rt (.fro d) e else .stuck
    | _ => .stuck)) else .stuck
  | o => o
/-- the first suite's wish -/
def tsD (x : Str) (j : Int) (a : Addr) (cls : Value) (d : Option Addr) : TS := fun D σ H => ∀ p, H p = none → D.rt (.ref p) (upd H p (.tup [.str x, .int j]))
theorem suite_d {X : Cx} {x : Str} {j : Int} {j1 j2} {kk} {q1 q2 q3 q4 : Pos} (a : Addr) (oe : Obj) (cls : Value) (d : Option Addr) (pn : List (Addr × Obj)) :
    PSs (X.suite a ((a, oe) :: pn)) [.Return (some (.Tuple [.Constant (.str x) j1 q1, .Constant (.int j) j2 q2] kk q3)) q4] (tsD x j a cls d) := by
  have pe : PE (X.suite a ((a, oe) :: pn)) (.Tuple [.Constant (.str x) j1 q1, .Constant (.int j) j2 q2] kk q3) (tTup (tCons (tC (.str x)) (tCons (tC (.int j)) tNil))) := pe_tup (pa_cons pe_str (pa_cons pe_int pa_nil rfl) rfl)
  refine pss_mono (pss_one (ps_ret pe)) fun D σ H q => ?_
  exact ⟨(show 2 ≤ sizeLine by decide), fun p hp => q p hp⟩
section
variable {X : Cx} {W : WX} {cs : List Nat} {i k : Nat} {n wh : Str} {f G L : Addr} {fd : FuncData} {ps : List Str} {fw : FS} {np np1 p p1 p2 p3 pos pos1 pos' q1 q2 q3 q4 : Pos} {body : List Stmt} {mb : MS} {x : Str} {j : Int} {j1 j2} {kk}
theorem sm_try2 (hc : X.calm = true) (hst : X.stack = X.env :: X.outer) (hfr : X.env.frame = some X.env.locals) (hN : X.N.Nodup) (gl : GlOk X.K X.mg) (hG : glV X.K "GridError" = some (.ref G)) (hgG : Gl X "GridError") (hL : glV X.K "InvalidLabel" = some (.ref L)) (hgL : Gl X "InvalidLabel")
    (catch_ : (cs.all fun c => decide (PySem.W.exmOne X.K (cvOf X.K c) (.ref G) = some true)) = true) (lab : (cs.all fun c => decide (PySem.W.exmOne X.K (cvOf X.K c) (.ref L) = some (c == 14))) = true) (tk : L2.Takes X (Lw (cvOf X.K) W))
    (Fw : FnE X.prog X.w X.K X.mg X.base (L2.CX X.prog X.w) k f fd ps (fun p => spF ⟨X.prog, X.w, X.K, [p]⟩ (cvOf X.K) [false] false fw)) (hr : Room k X.A) (hg : Gl X wh) (hm : X.mg wh = some (.ref f)) (kp : PySem.W.keepIn X.K (.ref f) = true) (hb : Binds X.K fd ps [])
    (hbody : ∀ (W' : WX) (pn : List (Addr × Obj)) (xe : Value → Shared → Prop), L2.Takes (X.tr pn xe) (Lw (cvOf X.K) W') → PassesOwn (model X.prog X.w) X.A X.env xe → SMs (X.tr pn xe) W' body mb)
    (hi : X.N[i]? = some n := by rfl) (hln : X.env.kindOf n = some .local := by rfl) (hd : (n == ("__debug__" : Str)) = false := by decide) (hcd : (n == ("__classdict__" : Str)) = false := by decide) (hdw : (wh == ("__debug__" : Str)) = false := by decide)
    (he : starEach [.Name n p1] X.env = [(false, eval (.Name n p1) X.env)] := by rfl) :
    SM X W (.Try body [.ExceptHandler (some (.Name "InvalidLabel" np1)) none [.Return (some (.Tuple [.Constant (.str x) j1 q1, .Constant (.int j) j2 q2] kk q3)) q4] pos1, .ExceptHandler (some (.Name "GridError" np)) (some n) [.Return (some (.Call (.Name wh p) [.Name n p1] [] p2)) p3] pos'] [] [] pos) (sTry2 cs i (.tup [.str x, .int j]) fw mb) := by
  have main := ps_two (X := X) (x1 := "InvalidLabel") (x := "GridError") (n := n) (c1 := .ref L) (c := .ref G) (i := i) (body := body) (su1 := []) (suite := []) (b1 := .Return (some (.Tuple [.Constant (.str x) j1 q1, .Constant (.int j) j2 q2] kk q3)) q4) (b₀ := .Return (some (.Call (.Name wh p) [.Name n p1] [] p2)) p3) (np1 := np1) (np := np) (pos := pos) (pos1 := pos1) (pos' := pos') (Wout := Lw (cvOf X.K) W)
    (tb := fun W' => tS (c3 X) (fun c σ H => W' (cvOf X.K c) none σ H) mb) (t1 := tsD x j) (ts := tsW (c3 X) (cvOf X.K) i fw)
    hst hfr hN hi hln ⟨hgL, by decide, .inl (gl _ _ hL)⟩ ⟨hgG, by decide, .inl (gl _ _ hG)⟩ tk
    (fun W' pn xe tk' ps' => by
      have b := (hbody (fun c σ H => W' (cvOf X.K c) none σ H) pn xe (tk'.imp fun cls d σ H ⟨c, e1, e2, z⟩ => by subst e1; subst e2; exact z) ps').pss
      rwa [c3_tr hc] at b)
    (fun a oe cls d pn _ _ => suite_d a oe cls d pn)
    (fun a oe cls d pn hz hf => suite_ok (X := X) (i := i) hi (.inl hln) hd hcd Fw hr hg hm kp hb hdw he a oe cls d pn hz hf)
  refine ⟨ps_mono main fun D σ H q => ?_⟩
  obtain ⟨env, F, S, q⟩ := q
  refine ⟨env, F, S, ?_⟩
  unfold sTry2 at q
  cases em : mb env with
  | nx e => rw [em] at q; exact q
  | rt r e => rw [em] at q; exact q
  | bk e => rw [em] at q; exact q
  | ct e => rw [em] at q; exact q
  | stuck => rw [em] at q; exact q
  | exc c e1 =>
    simp only [em] at q
    intro σ1 H1 F1 g1 S1
    by_cases hcs : cs.contains c = true ∧ i < e1.length
    · rw [if_pos hcs] at q
      have ex := List.all_eq_true.mp catch_ c (List.contains_iff_mem.mp hcs.1)
      have exl := List.all_eq_true.mp lab c (List.contains_iff_mem.mp hcs.1)
      refine ⟨(c == 14), of_decide_eq_true exl, fun h14 a ha p hp => ?_, fun h14 => ?_⟩
      · rw [if_pos h14] at q
        have rn : RepN (c3 X) H1 (upd F1 p (.tup [.str x, .int j])) (upd H1 p (.tup [.str x, .int j])) (.ref p) false (.tup [.str x, .int j]) := RepN.newT S1.ex hp (.cons (.str _) (.cons (.int _) .nil))
        have nw : New F1 H1 (upd F1 p (.tup [.str x, .int j])) (upd H1 p (.tup [.str x, .int j])) := New.froz S1.ex hp
        exact q _ σ1 _ _ (g1.trans nw.go) (nw.repS S1) rn trivial
      · rw [h14, if_neg (by decide)] at q
        refine ⟨true, of_decide_eq_true ex, fun _ a ha => ?_, fun z => by cases z⟩
        cases ef : fw [.exo c] with
        | stuck => rw [ef] at q; exact q.elim
        | exc _ _ => rw [ef] at q; exact q.elim
        | ok r bs =>
          cases bs with
          | cons _ _ => rw [ef] at q; exact q.elim
          | nil =>
            simp only [ef] at q
            by_cases ht : isTI r = true
            · rw [if_pos ht] at q
              refine ⟨c, r, F1, rfl, rfl, List.getElem?_set_self (by rw [← S1.len]; exact hcs.2), S1.ex, ef, ht, fun v H' F' nw rv => ?_⟩
              exact q v σ1 H' F' (g1.trans nw.go) (nw.repS S1) rv trivial
            · rw [if_neg ht] at q; exact q.elim
    · rw [if_neg hcs] at q; exact q.elim
end
end Gr
end
section
namespace GP
open PySem PySem.Spec PyProof.Rows L2 Gr
def gd_STEPS : D := .tup [.tup [.int (-1), .int (0), .int (1)], .tup [.int (-1), .int (1), .int (0)], .tup [.int (0), .int (-1), .int (1)], .tup [.int (0), .int (1), .int (-1)], .tup [.int (1), .int (-1), .int (0)], .tup [.int (1), .int (0), .int (-1)]]
def m_is_integer : MS := (sRet (mAnd (mB dIsi (aCons (mVar 0) (aCons (mGl (.opq (.ty "int"))) aNil))) (mAnd (mNot (mB dIsi (aCons (mVar 0) (aCons (mGl (.opq (.ty "bool"))) aNil)))) (mCh dLe dLe (mVar 1) (mVar 0) (mVar 2)))))
def fs_is_integer : FS := fBody 3 [false, false, false] false m_is_integer
def m_point_list : MS := (sSeq (sSet 1 (mLst aNil)) (sSeq (sFor (iRange dR1 (aCons (m2 dAdd (mVar 0) (mC (.int 1))) aNil)) (gN 2) (sExpr (mExt (mVar 1) (aCons (mLc [3] (iRange dR1 (aCons (m2 dAdd (m2 dSub (mVar 0) (mVar 2)) (mC (.int 1))) aNil)) (gN 3) tmYes (mTup (aCons (mVar 2) (aCons (mVar 3) (aCons (m2 dSub (m2 dSub (mVar 0) (mVar 2)) (mVar 3)) aNil))))) aNil)))) (sRet (mVar 1))))
def fs_point_list : FS := fBody 4 [false] false m_point_list
def m_moved : MS := (sRet (mTup (aCons (m2 dAdd (m2 dIx (mVar 0) (mC (.int 0))) (m2 dIx (mVar 1) (mC (.int 0)))) (aCons (m2 dAdd (m2 dIx (mVar 0) (mC (.int 1))) (m2 dIx (mVar 1) (mC (.int 1)))) (aCons (m2 dAdd (m2 dIx (mVar 0) (mC (.int 2))) (m2 dIx (mVar 1) (mC (.int 2)))) aNil)))))
def fs_moved : FS := fBody 2 [false, false] false m_moved
def m_round_list : MS := (sSeq (sSet 1 (mLc [2] (iRange dR1 (aCons (mVar 0) aNil)) (gN 2) tmYes (mTup (aCons (m2 dSub (mVar 0) (mVar 2)) (aCons (mVar 2) (aCons (mC (.int 0)) aNil)))))) (sSeq (sExpr (mExt (mVar 1) (aCons (mLc [2] (iRange dR1 (aCons (mVar 0) aNil)) (gN 2) tmYes (mTup (aCons (mC (.int 0)) (aCons (m2 dSub (mVar 0) (mVar 2)) (aCons (mVar 2) aNil))))) aNil))) (sSeq (sExpr (mExt (mVar 1) (aCons (mLc [2] (iRange dR1 (aCons (mVar 0) aNil)) (gN 2) tmYes (mTup (aCons (mVar 2) (aCons (mC (.int 0)) (aCons (m2 dSub (mVar 0) (mVar 2)) aNil))))) aNil))) (sRet (mVar 1)))))
def fs_round_list : FS := fBody 3 [false] false m_round_list
def m__law_cell_at : MS := (sSeq (sIf (tmV (m2 dLt (mVar 1) (mB dLen (aCons (mVar 0) aNil)))) (sRet (m2 dIx (mVar 0) (mVar 1))) sNil) (sSeq (sIf (tmV (m2 dEq (mVar 0) (mLst aNil))) (sRet (mC (.int 0))) sNil) (sSeq (sSet 2 (m2 dIx (mVar 0) (m2 dMod (mVar 1) (mB dLen (aCons (mVar 0) aNil))))) (sSeq (sFor (iRange dR1 (aCons (mB dMin (aCons (m2 dDiv (mVar 1) (mB dLen (aCons (mVar 0) aNil))) (aCons (mC (.int 60)) aNil))) aNil)) (gN 3) (sSet 2 (m2 dDiv (mVar 2) (mC (.int 1000003))))) (sRet (m2 dAdd (m2 dAdd (m2 dMul (m2 dIx (mVar 0) (m2 dMod (mVar 1) (mB dLen (aCons (mVar 0) aNil)))) (mC (.int 31))) (mVar 1)) (m2 dMul (mVar 2) (mC (.int 101)))))))))
def fs__law_cell_at : FS := fBody 4 [false, false] false m__law_cell_at
def m__law_places : MS := (sSeq (sSet 1 (mLst aNil)) (sSeq (sFor (iRange dR1 (aCons (m2 dAdd (mVar 0) (mC (.int 1))) aNil)) (gN 2) (sExpr (mExt (mVar 1) (aCons (mLc [3] (iRange dR1 (aCons (m2 dSub (m2 dAdd (mVar 0) (mC (.int 1))) (mVar 2)) aNil)) (gN 3) tmYes (mTup (aCons (mVar 2) (aCons (mVar 3) (aCons (m2 dSub (m2 dSub (mVar 0) (mVar 2)) (mVar 3)) aNil))))) aNil)))) (sRet (mVar 1))))
def fs__law_places : FS := fBody 4 [false] false m__law_places
def m__law_near : MS := (sRet (m2 dEq (mB dSorted (aCons (mLc [2, 3] (iZip (aCons (mVar 0) (aCons (mVar 1) aNil))) (gT [2, 3]) tmYes (m2 dSub (mVar 2) (mVar 3))) aNil)) (mLst (aCons (m1 dNeg (mC (.int 1))) (aCons (mC (.int 0)) (aCons (mC (.int 1)) aNil))))))
def fs__law_near : FS := fBody 4 [false, false] false m__law_near
def m__law_around : MS := (sSeq (sSet 1 (m2 dAdd (mLc [2] (iRange dR1 (aCons (mVar 0) aNil)) (gN 2) tmYes (mTup (aCons (m2 dSub (mVar 0) (mVar 2)) (aCons (mVar 2) (aCons (mC (.int 0)) aNil))))) (mLc [2] (iRange dR1 (aCons (mVar 0) aNil)) (gN 2) tmYes (mTup (aCons (mC (.int 0)) (aCons (m2 dSub (mVar 0) (mVar 2)) (aCons (mVar 2) aNil))))))) (sRet (m2 dAdd (mVar 1) (mLc [2] (iRange dR1 (aCons (mVar 0) aNil)) (gN 2) tmYes (mTup (aCons (mVar 2) (aCons (mC (.int 0)) (aCons (m2 dSub (mVar 0) (mVar 2)) aNil))))))))
def fs__law_around : FS := fBody 3 [false] false m__law_around
def m_fits : MS := (sRet (m2 dGt (m2 dIx (mVar 0) (mVar 1)) (mC (.int 0))))
def fs_fits : FS := fBody 2 [false, false] false m_fits
def m_is_full : MS := (sRet (m2 dEq (mB dSorted (aCons (mLc [2] (iSeq (mVar 1)) (gN 2) tmYes (m2 dIx (mVar 0) (mVar 2))) aNil)) (mLst (aCons (mC (.int 0)) (aCons (mC (.int 1)) (aCons (mC (.int 2)) aNil))))))
def fs_is_full : FS := fBody 3 [false, false] false m_is_full
def m__law_same_truth : MS := (sRet (mAnd (mB dIsi (aCons (mVar 0) (aCons (mGl (.opq (.ty "bool"))) aNil))) (m2 dEq (mVar 0) (mVar 1))))
def fs__law_same_truth : FS := fBody 2 [false, false] false m__law_same_truth
def m__law_full_here : MS := (sRet (m2 dEq (mB dSorted (aCons (mLc [2] (iSeq (mVar 1)) (gN 2) tmYes (m2 dIx (mVar 0) (mVar 2))) aNil)) (mLst (aCons (mC (.int 0)) (aCons (mC (.int 1)) (aCons (mC (.int 2)) aNil))))))
def fs__law_full_here : FS := fBody 3 [false, false] false m__law_full_here
def m_turn : MS := (sRet (m2 dIx (mLst (aCons (mC (.int 0)) (aCons (mC (.int 1)) (aCons (m1 dNeg (mC (.int 1))) aNil)))) (m2 dMod (m2 dSub (mVar 1) (mVar 0)) (mC (.int 3)))))
def fs_turn : FS := fBody 2 [false, false] false m_turn
def m_is_door : MS := (sRet (m2 dEq (mB dSorted (aCons (mLc [3] (iSeq (mVar 2)) (gN 3) tmYes (m2 dIx (mVar 0) (mVar 3))) aNil)) (mB dList (aCons (mVar 1) aNil))))
def fs_is_door : FS := fBody 4 [false, false, false] false m_is_door
def m__law_same_number : MS := (sRet (mAnd (mB dIsi (aCons (mVar 0) (aCons (mGl (.opq (.ty "int"))) aNil))) (mAnd (mNot (mB dIsi (aCons (mVar 0) (aCons (mGl (.opq (.ty "bool"))) aNil)))) (m2 dEq (mVar 0) (mVar 1)))))
def fs__law_same_number : FS := fBody 2 [false, false] false m__law_same_number
def m__law_sign_here : MS := (sSeq (sSet 2 (mLst aNil)) (sSeq (sFor (iRange dR1 (aCons (mC (.int 3)) aNil)) (gN 3) (sSeq (sSet 4 (mLc [6] (iSeq (mVar 1)) (gN 6) tmYes (m2 dIx (mVar 6) (mVar 3)))) (sSeq (sSet 5 (mIf (tmV (m2 dEq (mRm isLst fCntD (mVar 4) (aCons (mB dMax (aCons (mVar 4) aNil)) aNil)) (mC (.int 1)))) (mB dMax (aCons (mVar 4) aNil)) (mB dMin (aCons (mVar 4) aNil)))) (sExpr (mApp (mVar 2) (aCons (m2 dIx (mLc [6] (iSeq (mVar 1)) (gN 6) (tmV (m2 dEq (m2 dIx (mVar 6) (mVar 3)) (mVar 5))) (m2 dIx (mVar 0) (mVar 6))) (mC (.int 0))) aNil)))))) (sRet (mIf (tmV (m2 dInA (mVar 2) (mTup (aCons (mLst (aCons (mC (.int 0)) (aCons (mC (.int 1)) (aCons (mC (.int 2)) aNil)))) (aCons (mLst (aCons (mC (.int 1)) (aCons (mC (.int 2)) (aCons (mC (.int 0)) aNil)))) (aCons (mLst (aCons (mC (.int 2)) (aCons (mC (.int 0)) (aCons (mC (.int 1)) aNil)))) aNil)))))) (mC (.int 1)) (m1 dNeg (mC (.int 1)))))))
def fs__law_sign_here : FS := fBody 7 [false, false] false m__law_sign_here
def m_edges_of : MS := (sRet (mLst (aCons (mSl (mVar 0) none (some (mC (.int 2)))) (aCons (mTup (aCons (m2 dIx (mVar 0) (mC (.int 0))) (aCons (m2 dIx (mVar 0) (mC (.int 2))) aNil))) (aCons (mSl (mVar 0) (some (mC (.int 1))) none) aNil)))))
def fs_edges_of : FS := fBody 1 [false] false m_edges_of
def m__law_doors : MS := (sSeq (sSet 3 (mLst aNil)) (sSeq (sFor (iSeq (mLst (aCons (mTup (aCons (mC (.int 0)) (aCons (mC (.int 1)) aNil))) (aCons (mTup (aCons (mC (.int 0)) (aCons (mC (.int 2)) aNil))) (aCons (mTup (aCons (mC (.int 1)) (aCons (mC (.int 2)) aNil))) aNil))))) (gT [4, 5]) (sIf (tmV (m2 dEq (mB dSorted (aCons (mLst (aCons (m2 dIx (mVar 0) (m2 dIx (mVar 2) (mVar 4))) (aCons (m2 dIx (mVar 0) (m2 dIx (mVar 2) (mVar 5))) aNil))) aNil)) (mB dList (aCons (mVar 1) aNil)))) (sExpr (mApp (mVar 3) (aCons (mTup (aCons (m2 dIx (mVar 2) (mVar 4)) (aCons (m2 dIx (mVar 2) (mVar 5)) aNil))) aNil))) sNil)) (sRet (mVar 3))))
def fs__law_doors : FS := fBody 6 [false, false, false] false m__law_doors
def m__law_beyond : MS := (sSeq (sSet 3 (mLc [4] (iSeq (mVar 0)) (gN 4) (tmAnd (tmV (m2 dNe (mVar 4) (mVar 1))) (tmAnd (tmV (m2 dInA (m2 dIx (mVar 2) (mC (.int 0))) (mVar 4))) (tmV (m2 dInA (m2 dIx (mVar 2) (mC (.int 1))) (mVar 4))))) (mVar 4))) (sRet (mIf (tmV (m2 dNe (mVar 3) (mLst aNil))) (m2 dIx (mVar 3) (mC (.int 0))) mNon)))
def fs__law_beyond : FS := fBody 5 [false, false, false] false m__law_beyond
def m_owner_of : MS := (sRet (m2 dMod (m2 dAdd (m2 dIx (mVar 0) (mC (.int 0))) (m2 dMul (mC (.int 2)) (m2 dIx (mVar 0) (mC (.int 1))))) (mC (.int 3))))
def fs_owner_of : FS := fBody 1 [false] false m_owner_of
def m_label_of : MS := (sRet (m2 dIx (mLc [2] (iRange dR1 (aCons (mC (.int 3)) aNil)) (gN 2) (tmAnd (tmV (m2 dGt (m2 dIx (mVar 0) (mVar 2)) (mC (.int 0)))) (tmV (m2 dLe (m2 dIx (mVar 1) (mVar 2)) (m2 dIx (mVar 0) (mVar 2))))) (mVar 2)) (mC (.int 0))))
def fs_label_of : FS := fBody 3 [false, false] false m_label_of
def m_apart : MS := (sRet (mB dLen (aCons (mLc [2, 3] (iZip (aCons (mVar 0) (aCons (mVar 1) aNil))) (gT [2, 3]) (tmV (m2 dNe (mVar 2) (mVar 3))) (mVar 2)) aNil)))
def fs_apart : FS := fBody 4 [false, false] false m_apart
def m_check_size : MS := (sIf (tmNot (tmV (mCall fs_is_integer [false, false, false] false (aCons (mVar 0) (aCons (mC (.int 1)) (aCons (mC (.int 6)) aNil)))))) (sRaise 0) sNil)
def fs_check_size : FS := fBody 1 [false] false m_check_size
def m_is_point : MS := (sSeq (sIf (tmOr (tmNot (tmV (mB dIsi (aCons (mVar 1) (aCons (mGl (.opq (.ty "tuple"))) aNil))))) (tmOr (tmV (m2 dNe (mB dLen (aCons (mVar 1) aNil)) (mC (.int 3)))) (tmNot (tmV (mB dAll (aCons (mLc [2] (iSeq (mVar 1)) (gN 2) tmYes (mCall fs_is_integer [false, false, false] false (aCons (mVar 2) (aCons (mC (.int 0)) (aCons (mVar 0) aNil))))) aNil)))))) (sRet (mC (.bl false))) sNil) (sRet (m2 dEq (mB dSum (aCons (mVar 1) aNil)) (mVar 0))))
def fs_is_point : FS := fBody 3 [false, false] false m_is_point
def m_beside : MS := (sSeq (sSet 1 (mLc [2] (iSeq (mGl gd_STEPS)) (gN 2) tmYes (mCall fs_moved [false, false] false (aCons (mVar 0) (aCons (mVar 2) aNil))))) (sRet (mLc [3] (iSeq (mVar 1)) (gN 3) (tmV (m2 dGe (mB dMin (aCons (mVar 3) aNil)) (mC (.int 0)))) (mVar 3))))
def fs_beside : FS := fBody 4 [false] false m_beside
def m_turned_triangles : MS := (sSeq (sSet 1 (mLst aNil)) (sSeq (sFor (iSeq (mCall fs_point_list [false] false (aCons (mVar 0) aNil))) (gN 2) (sFor (iSeq (mLst (aCons (mTup (aCons (mTup (aCons (m1 dNeg (mC (.int 1))) (aCons (mC (.int 1)) (aCons (mC (.int 0)) aNil)))) (aCons (mTup (aCons (mC (.int 0)) (aCons (m1 dNeg (mC (.int 1))) (aCons (mC (.int 1)) aNil)))) aNil))) (aCons (mTup (aCons (mTup (aCons (mC (.int 1)) (aCons (m1 dNeg (mC (.int 1))) (aCons (mC (.int 0)) aNil)))) (aCons (mTup (aCons (mC (.int 0)) (aCons (mC (.int 1)) (aCons (m1 dNeg (mC (.int 1))) aNil)))) aNil))) aNil)))) (gT [3, 4]) (sSeq (sSet 5 (mCall fs_moved [false, false] false (aCons (mVar 2) (aCons (mVar 3) aNil)))) (sSeq (sSet 6 (mCall fs_moved [false, false] false (aCons (mVar 5) (aCons (mVar 4) aNil)))) (sIf (tmV (m2 dGe (mB dMin (aCons (m2 dAdd (mVar 5) (mVar 6)) aNil)) (mC (.int 0)))) (sExpr (mApp (mVar 1) (aCons (mTup (aCons (mVar 2) (aCons (mVar 5) (aCons (mVar 6) aNil)))) aNil))) sNil))))) (sRet (mVar 1))))
def fs_turned_triangles : FS := fBody 7 [false] false m_turned_triangles
def m__law_mixed : MS := (sSeq (sSet 3 (m2 dMod (m2 dAdd (m2 dAdd (m2 dMul (mCall fs__law_cell_at [false, false] false (aCons (mVar 0) (aCons (mVar 1) aNil))) (mC (.int 1103515245))) (m2 dMul (mC (.int 7919)) (mVar 1))) (mC (.int 12345))) (mC (.int 2147483647)))) (sRet (m2 dMod (m2 dMod (m2 dMod (m2 dPow (mVar 3) (mC (.int 5))) (mC (.int 2147483647))) (mC (.int 999983))) (mVar 2))))
def fs__law_mixed : FS := fBody 4 [false, false, false] false m__law_mixed
def m__law_cells : MS := (sSeq (sSet 1 (mLst aNil)) (sSeq (sFor (iSeq (mCall fs__law_places [false] false (aCons (m2 dSub (mVar 0) (mC (.int 1))) aNil))) (gT [2, 3, 4]) (sExpr (mApp (mVar 1) (aCons (mB dTuple (aCons (mB dSorted (aCons (mLst (aCons (mTup (aCons (m2 dAdd (mVar 2) (mC (.int 1))) (aCons (mVar 3) (aCons (mVar 4) aNil)))) (aCons (mTup (aCons (mVar 2) (aCons (m2 dAdd (mVar 3) (mC (.int 1))) (aCons (mVar 4) aNil)))) (aCons (mTup (aCons (mVar 2) (aCons (mVar 3) (aCons (m2 dAdd (mVar 4) (mC (.int 1))) aNil)))) aNil)))) aNil)) aNil)) aNil)))) (sSeq (sIf (tmV (m2 dGt (mVar 0) (mC (.int 1)))) (sFor (iSeq (mCall fs__law_places [false] false (aCons (m2 dSub (mVar 0) (mC (.int 2))) aNil))) (gT [2, 3, 4]) (sExpr (mApp (mVar 1) (aCons (mB dTuple (aCons (mB dSorted (aCons (mLst (aCons (mTup (aCons (mVar 2) (aCons (m2 dAdd (mVar 3) (mC (.int 1))) (aCons (m2 dAdd (mVar 4) (mC (.int 1))) aNil)))) (aCons (mTup (aCons (m2 dAdd (mVar 2) (mC (.int 1))) (aCons (mVar 3) (aCons (m2 dAdd (mVar 4) (mC (.int 1))) aNil)))) (aCons (mTup (aCons (m2 dAdd (mVar 2) (mC (.int 1))) (aCons (m2 dAdd (mVar 3) (mC (.int 1))) (aCons (mVar 4) aNil)))) aNil)))) aNil)) aNil)) aNil)))) sNil) (sRet (mB dSorted (aCons (mVar 1) aNil))))))
def fs__law_cells : FS := fBody 5 [false] false m__law_cells
def m_valid_labels : MS := (sSeq (sIf (tmOr (tmNot (tmV (mB dIsi (aCons (mVar 1) (aCons (mGl (.opq (.ty "tuple"))) aNil))))) (tmV (m2 dNe (mB dLen (aCons (mVar 1) aNil)) (m2 dDiv (m2 dMul (m2 dAdd (mVar 0) (mC (.int 1))) (m2 dAdd (mVar 0) (mC (.int 2)))) (mC (.int 2)))))) (sRet (mC (.bl false))) sNil) (sRet (mB dAll (aCons (mLc [2] (iSeq (mVar 1)) (gN 2) tmYes (mCall fs_is_integer [false, false, false] false (aCons (mVar 2) (aCons (mC (.int 0)) (aCons (mC (.int 2)) aNil))))) aNil))))
def fs_valid_labels : FS := fBody 3 [false, false] false m_valid_labels
def m_table_of : MS := (sRet (mDz (aCons (mCall fs_point_list [false] false (aCons (mVar 0) aNil)) (aCons (mVar 1) aNil))))
def fs_table_of : FS := fBody 2 [false, false] false m_table_of
def m_proper_labels : MS := (sRet (mB dAll (aCons (mLc [2, 3] (iZip (aCons (mCall fs_point_list [false] false (aCons (mVar 0) aNil)) (aCons (mVar 1) aNil))) (gT [2, 3]) tmYes (mCall fs_fits [false, false] false (aCons (mVar 2) (aCons (mVar 3) aNil)))) aNil)))
def fs_proper_labels : FS := fBody 4 [false, false] false m_proper_labels
def m__law_by_point : MS := (sSeq (sSet 2 mDct0) (sSeq (sFor (iZip (aCons (mCall fs__law_places [false] false (aCons (mVar 0) aNil)) (aCons (mVar 1) aNil))) (gT [3, 4]) (sPut (mVar 4) (mVar 2) (mVar 3))) (sRet (mVar 2))))
def fs__law_by_point : FS := fBody 5 [false, false] false m__law_by_point
def m_outer_edges : MS := (sSeq (sSet 1 (mCall fs_round_list [false] false (aCons (mVar 0) aNil))) (sRet (mLc [2] (iZip (aCons (mVar 1) (aCons (m2 dAdd (mSl (mVar 1) (some (mC (.int 1))) none) (mSl (mVar 1) none (some (mC (.int 1))))) aNil))) (gN 2) tmYes (mB dTuple (aCons (mB dSorted (aCons (mVar 2) aNil)) aNil)))))
def fs_outer_edges : FS := fBody 3 [false] false m_outer_edges
def m__law_wind : MS := (sSeq (sSet 2 (mLc [6] (iSeq (mCall fs__law_around [false] false (aCons (mVar 0) aNil))) (gN 6) tmYes (m2 dIx (mVar 1) (mVar 6)))) (sSeq (sSet 3 (mC (.int 0))) (sSeq (sFor (iZip (aCons (mVar 2) (aCons (m2 dAdd (mSl (mVar 2) (some (mC (.int 1))) none) (mSl (mVar 2) none (some (mC (.int 1))))) aNil))) (gT [4, 5]) (sAug 3 (fun i j => i + j) (mIf (tmV (m2 dEq (mVar 4) (mVar 5))) (mC (.int 0)) (mIf (tmV (m2 dInA (mTup (aCons (mVar 4) (aCons (mVar 5) aNil))) (mTup (aCons (mTup (aCons (mC (.int 0)) (aCons (mC (.int 1)) aNil))) (aCons (mTup (aCons (mC (.int 1)) (aCons (mC (.int 2)) aNil))) (aCons (mTup (aCons (mC (.int 2)) (aCons (mC (.int 0)) aNil))) aNil)))))) (mC (.int 1)) (m1 dNeg (mC (.int 1))))))) (sRet (m2 dDiv (mVar 3) (mC (.int 3)))))))
def fs__law_wind : FS := fBody 7 [false, false] false m__law_wind
def m_doors_of : MS := (sRet (mLc [3] (iSeq (mCall fs_edges_of [false] false (aCons (mVar 2) aNil))) (gN 3) (tmV (mCall fs_is_door [false, false, false] false (aCons (mVar 0) (aCons (mVar 1) (aCons (mVar 3) aNil))))) (mVar 3)))
def fs_doors_of : FS := fBody 4 [false, false, false] false m_doors_of
def m__law_trail : MS := (sSeq (sSet 5 (mLst aNil)) (sSeq (sWhile 400 (tmAnd (tmV (m2 dIsNot (mVar 3) mNon)) (tmV (m2 dNotInA (mVar 3) (mVar 5)))) (sSeq (sExpr (mApp (mVar 5) (aCons (mVar 3) aNil))) (sSeq (sSet 6 (mLc [7] (iSeq (mCall fs__law_doors [false, false, false] false (aCons (mVar 1) (aCons (mVar 2) (aCons (mVar 3) aNil))))) (gN 7) (tmV (m2 dNe (mVar 7) (mVar 4))) (mVar 7))) (sIf (tmV (m2 dEq (mVar 6) (mLst aNil))) (sSet 3 mNon) (sSeq (sSet 4 (m2 dIx (mVar 6) (mC (.int 0)))) (sSet 3 (mCall fs__law_beyond [false, false, false] false (aCons (mVar 0) (aCons (mVar 3) (aCons (mVar 4) aNil)))))))))) (sRet (mVar 5))))
def fs__law_trail : FS := fBody 8 [false, false, false, false, false] false m__law_trail
def m__law_group : MS := (sSeq (sSet 2 (mLst (aCons (mVar 1) aNil))) (sSeq (sFor (iSeq (m2 dAdd (mVar 2) (mRep (mLst (aCons mNon aNil)) (mC (.int 30))))) (gN 3) (sIf (tmV (m2 dIs (mVar 3) mNon)) (sSeq (sSet 4 (mLc [5] (iSeq (mVar 0)) (gN 5) (tmAnd (tmV (m2 dEq (m2 dIx (mVar 0) (mVar 5)) (m2 dIx (mVar 0) (mVar 1)))) (tmV (m2 dNotInA (mVar 5) (mVar 2)))) (mVar 5))) (sSet 2 (m2 dAdd (mVar 2) (mLc [5] (iSeq (mVar 4)) (gN 5) (tmV (m2 dNe (mLc [6] (iSeq (mVar 2)) (gN 6) (tmV (mCall fs__law_near [false, false] false (aCons (mVar 6) (aCons (mVar 5) aNil)))) (mVar 6)) (mLst aNil))) (mVar 5))))) sNil)) (sRet (mB dSorted (aCons (mVar 2) aNil)))))
def fs__law_group : FS := fBody 7 [false, false] false m__law_group
def m_mixed_labels : MS := (sRet (mB dTuple (aCons (mLc [2, 3] (iEnumM (aCons (mCall fs_point_list [false] false (aCons (mVar 0) aNil)) aNil)) (gT [2, 3]) tmYes (m2 dIx (m2 dIx (mVar 1) (mCall fs_owner_of [false] false (aCons (mVar 3) aNil))) (mVar 2))) aNil)))
def fs_mixed_labels : FS := fBody 4 [false, false] false m_mixed_labels
def m_map_labels : MS := (sRet (mB dTuple (aCons (mLc [2, 3] (iZip (aCons (mCall fs_point_list [false] false (aCons (mVar 0) aNil)) (aCons (mVar 1) aNil))) (gT [2, 3]) tmYes (mCall fs_label_of [false, false] false (aCons (mVar 2) (aCons (mVar 3) aNil)))) aNil)))
def fs_map_labels : FS := fBody 4 [false, false] false m_map_labels
def m_choices_at : MS := (sRet (mLc [1] (iRange dR1 (aCons (mC (.int 3)) aNil)) (gN 1) (tmV (mCall fs_fits [false, false] false (aCons (mVar 0) (aCons (mVar 1) aNil)))) (mVar 1)))
def fs_choices_at : FS := fBody 2 [false] false m_choices_at
def m__law_proper_rows : MS := (sSeq (sSet 1 (mLst (aCons (mTup aNil) aNil))) (sSeq (sFor (iSeq (mCall fs__law_places [false] false (aCons (mVar 0) aNil))) (gN 2) (sSeq (sSet 3 (mLst aNil)) (sSeq (sFor (iSeq (mVar 1)) (gN 4) (sExpr (mExt (mVar 3) (aCons (mLc [5] (iRange dR1 (aCons (mC (.int 3)) aNil)) (gN 5) (tmV (m2 dGt (m2 dIx (mVar 2) (mVar 5)) (mC (.int 0)))) (m2 dAdd (mVar 4) (mTup (aCons (mVar 5) aNil)))) aNil)))) (sSet 1 (mVar 3))))) (sRet (mVar 1))))
def fs__law_proper_rows : FS := fBody 6 [false] false m__law_proper_rows
def m_thrifty_labels : MS := (sRet (mB dAll (aCons (mLc [2, 3] (iZip (aCons (mCall fs_point_list [false] false (aCons (mVar 0) aNil)) (aCons (mVar 1) aNil))) (gT [2, 3]) tmYes (mOr (m2 dGt (mB dMin (aCons (mVar 2) aNil)) (mC (.int 0))) (m2 dEq (m2 dIx (mVar 2) (mVar 3)) (mC (.int 0))))) aNil)))
def fs_thrifty_labels : FS := fBody 4 [false, false] false m_thrifty_labels
def m_relabelled : MS := (sSeq (sSet 4 (mRm isLst fIdx (mCall fs_point_list [false] false (aCons (mVar 0) aNil)) (aCons (mVar 2) aNil))) (sRet (m2 dAdd (m2 dAdd (mSl (mVar 1) none (some (mVar 4))) (mTup (aCons (mVar 3) aNil))) (mSl (mVar 1) (some (m2 dAdd (mVar 4) (mC (.int 1)))) none))))
def fs_relabelled : FS := fBody 5 [false, false, false, false] false m_relabelled
def m_check_point : MS := (sSeq (sExpr (mCall fs_check_size [false] false (aCons (mVar 0) aNil))) (sIf (tmNot (tmV (mCall fs_is_point [false, false] false (aCons (mVar 0) (aCons (mVar 1) aNil))))) (sRaise 1) sNil))
def fs_check_point : FS := fBody 2 [false, false] false m_check_point
def m_points : MS := (sSeq (sExpr (mCall fs_check_size [false] false (aCons (mVar 0) aNil))) (sRet (mCall fs_point_list [false] false (aCons (mVar 0) aNil))))
def fs_points : FS := fBody 1 [false] false m_points
def m_triangle_list : MS := (sRet (mB dSorted (aCons (mLc [1] (iSeq (mCall fs_turned_triangles [false] false (aCons (mVar 0) aNil))) (gN 1) tmYes (mB dTuple (aCons (mB dSorted (aCons (mVar 1) aNil)) aNil))) aNil)))
def fs_triangle_list : FS := fBody 2 [false] false m_triangle_list
def m_round_of : MS := (sSeq (sExpr (mCall fs_check_size [false] false (aCons (mVar 0) aNil))) (sRet (mCall fs_round_list [false] false (aCons (mVar 0) aNil))))
def fs_round_of : FS := fBody 1 [false] false m_round_of
def m__law_draw : MS := (sSeq (sExpr (mApp (mVar 1) (aCons (mC (.int 0)) aNil))) (sRet (mCall fs__law_mixed [false, false, false] false (aCons (mVar 0) (aCons (mB dLen (aCons (mVar 1) aNil)) (aCons (mVar 2) aNil))))))
def fs__law_draw : FS := fBody 3 [false, true, false] false m__law_draw
def m_is_labelling : MS := (sSeq (sExpr (mCall fs_check_size [false] false (aCons (mVar 0) aNil))) (sRet (mCall fs_valid_labels [false, false] false (aCons (mVar 0) (aCons (mVar 1) aNil)))))
def fs_is_labelling : FS := fBody 2 [false, false] false m_is_labelling
def m_check_labels : MS := (sSeq (sExpr (mCall fs_check_size [false] false (aCons (mVar 0) aNil))) (sIf (tmNot (tmV (mCall fs_valid_labels [false, false] false (aCons (mVar 0) (aCons (mVar 1) aNil))))) (sRaise 2) sNil))
def fs_check_labels : FS := fBody 2 [false, false] false m_check_labels
def m_outer_list : MS := (sRet (mLc [3] (iSeq (mCall fs_outer_edges [false] false (aCons (mVar 0) aNil))) (gN 3) (tmV (mCall fs_is_door [false, false, false] false (aCons (mVar 1) (aCons (mVar 2) (aCons (mVar 3) aNil))))) (mVar 3)))
def fs_outer_list : FS := fBody 4 [false, false, false] false m_outer_list
def m_followed : MS := (sSeq (sSet 5 (mLst aNil)) (sSeq (sWhile 400 (tmAnd (tmV (m2 dIsNot (mVar 4) mNon)) (tmV (m2 dNotInA (mVar 4) (mVar 5)))) (sSeq (sExpr (mApp (mVar 5) (aCons (mVar 4) aNil))) (sSeq (sSet 6 (mLc [9] (iSeq (mCall fs_doors_of [false, false, false] false (aCons (mVar 0) (aCons (mVar 1) (aCons (mVar 4) aNil))))) (gN 9) (tmV (m2 dNe (mVar 9) (mVar 3))) (mVar 9))) (sSeq (sSet 7 mNon) (sSeq (sIf (tmV (m2 dNe (mVar 6) (mLst aNil))) (sSeq (sSet 3 (m2 dIx (mVar 6) (mC (.int 0)))) (sSeq (sSet 8 (mLc [10] (iSeq (m2 dIx (mVar 2) (mVar 3))) (gN 10) (tmV (m2 dNe (mVar 10) (mVar 4))) (mVar 10))) (sSet 7 (mIf (tmV (m2 dNe (mVar 8) (mLst aNil))) (m2 dIx (mVar 8) (mC (.int 0))) mNon)))) sNil) (sSet 4 (mVar 7))))))) (sRet (mVar 5))))
def fs_followed : FS := fBody 11 [false, false, false, false, false] false m_followed
def m_entries : MS := (sSeq (sSet 4 (mCall fs_doors_of [false, false, false] false (aCons (mVar 0) (aCons (mVar 1) (aCons (mVar 3) aNil))))) (sSeq (sIf (tmV (m2 dEq (mB dLen (aCons (mVar 4) aNil)) (mC (.int 1)))) (sRet (mLst (aCons mNon aNil))) sNil) (sRet (mLc [5] (iSeq (mVar 4)) (gN 5) (tmV (m2 dEq (mB dLen (aCons (m2 dIx (mVar 2) (mVar 5)) aNil)) (mC (.int 1)))) (mVar 5)))))
def fs_entries : FS := fBody 6 [false, false, false, false] false m_entries
def m_check_colours : MS := (sSeq (sExpr (mCall fs_check_size [false] false (aCons (mVar 0) aNil))) (sSeq (sIf (tmOr (tmNot (tmV (mB dIsi (aCons (mVar 1) (aCons (mGl (.opq (.ty "tuple"))) aNil))))) (tmV (m2 dNe (mB dLen (aCons (mVar 1) aNil)) (m2 dDiv (m2 dMul (m2 dAdd (mVar 0) (mC (.int 1))) (m2 dAdd (mVar 0) (mC (.int 2)))) (mC (.int 2)))))) (sRaise 6) sNil) (sIf (tmNot (tmV (mB dAll (aCons (mLc [2] (iSeq (mVar 1)) (gN 2) tmYes (mCall fs_is_integer [false, false, false] false (aCons (mVar 2) (aCons (mC (.int 0)) (aCons (mC (.int 1)) aNil))))) aNil)))) (sRaise 6) sNil)))
def fs_check_colours : FS := fBody 3 [false, false] false m_check_colours
def m_group_at : MS := (sSeq (sPar [2, 3] (aCons (mDct1 (mVar 1) (mC (.bl true))) (aCons (mLst (aCons (mVar 1) aNil)) aNil))) (sSeq (sWhile 400 (tmV (m2 dNe (mVar 3) (mLst aNil))) (sFor (iSeq (mCall fs_beside [false] false (aCons (mPop (mVar 3)) aNil))) (gN 4) (sIf (tmAnd (tmV (m2 dEq (m2 dIx (mVar 0) (mVar 4)) (m2 dIx (mVar 0) (mVar 1)))) (tmV (m2 dNotInA (mVar 4) (mVar 2)))) (sSeq (sPut (mC (.bl true)) (mVar 2) (mVar 4)) (sExpr (mApp (mVar 3) (aCons (mVar 4) aNil)))) sNil))) (sRet (mB dSortedK (aCons (mVar 2) aNil)))))
def fs_group_at : FS := fBody 5 [false, false] false m_group_at
def m_check_preferences : MS := (sSeq (sExpr (mCall fs_check_size [false] false (aCons (mVar 0) aNil))) (sSeq (sIf (tmOr (tmNot (tmV (mB dIsi (aCons (mVar 1) (aCons (mGl (.opq (.ty "tuple"))) aNil))))) (tmV (m2 dNe (mB dLen (aCons (mVar 1) aNil)) (mC (.int 3))))) (sRaise 7) sNil) (sFor (iSeq (mVar 1)) (gN 2) (sIf (tmOr (tmNot (tmV (mCall fs_valid_labels [false, false] false (aCons (mVar 0) (aCons (mVar 2) aNil))))) (tmNot (tmV (mCall fs_proper_labels [false, false] false (aCons (mVar 0) (aCons (mVar 2) aNil)))))) (sRaise 7) sNil))))
def fs_check_preferences : FS := fBody 3 [false, false] false m_check_preferences
def m_check_images : MS := (sSeq (sExpr (mCall fs_check_size [false] false (aCons (mVar 0) aNil))) (sSeq (sIf (tmOr (tmNot (tmV (mB dIsi (aCons (mVar 1) (aCons (mGl (.opq (.ty "tuple"))) aNil))))) (tmV (m2 dNe (mB dLen (aCons (mVar 1) aNil)) (m2 dDiv (m2 dMul (m2 dAdd (mVar 0) (mC (.int 1))) (m2 dAdd (mVar 0) (mC (.int 2)))) (mC (.int 2)))))) (sRaise 8) sNil) (sIf (tmNot (tmV (mB dAll (aCons (mLc [2] (iSeq (mVar 1)) (gN 2) tmYes (mCall fs_is_point [false, false] false (aCons (mVar 0) (aCons (mVar 2) aNil)))) aNil)))) (sRaise 8) sNil)))
def fs_check_images : FS := fBody 3 [false, false] false m_check_images
def m_count_proper : MS := (sSeq (sExpr (mCall fs_check_size [false] false (aCons (mVar 0) aNil))) (sSeq (sSet 1 (mC (.int 1))) (sSeq (sFor (iSeq (mCall fs_point_list [false] false (aCons (mVar 0) aNil))) (gN 2) (sMul 1 (mB dLen (aCons (mCall fs_choices_at [false] false (aCons (mVar 2) aNil)) aNil)))) (sRet (mVar 1)))))
def fs_count_proper : FS := fBody 3 [false] false m_count_proper
def m_proper_list : MS := (sSeq (sSet 1 (mLst (aCons (mTup aNil) aNil))) (sSeq (sFor (iSeq (mCall fs_point_list [false] false (aCons (mVar 0) aNil))) (gN 2) (sSeq (sSet 3 (mLst aNil)) (sSeq (sFor (iSeq (mVar 1)) (gN 4) (sExpr (mExt (mVar 3) (aCons (mLc [5] (iSeq (mCall fs_choices_at [false] false (aCons (mVar 2) aNil))) (gN 5) tmYes (m2 dAdd (mVar 4) (mTup (aCons (mVar 5) aNil)))) aNil)))) (sSet 1 (mVar 3))))) (sRet (mVar 1))))
def fs_proper_list : FS := fBody 6 [false] false m_proper_list
def m_neighbours : MS := (sSeq (sExpr (mCall fs_check_point [false, false] false (aCons (mVar 0) (aCons (mVar 1) aNil)))) (sRet (mCall fs_beside [false] false (aCons (mVar 1) aNil))))
def fs_neighbours : FS := fBody 2 [false, false] false m_neighbours
def m_triangles : MS := (sSeq (sExpr (mCall fs_check_size [false] false (aCons (mVar 0) aNil))) (sRet (mCall fs_triangle_list [false] false (aCons (mVar 0) aNil))))
def fs_triangles : FS := fBody 1 [false] false m_triangles
def m__law_pick : MS := (sRet (m2 dIx (mVar 2) (mCall fs__law_draw [false, true, false] false (aCons (mVar 0) (aCons (mVar 1) (aCons (mB dLen (aCons (mVar 2) aNil)) aNil))))))
def fs__law_pick : FS := fBody 3 [false, true, false] false m__law_pick
def m_is_proper : MS := (sSeq (sExpr (mCall fs_check_labels [false, false] false (aCons (mVar 0) (aCons (mVar 1) aNil)))) (sRet (mCall fs_proper_labels [false, false] false (aCons (mVar 0) (aCons (mVar 1) aNil)))))
def fs_is_proper : FS := fBody 2 [false, false] false m_is_proper
def m_full_list : MS := (sSeq (sSet 2 (mCall fs_table_of [false, false] false (aCons (mVar 0) (aCons (mVar 1) aNil)))) (sRet (mLc [3] (iSeq (mCall fs_triangle_list [false] false (aCons (mVar 0) aNil))) (gN 3) (tmV (mCall fs_is_full [false, false] false (aCons (mVar 2) (aCons (mVar 3) aNil)))) (mVar 3))))
def fs_full_list : FS := fBody 4 [false, false] false m_full_list
def m_sign : MS := (sSeq (sExpr (mCall fs_check_labels [false, false] false (aCons (mVar 0) (aCons (mVar 1) aNil)))) (sSeq (sIf (tmOr (tmNot (tmV (mB dIsi (aCons (mVar 2) (aCons (mGl (.opq (.ty "tuple"))) aNil))))) (tmV (m2 dNotInA (mVar 2) (mCall fs_triangle_list [false] false (aCons (mVar 0) aNil))))) (sRaise 3) sNil) (sSeq (sSet 3 (mCall fs_table_of [false, false] false (aCons (mVar 0) (aCons (mVar 1) aNil)))) (sSeq (sIf (tmNot (tmV (mCall fs_is_full [false, false] false (aCons (mVar 3) (aCons (mVar 2) aNil))))) (sRaise 9) sNil) (sSeq (sFor (iSeq (mCall fs_turned_triangles [false] false (aCons (mVar 0) aNil))) (gN 4) (sIf (tmV (m2 dEq (mB dTuple (aCons (mB dSorted (aCons (mVar 4) aNil)) aNil)) (mVar 2))) (sSet 5 (mLc [6] (iSeq (mVar 4)) (gN 6) tmYes (m2 dIx (mVar 3) (mVar 6)))) sNil)) (sRet (mIf (tmV (m2 dEq (m2 dMod (m2 dSub (m2 dIx (mVar 5) (mC (.int 1))) (m2 dIx (mVar 5) (mC (.int 0)))) (mC (.int 3))) (mC (.int 1)))) (mC (.int 1)) (m1 dNeg (mC (.int 1))))))))))
def fs_sign : FS := fBody 7 [false, false, false] false m_sign
def m_winding : MS := (sSeq (sExpr (mCall fs_check_labels [false, false] false (aCons (mVar 0) (aCons (mVar 1) aNil)))) (sSeq (sSet 2 (mCall fs_table_of [false, false] false (aCons (mVar 0) (aCons (mVar 1) aNil)))) (sSeq (sSet 3 (mLc [4] (iSeq (mCall fs_round_list [false] false (aCons (mVar 0) aNil))) (gN 4) tmYes (m2 dIx (mVar 2) (mVar 4)))) (sRet (m2 dDiv (mB dSum (aCons (mLc [5, 6] (iZip (aCons (mVar 3) (aCons (m2 dAdd (mSl (mVar 3) (some (mC (.int 1))) none) (mSl (mVar 3) none (some (mC (.int 1))))) aNil))) (gT [5, 6]) tmYes (mCall fs_turn [false, false] false (aCons (mVar 5) (aCons (mVar 6) aNil)))) aNil)) (mC (.int 3)))))))
def fs_winding : FS := fBody 7 [false, false] false m_winding
def m_check_pair : MS := (sSeq (sExpr (mCall fs_check_labels [false, false] false (aCons (mVar 0) (aCons (mVar 1) aNil)))) (sSeq (sIf (tmOr (tmNot (tmV (mB dIsi (aCons (mVar 2) (aCons (mGl (.opq (.ty "tuple"))) aNil))))) (tmOr (tmV (m2 dNe (mB dLen (aCons (mVar 2) aNil)) (mC (.int 2)))) (tmNot (tmV (mB dAll (aCons (mLc [3] (iSeq (mVar 2)) (gN 3) tmYes (mCall fs_is_integer [false, false, false] false (aCons (mVar 3) (aCons (mC (.int 0)) (aCons (mC (.int 2)) aNil))))) aNil)))))) (sRaise 4) sNil) (sIf (tmV (m2 dGe (m2 dIx (mVar 2) (mC (.int 0))) (m2 dIx (mVar 2) (mC (.int 1))))) (sRaise 4) sNil)))
def fs_check_pair : FS := fBody 4 [false, false, false] false m_check_pair
def m_triangles_at : MS := (sSeq (sSet 1 mDct0) (sSeq (sFor (iSeq (mCall fs_triangle_list [false] false (aCons (mVar 0) aNil))) (gN 2) (sFor (iSeq (mCall fs_edges_of [false] false (aCons (mVar 2) aNil))) (gN 3) (sPut (m2 dAdd (mGet (mVar 1) (aCons (mVar 3) (aCons (mLst aNil) aNil))) (mLst (aCons (mVar 2) aNil))) (mVar 1) (mVar 3)))) (sRet (mVar 1))))
def fs_triangles_at : FS := fBody 4 [false] false m_triangles_at
def m_joining_group : MS := (sSeq (sSet 2 (mDz (aCons (mCall fs_point_list [false] false (aCons (mVar 0) aNil)) (aCons (mVar 1) aNil)))) (sSeq (sSet 3 mDct0) (sSeq (sFor (iSeq (mVar 2)) (gN 4) (sIf (tmV (m2 dNotInA (mVar 4) (mVar 3))) (sSeq (sSet 5 (mCall fs_group_at [false, false] false (aCons (mVar 2) (aCons (mVar 4) aNil)))) (sSeq (sFor (iSeq (mVar 5)) (gN 6) (sPut (mC (.bl true)) (mVar 3) (mVar 6))) (sIf (tmV (mB dAll (aCons (mLc [7] (iRange dR1 (aCons (mC (.int 3)) aNil)) (gN 7) tmYes (mB dAny (aCons (mLc [6] (iSeq (mVar 5)) (gN 6) tmYes (m2 dEq (m2 dIx (mVar 6) (mVar 7)) (mC (.int 0)))) aNil))) aNil))) (sRet (mVar 5)) sNil))) sNil)) (sRet (mLst aNil)))))
def fs_joining_group : FS := fBody 8 [false, false] false m_joining_group
def m_owner : MS := (sSeq (sExpr (mCall fs_check_point [false, false] false (aCons (mVar 0) (aCons (mVar 1) aNil)))) (sRet (mCall fs_owner_of [false] false (aCons (mVar 1) aNil))))
def fs_owner : FS := fBody 2 [false, false] false m_owner
def m_mixed : MS := (sSeq (sExpr (mCall fs_check_preferences [false, false] false (aCons (mVar 0) (aCons (mVar 1) aNil)))) (sRet (mCall fs_mixed_labels [false, false] false (aCons (mVar 0) (aCons (mVar 1) aNil)))))
def fs_mixed : FS := fBody 2 [false, false] false m_mixed
def m_labels_of : MS := (sSeq (sExpr (mCall fs_check_images [false, false] false (aCons (mVar 0) (aCons (mVar 1) aNil)))) (sRet (mCall fs_map_labels [false, false] false (aCons (mVar 0) (aCons (mVar 1) aNil)))))
def fs_labels_of : FS := fBody 2 [false, false] false m_labels_of
def m_distance : MS := (sSeq (sExpr (mCall fs_check_labels [false, false] false (aCons (mVar 0) (aCons (mVar 1) aNil)))) (sSeq (sExpr (mCall fs_check_labels [false, false] false (aCons (mVar 0) (aCons (mVar 2) aNil)))) (sRet (mCall fs_apart [false, false] false (aCons (mVar 1) (aCons (mVar 2) aNil))))))
def fs_distance : FS := fBody 3 [false, false, false] false m_distance
def m_nearest_proper : MS := (sSeq (sExpr (mCall fs_check_labels [false, false] false (aCons (mVar 0) (aCons (mVar 1) aNil)))) (sSeq (sSet 2 (mLst aNil)) (sSeq (sFor (iZip (aCons (mCall fs_point_list [false] false (aCons (mVar 0) aNil)) (aCons (mVar 1) aNil))) (gT [3, 4]) (sExpr (mApp (mVar 2) (aCons (mIf (tmV (mCall fs_fits [false, false] false (aCons (mVar 3) (aCons (mVar 4) aNil)))) (mVar 4) (m2 dIx (mCall fs_choices_at [false] false (aCons (mVar 3) aNil)) (mC (.int 0)))) aNil)))) (sRet (mB dTuple (aCons (mVar 2) aNil))))))
def fs_nearest_proper : FS := fBody 5 [false, false] false m_nearest_proper
def m_is_thrifty : MS := (sSeq (sExpr (mCall fs_check_labels [false, false] false (aCons (mVar 0) (aCons (mVar 1) aNil)))) (sRet (mCall fs_thrifty_labels [false, false] false (aCons (mVar 0) (aCons (mVar 1) aNil)))))
def fs_is_thrifty : FS := fBody 2 [false, false] false m_is_thrifty
def m_check_change : MS := (sSeq (sExpr (mCall fs_check_labels [false, false] false (aCons (mVar 0) (aCons (mVar 1) aNil)))) (sSeq (sIf (tmNot (tmV (mCall fs_is_point [false, false] false (aCons (mVar 0) (aCons (mVar 2) aNil))))) (sRaise 1) sNil) (sIf (tmNot (tmV (mCall fs_is_integer [false, false, false] false (aCons (mVar 3) (aCons (mC (.int 0)) (aCons (mC (.int 2)) aNil)))))) (sRaise 14) sNil)))
def fs_check_change : FS := fBody 4 [false, false, false, false] false m_check_change
def m_full_triangles : MS := (sSeq (sExpr (mCall fs_check_labels [false, false] false (aCons (mVar 0) (aCons (mVar 1) aNil)))) (sRet (mCall fs_full_list [false, false] false (aCons (mVar 0) (aCons (mVar 1) aNil)))))
def fs_full_triangles : FS := fBody 2 [false, false] false m_full_triangles
def m__law_labelling : MS := (sSeq (sSet 4 (mCall fs__law_draw [false, true, false] false (aCons (mVar 0) (aCons (mVar 1) (aCons (mC (.int 4)) aNil))))) (sSeq (sSet 5 (mLst aNil)) (sSeq (sFor (iSeq (mCall fs__law_places [false] false (aCons (mVar 2) aNil))) (gN 6) (sSeq (sSet 7 (mLc [8] (iRange dR1 (aCons (mC (.int 3)) aNil)) (gN 8) (tmOr (tmV (m2 dGt (m2 dIx (mVar 6) (mVar 8)) (mC (.int 0)))) (tmNot (tmV (mVar 3)))) (mVar 8))) (sSeq (sIf (tmAnd (tmV (m2 dInA (mVar 4) (mVar 7))) (tmV (m2 dEq (mCall fs__law_draw [false, true, false] false (aCons (mVar 0) (aCons (mVar 1) (aCons (mC (.int 2)) aNil)))) (mC (.int 0))))) (sSet 7 (mLst (aCons (mVar 4) aNil))) sNil) (sExpr (mApp (mVar 5) (aCons (mCall fs__law_pick [false, true, false] false (aCons (mVar 0) (aCons (mVar 1) (aCons (mVar 7) aNil)))) aNil)))))) (sRet (mB dTuple (aCons (mVar 5) aNil))))))
def fs__law_labelling : FS := fBody 9 [false, true, false, false] false m__law_labelling
def m_outer_doors : MS := (sSeq (sExpr (mCall fs_check_pair [false, false, false] false (aCons (mVar 0) (aCons (mVar 1) (aCons (mVar 2) aNil))))) (sRet (mCall fs_outer_list [false, false, false] false (aCons (mVar 0) (aCons (mCall fs_table_of [false, false] false (aCons (mVar 0) (aCons (mVar 1) aNil))) (aCons (mVar 2) aNil))))))
def fs_outer_doors : FS := fBody 3 [false, false, false] false m_outer_doors
def m_walk_from : MS := (sSeq (sExpr (mCall fs_check_pair [false, false, false] false (aCons (mVar 0) (aCons (mVar 1) (aCons (mVar 2) aNil))))) (sSeq (sSet 4 (mCall fs_table_of [false, false] false (aCons (mVar 0) (aCons (mVar 1) aNil)))) (sSeq (sIf (tmOr (tmNot (tmV (mB dIsi (aCons (mVar 3) (aCons (mGl (.opq (.ty "tuple"))) aNil))))) (tmV (m2 dNotInA (mVar 3) (mCall fs_outer_list [false, false, false] false (aCons (mVar 0) (aCons (mVar 4) (aCons (mVar 2) aNil))))))) (sRaise 5) sNil) (sSeq (sSet 5 (mCall fs_triangles_at [false] false (aCons (mVar 0) aNil))) (sRet (mCall fs_followed [false, false, false, false, false] false (aCons (mVar 4) (aCons (mVar 2) (aCons (mVar 5) (aCons (mVar 3) (aCons (m2 dIx (m2 dIx (mVar 5) (mVar 3)) (mC (.int 0))) aNil)))))))))))
def fs_walk_from : FS := fBody 6 [false, false, false, false] false m_walk_from
def m_find_full : MS := (sSeq (sExpr (mCall fs_check_labels [false, false] false (aCons (mVar 0) (aCons (mVar 1) aNil)))) (sSeq (sIf (tmNot (tmV (mCall fs_proper_labels [false, false] false (aCons (mVar 0) (aCons (mVar 1) aNil))))) (sRaise 10) sNil) (sSeq (sPar [2, 3] (aCons (mCall fs_table_of [false, false] false (aCons (mVar 0) (aCons (mVar 1) aNil))) (aCons (mCall fs_triangles_at [false] false (aCons (mVar 0) aNil)) aNil))) (sSeq (sFor (iSeq (mCall fs_outer_list [false, false, false] false (aCons (mVar 0) (aCons (mVar 2) (aCons (mTup (aCons (mC (.int 0)) (aCons (mC (.int 1)) aNil))) aNil))))) (gN 4) (sSeq (sSet 5 (mCall fs_followed [false, false, false, false, false] false (aCons (mVar 2) (aCons (mTup (aCons (mC (.int 0)) (aCons (mC (.int 1)) aNil))) (aCons (mVar 3) (aCons (mVar 4) (aCons (m2 dIx (m2 dIx (mVar 3) (mVar 4)) (mC (.int 0))) aNil))))))) (sIf (tmV (mCall fs_is_full [false, false] false (aCons (mVar 2) (aCons (m2 dIx (mVar 5) (m1 dNeg (mC (.int 1)))) aNil)))) (sRet (m2 dIx (mVar 5) (m1 dNeg (mC (.int 1))))) sNil))) (sRet mNon)))))
def fs_find_full : FS := fBody 6 [false, false] false m_find_full
def m_all_walks : MS := (sSeq (sExpr (mCall fs_check_pair [false, false, false] false (aCons (mVar 0) (aCons (mVar 1) (aCons (mVar 2) aNil))))) (sSeq (sAsg (gT [3, 4]) (mTup (aCons (mCall fs_table_of [false, false] false (aCons (mVar 0) (aCons (mVar 1) aNil))) (aCons (mCall fs_triangles_at [false] false (aCons (mVar 0) aNil)) aNil)))) (sSeq (sPar [5, 6] (aCons mDct0 (aCons (mLst aNil) aNil))) (sSeq (sSet 7 (mLc [11] (iSeq (mCall fs_triangle_list [false] false (aCons (mVar 0) aNil))) (gN 11) (tmV (m2 dNe (mCall fs_doors_of [false, false, false] false (aCons (mVar 3) (aCons (mVar 2) (aCons (mVar 11) aNil)))) (mLst aNil))) (mVar 11))) (sSeq (sFor (iSeq (mVar 7)) (gN 8) (sSeq (sSet 9 (mCall fs_entries [false, false, false, false] false (aCons (mVar 3) (aCons (mVar 2) (aCons (mVar 4) (aCons (mVar 8) aNil)))))) (sIf (tmAnd (tmV (m2 dNotInA (mVar 8) (mVar 5))) (tmV (m2 dNe (mVar 9) (mLst aNil)))) (sSeq (sSet 10 (mCall fs_followed [false, false, false, false, false] false (aCons (mVar 3) (aCons (mVar 2) (aCons (mVar 4) (aCons (m2 dIx (mVar 9) (mC (.int 0))) (aCons (mVar 8) aNil))))))) (sSeq (sExpr (mApp (mVar 6) (aCons (mVar 10) aNil))) (sFor (iSeq (mVar 10)) (gN 11) (sPut (mC (.bl true)) (mVar 5) (mVar 11))))) sNil))) (sSeq (sFor (iSeq (mVar 7)) (gN 8) (sIf (tmV (m2 dNotInA (mVar 8) (mVar 5))) (sSeq (sSet 9 (mLc [12] (iSeq (mCall fs_doors_of [false, false, false] false (aCons (mVar 3) (aCons (mVar 2) (aCons (mVar 8) aNil))))) (gN 12) tmYes (mCall fs_followed [false, false, false, false, false] false (aCons (mVar 3) (aCons (mVar 2) (aCons (mVar 4) (aCons (mVar 12) (aCons (mVar 8) aNil)))))))) (sSeq (sExpr (mApp (mVar 6) (aCons (mB dMin (aCons (mVar 9) aNil)) aNil))) (sFor (iSeq (m2 dIx (mVar 9) (mC (.int 0)))) (gN 11) (sPut (mC (.bl true)) (mVar 5) (mVar 11))))) sNil)) (sRet (mB dSorted (aCons (mVar 6) aNil)))))))))
def fs_all_walks : FS := fBody 13 [false, false, false] false m_all_walks
def m_joining_colour : MS := (sSeq (sExpr (mCall fs_check_colours [false, false] false (aCons (mVar 0) (aCons (mVar 1) aNil)))) (sSeq (sSet 2 (mDz (aCons (mCall fs_point_list [false] false (aCons (mVar 0) aNil)) (aCons (mVar 1) aNil)))) (sRet (m2 dIx (mVar 2) (m2 dIx (mCall fs_joining_group [false, false] false (aCons (mVar 0) (aCons (mVar 1) aNil))) (mC (.int 0)))))))
def fs_joining_colour : FS := fBody 3 [false, false] false m_joining_colour
def m_joining_points : MS := (sSeq (sExpr (mCall fs_check_colours [false, false] false (aCons (mVar 0) (aCons (mVar 1) aNil)))) (sRet (mCall fs_joining_group [false, false] false (aCons (mVar 0) (aCons (mVar 1) aNil)))))
def fs_joining_points : FS := fBody 2 [false, false] false m_joining_points
def m_fair_triangles : MS := (sSeq (sExpr (mCall fs_check_preferences [false, false] false (aCons (mVar 0) (aCons (mVar 1) aNil)))) (sSeq (sSet 2 (mCall fs_mixed_labels [false, false] false (aCons (mVar 0) (aCons (mVar 1) aNil)))) (sSeq (sPar [3, 4] (aCons (mCall fs_table_of [false, false] false (aCons (mVar 0) (aCons (mVar 2) aNil))) (aCons (mLst aNil) aNil))) (sSeq (sFor (iSeq (mCall fs_full_list [false, false] false (aCons (mVar 0) (aCons (mVar 2) aNil)))) (gN 5) (sSeq (sSet 6 (mLst (aCons (mC (.int 0)) (aCons (mC (.int 0)) (aCons (mC (.int 0)) aNil))))) (sSeq (sFor (iSeq (mVar 5)) (gN 7) (sPut (m2 dIx (mVar 3) (mVar 7)) (mVar 6) (mCall fs_owner_of [false] false (aCons (mVar 7) aNil)))) (sExpr (mApp (mVar 4) (aCons (mTup (aCons (mVar 5) (aCons (mB dTuple (aCons (mVar 6) aNil)) aNil))) aNil)))))) (sRet (mVar 4))))))
def fs_fair_triangles : FS := fBody 8 [false, false] false m_fair_triangles
def m_still_triangles : MS := (sSeq (sExpr (mCall fs_check_images [false, false] false (aCons (mVar 0) (aCons (mVar 1) aNil)))) (sRet (mCall fs_full_list [false, false] false (aCons (mVar 0) (aCons (mCall fs_map_labels [false, false] false (aCons (mVar 0) (aCons (mVar 1) aNil))) aNil)))))
def fs_still_triangles : FS := fBody 2 [false, false] false m_still_triangles
def m_spread : MS := (sSeq (sIf (tmNot (tmV (mCall fs_is_integer [false, false, false] false (aCons (mVar 0) (aCons (mC (.int 1)) (aCons (mC (.int 3)) aNil)))))) (sRaise 0) sNil) (sSeq (sSet 1 mDci0) (sSeq (sFor (iSeq (mCall fs_proper_list [false] false (aCons (mVar 0) aNil))) (gN 2) (sSeq (sSet 3 (mB dLen (aCons (mCall fs_full_list [false, false] false (aCons (mVar 0) (aCons (mVar 2) aNil))) aNil))) (sPutI (m2 dAdd (mGetI (mVar 1) (aCons (mVar 3) (aCons (mC (.int 0)) aNil))) (mC (.int 1))) (mVar 1) (mVar 3)))) (sRet (mSortIt (mVar 1))))))
def fs_spread : FS := fBody 4 [false] false m_spread
def m_fewest_full : MS := (sSeq (sIf (tmNot (tmV (mCall fs_is_integer [false, false, false] false (aCons (mVar 0) (aCons (mC (.int 1)) (aCons (mC (.int 3)) aNil)))))) (sRaise 0) sNil) (sSeq (sExpr (mCall fs_check_labels [false, false] false (aCons (mVar 0) (aCons (mVar 1) aNil)))) (sSeq (sSet 2 (mLc [3] (iSeq (mCall fs_proper_list [false] false (aCons (mVar 0) aNil))) (gN 3) (tmV (m2 dEq (mB dLen (aCons (mCall fs_full_list [false, false] false (aCons (mVar 0) (aCons (mVar 3) aNil))) aNil)) (mC (.int 1)))) (mVar 3))) (sRet (m2 dIx (mB dMin (aCons (mLc [3] (iSeq (mVar 2)) (gN 3) tmYes (mTup (aCons (mCall fs_apart [false, false] false (aCons (mVar 1) (aCons (mVar 3) aNil))) (aCons (mVar 3) aNil)))) aNil)) (mC (.int 1)))))))
def fs_fewest_full : FS := fBody 4 [false, false] false m_fewest_full
def m_fewest_inside : MS := (sSeq (sIf (tmNot (tmV (mCall fs_is_integer [false, false, false] false (aCons (mVar 0) (aCons (mC (.int 1)) (aCons (mC (.int 5)) aNil)))))) (sRaise 0) sNil) (sSeq (sExpr (mCall fs_check_labels [false, false] false (aCons (mVar 0) (aCons (mVar 1) aNil)))) (sSeq (sSet 2 (mLst (aCons (mTup aNil) aNil))) (sSeq (sFor (iZip (aCons (mCall fs_point_list [false] false (aCons (mVar 0) aNil)) (aCons (mVar 1) aNil))) (gT [3, 4]) (sSeq (sSet 5 (mLst aNil)) (sSeq (sFor (iSeq (mVar 2)) (gN 6) (sExpr (mExt (mVar 5) (aCons (mLc [7] (iRange dR1 (aCons (mC (.int 3)) aNil)) (gN 7) (tmOr (tmV (m2 dGt (mB dMin (aCons (mVar 3) aNil)) (mC (.int 0)))) (tmV (m2 dEq (mVar 7) (mVar 4)))) (m2 dAdd (mVar 6) (mTup (aCons (mVar 7) aNil)))) aNil)))) (sSet 2 (mVar 5))))) (sRet (mB dMin (aCons (mLc [6] (iSeq (mVar 2)) (gN 6) tmYes (mB dLen (aCons (mCall fs_full_list [false, false] false (aCons (mVar 0) (aCons (mVar 6) aNil))) aNil))) aNil)))))))
def fs_fewest_inside : FS := fBody 8 [false, false] false m_fewest_inside
def m_rent_triangles : MS := (sSeq (sExpr (mCall fs_check_size [false] false (aCons (mVar 0) aNil))) (sSeq (sIf (tmOr (tmNot (tmV (mB dIsi (aCons (mVar 1) (aCons (mGl (.opq (.ty "tuple"))) aNil))))) (tmV (m2 dNe (mB dLen (aCons (mVar 1) aNil)) (mC (.int 3))))) (sRaise 7) sNil) (sSeq (sFor (iSeq (mVar 1)) (gN 2) (sIf (tmOr (tmNot (tmV (mCall fs_valid_labels [false, false] false (aCons (mVar 0) (aCons (mVar 2) aNil))))) (tmNot (tmV (mCall fs_thrifty_labels [false, false] false (aCons (mVar 0) (aCons (mVar 2) aNil)))))) (sRaise 7) sNil)) (sSeq (sSet 3 (mCall fs_mixed_labels [false, false] false (aCons (mVar 0) (aCons (mVar 1) aNil)))) (sSeq (sPar [4, 5] (aCons (mCall fs_table_of [false, false] false (aCons (mVar 0) (aCons (mVar 3) aNil))) (aCons (mLst aNil) aNil))) (sSeq (sFor (iSeq (mCall fs_full_list [false, false] false (aCons (mVar 0) (aCons (mVar 3) aNil)))) (gN 6) (sSeq (sSet 7 (mLst (aCons (mC (.int 0)) (aCons (mC (.int 0)) (aCons (mC (.int 0)) aNil))))) (sSeq (sFor (iSeq (mVar 6)) (gN 8) (sPut (m2 dIx (mVar 4) (mVar 8)) (mVar 7) (mCall fs_owner_of [false] false (aCons (mVar 8) aNil)))) (sExpr (mApp (mVar 5) (aCons (mTup (aCons (mVar 6) (aCons (mB dTuple (aCons (mVar 7) aNil)) aNil))) aNil)))))) (sRet (mVar 5))))))))
def fs_rent_triangles : FS := fBody 9 [false, false] false m_rent_triangles
def m__law_thrifty : MS := (sSeq (sSet 3 (mCall fs__law_draw [false, true, false] false (aCons (mVar 0) (aCons (mVar 1) (aCons (mC (.int 4)) aNil))))) (sSeq (sSet 4 (mLst aNil)) (sSeq (sFor (iSeq (mCall fs__law_places [false] false (aCons (mVar 2) aNil))) (gN 5) (sSeq (sSet 6 (mLc [7] (iRange dR1 (aCons (mC (.int 3)) aNil)) (gN 7) (tmOr (tmV (m2 dGt (mB dMin (aCons (mVar 5) aNil)) (mC (.int 0)))) (tmV (m2 dEq (m2 dIx (mVar 5) (mVar 7)) (mC (.int 0))))) (mVar 7))) (sSeq (sIf (tmAnd (tmV (m2 dInA (mVar 3) (mVar 6))) (tmV (m2 dEq (mCall fs__law_draw [false, true, false] false (aCons (mVar 0) (aCons (mVar 1) (aCons (mC (.int 2)) aNil)))) (mC (.int 0))))) (sSet 6 (mLst (aCons (mVar 3) aNil))) sNil) (sExpr (mApp (mVar 4) (aCons (mCall fs__law_pick [false, true, false] false (aCons (mVar 0) (aCons (mVar 1) (aCons (mVar 6) aNil)))) aNil)))))) (sRet (mB dTuple (aCons (mVar 4) aNil))))))
def fs__law_thrifty : FS := fBody 8 [false, true, false] false m__law_thrifty
def m_changed : MS := (sSeq (sExpr (mCall fs_check_change [false, false, false, false] false (aCons (mVar 0) (aCons (mVar 1) (aCons (mVar 2) (aCons (mVar 3) aNil)))))) (sRet (mCall fs_relabelled [false, false, false, false] false (aCons (mVar 0) (aCons (mVar 1) (aCons (mVar 2) (aCons (mVar 3) aNil)))))))
def fs_changed : FS := fBody 4 [false, false, false, false] false m_changed
def m_change : MS := (sSeq (sExpr (mCall fs_check_change [false, false, false, false] false (aCons (mVar 0) (aCons (mVar 1) (aCons (mVar 2) (aCons (mVar 3) aNil)))))) (sSeq (sSet 4 (mCall fs_full_list [false, false] false (aCons (mVar 0) (aCons (mVar 1) aNil)))) (sSeq (sSet 5 (mCall fs_full_list [false, false] false (aCons (mVar 0) (aCons (mCall fs_relabelled [false, false, false, false] false (aCons (mVar 0) (aCons (mVar 1) (aCons (mVar 2) (aCons (mVar 3) aNil))))) aNil)))) (sRet (mTup (aCons (mLc [6] (iSeq (mVar 4)) (gN 6) (tmV (m2 dNotInA (mVar 6) (mVar 5))) (mVar 6)) (aCons (mLc [6] (iSeq (mVar 5)) (gN 6) (tmV (m2 dNotInA (mVar 6) (mVar 4))) (mVar 6)) aNil)))))))
def fs_change : FS := fBody 7 [false, false, false, false] false m_change
def m__law_told : MS := (sSeq (sSet 2 (mCall fs__law_places [false] false (aCons (mVar 0) aNil))) (sSeq (sSet 3 (mLst (aCons (mCall fs_points [false] false (aCons (mVar 0) aNil)) (aCons (mCall fs_triangles [false] false (aCons (mVar 0) aNil)) (aCons (mCall fs_neighbours [false, false] false (aCons (mVar 0) (aCons (m2 dIx (mVar 2) (m1 dNeg (mC (.int 1)))) aNil))) (aCons (mCall fs_round_of [false] false (aCons (mVar 0) aNil)) (aCons (mCall fs_full_triangles [false, false] false (aCons (mVar 0) (aCons (mVar 1) aNil))) (aCons (mCall fs_spread [false] false (aCons (m2 dAdd (mC (.int 1)) (m2 dMod (mVar 0) (mC (.int 3)))) aNil)) aNil)))))))) (sSeq (sExpr (mExt (mVar 3) (aCons (mLst (aCons (mCall fs_outer_doors [false, false, false] false (aCons (mVar 0) (aCons (mVar 1) (aCons (mTup (aCons (mC (.int 0)) (aCons (mC (.int 1)) aNil))) aNil)))) (aCons (mCall fs_all_walks [false, false, false] false (aCons (mVar 0) (aCons (mVar 1) (aCons (mTup (aCons (mC (.int 0)) (aCons (mC (.int 2)) aNil))) aNil)))) (aCons (mCall fs_fair_triangles [false, false] false (aCons (mVar 0) (aCons (mTup (aCons (mVar 1) (aCons (mVar 1) (aCons (mVar 1) aNil)))) aNil))) aNil)))) aNil))) (sSeq (sExpr (mApp (mVar 3) (aCons (mCall fs_joining_points [false, false] false (aCons (mVar 0) (aCons (mB dTuple (aCons (mLc [4] (iSeq (mVar 1)) (gN 4) tmYes (mB dMin (aCons (mVar 4) (aCons (mC (.int 1)) aNil)))) aNil)) aNil))) aNil))) (sRet (m2 dAdd (mVar 3) (mLst (aCons (mCall fs_still_triangles [false, false] false (aCons (mVar 0) (aCons (mB dTuple (aCons (mVar 2) aNil)) aNil))) aNil))))))))
def fs__law_told : FS := fBody 5 [false, false] false m__law_told
end GP
end
section
namespace Lk14
open PySem PySem.Spec PyProof.Rows L2 Gr GP
def topS (i : Nat) : Stmt := PySem.Challenge.pw_labelgrids_k14_whole_known_grids.main.body.getD i (.Pass ⟨0, 0, 0, 0⟩)
abbrev st_is_integer : Stmt := topS 11
abbrev N_is_integer : List Str := ["value", "low", "high"]
theorem sc_is_integer : FnScope N_is_integer ["value", "low", "high"] (defScope st_is_integer) := ⟨rfl, rfl, rfl, by decide +kernel, rfl, by decide +kernel, by decide +kernel⟩
abbrev st_point_list : Stmt := topS 13
abbrev N_point_list : List Str := ["size", "result", "i", "j"]
theorem sc_point_list : FnScope N_point_list ["size"] (defScope st_point_list) := ⟨rfl, rfl, rfl, by decide +kernel, rfl, by decide +kernel, by decide +kernel⟩
abbrev st_moved : Stmt := topS 15
abbrev N_moved : List Str := ["point", "step"]
theorem sc_moved : FnScope N_moved ["point", "step"] (defScope st_moved) := ⟨rfl, rfl, rfl, by decide +kernel, rfl, by decide +kernel, by decide +kernel⟩
abbrev st_round_list : Stmt := topS 20
abbrev N_round_list : List Str := ["size", "result", "at"]
theorem sc_round_list : FnScope N_round_list ["size"] (defScope st_round_list) := ⟨rfl, rfl, rfl, by decide +kernel, rfl, by decide +kernel, by decide +kernel⟩
abbrev st_fits : Stmt := topS 27
abbrev N_fits : List Str := ["point", "label"]
theorem sc_fits : FnScope N_fits ["point", "label"] (defScope st_fits) := ⟨rfl, rfl, rfl, by decide +kernel, rfl, by decide +kernel, by decide +kernel⟩
abbrev st_is_full : Stmt := topS 30
abbrev N_is_full : List Str := ["table", "triangle", "point"]
theorem sc_is_full : FnScope N_is_full ["table", "triangle"] (defScope st_is_full) := ⟨rfl, rfl, rfl, by decide +kernel, rfl, by decide +kernel, by decide +kernel⟩
abbrev st_turn : Stmt := topS 34
abbrev N_turn : List Str := ["one", "other"]
theorem sc_turn : FnScope N_turn ["one", "other"] (defScope st_turn) := ⟨rfl, rfl, rfl, by decide +kernel, rfl, by decide +kernel, by decide +kernel⟩
abbrev st_is_door : Stmt := topS 49
abbrev N_is_door : List Str := ["table", "pair", "edge", "point"]
theorem sc_is_door : FnScope N_is_door ["table", "pair", "edge"] (defScope st_is_door) := ⟨rfl, rfl, rfl, by decide +kernel, rfl, by decide +kernel, by decide +kernel⟩
abbrev st_edges_of : Stmt := topS 50
abbrev N_edges_of : List Str := ["triangle"]
theorem sc_edges_of : FnScope N_edges_of ["triangle"] (defScope st_edges_of) := ⟨rfl, rfl, rfl, by decide +kernel, rfl, by decide +kernel, by decide +kernel⟩
abbrev st__law_cell_at : Stmt := topS 60
abbrev N__law_cell_at : List Str := ["_law_script", "_law_k", "_law_spare", "_law_again"]
theorem sc__law_cell_at : FnScope N__law_cell_at ["_law_script", "_law_k"] (defScope st__law_cell_at) := ⟨rfl, rfl, rfl, by decide +kernel, rfl, by decide +kernel, by decide +kernel⟩
abbrev st_check_size : Stmt := topS 12
abbrev N_check_size : List Str := ["size"]
theorem sc_check_size : FnScope N_check_size ["size"] (defScope st_check_size) := ⟨rfl, rfl, rfl, by decide +kernel, rfl, by decide +kernel, by decide +kernel⟩
abbrev st_beside : Stmt := topS 16
abbrev N_beside : List Str := ["point", "some", "step", "one"]
theorem sc_beside : FnScope N_beside ["point"] (defScope st_beside) := ⟨rfl, rfl, rfl, by decide +kernel, rfl, by decide +kernel, by decide +kernel⟩
abbrev st_turned_triangles : Stmt := topS 17
abbrev N_turned_triangles : List Str := ["size", "result", "point", "first", "second", "one", "other"]
theorem sc_turned_triangles : FnScope N_turned_triangles ["size"] (defScope st_turned_triangles) := ⟨rfl, rfl, rfl, by decide +kernel, rfl, by decide +kernel, by decide +kernel⟩
abbrev st_outer_edges : Stmt := topS 22
abbrev N_outer_edges : List Str := ["size", "some", "pair"]
theorem sc_outer_edges : FnScope N_outer_edges ["size"] (defScope st_outer_edges) := ⟨rfl, rfl, rfl, by decide +kernel, rfl, by decide +kernel, by decide +kernel⟩
abbrev st_valid_labels : Stmt := topS 24
abbrev N_valid_labels : List Str := ["size", "value", "one"]
theorem sc_valid_labels : FnScope N_valid_labels ["size", "value"] (defScope st_valid_labels) := ⟨rfl, rfl, rfl, by decide +kernel, rfl, by decide +kernel, by decide +kernel⟩
abbrev st_table_of : Stmt := topS 26
abbrev N_table_of : List Str := ["size", "labels"]
theorem sc_table_of : FnScope N_table_of ["size", "labels"] (defScope st_table_of) := ⟨rfl, rfl, rfl, by decide +kernel, rfl, by decide +kernel, by decide +kernel⟩
abbrev st_proper_labels : Stmt := topS 28
abbrev N_proper_labels : List Str := ["size", "labels", "point", "label"]
theorem sc_proper_labels : FnScope N_proper_labels ["size", "labels"] (defScope st_proper_labels) := ⟨rfl, rfl, rfl, by decide +kernel, rfl, by decide +kernel, by decide +kernel⟩
abbrev st_choices_at : Stmt := topS 43
abbrev N_choices_at : List Str := ["point", "label"]
theorem sc_choices_at : FnScope N_choices_at ["point"] (defScope st_choices_at) := ⟨rfl, rfl, rfl, by decide +kernel, rfl, by decide +kernel, by decide +kernel⟩
abbrev st_doors_of : Stmt := topS 51
abbrev N_doors_of : List Str := ["table", "pair", "triangle", "edge"]
theorem sc_doors_of : FnScope N_doors_of ["table", "pair", "triangle"] (defScope st_doors_of) := ⟨rfl, rfl, rfl, by decide +kernel, rfl, by decide +kernel, by decide +kernel⟩
abbrev st__law_mixed : Stmt := topS 61
abbrev N__law_mixed : List Str := ["_law_script", "_law_k", "_law_many", "_law_spun"]
theorem sc__law_mixed : FnScope N__law_mixed ["_law_script", "_law_k", "_law_many"] (defScope st__law_mixed) := ⟨rfl, rfl, rfl, by decide +kernel, rfl, by decide +kernel, by decide +kernel⟩
abbrev st_points : Stmt := topS 14
abbrev N_points : List Str := ["size"]
theorem sc_points : FnScope N_points ["size"] (defScope st_points) := ⟨rfl, rfl, rfl, by decide +kernel, rfl, by decide +kernel, by decide +kernel⟩
abbrev st_triangle_list : Stmt := topS 18
abbrev N_triangle_list : List Str := ["size", "one"]
theorem sc_triangle_list : FnScope N_triangle_list ["size"] (defScope st_triangle_list) := ⟨rfl, rfl, rfl, by decide +kernel, rfl, by decide +kernel, by decide +kernel⟩
abbrev st_round_of : Stmt := topS 21
abbrev N_round_of : List Str := ["size"]
theorem sc_round_of : FnScope N_round_of ["size"] (defScope st_round_of) := ⟨rfl, rfl, rfl, by decide +kernel, rfl, by decide +kernel, by decide +kernel⟩
abbrev st_check_labels : Stmt := topS 25
abbrev N_check_labels : List Str := ["size", "labels"]
theorem sc_check_labels : FnScope N_check_labels ["size", "labels"] (defScope st_check_labels) := ⟨rfl, rfl, rfl, by decide +kernel, rfl, by decide +kernel, by decide +kernel⟩
abbrev st_check_colours : Stmt := topS 37
abbrev N_check_colours : List Str := ["size", "colours", "one"]
theorem sc_check_colours : FnScope N_check_colours ["size", "colours"] (defScope st_check_colours) := ⟨rfl, rfl, rfl, by decide +kernel, rfl, by decide +kernel, by decide +kernel⟩
abbrev st_group_at : Stmt := topS 38
abbrev N_group_at : List Str := ["table", "point", "found", "line", "one"]
theorem sc_group_at : FnScope N_group_at ["table", "point"] (defScope st_group_at) := ⟨rfl, rfl, rfl, by decide +kernel, rfl, by decide +kernel, by decide +kernel⟩
abbrev st_count_proper : Stmt := topS 44
abbrev N_count_proper : List Str := ["size", "result", "point"]
theorem sc_count_proper : FnScope N_count_proper ["size"] (defScope st_count_proper) := ⟨rfl, rfl, rfl, by decide +kernel, rfl, by decide +kernel, by decide +kernel⟩
abbrev st_proper_list : Stmt := topS 45
abbrev N_proper_list : List Str := ["size", "some", "point", "later", "labels", "label"]
theorem sc_proper_list : FnScope N_proper_list ["size"] (defScope st_proper_list) := ⟨rfl, rfl, rfl, by decide +kernel, rfl, by decide +kernel, by decide +kernel⟩
abbrev st_outer_list : Stmt := topS 52
abbrev N_outer_list : List Str := ["size", "table", "pair", "edge"]
theorem sc_outer_list : FnScope N_outer_list ["size", "table", "pair"] (defScope st_outer_list) := ⟨rfl, rfl, rfl, by decide +kernel, rfl, by decide +kernel, by decide +kernel⟩
abbrev st_followed : Stmt := topS 55
abbrev N_followed : List Str := ["table", "pair", "around", "door", "triangle", "walk", "others", "after", "beyond", "edge", "one"]
theorem sc_followed : FnScope N_followed ["table", "pair", "around", "door", "triangle"] (defScope st_followed) := ⟨rfl, rfl, rfl, by decide +kernel, rfl, by decide +kernel, by decide +kernel⟩
abbrev st_entries : Stmt := topS 56
abbrev N_entries : List Str := ["table", "pair", "around", "triangle", "doors", "door"]
theorem sc_entries : FnScope N_entries ["table", "pair", "around", "triangle"] (defScope st_entries) := ⟨rfl, rfl, rfl, by decide +kernel, rfl, by decide +kernel, by decide +kernel⟩
abbrev st__law_draw : Stmt := topS 62
abbrev N__law_draw : List Str := ["_law_script", "_law_town", "_law_many"]
theorem sc__law_draw : FnScope N__law_draw ["_law_script", "_law_town", "_law_many"] (defScope st__law_draw) := ⟨rfl, rfl, rfl, by decide +kernel, rfl, by decide +kernel, by decide +kernel⟩
abbrev st_triangles : Stmt := topS 19
abbrev N_triangles : List Str := ["size"]
theorem sc_triangles : FnScope N_triangles ["size"] (defScope st_triangles) := ⟨rfl, rfl, rfl, by decide +kernel, rfl, by decide +kernel, by decide +kernel⟩
abbrev st_is_proper : Stmt := topS 29
abbrev N_is_proper : List Str := ["size", "labels"]
theorem sc_is_proper : FnScope N_is_proper ["size", "labels"] (defScope st_is_proper) := ⟨rfl, rfl, rfl, by decide +kernel, rfl, by decide +kernel, by decide +kernel⟩
abbrev st_full_list : Stmt := topS 31
abbrev N_full_list : List Str := ["size", "labels", "table", "one"]
theorem sc_full_list : FnScope N_full_list ["size", "labels"] (defScope st_full_list) := ⟨rfl, rfl, rfl, by decide +kernel, rfl, by decide +kernel, by decide +kernel⟩
abbrev st_sign : Stmt := topS 33
abbrev N_sign : List Str := ["size", "labels", "triangle", "table", "some", "row", "point"]
theorem sc_sign : FnScope N_sign ["size", "labels", "triangle"] (defScope st_sign) := ⟨rfl, rfl, rfl, by decide +kernel, rfl, by decide +kernel, by decide +kernel⟩
abbrev st_winding : Stmt := topS 35
abbrev N_winding : List Str := ["size", "labels", "table", "row", "point", "one", "other"]
theorem sc_winding : FnScope N_winding ["size", "labels"] (defScope st_winding) := ⟨rfl, rfl, rfl, by decide +kernel, rfl, by decide +kernel, by decide +kernel⟩
abbrev st_joining_group : Stmt := topS 39
abbrev N_joining_group : List Str := ["size", "colours", "table", "seen", "point", "group", "one", "side"]
theorem sc_joining_group : FnScope N_joining_group ["size", "colours"] (defScope st_joining_group) := ⟨rfl, rfl, rfl, by decide +kernel, rfl, by decide +kernel, by decide +kernel⟩
abbrev st_check_pair : Stmt := topS 48
abbrev N_check_pair : List Str := ["size", "labels", "pair", "one"]
theorem sc_check_pair : FnScope N_check_pair ["size", "labels", "pair"] (defScope st_check_pair) := ⟨rfl, rfl, rfl, by decide +kernel, rfl, by decide +kernel, by decide +kernel⟩
abbrev st_triangles_at : Stmt := topS 54
abbrev N_triangles_at : List Str := ["size", "result", "triangle", "edge"]
theorem sc_triangles_at : FnScope N_triangles_at ["size"] (defScope st_triangles_at) := ⟨rfl, rfl, rfl, by decide +kernel, rfl, by decide +kernel, by decide +kernel⟩
abbrev st_full_triangles : Stmt := topS 32
abbrev N_full_triangles : List Str := ["size", "labels"]
theorem sc_full_triangles : FnScope N_full_triangles ["size", "labels"] (defScope st_full_triangles) := ⟨rfl, rfl, rfl, by decide +kernel, rfl, by decide +kernel, by decide +kernel⟩
abbrev st_joining_colour : Stmt := topS 40
abbrev N_joining_colour : List Str := ["size", "colours", "table"]
theorem sc_joining_colour : FnScope N_joining_colour ["size", "colours"] (defScope st_joining_colour) := ⟨rfl, rfl, rfl, by decide +kernel, rfl, by decide +kernel, by decide +kernel⟩
abbrev st_joining_points : Stmt := topS 41
abbrev N_joining_points : List Str := ["size", "colours"]
theorem sc_joining_points : FnScope N_joining_points ["size", "colours"] (defScope st_joining_points) := ⟨rfl, rfl, rfl, by decide +kernel, rfl, by decide +kernel, by decide +kernel⟩
abbrev st_spread : Stmt := topS 46
abbrev N_spread : List Str := ["size", "found", "labels", "number"]
theorem sc_spread : FnScope N_spread ["size"] (defScope st_spread) := ⟨rfl, rfl, rfl, by decide +kernel, rfl, by decide +kernel, by decide +kernel⟩
abbrev st_outer_doors : Stmt := topS 53
abbrev N_outer_doors : List Str := ["size", "labels", "pair"]
theorem sc_outer_doors : FnScope N_outer_doors ["size", "labels", "pair"] (defScope st_outer_doors) := ⟨rfl, rfl, rfl, by decide +kernel, rfl, by decide +kernel, by decide +kernel⟩
abbrev st_all_walks : Stmt := topS 57
abbrev N_all_walks : List Str := ["size", "labels", "pair", "table", "around", "done", "result", "some", "triangle", "ways", "walk", "one", "door"]
theorem sc_all_walks : FnScope N_all_walks ["size", "labels", "pair"] (defScope st_all_walks) := ⟨rfl, rfl, rfl, by decide +kernel, rfl, by decide +kernel, by decide +kernel⟩
abbrev st_find_full : Stmt := topS 58
abbrev N_find_full : List Str := ["size", "labels", "table", "around", "door", "walk"]
theorem sc_find_full : FnScope N_find_full ["size", "labels"] (defScope st_find_full) := ⟨rfl, rfl, rfl, by decide +kernel, rfl, by decide +kernel, by decide +kernel⟩
abbrev st_law : Stmt := topS 63
abbrev N_law : List Str := ["_law_script", "_law_town", "_law_n", "_law_places", "_law_label", "_law_flat", "_law_first", "_law_corner", "_law_turned", "_law_spot", "_law_lone", "_law_road", "_law_side", "_law_pair", "_law_point", "_law_at", "_law_one", "_law_size"]
theorem sc_law : FnScope N_law ["_law_script"] (defScope st_law) := ⟨rfl, rfl, rfl, by decide +kernel, rfl, by decide +kernel, by decide +kernel⟩
def law_s1 : MS := (sSet 1 (mLst aNil))
def law_s2 : MS := (sSet 2 (m2 dAdd (mC (.int 2)) (mCall fs__law_draw [false, true, false] false (aCons (mVar 0) (aCons (mVar 1) (aCons (mC (.int 5)) aNil))))))
def law_s3 : MS := (sSet 3 (mCall fs_points [false] false (aCons (mVar 2) aNil)))
def law_s4 : MS := (sSet 4 (mCall fs__law_draw [false, true, false] false (aCons (mVar 0) (aCons (mVar 1) (aCons (mC (.int 3)) aNil)))))
def law_s5 : MS := (sSet 5 (m2 dRepT (mTup (aCons (mVar 4) aNil)) (mB dLen (aCons (mVar 3) aNil))))
def law_s6 : MS := (sIf (tmOr (tmV (m2 dNe (mCall fs_full_triangles [false, false] false (aCons (mVar 2) (aCons (mVar 5) aNil))) (mLst aNil))) (tmOr (tmV (m2 dNe (mCall fs_winding [false, false] false (aCons (mVar 2) (aCons (mVar 5) aNil))) (mC (.int 0)))) (tmV (m2 dIsNot (mCall fs_is_proper [false, false] false (aCons (mVar 2) (aCons (mVar 5) aNil))) (mC (.bl false)))))) (sRet (mC (.bl false))) sNil)
def law_s7 : MS := (sIf (tmV (m2 dNe (mLc [13] (iSeq (mLst (aCons (mTup (aCons (mC (.int 0)) (aCons (mC (.int 1)) aNil))) (aCons (mTup (aCons (mC (.int 0)) (aCons (mC (.int 2)) aNil))) (aCons (mTup (aCons (mC (.int 1)) (aCons (mC (.int 2)) aNil))) aNil))))) (gN 13) tmYes (mCall fs_all_walks [false, false, false] false (aCons (mVar 2) (aCons (mVar 5) (aCons (mVar 13) aNil))))) (mLst (aCons (mLst aNil) (aCons (mLst aNil) (aCons (mLst aNil) aNil)))))) (sRet (mC (.bl false))) sNil)
def law_s8 : MS := (sSet 6 (mB dTuple (aCons (mLc [14] (iSeq (mVar 3)) (gN 14) tmYes (m2 dIx (mLc [15] (iRange dR1 (aCons (mC (.int 3)) aNil)) (gN 15) (tmV (m2 dGt (m2 dIx (mVar 14) (mVar 15)) (mC (.int 0)))) (mVar 15)) (mC (.int 0)))) aNil)))
def law_s9 : MS := (sSet 7 (mTup (aCons (mTup (aCons (mC (.int 0)) (aCons (mC (.int 0)) (aCons (mVar 2) aNil)))) (aCons (mTup (aCons (mC (.int 0)) (aCons (mC (.int 1)) (aCons (m2 dSub (mVar 2) (mC (.int 1))) aNil)))) (aCons (mTup (aCons (mC (.int 1)) (aCons (mC (.int 0)) (aCons (m2 dSub (mVar 2) (mC (.int 1))) aNil)))) aNil)))))
def law_s10 : MS := (sIf (tmOr (tmV (m2 dIsNot (mCall fs_is_proper [false, false] false (aCons (mVar 2) (aCons (mVar 6) aNil))) (mC (.bl true)))) (tmOr (tmV (m2 dNe (mCall fs_full_triangles [false, false] false (aCons (mVar 2) (aCons (mVar 6) aNil))) (mLst (aCons (mVar 7) aNil)))) (tmV (m2 dNe (mCall fs_find_full [false, false] false (aCons (mVar 2) (aCons (mVar 6) aNil))) (mVar 7))))) (sRet (mC (.bl false))) sNil)
def law_s11 : MS := (sIf (tmOr (tmV (m2 dNe (mCall fs_winding [false, false] false (aCons (mVar 2) (aCons (mVar 6) aNil))) (mC (.int 1)))) (tmOr (tmV (m2 dNe (mCall fs_sign [false, false, false] false (aCons (mVar 2) (aCons (mVar 6) (aCons (mVar 7) aNil)))) (mC (.int 1)))) (tmV (m2 dNe (mB dLen (aCons (mCall fs_outer_doors [false, false, false] false (aCons (mVar 2) (aCons (mVar 6) (aCons (mTup (aCons (mC (.int 0)) (aCons (mC (.int 1)) aNil))) aNil)))) aNil)) (mC (.int 1)))))) (sRet (mC (.bl false))) sNil)
def law_s12 : MS := (sSet 8 (mB dTuple (aCons (mLc [16] (iSeq (mVar 6)) (gN 16) tmYes (m2 dIx (mLst (aCons (mC (.int 0)) (aCons (mC (.int 2)) (aCons (mC (.int 1)) aNil)))) (mVar 16))) aNil)))
def law_s13 : MS := (sIf (tmOr (tmV (m2 dNe (mCall fs_winding [false, false] false (aCons (mVar 2) (aCons (mVar 8) aNil))) (m1 dNeg (mC (.int 1))))) (tmOr (tmV (m2 dNe (mCall fs_full_triangles [false, false] false (aCons (mVar 2) (aCons (mVar 8) aNil))) (mLst (aCons (mVar 7) aNil)))) (tmV (m2 dNe (mCall fs_sign [false, false, false] false (aCons (mVar 2) (aCons (mVar 8) (aCons (mVar 7) aNil)))) (m1 dNeg (mC (.int 1))))))) (sRet (mC (.bl false))) sNil)
def law_s14 : MS := (sSet 9 (mIf (tmV (m2 dGt (mVar 2) (mC (.int 2)))) (mTup (aCons (mC (.int 1)) (aCons (mC (.int 1)) (aCons (m2 dSub (mVar 2) (mC (.int 2))) aNil)))) (mTup (aCons (mC (.int 0)) (aCons (mC (.int 1)) (aCons (mC (.int 1)) aNil))))))
def law_s15 : MS := (sSet 10 (mB dTuple (aCons (mLc [14] (iSeq (mVar 3)) (gN 14) tmYes (mIf (tmV (m2 dEq (mVar 14) (mVar 9))) (mC (.int 1)) (mC (.int 0)))) aNil)))
def law_s16 : MS := (sIf (tmOr (tmV (m2 dNe (mCall fs_joining_colour [false, false] false (aCons (mVar 2) (aCons (mVar 10) aNil))) (mC (.int 0)))) (tmV (m2 dNe (mCall fs_full_triangles [false, false] false (aCons (mVar 2) (aCons (mVar 10) aNil))) (mLst aNil)))) (sRet (mC (.bl false))) sNil)
def law_s17 : MS := (sSet 11 (mCall fs_all_walks [false, false, false] false (aCons (mVar 2) (aCons (mVar 10) (aCons (mTup (aCons (mC (.int 0)) (aCons (mC (.int 1)) aNil))) aNil)))))
def law_s18 : MS := (sIf (tmOr (tmV (m2 dNe (mB dLen (aCons (mVar 11) aNil)) (mC (.int 1)))) (tmV (m2 dNe (mB dLen (aCons (m2 dIx (mVar 11) (mC (.int 0))) aNil)) (mIf (tmV (m2 dGt (mVar 2) (mC (.int 2)))) (mC (.int 6)) (mC (.int 3)))))) (sRet (mC (.bl false))) sNil)
def law_s19 : MS := (sSet 12 (mB dTuple (aCons (mLc [14] (iSeq (mVar 3)) (gN 14) tmYes (mIf (tmV (m2 dEq (m2 dIx (mVar 14) (mC (.int 0))) (mC (.int 0)))) (mC (.int 1)) (mC (.int 0)))) aNil)))
def law_s20 : MS := (sIf (tmOr (tmV (m2 dNe (mCall fs_joining_colour [false, false] false (aCons (mVar 2) (aCons (mVar 12) aNil))) (mC (.int 1)))) (tmV (m2 dNe (mCall fs_joining_points [false, false] false (aCons (mVar 2) (aCons (mVar 12) aNil))) (mLc [14] (iSeq (mVar 3)) (gN 14) (tmV (m2 dEq (m2 dIx (mVar 14) (mC (.int 0))) (mC (.int 0)))) (mVar 14))))) (sRet (mC (.bl false))) sNil)
def law_s21 : MS := (sIf (tmOr (tmV (m2 dNe (mB dLen (aCons (mCall fs_triangles [false] false (aCons (mC (.int 1)) aNil)) aNil)) (mC (.int 1)))) (tmOr (tmV (m2 dNe (mCall fs_round_of [false] false (aCons (mC (.int 1)) aNil)) (mLst (aCons (mTup (aCons (mC (.int 1)) (aCons (mC (.int 0)) (aCons (mC (.int 0)) aNil)))) (aCons (mTup (aCons (mC (.int 0)) (aCons (mC (.int 1)) (aCons (mC (.int 0)) aNil)))) (aCons (mTup (aCons (mC (.int 0)) (aCons (mC (.int 0)) (aCons (mC (.int 1)) aNil)))) aNil)))))) (tmV (m2 dNe (mCall fs_spread [false] false (aCons (mC (.int 1)) aNil)) (mLst (aCons (mTup (aCons (mC (.int 1)) (aCons (mC (.int 1)) aNil))) aNil)))))) (sRet (mC (.bl false))) sNil)
def law_s22 : MS := (sRet (mAnd (m2 dEq (mLc [17] (iSeq (mTup (aCons (mC (.int 1)) (aCons (mC (.int 2)) (aCons (mC (.int 3)) (aCons (mC (.int 4)) aNil)))))) (gN 17) tmYes (mCall fs_count_proper [false] false (aCons (mVar 17) aNil))) (mLst (aCons (mC (.int 1)) (aCons (mC (.int 8)) (aCons (mC (.int 192)) (aCons (mC (.int 13824)) aNil)))))) (m2 dEq (mCall fs_spread [false] false (aCons (mC (.int 2)) aNil)) (mLst (aCons (mTup (aCons (mC (.int 1)) (aCons (mC (.int 8)) aNil))) aNil)))))
def m_law : MS := (sSeq law_s1 (sSeq law_s2 (sSeq law_s3 (sSeq law_s4 (sSeq law_s5 (sSeq law_s6 (sSeq law_s7 (sSeq law_s8 (sSeq law_s9 (sSeq law_s10 (sSeq law_s11 (sSeq law_s12 (sSeq law_s13 (sSeq law_s14 (sSeq law_s15 (sSeq law_s16 (sSeq law_s17 (sSeq law_s18 (sSeq law_s19 (sSeq law_s20 (sSeq law_s21 law_s22)))))))))))))))))))))
def fs_law : FS := fBody 18 [false] false m_law
set_option maxHeartbeats 0 in
set_option maxHeartbeats 0 in
structure Fx (K : PySem.W.Frag) (mg : Str → Option Value) where
  f_is_integer : Addr
  d_is_integer : FuncData
  F_is_integer : Fun K "is_integer" "is_integer" st_is_integer f_is_integer d_is_integer
  b_is_integer : Binds K d_is_integer ["value", "low", "high"] []
  g_is_integer : mg "is_integer" = some (.ref f_is_integer)
  f_point_list : Addr
  d_point_list : FuncData
  F_point_list : Fun K "point_list" "point_list" st_point_list f_point_list d_point_list
  b_point_list : Binds K d_point_list ["size"] []
  g_point_list : mg "point_list" = some (.ref f_point_list)
  f_moved : Addr
  d_moved : FuncData
  F_moved : Fun K "moved" "moved" st_moved f_moved d_moved
  b_moved : Binds K d_moved ["point", "step"] []
  g_moved : mg "moved" = some (.ref f_moved)
  f_round_list : Addr
  d_round_list : FuncData
  F_round_list : Fun K "round_list" "round_list" st_round_list f_round_list d_round_list
  b_round_list : Binds K d_round_list ["size"] []
  g_round_list : mg "round_list" = some (.ref f_round_list)
  f_fits : Addr
  d_fits : FuncData
  F_fits : Fun K "fits" "fits" st_fits f_fits d_fits
  b_fits : Binds K d_fits ["point", "label"] []
  g_fits : mg "fits" = some (.ref f_fits)
  f_is_full : Addr
  d_is_full : FuncData
  F_is_full : Fun K "is_full" "is_full" st_is_full f_is_full d_is_full
  b_is_full : Binds K d_is_full ["table", "triangle"] []
  g_is_full : mg "is_full" = some (.ref f_is_full)
  f_turn : Addr
  d_turn : FuncData
  F_turn : Fun K "turn" "turn" st_turn f_turn d_turn
  b_turn : Binds K d_turn ["one", "other"] []
  g_turn : mg "turn" = some (.ref f_turn)
  f_is_door : Addr
  d_is_door : FuncData
  F_is_door : Fun K "is_door" "is_door" st_is_door f_is_door d_is_door
  b_is_door : Binds K d_is_door ["table", "pair", "edge"] []
  g_is_door : mg "is_door" = some (.ref f_is_door)
  f_edges_of : Addr
  d_edges_of : FuncData
  F_edges_of : Fun K "edges_of" "edges_of" st_edges_of f_edges_of d_edges_of
  b_edges_of : Binds K d_edges_of ["triangle"] []
  g_edges_of : mg "edges_of" = some (.ref f_edges_of)
  f__law_cell_at : Addr
  d__law_cell_at : FuncData
  F__law_cell_at : Fun K "_law_cell_at" "_law_cell_at" st__law_cell_at f__law_cell_at d__law_cell_at
  b__law_cell_at : Binds K d__law_cell_at ["_law_script", "_law_k"] []
  g__law_cell_at : mg "_law_cell_at" = some (.ref f__law_cell_at)
  f_check_size : Addr
  d_check_size : FuncData
  F_check_size : Fun K "check_size" "check_size" st_check_size f_check_size d_check_size
  b_check_size : Binds K d_check_size ["size"] []
  g_check_size : mg "check_size" = some (.ref f_check_size)
  f_beside : Addr
  d_beside : FuncData
  F_beside : Fun K "beside" "beside" st_beside f_beside d_beside
  b_beside : Binds K d_beside ["point"] []
  g_beside : mg "beside" = some (.ref f_beside)
  f_turned_triangles : Addr
  d_turned_triangles : FuncData
  F_turned_triangles : Fun K "turned_triangles" "turned_triangles" st_turned_triangles f_turned_triangles d_turned_triangles
  b_turned_triangles : Binds K d_turned_triangles ["size"] []
  g_turned_triangles : mg "turned_triangles" = some (.ref f_turned_triangles)
  f_outer_edges : Addr
  d_outer_edges : FuncData
  F_outer_edges : Fun K "outer_edges" "outer_edges" st_outer_edges f_outer_edges d_outer_edges
  b_outer_edges : Binds K d_outer_edges ["size"] []
  g_outer_edges : mg "outer_edges" = some (.ref f_outer_edges)
  f_valid_labels : Addr
  d_valid_labels : FuncData
  F_valid_labels : Fun K "valid_labels" "valid_labels" st_valid_labels f_valid_labels d_valid_labels
  b_valid_labels : Binds K d_valid_labels ["size", "value"] []
  g_valid_labels : mg "valid_labels" = some (.ref f_valid_labels)
  f_table_of : Addr
  d_table_of : FuncData
  F_table_of : Fun K "table_of" "table_of" st_table_of f_table_of d_table_of
  b_table_of : Binds K d_table_of ["size", "labels"] []
  g_table_of : mg "table_of" = some (.ref f_table_of)
  f_proper_labels : Addr
  d_proper_labels : FuncData
  F_proper_labels : Fun K "proper_labels" "proper_labels" st_proper_labels f_proper_labels d_proper_labels
  b_proper_labels : Binds K d_proper_labels ["size", "labels"] []
  g_proper_labels : mg "proper_labels" = some (.ref f_proper_labels)
  f_choices_at : Addr
  d_choices_at : FuncData
  F_choices_at : Fun K "choices_at" "choices_at" st_choices_at f_choices_at d_choices_at
  b_choices_at : Binds K d_choices_at ["point"] []
  g_choices_at : mg "choices_at" = some (.ref f_choices_at)
  f_doors_of : Addr
  d_doors_of : FuncData
  F_doors_of : Fun K "doors_of" "doors_of" st_doors_of f_doors_of d_doors_of
  b_doors_of : Binds K d_doors_of ["table", "pair", "triangle"] []
  g_doors_of : mg "doors_of" = some (.ref f_doors_of)
  f__law_mixed : Addr
  d__law_mixed : FuncData
  F__law_mixed : Fun K "_law_mixed" "_law_mixed" st__law_mixed f__law_mixed d__law_mixed
  b__law_mixed : Binds K d__law_mixed ["_law_script", "_law_k", "_law_many"] []
  g__law_mixed : mg "_law_mixed" = some (.ref f__law_mixed)
  f_points : Addr
  d_points : FuncData
  F_points : Fun K "points" "points" st_points f_points d_points
  b_points : Binds K d_points ["size"] []
  g_points : mg "points" = some (.ref f_points)
  f_triangle_list : Addr
  d_triangle_list : FuncData
  F_triangle_list : Fun K "triangle_list" "triangle_list" st_triangle_list f_triangle_list d_triangle_list
  b_triangle_list : Binds K d_triangle_list ["size"] []
  g_triangle_list : mg "triangle_list" = some (.ref f_triangle_list)
  f_round_of : Addr
  d_round_of : FuncData
  F_round_of : Fun K "round_of" "round_of" st_round_of f_round_of d_round_of
  b_round_of : Binds K d_round_of ["size"] []
  g_round_of : mg "round_of" = some (.ref f_round_of)
  f_check_labels : Addr
  d_check_labels : FuncData
  F_check_labels : Fun K "check_labels" "check_labels" st_check_labels f_check_labels d_check_labels
  b_check_labels : Binds K d_check_labels ["size", "labels"] []
  g_check_labels : mg "check_labels" = some (.ref f_check_labels)
  f_check_colours : Addr
  d_check_colours : FuncData
  F_check_colours : Fun K "check_colours" "check_colours" st_check_colours f_check_colours d_check_colours
  b_check_colours : Binds K d_check_colours ["size", "colours"] []
  g_check_colours : mg "check_colours" = some (.ref f_check_colours)
  f_group_at : Addr
  d_group_at : FuncData
  F_group_at : Fun K "group_at" "group_at" st_group_at f_group_at d_group_at
  b_group_at : Binds K d_group_at ["table", "point"] []
  g_group_at : mg "group_at" = some (.ref f_group_at)
  f_count_proper : Addr
  d_count_proper : FuncData
  F_count_proper : Fun K "count_proper" "count_proper" st_count_proper f_count_proper d_count_proper
  b_count_proper : Binds K d_count_proper ["size"] []
  g_count_proper : mg "count_proper" = some (.ref f_count_proper)
  f_proper_list : Addr
  d_proper_list : FuncData
  F_proper_list : Fun K "proper_list" "proper_list" st_proper_list f_proper_list d_proper_list
  b_proper_list : Binds K d_proper_list ["size"] []
  g_proper_list : mg "proper_list" = some (.ref f_proper_list)
  f_outer_list : Addr
  d_outer_list : FuncData
  F_outer_list : Fun K "outer_list" "outer_list" st_outer_list f_outer_list d_outer_list
  b_outer_list : Binds K d_outer_list ["size", "table", "pair"] []
  g_outer_list : mg "outer_list" = some (.ref f_outer_list)
  f_followed : Addr
  d_followed : FuncData
  F_followed : Fun K "followed" "followed" st_followed f_followed d_followed
  b_followed : Binds K d_followed ["table", "pair", "around", "door", "triangle"] []
  g_followed : mg "followed" = some (.ref f_followed)
  f_entries : Addr
  d_entries : FuncData
  F_entries : Fun K "entries" "entries" st_entries f_entries d_entries
  b_entries : Binds K d_entries ["table", "pair", "around", "triangle"] []
  g_entries : mg "entries" = some (.ref f_entries)
  f__law_draw : Addr
  d__law_draw : FuncData
  F__law_draw : Fun K "_law_draw" "_law_draw" st__law_draw f__law_draw d__law_draw
  b__law_draw : Binds K d__law_draw ["_law_script", "_law_town", "_law_many"] []
  g__law_draw : mg "_law_draw" = some (.ref f__law_draw)
  f_triangles : Addr
  d_triangles : FuncData
  F_triangles : Fun K "triangles" "triangles" st_triangles f_triangles d_triangles
  b_triangles : Binds K d_triangles ["size"] []
  g_triangles : mg "triangles" = some (.ref f_triangles)
  f_is_proper : Addr
  d_is_proper : FuncData
  F_is_proper : Fun K "is_proper" "is_proper" st_is_proper f_is_proper d_is_proper
  b_is_proper : Binds K d_is_proper ["size", "labels"] []
  g_is_proper : mg "is_proper" = some (.ref f_is_proper)
  f_full_list : Addr
  d_full_list : FuncData
  F_full_list : Fun K "full_list" "full_list" st_full_list f_full_list d_full_list
  b_full_list : Binds K d_full_list ["size", "labels"] []
  g_full_list : mg "full_list" = some (.ref f_full_list)
  f_sign : Addr
  d_sign : FuncData
  F_sign : Fun K "sign" "sign" st_sign f_sign d_sign
  b_sign : Binds K d_sign ["size", "labels", "triangle"] []
  g_sign : mg "sign" = some (.ref f_sign)
  f_winding : Addr
  d_winding : FuncData
  F_winding : Fun K "winding" "winding" st_winding f_winding d_winding
  b_winding : Binds K d_winding ["size", "labels"] []
  g_winding : mg "winding" = some (.ref f_winding)
  f_joining_group : Addr
  d_joining_group : FuncData
  F_joining_group : Fun K "joining_group" "joining_group" st_joining_group f_joining_group d_joining_group
  b_joining_group : Binds K d_joining_group ["size", "colours"] []
  g_joining_group : mg "joining_group" = some (.ref f_joining_group)
  f_check_pair : Addr
  d_check_pair : FuncData
  F_check_pair : Fun K "check_pair" "check_pair" st_check_pair f_check_pair d_check_pair
  b_check_pair : Binds K d_check_pair ["size", "labels", "pair"] []
  g_check_pair : mg "check_pair" = some (.ref f_check_pair)
  f_triangles_at : Addr
  d_triangles_at : FuncData
  F_triangles_at : Fun K "triangles_at" "triangles_at" st_triangles_at f_triangles_at d_triangles_at
  b_triangles_at : Binds K d_triangles_at ["size"] []
  g_triangles_at : mg "triangles_at" = some (.ref f_triangles_at)
  f_full_triangles : Addr
  d_full_triangles : FuncData
  F_full_triangles : Fun K "full_triangles" "full_triangles" st_full_triangles f_full_triangles d_full_triangles
  b_full_triangles : Binds K d_full_triangles ["size", "labels"] []
  g_full_triangles : mg "full_triangles" = some (.ref f_full_triangles)
  f_joining_colour : Addr
  d_joining_colour : FuncData
  F_joining_colour : Fun K "joining_colour" "joining_colour" st_joining_colour f_joining_colour d_joining_colour
  b_joining_colour : Binds K d_joining_colour ["size", "colours"] []
  g_joining_colour : mg "joining_colour" = some (.ref f_joining_colour)
  f_joining_points : Addr
  d_joining_points : FuncData
  F_joining_points : Fun K "joining_points" "joining_points" st_joining_points f_joining_points d_joining_points
  b_joining_points : Binds K d_joining_points ["size", "colours"] []
  g_joining_points : mg "joining_points" = some (.ref f_joining_points)
  f_spread : Addr
  d_spread : FuncData
  F_spread : Fun K "spread" "spread" st_spread f_spread d_spread
  b_spread : Binds K d_spread ["size"] []
  g_spread : mg "spread" = some (.ref f_spread)
  f_outer_doors : Addr
  d_outer_doors : FuncData
  F_outer_doors : Fun K "outer_doors" "outer_doors" st_outer_doors f_outer_doors d_outer_doors
  b_outer_doors : Binds K d_outer_doors ["size", "labels", "pair"] []
  g_outer_doors : mg "outer_doors" = some (.ref f_outer_doors)
  f_all_walks : Addr
  d_all_walks : FuncData
  F_all_walks : Fun K "all_walks" "all_walks" st_all_walks f_all_walks d_all_walks
  b_all_walks : Binds K d_all_walks ["size", "labels", "pair"] []
  g_all_walks : mg "all_walks" = some (.ref f_all_walks)
  f_find_full : Addr
  d_find_full : FuncData
  F_find_full : Fun K "find_full" "find_full" st_find_full f_find_full d_find_full
  b_find_full : Binds K d_find_full ["size", "labels"] []
  g_find_full : mg "find_full" = some (.ref f_find_full)
  f_law : Addr
  d_law : FuncData
  F_law : Fun K "law" "law" st_law f_law d_law
  b_law : Binds K d_law ["_law_script"] []
  g_law : mg "law" = some (.ref f_law)
  h_law : ∀ (s : Shared) (u : Value), BindsTo s d_law ⟨[u], []⟩ [("_law_script", u)]
  a_STEPS : Addr
  g_STEPS : mg "STEPS" = some (.ref a_STEPS)
  r_STEPS : ∀ (P : Program) (w : World) (F : Hp), Rp ⟨P, w, K, []⟩ F (.ref a_STEPS) gd_STEPS
  z_all : mg "all" = none
  z_any : mg "any" = none
  z_bool : mg "bool" = none
  z_dict : mg "dict" = none
  z_int : mg "int" = none
  z_isinstance : mg "isinstance" = none
  z_len : mg "len" = none
  z_list : mg "list" = none
  z_min : mg "min" = none
  z_range : mg "range" = none
  z_sorted : mg "sorted" = none
  z_sum : mg "sum" = none
  z_tuple : mg "tuple" = none
  z_zip : mg "zip" = none
  x_InvalidSize : clsOk K 0 = true
  x_InvalidLabels : clsOk K 2 = true
  x_InvalidTriangle : clsOk K 3 = true
  x_InvalidPair : clsOk K 4 = true
  x_InvalidColours : clsOk K 6 = true
  x_NotFull : clsOk K 9 = true
  x_NotProper : clsOk K 10 = true
  gl : GlOk K mg
section
variable {P : Program} {w : World} {K : PySem.W.Frag} {mg : Str → Option Value} {base : Heap} {cv : Nat → Value}
theorem ok_is_integer (T : Fx K mg) : FnOk P w K mg base (L2.CX P w) 1 T.f_is_integer T.d_is_integer ["value", "low", "high"] (spF ⟨P, w, K, []⟩ (cvOf K) [false, false, false] false fs_is_integer) :=
  fn_body T.F_is_integer sc_is_integer rfl (by decide) fun cdv A outer s H E W hr tk hp => by
    refine sms_one ?_
    refine sm_ret ?_
    refine em_and ?_ ?_
    refine em_callB cd_isi (by rfl) T.z_isinstance (by decide +kernel) ?_
    refine am_cons ?_ ?_
    exact em_var 0
    refine am_cons ?_ ?_
    exact em_ty (by rfl) T.z_int (by decide +kernel)
    exact am_nil
    refine em_and ?_ ?_
    refine em_not ?_
    refine em_callB cd_isi (by rfl) T.z_isinstance (by decide +kernel) ?_
    refine am_cons ?_ ?_
    exact em_var 0
    refine am_cons ?_ ?_
    exact em_ty (by rfl) T.z_bool (by decide +kernel)
    exact am_nil
    refine em_one ?_
    refine em_ch od_le od_le ?_ ?_ ?_
    exact em_var 1
    exact em_var 0
    exact em_var 2
theorem ok_point_list (T : Fx K mg) : FnOk P w K mg base (L2.CX P w) 1 T.f_point_list T.d_point_list ["size"] (spF ⟨P, w, K, []⟩ (cvOf K) [false] false fs_point_list) :=
  fn_body T.F_point_list sc_point_list rfl (by decide) fun cdv A outer s H E W hr tk hp => by
    refine sms_cons ?_ ?_
    refine sm_set sc_point_list.nd ?_
    refine em_lst ?_
    exact am_nil
    refine sms_cons ?_ ?_
    refine sm_for (vs := [2]) hp rfl ?_ ?_ ?_
    refine im_range1 (by rfl) T.z_range ?_
    refine am_cons ?_ ?_
    refine em_op od_add ?_ ?_
    exact em_var 0
    exact em_int
    exact am_nil
    exact gm_name (vs := [2]) sc_point_list.nd (by decide) rfl (Or.inr rfl) (.inl rfl)
    refine sms_one ?_
    refine sm_expr ?_
    refine em_ext ?_ ?_
    exact em_var 1
    refine em_lc (own := [("j", 3)]) rfl sc_point_list.nd ?_ ?_ ?_ ?_ (fun _ _ _ _ _ => ?_)
    refine im_range1 (by rfl) T.z_range ?_
    refine am_cons ?_ ?_
    refine em_op od_add ?_ ?_
    refine em_op od_sub ?_ ?_
    exact em_var 0
    exact em_var 2
    exact em_int
    exact am_nil
    exact blkOk_by (by kernel_rfl)
    exact gmb_name sc_point_list.nd (by decide) rfl (fun _ _ _ _ _ => ⟨Or.inl rfl, by first | exact .inl rfl | exact .inr rfl⟩)
    exact fun _ _ _ _ _ => tms_nil
    refine em_tup ?_
    refine am_cons ?_ ?_
    exact em_var 2
    refine am_cons ?_ ?_
    exact em_var 3
    refine am_cons ?_ ?_
    refine em_op od_sub ?_ ?_
    refine em_op od_sub ?_ ?_
    exact em_var 0
    exact em_var 2
    exact em_var 3
    exact am_nil
    refine sms_one ?_
    refine sm_ret ?_
    exact em_var 1
theorem ok_moved (T : Fx K mg) : FnOk P w K mg base (L2.CX P w) 1 T.f_moved T.d_moved ["point", "step"] (spF ⟨P, w, K, []⟩ (cvOf K) [false, false] false fs_moved) :=
  fn_body T.F_moved sc_moved rfl (by decide) fun cdv A outer s H E W hr tk hp => by
    refine sms_one ?_
    refine sm_ret ?_
    refine em_tup ?_
    refine am_cons ?_ ?_
    refine em_op od_add ?_ ?_
    refine em_ix hr ?_ ?_
    exact em_var 0
    exact em_int
    refine em_ix hr ?_ ?_
    exact em_var 1
    exact em_int
    refine am_cons ?_ ?_
    refine em_op od_add ?_ ?_
    refine em_ix hr ?_ ?_
    exact em_var 0
    exact em_int
    refine em_ix hr ?_ ?_
    exact em_var 1
    exact em_int
    refine am_cons ?_ ?_
    refine em_op od_add ?_ ?_
    refine em_ix hr ?_ ?_
    exact em_var 0
    exact em_int
    refine em_ix hr ?_ ?_
    exact em_var 1
    exact em_int
    exact am_nil
theorem ok_round_list (T : Fx K mg) : FnOk P w K mg base (L2.CX P w) 1 T.f_round_list T.d_round_list ["size"] (spF ⟨P, w, K, []⟩ (cvOf K) [false] false fs_round_list) :=
  fn_body T.F_round_list sc_round_list rfl (by decide) fun cdv A outer s H E W hr tk hp => by
    refine sms_cons ?_ ?_
    refine sm_setLc (own := [("at", 2)]) rfl sc_round_list.nd ?_ ?_ ?_ ?_ (fun _ _ _ _ _ => ?_) ?_
    refine im_range1 (by rfl) T.z_range ?_
    refine am_cons ?_ ?_
    exact em_var 0
    exact am_nil
    exact blkOk_by (by kernel_rfl)
    exact gmb_name sc_round_list.nd (by decide) rfl (fun _ _ _ _ _ => ⟨Or.inl rfl, by first | exact .inl rfl | exact .inr rfl⟩)
    exact fun _ _ _ _ _ => tms_nil
    refine em_tup ?_
    refine am_cons ?_ ?_
    refine em_op od_sub ?_ ?_
    exact em_var 0
    exact em_var 2
    refine am_cons ?_ ?_
    exact em_var 2
    refine am_cons ?_ ?_
    exact em_int
    exact am_nil
    exact sw_true rfl rfl rfl (by kernel_rfl)
    refine sms_cons ?_ ?_
    refine sm_expr ?_
    refine em_ext ?_ ?_
    exact em_var 1
    refine em_lc (own := [("at", 2)]) rfl sc_round_list.nd ?_ ?_ ?_ ?_ (fun _ _ _ _ _ => ?_)
    refine im_range1 (by rfl) T.z_range ?_
    refine am_cons ?_ ?_
    exact em_var 0
    exact am_nil
    exact blkOk_by (by kernel_rfl)
    exact gmb_name sc_round_list.nd (by decide) rfl (fun _ _ _ _ _ => ⟨Or.inl rfl, by first | exact .inl rfl | exact .inr rfl⟩)
    exact fun _ _ _ _ _ => tms_nil
    refine em_tup ?_
    refine am_cons ?_ ?_
    exact em_int
    refine am_cons ?_ ?_
    refine em_op od_sub ?_ ?_
    exact em_var 0
    exact em_var 2
    refine am_cons ?_ ?_
    exact em_var 2
    exact am_nil
    refine sms_cons ?_ ?_
    refine sm_expr ?_
    refine em_ext ?_ ?_
    exact em_var 1
    refine em_lc (own := [("at", 2)]) rfl sc_round_list.nd ?_ ?_ ?_ ?_ (fun _ _ _ _ _ => ?_)
    refine im_range1 (by rfl) T.z_range ?_
    refine am_cons ?_ ?_
    exact em_var 0
    exact am_nil
    exact blkOk_by (by kernel_rfl)
    exact gmb_name sc_round_list.nd (by decide) rfl (fun _ _ _ _ _ => ⟨Or.inl rfl, by first | exact .inl rfl | exact .inr rfl⟩)
    exact fun _ _ _ _ _ => tms_nil
    refine em_tup ?_
    refine am_cons ?_ ?_
    exact em_var 2
    refine am_cons ?_ ?_
    exact em_int
    refine am_cons ?_ ?_
    refine em_op od_sub ?_ ?_
    exact em_var 0
    exact em_var 2
    exact am_nil
    refine sms_one ?_
    refine sm_ret ?_
    exact em_var 1
theorem ok_fits (T : Fx K mg) : FnOk P w K mg base (L2.CX P w) 1 T.f_fits T.d_fits ["point", "label"] (spF ⟨P, w, K, []⟩ (cvOf K) [false, false] false fs_fits) :=
  fn_body T.F_fits sc_fits rfl (by decide) fun cdv A outer s H E W hr tk hp => by
    refine sms_one ?_
    refine sm_ret ?_
    refine em_cmp od_gt ?_ ?_ (by rfl)
    refine em_ix hr ?_ ?_
    exact em_var 0
    exact em_var 1
    exact em_int
theorem ok_is_full (T : Fx K mg) : FnOk P w K mg base (L2.CX P w) 1 T.f_is_full T.d_is_full ["table", "triangle"] (spF ⟨P, w, K, []⟩ (cvOf K) [false, false] false fs_is_full) :=
  fn_body T.F_is_full sc_is_full rfl (by decide) fun cdv A outer s H E W hr tk hp => by
    refine sms_one ?_
    refine sm_ret ?_
    refine em_cmp (od_eq hr.ru) ?_ ?_ (by rfl)
    refine em_callB (cd_sorted hr) (by rfl) T.z_sorted (by decide +kernel) ?_
    refine am_cons ?_ ?_
    refine em_lc (own := [("point", 2)]) rfl sc_is_full.nd ?_ ?_ ?_ ?_ (fun _ _ _ _ _ => ?_)
    refine im_seq ?_
    exact em_var 1
    exact blkOk_by (by kernel_rfl)
    exact gmb_name sc_is_full.nd (by decide) rfl (fun _ _ _ _ _ => ⟨Or.inl rfl, by first | exact .inl rfl | exact .inr rfl⟩)
    exact fun _ _ _ _ _ => tms_nil
    refine em_ix hr ?_ ?_
    exact em_var 0
    exact em_var 2
    exact am_nil
    refine em_lst ?_
    refine am_cons ?_ ?_
    exact em_int
    refine am_cons ?_ ?_
    exact em_int
    refine am_cons ?_ ?_
    exact em_int
    exact am_nil
theorem ok_turn (T : Fx K mg) : FnOk P w K mg base (L2.CX P w) 1 T.f_turn T.d_turn ["one", "other"] (spF ⟨P, w, K, []⟩ (cvOf K) [false, false] false fs_turn) :=
  fn_body T.F_turn sc_turn rfl (by decide) fun cdv A outer s H E W hr tk hp => by
    refine sms_one ?_
    refine sm_ret ?_
    refine em_ix hr ?_ ?_
    refine em_lst ?_
    refine am_cons ?_ ?_
    exact em_int
    refine am_cons ?_ ?_
    exact em_int
    refine am_cons ?_ ?_
    refine em_un od_neg ?_
    exact em_int
    exact am_nil
    refine em_op od_mod ?_ ?_
    refine em_op od_sub ?_ ?_
    exact em_var 1
    exact em_var 0
    exact em_int
theorem ok_is_door (T : Fx K mg) : FnOk P w K mg base (L2.CX P w) 1 T.f_is_door T.d_is_door ["table", "pair", "edge"] (spF ⟨P, w, K, []⟩ (cvOf K) [false, false, false] false fs_is_door) :=
  fn_body T.F_is_door sc_is_door rfl (by decide) fun cdv A outer s H E W hr tk hp => by
    refine sms_one ?_
    refine sm_ret ?_
    refine em_cmp (od_eq hr.ru) ?_ ?_ (by rfl)
    refine em_callB (cd_sorted hr) (by rfl) T.z_sorted (by decide +kernel) ?_
    refine am_cons ?_ ?_
    refine em_lc (own := [("point", 3)]) rfl sc_is_door.nd ?_ ?_ ?_ ?_ (fun _ _ _ _ _ => ?_)
    refine im_seq ?_
    exact em_var 2
    exact blkOk_by (by kernel_rfl)
    exact gmb_name sc_is_door.nd (by decide) rfl (fun _ _ _ _ _ => ⟨Or.inl rfl, by first | exact .inl rfl | exact .inr rfl⟩)
    exact fun _ _ _ _ _ => tms_nil
    refine em_ix hr ?_ ?_
    exact em_var 0
    exact em_var 3
    exact am_nil
    refine em_callTy cd_list (by rfl) T.z_list (by decide +kernel) ?_
    refine am_cons ?_ ?_
    exact em_var 1
    exact am_nil
theorem ok_edges_of (T : Fx K mg) : FnOk P w K mg base (L2.CX P w) 1 T.f_edges_of T.d_edges_of ["triangle"] (spF ⟨P, w, K, []⟩ (cvOf K) [false] false fs_edges_of) :=
  fn_body T.F_edges_of sc_edges_of rfl (by decide) fun cdv A outer s H E W hr tk hp => by
    refine sms_one ?_
    refine sm_ret ?_
    refine em_lst ?_
    refine am_cons ?_ ?_
    refine em_sl ?_ ?_ ?_
    exact em_var 0
    exact om_none
    refine om_some ?_
    exact em_int
    refine am_cons ?_ ?_
    refine em_tup ?_
    refine am_cons ?_ ?_
    refine em_ix hr ?_ ?_
    exact em_var 0
    exact em_int
    refine am_cons ?_ ?_
    refine em_ix hr ?_ ?_
    exact em_var 0
    exact em_int
    exact am_nil
    refine am_cons ?_ ?_
    refine em_sl ?_ ?_ ?_
    exact em_var 0
    refine om_some ?_
    exact em_int
    exact om_none
    exact am_nil
theorem ok__law_cell_at (T : Fx K mg) : FnOk P w K mg base (L2.CX P w) 1 T.f__law_cell_at T.d__law_cell_at ["_law_script", "_law_k"] (spF ⟨P, w, K, []⟩ (cvOf K) [false, false] false fs__law_cell_at) :=
  fn_body T.F__law_cell_at sc__law_cell_at rfl (by decide) fun cdv A outer s H E W hr tk hp => by
    refine sms_cons ?_ ?_
    refine sm_if ?_ ?_ ?_
    refine tm_cmp od_lt ?_ ?_ (by rfl)
    exact em_var 1
    refine em_callB cd_len (by rfl) T.z_len (by decide +kernel) ?_
    refine am_cons ?_ ?_
    exact em_var 0
    exact am_nil
    refine sms_one ?_
    refine sm_ret ?_
    refine em_ix hr ?_ ?_
    exact em_var 0
    exact em_var 1
    exact sms_nil
    refine sms_cons ?_ ?_
    refine sm_if ?_ ?_ ?_
    refine tm_cmp (od_eq hr.ru) ?_ ?_ (by rfl)
    exact em_var 0
    refine em_lst ?_
    exact am_nil
    refine sms_one ?_
    refine sm_ret ?_
    exact em_int
    exact sms_nil
    refine sms_cons ?_ ?_
    refine sm_set sc__law_cell_at.nd ?_
    refine em_ix hr ?_ ?_
    exact em_var 0
    refine em_op od_mod ?_ ?_
    exact em_var 1
    refine em_callB cd_len (by rfl) T.z_len (by decide +kernel) ?_
    refine am_cons ?_ ?_
    exact em_var 0
    exact am_nil
    refine sms_cons ?_ ?_
    refine sm_for (vs := [3]) hp rfl ?_ ?_ ?_
    refine im_range1 (by rfl) T.z_range ?_
    refine am_cons ?_ ?_
    refine em_callB (cd_min rfl hr) (by rfl) T.z_min (by decide +kernel) ?_
    refine am_cons ?_ ?_
    refine em_op od_div ?_ ?_
    exact em_var 1
    refine em_callB cd_len (by rfl) T.z_len (by decide +kernel) ?_
    refine am_cons ?_ ?_
    exact em_var 0
    exact am_nil
    refine am_cons ?_ ?_
    exact em_int
    exact am_nil
    exact am_nil
    exact gm_name (vs := [3]) sc__law_cell_at.nd (by decide) rfl (Or.inl rfl) (.inl rfl)
    refine sms_one ?_
    refine sm_set sc__law_cell_at.nd ?_
    refine em_op od_div ?_ ?_
    exact em_var 2
    exact em_int
    refine sms_one ?_
    refine sm_ret ?_
    refine em_op od_add ?_ ?_
    refine em_op od_add ?_ ?_
    refine em_op od_mul ?_ ?_
    refine em_ix hr ?_ ?_
    exact em_var 0
    refine em_op od_mod ?_ ?_
    exact em_var 1
    refine em_callB cd_len (by rfl) T.z_len (by decide +kernel) ?_
    refine am_cons ?_ ?_
    exact em_var 0
    exact am_nil
    exact em_int
    exact em_var 1
    refine em_op od_mul ?_ ?_
    exact em_var 2
    exact em_int
theorem ok_check_size (T : Fx K mg) : FnOk P w K mg base (L2.CX P w) 2 T.f_check_size T.d_check_size ["size"] (spF ⟨P, w, K, []⟩ (cvOf K) [false] false fs_check_size) :=
  fn_body T.F_check_size sc_check_size rfl (by decide) fun cdv A outer s H E W hr tk hp => by
    refine sms_one ?_
    refine sm_if ?_ ?_ ?_
    refine tm_not ?_
    refine tm_val ?_
    refine em_call (ok_is_integer T) tk (hr.mono (by decide)) (by rfl) T.g_is_integer T.F_is_integer.kp T.b_is_integer ?_
    refine am_cons ?_ ?_
    exact em_var 0
    refine am_cons ?_ ?_
    exact em_int
    refine am_cons ?_ ?_
    exact em_int
    exact am_nil
    refine sms_one ?_
    exact sm_raise (by rfl) rfl T.gl T.x_InvalidSize tk (by rfl)
    exact sms_nil
theorem ok_beside (T : Fx K mg) : FnOk P w K mg base (L2.CX P w) 2 T.f_beside T.d_beside ["point"] (spF ⟨P, w, K, []⟩ (cvOf K) [false] false fs_beside) :=
  fn_body T.F_beside sc_beside rfl (by decide) fun cdv A outer s H E W hr tk hp => by
    refine sms_cons ?_ ?_
    refine sm_setLc (own := [("step", 2)]) rfl sc_beside.nd ?_ ?_ ?_ ?_ (fun _ _ _ _ _ => ?_) ?_
    refine im_seq ?_
    exact em_gl (by rfl) T.g_STEPS (relR _) (T.r_STEPS _ _)
    exact blkOk_by (by kernel_rfl)
    exact gmb_name sc_beside.nd (by decide) rfl (fun _ _ _ _ _ => ⟨Or.inl rfl, by first | exact .inl rfl | exact .inr rfl⟩)
    exact fun _ _ _ _ _ => tms_nil
    refine em_call (ok_moved T) takes0 (hr.mono (by decide)) (by rfl) T.g_moved T.F_moved.kp T.b_moved ?_
    refine am_cons ?_ ?_
    exact em_var 0
    refine am_cons ?_ ?_
    exact em_var 2
    exact am_nil
    exact sw_true rfl rfl rfl (by kernel_rfl)
    refine sms_one ?_
    refine sm_ret ?_
    refine em_lc (own := [("one", 3)]) rfl sc_beside.nd ?_ ?_ ?_ ?_ (fun _ _ _ _ _ => ?_)
    refine im_seq ?_
    exact em_var 1
    exact blkOk_by (by kernel_rfl)
    exact gmb_name sc_beside.nd (by decide) rfl (fun _ _ _ _ _ => ⟨Or.inl rfl, by first | exact .inl rfl | exact .inr rfl⟩)
    refine (fun _ _ _ _ _ => ?_)
    refine tms_one ?_
    refine tm_cmp od_ge ?_ ?_ (by rfl)
    refine em_callB (cd_min rfl hr) (by rfl) T.z_min (by decide +kernel) ?_
    refine am_cons ?_ ?_
    exact em_var 3
    exact am_nil
    exact em_int
    exact em_var 3
theorem ok_turned_triangles (T : Fx K mg) : FnOk P w K mg base (L2.CX P w) 2 T.f_turned_triangles T.d_turned_triangles ["size"] (spF ⟨P, w, K, []⟩ (cvOf K) [false] false fs_turned_triangles) :=
  fn_body T.F_turned_triangles sc_turned_triangles rfl (by decide) fun cdv A outer s H E W hr tk hp => by
    refine sms_cons ?_ ?_
    refine sm_set sc_turned_triangles.nd ?_
    refine em_lst ?_
    exact am_nil
    refine sms_cons ?_ ?_
    refine sm_for (vs := [2]) hp rfl ?_ ?_ ?_
    refine im_seq ?_
    refine em_call (ok_point_list T) tk (hr.mono (by decide)) (by rfl) T.g_point_list T.F_point_list.kp T.b_point_list ?_
    refine am_cons ?_ ?_
    exact em_var 0
    exact am_nil
    exact gm_name (vs := [2]) sc_turned_triangles.nd (by decide) rfl (Or.inl rfl) (.inl rfl)
    refine sms_one ?_
    refine sm_for (vs := [3, 4]) hp rfl ?_ ?_ ?_
    refine im_seq ?_
    refine em_lst ?_
    refine am_cons ?_ ?_
    refine em_tup ?_
    refine am_cons ?_ ?_
    refine em_tup ?_
    refine am_cons ?_ ?_
    refine em_un od_neg ?_
    exact em_int
    refine am_cons ?_ ?_
    exact em_int
    refine am_cons ?_ ?_
    exact em_int
    exact am_nil
    refine am_cons ?_ ?_
    refine em_tup ?_
    refine am_cons ?_ ?_
    exact em_int
    refine am_cons ?_ ?_
    refine em_un od_neg ?_
    exact em_int
    refine am_cons ?_ ?_
    exact em_int
    exact am_nil
    exact am_nil
    refine am_cons ?_ ?_
    refine em_tup ?_
    refine am_cons ?_ ?_
    refine em_tup ?_
    refine am_cons ?_ ?_
    exact em_int
    refine am_cons ?_ ?_
    refine em_un od_neg ?_
    exact em_int
    refine am_cons ?_ ?_
    exact em_int
    exact am_nil
    refine am_cons ?_ ?_
    refine em_tup ?_
    refine am_cons ?_ ?_
    exact em_int
    refine am_cons ?_ ?_
    exact em_int
    refine am_cons ?_ ?_
    refine em_un od_neg ?_
    exact em_int
    exact am_nil
    exact am_nil
    exact am_nil
    refine gm_tup (vs := [3, 4]) rfl ?_
    refine gls_cons sc_turned_triangles.nd (by decide) ?_ rfl (Or.inl rfl) (.inl rfl)
    refine gls_cons sc_turned_triangles.nd (by decide) ?_ rfl (Or.inl rfl) (.inl rfl)
    exact gls_nil
    refine sms_cons ?_ ?_
    refine sm_set sc_turned_triangles.nd ?_
    refine em_call (ok_moved T) tk (hr.mono (by decide)) (by rfl) T.g_moved T.F_moved.kp T.b_moved ?_
    refine am_cons ?_ ?_
    exact em_var 2
    refine am_cons ?_ ?_
    exact em_var 3
    exact am_nil
    refine sms_cons ?_ ?_
    refine sm_set sc_turned_triangles.nd ?_
    refine em_call (ok_moved T) tk (hr.mono (by decide)) (by rfl) T.g_moved T.F_moved.kp T.b_moved ?_
    refine am_cons ?_ ?_
    exact em_var 5
    refine am_cons ?_ ?_
    exact em_var 4
    exact am_nil
    refine sms_one ?_
    refine sm_if ?_ ?_ ?_
    refine tm_cmp od_ge ?_ ?_ (by rfl)
    refine em_callB (cd_min rfl hr) (by rfl) T.z_min (by decide +kernel) ?_
    refine am_cons ?_ ?_
    refine em_op od_add ?_ ?_
    exact em_var 5
    exact em_var 6
    exact am_nil
    exact em_int
    refine sms_one ?_
    refine sm_expr ?_
    refine em_app ?_ ?_
    exact em_var 1
    refine em_tup ?_
    refine am_cons ?_ ?_
    exact em_var 2
    refine am_cons ?_ ?_
    exact em_var 5
    refine am_cons ?_ ?_
    exact em_var 6
    exact am_nil
    exact sms_nil
    refine sms_one ?_
    refine sm_ret ?_
    exact em_var 1
theorem ok_outer_edges (T : Fx K mg) : FnOk P w K mg base (L2.CX P w) 2 T.f_outer_edges T.d_outer_edges ["size"] (spF ⟨P, w, K, []⟩ (cvOf K) [false] false fs_outer_edges) :=
  fn_body T.F_outer_edges sc_outer_edges rfl (by decide) fun cdv A outer s H E W hr tk hp => by
    refine sms_cons ?_ ?_
    refine sm_set sc_outer_edges.nd ?_
    refine em_call (ok_round_list T) tk (hr.mono (by decide)) (by rfl) T.g_round_list T.F_round_list.kp T.b_round_list ?_
    refine am_cons ?_ ?_
    exact em_var 0
    exact am_nil
    refine sms_one ?_
    refine sm_ret ?_
    refine em_lc (own := [("pair", 2)]) rfl sc_outer_edges.nd ?_ ?_ ?_ ?_ (fun _ _ _ _ _ => ?_)
    refine im_zip (.inr ⟨_, _, rfl⟩) (by rfl) T.z_zip ?_
    refine am_cons ?_ ?_
    exact em_var 1
    refine am_cons ?_ ?_
    refine em_op od_add ?_ ?_
    refine em_sl ?_ ?_ ?_
    exact em_var 1
    refine om_some ?_
    exact em_int
    exact om_none
    refine em_sl ?_ ?_ ?_
    exact em_var 1
    exact om_none
    refine om_some ?_
    exact em_int
    exact am_nil
    exact blkOk_by (by kernel_rfl)
    exact gmb_name sc_outer_edges.nd (by decide) rfl (fun _ _ _ _ _ => ⟨Or.inl rfl, by first | exact .inl rfl | exact .inr rfl⟩)
    exact fun _ _ _ _ _ => tms_nil
    refine em_callTy cd_tuple (by rfl) T.z_tuple (by decide +kernel) ?_
    refine am_cons ?_ ?_
    refine em_callB (cd_sorted hr) (by rfl) T.z_sorted (by decide +kernel) ?_
    refine am_cons ?_ ?_
    exact em_var 2
    exact am_nil
    exact am_nil
theorem ok_valid_labels (T : Fx K mg) : FnOk P w K mg base (L2.CX P w) 2 T.f_valid_labels T.d_valid_labels ["size", "value"] (spF ⟨P, w, K, []⟩ (cvOf K) [false, false] false fs_valid_labels) :=
  fn_body T.F_valid_labels sc_valid_labels rfl (by decide) fun cdv A outer s H E W hr tk hp => by
    refine sms_cons ?_ ?_
    refine sm_if ?_ ?_ ?_
    refine TW.tm ?_
    refine tw_or ?_ ?_
    refine tm_not ?_
    refine tm_val ?_
    refine em_callB cd_isi (by rfl) T.z_isinstance (by decide +kernel) ?_
    refine am_cons ?_ ?_
    exact em_var 1
    refine am_cons ?_ ?_
    exact em_ty (by rfl) T.z_tuple (by decide +kernel)
    exact am_nil
    refine tw_or1 ?_
    refine tm_cmp (od_ne hr.ru) ?_ ?_ (by rfl)
    refine em_callB cd_len (by rfl) T.z_len (by decide +kernel) ?_
    refine am_cons ?_ ?_
    exact em_var 1
    exact am_nil
    refine em_op od_div ?_ ?_
    refine em_op od_mul ?_ ?_
    refine em_op od_add ?_ ?_
    exact em_var 0
    exact em_int
    refine em_op od_add ?_ ?_
    exact em_var 0
    exact em_int
    exact em_int
    refine sms_one ?_
    refine sm_ret ?_
    exact em_bl
    exact sms_nil
    refine sms_one ?_
    refine sm_ret ?_
    refine em_callB (cd_all rfl) (by rfl) T.z_all (by decide +kernel) ?_
    refine am_cons ?_ ?_
    refine em_lc (own := [("one", 2)]) rfl sc_valid_labels.nd ?_ ?_ ?_ ?_ (fun _ _ _ _ _ => ?_)
    refine im_seq ?_
    exact em_var 1
    exact blkOk_by (by kernel_rfl)
    exact gmb_name sc_valid_labels.nd (by decide) rfl (fun _ _ _ _ _ => ⟨Or.inl rfl, by first | exact .inl rfl | exact .inr rfl⟩)
    exact fun _ _ _ _ _ => tms_nil
    refine em_call (ok_is_integer T) takes0 (hr.mono (by decide)) (by rfl) T.g_is_integer T.F_is_integer.kp T.b_is_integer ?_
    refine am_cons ?_ ?_
    exact em_var 2
    refine am_cons ?_ ?_
    exact em_int
    refine am_cons ?_ ?_
    exact em_int
    exact am_nil
    exact am_nil
theorem ok_table_of (T : Fx K mg) : FnOk P w K mg base (L2.CX P w) 2 T.f_table_of T.d_table_of ["size", "labels"] (spF ⟨P, w, K, []⟩ (cvOf K) [false, false] false fs_table_of) :=
  fn_body T.F_table_of sc_table_of rfl (by decide) fun cdv A outer s H E W hr tk hp => by
    refine sms_one ?_
    refine sm_ret ?_
    refine em_dz hr rfl (by rfl) T.z_dict (by rfl) T.z_zip ?_
    refine am_cons ?_ ?_
    refine em_call (ok_point_list T) tk (hr.mono (by decide)) (by rfl) T.g_point_list T.F_point_list.kp T.b_point_list ?_
    refine am_cons ?_ ?_
    exact em_var 0
    exact am_nil
    refine am_cons ?_ ?_
    exact em_var 1
    exact am_nil
theorem ok_proper_labels (T : Fx K mg) : FnOk P w K mg base (L2.CX P w) 2 T.f_proper_labels T.d_proper_labels ["size", "labels"] (spF ⟨P, w, K, []⟩ (cvOf K) [false, false] false fs_proper_labels) :=
  fn_body T.F_proper_labels sc_proper_labels rfl (by decide) fun cdv A outer s H E W hr tk hp => by
    refine sms_one ?_
    refine sm_ret ?_
    refine em_callB (cd_all rfl) (by rfl) T.z_all (by decide +kernel) ?_
    refine am_cons ?_ ?_
    refine em_lc (own := [("point", 2), ("label", 3)]) rfl sc_proper_labels.nd ?_ ?_ ?_ ?_ (fun _ _ _ _ _ => ?_)
    refine im_zip (.inl ⟨_, _, _, rfl⟩) (by rfl) T.z_zip ?_
    refine am_cons ?_ ?_
    refine em_call (ok_point_list T) tk (hr.mono (by decide)) (by rfl) T.g_point_list T.F_point_list.kp T.b_point_list ?_
    refine am_cons ?_ ?_
    exact em_var 0
    exact am_nil
    refine am_cons ?_ ?_
    exact em_var 1
    exact am_nil
    exact blkOk_by (by kernel_rfl)
    refine gmb_tup rfl ?_ (fun _ _ _ _ _ => rfl) (fun _ _ _ _ _ => rfl)
    refine glb_cons sc_proper_labels.nd (by decide) ?_ rfl (fun _ _ _ _ _ => ⟨Or.inl rfl, by first | exact .inl rfl | exact .inr rfl⟩) (fun _ _ _ _ _ => rfl)
    refine glb_cons sc_proper_labels.nd (by decide) ?_ rfl (fun _ _ _ _ _ => ⟨Or.inl rfl, by first | exact .inl rfl | exact .inr rfl⟩) (fun _ _ _ _ _ => rfl)
    exact glb_nil
    exact fun _ _ _ _ _ => tms_nil
    refine em_call (ok_fits T) takes0 (hr.mono (by decide)) (by rfl) T.g_fits T.F_fits.kp T.b_fits ?_
    refine am_cons ?_ ?_
    exact em_var 2
    refine am_cons ?_ ?_
    exact em_var 3
    exact am_nil
    exact am_nil
theorem ok_choices_at (T : Fx K mg) : FnOk P w K mg base (L2.CX P w) 2 T.f_choices_at T.d_choices_at ["point"] (spF ⟨P, w, K, []⟩ (cvOf K) [false] false fs_choices_at) :=
  fn_body T.F_choices_at sc_choices_at rfl (by decide) fun cdv A outer s H E W hr tk hp => by
    refine sms_one ?_
    refine sm_ret ?_
    refine em_lc (own := [("label", 1)]) rfl sc_choices_at.nd ?_ ?_ ?_ ?_ (fun _ _ _ _ _ => ?_)
    refine im_range1 (by rfl) T.z_range ?_
    refine am_cons ?_ ?_
    exact em_int
    exact am_nil
    exact blkOk_by (by kernel_rfl)
    exact gmb_name sc_choices_at.nd (by decide) rfl (fun _ _ _ _ _ => ⟨Or.inl rfl, by first | exact .inl rfl | exact .inr rfl⟩)
    refine (fun _ _ _ _ _ => ?_)
    refine tms_one ?_
    refine tm_val ?_
    refine em_call (ok_fits T) takes0 (hr.mono (by decide)) (by rfl) T.g_fits T.F_fits.kp T.b_fits ?_
    refine am_cons ?_ ?_
    exact em_var 0
    refine am_cons ?_ ?_
    exact em_var 1
    exact am_nil
    exact em_var 1
theorem ok_doors_of (T : Fx K mg) : FnOk P w K mg base (L2.CX P w) 2 T.f_doors_of T.d_doors_of ["table", "pair", "triangle"] (spF ⟨P, w, K, []⟩ (cvOf K) [false, false, false] false fs_doors_of) :=
  fn_body T.F_doors_of sc_doors_of rfl (by decide) fun cdv A outer s H E W hr tk hp => by
    refine sms_one ?_
    refine sm_ret ?_
    refine em_lc (own := [("edge", 3)]) rfl sc_doors_of.nd ?_ ?_ ?_ ?_ (fun _ _ _ _ _ => ?_)
    refine im_seq ?_
    refine em_call (ok_edges_of T) tk (hr.mono (by decide)) (by rfl) T.g_edges_of T.F_edges_of.kp T.b_edges_of ?_
    refine am_cons ?_ ?_
    exact em_var 2
    exact am_nil
    exact blkOk_by (by kernel_rfl)
    exact gmb_name sc_doors_of.nd (by decide) rfl (fun _ _ _ _ _ => ⟨Or.inl rfl, by first | exact .inl rfl | exact .inr rfl⟩)
    refine (fun _ _ _ _ _ => ?_)
    refine tms_one ?_
    refine tm_val ?_
    refine em_call (ok_is_door T) takes0 (hr.mono (by decide)) (by rfl) T.g_is_door T.F_is_door.kp T.b_is_door ?_
    refine am_cons ?_ ?_
    exact em_var 0
    refine am_cons ?_ ?_
    exact em_var 1
    refine am_cons ?_ ?_
    exact em_var 3
    exact am_nil
    exact em_var 3
theorem ok__law_mixed (T : Fx K mg) : FnOk P w K mg base (L2.CX P w) 2 T.f__law_mixed T.d__law_mixed ["_law_script", "_law_k", "_law_many"] (spF ⟨P, w, K, []⟩ (cvOf K) [false, false, false] false fs__law_mixed) :=
  fn_body T.F__law_mixed sc__law_mixed rfl (by decide) fun cdv A outer s H E W hr tk hp => by
    refine sms_cons ?_ ?_
    refine sm_set sc__law_mixed.nd ?_
    refine em_op od_mod ?_ ?_
    refine em_op od_add ?_ ?_
    refine em_op od_add ?_ ?_
    refine em_op od_mul ?_ ?_
    refine em_call (ok__law_cell_at T) tk (hr.mono (by decide)) (by rfl) T.g__law_cell_at T.F__law_cell_at.kp T.b__law_cell_at ?_
    refine am_cons ?_ ?_
    exact em_var 0
    refine am_cons ?_ ?_
    exact em_var 1
    exact am_nil
    exact em_int
    refine em_op od_mul ?_ ?_
    exact em_int
    exact em_var 1
    exact em_int
    exact em_int
    refine sms_one ?_
    refine sm_ret ?_
    refine em_op od_mod ?_ ?_
    refine em_op od_mod ?_ ?_
    refine em_op od_mod ?_ ?_
    refine em_op od_pow ?_ ?_
    exact em_var 3
    exact em_int
    exact em_int
    exact em_int
    exact em_var 2
theorem ok_points (T : Fx K mg) : FnOk P w K mg base (L2.CX P w) 3 T.f_points T.d_points ["size"] (spF ⟨P, w, K, []⟩ (cvOf K) [false] false fs_points) :=
  fn_body T.F_points sc_points rfl (by decide) fun cdv A outer s H E W hr tk hp => by
    refine sms_cons ?_ ?_
    refine sm_expr ?_
    refine em_call (ok_check_size T) tk (hr.mono (by decide)) (by rfl) T.g_check_size T.F_check_size.kp T.b_check_size ?_
    refine am_cons ?_ ?_
    exact em_var 0
    exact am_nil
    refine sms_one ?_
    refine sm_ret ?_
    refine em_call (ok_point_list T) tk (hr.mono (by decide)) (by rfl) T.g_point_list T.F_point_list.kp T.b_point_list ?_
    refine am_cons ?_ ?_
    exact em_var 0
    exact am_nil
theorem ok_triangle_list (T : Fx K mg) : FnOk P w K mg base (L2.CX P w) 3 T.f_triangle_list T.d_triangle_list ["size"] (spF ⟨P, w, K, []⟩ (cvOf K) [false] false fs_triangle_list) :=
  fn_body T.F_triangle_list sc_triangle_list rfl (by decide) fun cdv A outer s H E W hr tk hp => by
    refine sms_one ?_
    refine sm_ret ?_
    refine em_callB (cd_sorted hr) (by rfl) T.z_sorted (by decide +kernel) ?_
    refine am_cons ?_ ?_
    refine em_lc (own := [("one", 1)]) rfl sc_triangle_list.nd ?_ ?_ ?_ ?_ (fun _ _ _ _ _ => ?_)
    refine im_seq ?_
    refine em_call (ok_turned_triangles T) tk (hr.mono (by decide)) (by rfl) T.g_turned_triangles T.F_turned_triangles.kp T.b_turned_triangles ?_
    refine am_cons ?_ ?_
    exact em_var 0
    exact am_nil
    exact blkOk_by (by kernel_rfl)
    exact gmb_name sc_triangle_list.nd (by decide) rfl (fun _ _ _ _ _ => ⟨Or.inl rfl, by first | exact .inl rfl | exact .inr rfl⟩)
    exact fun _ _ _ _ _ => tms_nil
    refine em_callTy cd_tuple (by rfl) T.z_tuple (by decide +kernel) ?_
    refine am_cons ?_ ?_
    refine em_callB (cd_sorted hr) (by rfl) T.z_sorted (by decide +kernel) ?_
    refine am_cons ?_ ?_
    exact em_var 1
    exact am_nil
    exact am_nil
    exact am_nil
theorem ok_round_of (T : Fx K mg) : FnOk P w K mg base (L2.CX P w) 3 T.f_round_of T.d_round_of ["size"] (spF ⟨P, w, K, []⟩ (cvOf K) [false] false fs_round_of) :=
  fn_body T.F_round_of sc_round_of rfl (by decide) fun cdv A outer s H E W hr tk hp => by
    refine sms_cons ?_ ?_
    refine sm_expr ?_
    refine em_call (ok_check_size T) tk (hr.mono (by decide)) (by rfl) T.g_check_size T.F_check_size.kp T.b_check_size ?_
    refine am_cons ?_ ?_
    exact em_var 0
    exact am_nil
    refine sms_one ?_
    refine sm_ret ?_
    refine em_call (ok_round_list T) tk (hr.mono (by decide)) (by rfl) T.g_round_list T.F_round_list.kp T.b_round_list ?_
    refine am_cons ?_ ?_
    exact em_var 0
    exact am_nil
theorem ok_check_labels (T : Fx K mg) : FnOk P w K mg base (L2.CX P w) 3 T.f_check_labels T.d_check_labels ["size", "labels"] (spF ⟨P, w, K, []⟩ (cvOf K) [false, false] false fs_check_labels) :=
  fn_body T.F_check_labels sc_check_labels rfl (by decide) fun cdv A outer s H E W hr tk hp => by
    refine sms_cons ?_ ?_
    refine sm_expr ?_
    refine em_call (ok_check_size T) tk (hr.mono (by decide)) (by rfl) T.g_check_size T.F_check_size.kp T.b_check_size ?_
    refine am_cons ?_ ?_
    exact em_var 0
    exact am_nil
    refine sms_one ?_
    refine sm_if ?_ ?_ ?_
    refine tm_not ?_
    refine tm_val ?_
    refine em_call (ok_valid_labels T) tk (hr.mono (by decide)) (by rfl) T.g_valid_labels T.F_valid_labels.kp T.b_valid_labels ?_
    refine am_cons ?_ ?_
    exact em_var 0
    refine am_cons ?_ ?_
    exact em_var 1
    exact am_nil
    refine sms_one ?_
    exact sm_raise (by rfl) rfl T.gl T.x_InvalidLabels tk (by rfl)
    exact sms_nil
theorem ok_check_colours (T : Fx K mg) : FnOk P w K mg base (L2.CX P w) 3 T.f_check_colours T.d_check_colours ["size", "colours"] (spF ⟨P, w, K, []⟩ (cvOf K) [false, false] false fs_check_colours) :=
  fn_body T.F_check_colours sc_check_colours rfl (by decide) fun cdv A outer s H E W hr tk hp => by
    refine sms_cons ?_ ?_
    refine sm_expr ?_
    refine em_call (ok_check_size T) tk (hr.mono (by decide)) (by rfl) T.g_check_size T.F_check_size.kp T.b_check_size ?_
    refine am_cons ?_ ?_
    exact em_var 0
    exact am_nil
    refine sms_cons ?_ ?_
    refine sm_if ?_ ?_ ?_
    refine TW.tm ?_
    refine tw_or ?_ ?_
    refine tm_not ?_
    refine tm_val ?_
    refine em_callB cd_isi (by rfl) T.z_isinstance (by decide +kernel) ?_
    refine am_cons ?_ ?_
    exact em_var 1
    refine am_cons ?_ ?_
    exact em_ty (by rfl) T.z_tuple (by decide +kernel)
    exact am_nil
    refine tw_or1 ?_
    refine tm_cmp (od_ne hr.ru) ?_ ?_ (by rfl)
    refine em_callB cd_len (by rfl) T.z_len (by decide +kernel) ?_
    refine am_cons ?_ ?_
    exact em_var 1
    exact am_nil
    refine em_op od_div ?_ ?_
    refine em_op od_mul ?_ ?_
    refine em_op od_add ?_ ?_
    exact em_var 0
    exact em_int
    refine em_op od_add ?_ ?_
    exact em_var 0
    exact em_int
    exact em_int
    refine sms_one ?_
    exact sm_raise (by rfl) rfl T.gl T.x_InvalidColours tk (by rfl)
    exact sms_nil
    refine sms_one ?_
    refine sm_if ?_ ?_ ?_
    refine tm_not ?_
    refine tm_val ?_
    refine em_callB (cd_all rfl) (by rfl) T.z_all (by decide +kernel) ?_
    refine am_cons ?_ ?_
    refine em_lc (own := [("one", 2)]) rfl sc_check_colours.nd ?_ ?_ ?_ ?_ (fun _ _ _ _ _ => ?_)
    refine im_seq ?_
    exact em_var 1
    exact blkOk_by (by kernel_rfl)
    exact gmb_name sc_check_colours.nd (by decide) rfl (fun _ _ _ _ _ => ⟨Or.inl rfl, by first | exact .inl rfl | exact .inr rfl⟩)
    exact fun _ _ _ _ _ => tms_nil
    refine em_call (ok_is_integer T) takes0 (hr.mono (by decide)) (by rfl) T.g_is_integer T.F_is_integer.kp T.b_is_integer ?_
    refine am_cons ?_ ?_
    exact em_var 2
    refine am_cons ?_ ?_
    exact em_int
    refine am_cons ?_ ?_
    exact em_int
    exact am_nil
    exact am_nil
    refine sms_one ?_
    exact sm_raise (by rfl) rfl T.gl T.x_InvalidColours tk (by rfl)
    exact sms_nil
theorem ok_group_at (T : Fx K mg) : FnOk P w K mg base (L2.CX P w) 3 T.f_group_at T.d_group_at ["table", "point"] (spF ⟨P, w, K, []⟩ (cvOf K) [false, false] false fs_group_at) :=
  fn_body T.F_group_at sc_group_at rfl (by decide) fun cdv A outer s H E W hr tk hp => by
    refine sms_cons ?_ ?_
    refine sm_par rfl sc_group_at.nd ?_
    refine am_cons ?_ ?_
    refine em_dct1 hr ?_ ?_
    exact em_var 1
    exact em_bl
    refine am_cons ?_ ?_
    refine em_lst ?_
    refine am_cons ?_ ?_
    exact em_var 1
    exact am_nil
    exact am_nil
    refine sms_cons ?_ ?_
    refine sm_while 400 hp ?_ ?_
    refine tm_cmp (od_ne hr.ru) ?_ ?_ (by rfl)
    exact em_var 3
    refine em_lst ?_
    exact am_nil
    refine sms_one ?_
    refine sm_for (vs := [4]) hp rfl ?_ ?_ ?_
    refine im_seq ?_
    refine em_call (ok_beside T) tk (hr.mono (by decide)) (by rfl) T.g_beside T.F_beside.kp T.b_beside ?_
    refine am_cons ?_ ?_
    refine em_pop ?_
    exact em_var 3
    exact am_nil
    exact gm_name (vs := [4]) sc_group_at.nd (by decide) rfl (Or.inl rfl) (.inl rfl)
    refine sms_one ?_
    refine sm_if ?_ ?_ ?_
    refine TW.tm ?_
    refine tw_and ?_ ?_
    refine tm_cmp (od_eq hr.ru) ?_ ?_ (by rfl)
    refine em_ix hr ?_ ?_
    exact em_var 0
    exact em_var 4
    refine em_ix hr ?_ ?_
    exact em_var 0
    exact em_var 1
    refine tw_and1 ?_
    refine tm_cmp (od_notinA hr) ?_ ?_ (by rfl)
    exact em_var 4
    exact em_var 2
    refine sms_cons ?_ ?_
    refine sm_put hr ?_ ?_ ?_
    exact em_bl
    exact em_var 2
    exact em_var 4
    refine sms_one ?_
    refine sm_expr ?_
    refine em_app ?_ ?_
    exact em_var 3
    exact em_var 4
    exact sms_nil
    refine sms_one ?_
    refine sm_ret ?_
    refine em_callB (cd_sortedK rfl hr) (by rfl) T.z_sorted (by decide +kernel) ?_
    refine am_cons ?_ ?_
    exact em_var 2
    exact am_nil
theorem ok_count_proper (T : Fx K mg) : FnOk P w K mg base (L2.CX P w) 3 T.f_count_proper T.d_count_proper ["size"] (spF ⟨P, w, K, []⟩ (cvOf K) [false] false fs_count_proper) :=
  fn_body T.F_count_proper sc_count_proper rfl (by decide) fun cdv A outer s H E W hr tk hp => by
    refine sms_cons ?_ ?_
    refine sm_expr ?_
    refine em_call (ok_check_size T) tk (hr.mono (by decide)) (by rfl) T.g_check_size T.F_check_size.kp T.b_check_size ?_
    refine am_cons ?_ ?_
    exact em_var 0
    exact am_nil
    refine sms_cons ?_ ?_
    refine sm_set sc_count_proper.nd ?_
    exact em_int
    refine sms_cons ?_ ?_
    refine sm_for (vs := [2]) hp rfl ?_ ?_ ?_
    refine im_seq ?_
    refine em_call (ok_point_list T) tk (hr.mono (by decide)) (by rfl) T.g_point_list T.F_point_list.kp T.b_point_list ?_
    refine am_cons ?_ ?_
    exact em_var 0
    exact am_nil
    exact gm_name (vs := [2]) sc_count_proper.nd (by decide) rfl (Or.inl rfl) (.inl rfl)
    refine sms_one ?_
    refine sm_mul sc_count_proper.nd ?_
    refine em_callB cd_len (by rfl) T.z_len (by decide +kernel) ?_
    refine am_cons ?_ ?_
    refine em_call (ok_choices_at T) tk (hr.mono (by decide)) (by rfl) T.g_choices_at T.F_choices_at.kp T.b_choices_at ?_
    refine am_cons ?_ ?_
    exact em_var 2
    exact am_nil
    exact am_nil
    refine sms_one ?_
    refine sm_ret ?_
    exact em_var 1
theorem ok_proper_list (T : Fx K mg) : FnOk P w K mg base (L2.CX P w) 3 T.f_proper_list T.d_proper_list ["size"] (spF ⟨P, w, K, []⟩ (cvOf K) [false] false fs_proper_list) :=
  fn_body T.F_proper_list sc_proper_list rfl (by decide) fun cdv A outer s H E W hr tk hp => by
    refine sms_cons ?_ ?_
    refine sm_set sc_proper_list.nd ?_
    refine em_lst ?_
    refine am_cons ?_ ?_
    refine em_tup ?_
    exact am_nil
    exact am_nil
    refine sms_cons ?_ ?_
    refine sm_for (vs := [2]) hp rfl ?_ ?_ ?_
    refine im_seq ?_
    refine em_call (ok_point_list T) tk (hr.mono (by decide)) (by rfl) T.g_point_list T.F_point_list.kp T.b_point_list ?_
    refine am_cons ?_ ?_
    exact em_var 0
    exact am_nil
    exact gm_name (vs := [2]) sc_proper_list.nd (by decide) rfl (Or.inl rfl) (.inl rfl)
    refine sms_cons ?_ ?_
    refine sm_set sc_proper_list.nd ?_
    refine em_lst ?_
    exact am_nil
    refine sms_cons ?_ ?_
    refine sm_for (vs := [4]) hp rfl ?_ ?_ ?_
    refine im_seq ?_
    exact em_var 1
    exact gm_name (vs := [4]) sc_proper_list.nd (by decide) rfl (Or.inr rfl) (.inl rfl)
    refine sms_one ?_
    refine sm_expr ?_
    refine em_ext ?_ ?_
    exact em_var 3
    refine em_lc (own := [("label", 5)]) rfl sc_proper_list.nd ?_ ?_ ?_ ?_ (fun _ _ _ _ _ => ?_)
    refine im_seq ?_
    refine em_call (ok_choices_at T) tk (hr.mono (by decide)) (by rfl) T.g_choices_at T.F_choices_at.kp T.b_choices_at ?_
    refine am_cons ?_ ?_
    exact em_var 2
    exact am_nil
    exact blkOk_by (by kernel_rfl)
    exact gmb_name sc_proper_list.nd (by decide) rfl (fun _ _ _ _ _ => ⟨Or.inl rfl, by first | exact .inl rfl | exact .inr rfl⟩)
    exact fun _ _ _ _ _ => tms_nil
    refine em_op od_add ?_ ?_
    exact em_var 4
    refine em_tup ?_
    refine am_cons ?_ ?_
    exact em_var 5
    exact am_nil
    refine sms_one ?_
    refine sm_set sc_proper_list.nd ?_
    exact em_var 3
    refine sms_one ?_
    refine sm_ret ?_
    exact em_var 1
theorem ok_outer_list (T : Fx K mg) : FnOk P w K mg base (L2.CX P w) 3 T.f_outer_list T.d_outer_list ["size", "table", "pair"] (spF ⟨P, w, K, []⟩ (cvOf K) [false, false, false] false fs_outer_list) :=
  fn_body T.F_outer_list sc_outer_list rfl (by decide) fun cdv A outer s H E W hr tk hp => by
    refine sms_one ?_
    refine sm_ret ?_
    refine em_lc (own := [("edge", 3)]) rfl sc_outer_list.nd ?_ ?_ ?_ ?_ (fun _ _ _ _ _ => ?_)
    refine im_seq ?_
    refine em_call (ok_outer_edges T) tk (hr.mono (by decide)) (by rfl) T.g_outer_edges T.F_outer_edges.kp T.b_outer_edges ?_
    refine am_cons ?_ ?_
    exact em_var 0
    exact am_nil
    exact blkOk_by (by kernel_rfl)
    exact gmb_name sc_outer_list.nd (by decide) rfl (fun _ _ _ _ _ => ⟨Or.inl rfl, by first | exact .inl rfl | exact .inr rfl⟩)
    refine (fun _ _ _ _ _ => ?_)
    refine tms_one ?_
    refine tm_val ?_
    refine em_call (ok_is_door T) takes0 (hr.mono (by decide)) (by rfl) T.g_is_door T.F_is_door.kp T.b_is_door ?_
    refine am_cons ?_ ?_
    exact em_var 1
    refine am_cons ?_ ?_
    exact em_var 2
    refine am_cons ?_ ?_
    exact em_var 3
    exact am_nil
    exact em_var 3
theorem ok_followed (T : Fx K mg) : FnOk P w K mg base (L2.CX P w) 3 T.f_followed T.d_followed ["table", "pair", "around", "door", "triangle"] (spF ⟨P, w, K, []⟩ (cvOf K) [false, false, false, false, false] false fs_followed) :=
  fn_body T.F_followed sc_followed rfl (by decide) fun cdv A outer s H E W hr tk hp => by
    refine sms_cons ?_ ?_
    refine sm_set sc_followed.nd ?_
    refine em_lst ?_
    exact am_nil
    refine sms_cons ?_ ?_
    refine sm_while 400 hp ?_ ?_
    refine TW.tm ?_
    refine tw_and ?_ ?_
    refine tm_cmp od_isnot ?_ ?_ (by rfl)
    exact em_var 4
    exact em_non
    refine tw_and1 ?_
    refine tm_cmp (od_notinA hr) ?_ ?_ (by rfl)
    exact em_var 4
    exact em_var 5
    refine sms_cons ?_ ?_
    refine sm_expr ?_
    refine em_app ?_ ?_
    exact em_var 5
    exact em_var 4
    refine sms_cons ?_ ?_
    refine sm_setLc (own := [("edge", 9)]) rfl sc_followed.nd ?_ ?_ ?_ ?_ (fun _ _ _ _ _ => ?_) ?_
    refine im_seq ?_
    refine em_call (ok_doors_of T) tk (hr.mono (by decide)) (by rfl) T.g_doors_of T.F_doors_of.kp T.b_doors_of ?_
    refine am_cons ?_ ?_
    exact em_var 0
    refine am_cons ?_ ?_
    exact em_var 1
    refine am_cons ?_ ?_
    exact em_var 4
    exact am_nil
    exact blkOk_by (by kernel_rfl)
    exact gmb_name sc_followed.nd (by decide) rfl (fun _ _ _ _ _ => ⟨Or.inl rfl, by first | exact .inl rfl | exact .inr rfl⟩)
    refine (fun _ _ _ _ _ => ?_)
    refine tms_one ?_
    refine tm_cmp (od_ne hr.ru) ?_ ?_ (by rfl)
    exact em_var 9
    exact em_var 3
    exact em_var 9
    exact sw_true rfl rfl rfl (by kernel_rfl)
    refine sms_cons ?_ ?_
    refine sm_set sc_followed.nd ?_
    exact em_non
    refine sms_cons ?_ ?_
    refine sm_if ?_ ?_ ?_
    refine tm_cmp (od_ne hr.ru) ?_ ?_ (by rfl)
    exact em_var 6
    refine em_lst ?_
    exact am_nil
    refine sms_cons ?_ ?_
    refine sm_set sc_followed.nd ?_
    refine em_ix hr ?_ ?_
    exact em_var 6
    exact em_int
    refine sms_cons ?_ ?_
    refine sm_setLc (own := [("one", 10)]) rfl sc_followed.nd ?_ ?_ ?_ ?_ (fun _ _ _ _ _ => ?_) ?_
    refine im_seq ?_
    refine em_ix hr ?_ ?_
    exact em_var 2
    exact em_var 3
    exact blkOk_by (by kernel_rfl)
    exact gmb_name sc_followed.nd (by decide) rfl (fun _ _ _ _ _ => ⟨Or.inl rfl, by first | exact .inl rfl | exact .inr rfl⟩)
    refine (fun _ _ _ _ _ => ?_)
    refine tms_one ?_
    refine tm_cmp (od_ne hr.ru) ?_ ?_ (by rfl)
    exact em_var 10
    exact em_var 4
    exact em_var 10
    exact sw_true rfl rfl rfl (by kernel_rfl)
    refine sms_one ?_
    refine sm_set sc_followed.nd ?_
    refine em_ifE ?_ ?_ ?_
    refine tm_cmp (od_ne hr.ru) ?_ ?_ (by rfl)
    exact em_var 8
    refine em_lst ?_
    exact am_nil
    refine em_ix hr ?_ ?_
    exact em_var 8
    exact em_int
    exact em_non
    exact sms_nil
    refine sms_one ?_
    refine sm_set sc_followed.nd ?_
    exact em_var 7
    refine sms_one ?_
    refine sm_ret ?_
    exact em_var 5
theorem ok_entries (T : Fx K mg) : FnOk P w K mg base (L2.CX P w) 3 T.f_entries T.d_entries ["table", "pair", "around", "triangle"] (spF ⟨P, w, K, []⟩ (cvOf K) [false, false, false, false] false fs_entries) :=
  fn_body T.F_entries sc_entries rfl (by decide) fun cdv A outer s H E W hr tk hp => by
    refine sms_cons ?_ ?_
    refine sm_set sc_entries.nd ?_
    refine em_call (ok_doors_of T) tk (hr.mono (by decide)) (by rfl) T.g_doors_of T.F_doors_of.kp T.b_doors_of ?_
    refine am_cons ?_ ?_
    exact em_var 0
    refine am_cons ?_ ?_
    exact em_var 1
    refine am_cons ?_ ?_
    exact em_var 3
    exact am_nil
    refine sms_cons ?_ ?_
    refine sm_if ?_ ?_ ?_
    refine tm_cmp (od_eq hr.ru) ?_ ?_ (by rfl)
    refine em_callB cd_len (by rfl) T.z_len (by decide +kernel) ?_
    refine am_cons ?_ ?_
    exact em_var 4
    exact am_nil
    exact em_int
    refine sms_one ?_
    refine sm_ret ?_
    refine em_lst ?_
    refine am_cons ?_ ?_
    exact em_non
    exact am_nil
    exact sms_nil
    refine sms_one ?_
    refine sm_ret ?_
    refine em_lc (own := [("door", 5)]) rfl sc_entries.nd ?_ ?_ ?_ ?_ (fun _ _ _ _ _ => ?_)
    refine im_seq ?_
    exact em_var 4
    exact blkOk_by (by kernel_rfl)
    exact gmb_name sc_entries.nd (by decide) rfl (fun _ _ _ _ _ => ⟨Or.inl rfl, by first | exact .inl rfl | exact .inr rfl⟩)
    refine (fun _ _ _ _ _ => ?_)
    refine tms_one ?_
    refine tm_cmp (od_eq hr.ru) ?_ ?_ (by rfl)
    refine em_callB cd_len (by rfl) T.z_len (by decide +kernel) ?_
    refine am_cons ?_ ?_
    refine em_ix hr ?_ ?_
    exact em_var 2
    exact em_var 5
    exact am_nil
    exact em_int
    exact em_var 5
theorem ok__law_draw (T : Fx K mg) : FnOk P w K mg base (L2.CX P w) 3 T.f__law_draw T.d__law_draw ["_law_script", "_law_town", "_law_many"] (spF ⟨P, w, K, []⟩ (cvOf K) [false, true, false] false fs__law_draw) :=
  fn_body T.F__law_draw sc__law_draw rfl (by decide) fun cdv A outer s H E W hr tk hp => by
    refine sms_cons ?_ ?_
    refine sm_expr ?_
    refine em_app ?_ ?_
    exact em_var 1
    exact em_int
    refine sms_one ?_
    refine sm_ret ?_
    refine em_call (ok__law_mixed T) tk (hr.mono (by decide)) (by rfl) T.g__law_mixed T.F__law_mixed.kp T.b__law_mixed ?_
    refine am_cons ?_ ?_
    exact em_var 0
    refine am_cons ?_ ?_
    refine em_callB cd_len (by rfl) T.z_len (by decide +kernel) ?_
    refine am_cons ?_ ?_
    exact em_var 1
    exact am_nil
    refine am_cons ?_ ?_
    exact em_var 2
    exact am_nil
theorem ok_triangles (T : Fx K mg) : FnOk P w K mg base (L2.CX P w) 4 T.f_triangles T.d_triangles ["size"] (spF ⟨P, w, K, []⟩ (cvOf K) [false] false fs_triangles) :=
  fn_body T.F_triangles sc_triangles rfl (by decide) fun cdv A outer s H E W hr tk hp => by
    refine sms_cons ?_ ?_
    refine sm_expr ?_
    refine em_call (ok_check_size T) tk (hr.mono (by decide)) (by rfl) T.g_check_size T.F_check_size.kp T.b_check_size ?_
    refine am_cons ?_ ?_
    exact em_var 0
    exact am_nil
    refine sms_one ?_
    refine sm_ret ?_
    refine em_call (ok_triangle_list T) tk (hr.mono (by decide)) (by rfl) T.g_triangle_list T.F_triangle_list.kp T.b_triangle_list ?_
    refine am_cons ?_ ?_
    exact em_var 0
    exact am_nil
theorem ok_is_proper (T : Fx K mg) : FnOk P w K mg base (L2.CX P w) 4 T.f_is_proper T.d_is_proper ["size", "labels"] (spF ⟨P, w, K, []⟩ (cvOf K) [false, false] false fs_is_proper) :=
  fn_body T.F_is_proper sc_is_proper rfl (by decide) fun cdv A outer s H E W hr tk hp => by
    refine sms_cons ?_ ?_
    refine sm_expr ?_
    refine em_call (ok_check_labels T) tk (hr.mono (by decide)) (by rfl) T.g_check_labels T.F_check_labels.kp T.b_check_labels ?_
    refine am_cons ?_ ?_
    exact em_var 0
    refine am_cons ?_ ?_
    exact em_var 1
    exact am_nil
    refine sms_one ?_
    refine sm_ret ?_
    refine em_call (ok_proper_labels T) tk (hr.mono (by decide)) (by rfl) T.g_proper_labels T.F_proper_labels.kp T.b_proper_labels ?_
    refine am_cons ?_ ?_
    exact em_var 0
    refine am_cons ?_ ?_
    exact em_var 1
    exact am_nil
theorem ok_full_list (T : Fx K mg) : FnOk P w K mg base (L2.CX P w) 4 T.f_full_list T.d_full_list ["size", "labels"] (spF ⟨P, w, K, []⟩ (cvOf K) [false, false] false fs_full_list) :=
  fn_body T.F_full_list sc_full_list rfl (by decide) fun cdv A outer s H E W hr tk hp => by
    refine sms_cons ?_ ?_
    refine sm_set sc_full_list.nd ?_
    refine em_call (ok_table_of T) tk (hr.mono (by decide)) (by rfl) T.g_table_of T.F_table_of.kp T.b_table_of ?_
    refine am_cons ?_ ?_
    exact em_var 0
    refine am_cons ?_ ?_
    exact em_var 1
    exact am_nil
    refine sms_one ?_
    refine sm_ret ?_
    refine em_lc (own := [("one", 3)]) rfl sc_full_list.nd ?_ ?_ ?_ ?_ (fun _ _ _ _ _ => ?_)
    refine im_seq ?_
    refine em_call (ok_triangle_list T) tk (hr.mono (by decide)) (by rfl) T.g_triangle_list T.F_triangle_list.kp T.b_triangle_list ?_
    refine am_cons ?_ ?_
    exact em_var 0
    exact am_nil
    exact blkOk_by (by kernel_rfl)
    exact gmb_name sc_full_list.nd (by decide) rfl (fun _ _ _ _ _ => ⟨Or.inl rfl, by first | exact .inl rfl | exact .inr rfl⟩)
    refine (fun _ _ _ _ _ => ?_)
    refine tms_one ?_
    refine tm_val ?_
    refine em_call (ok_is_full T) takes0 (hr.mono (by decide)) (by rfl) T.g_is_full T.F_is_full.kp T.b_is_full ?_
    refine am_cons ?_ ?_
    exact em_var 2
    refine am_cons ?_ ?_
    exact em_var 3
    exact am_nil
    exact em_var 3
theorem ok_sign (T : Fx K mg) : FnOk P w K mg base (L2.CX P w) 4 T.f_sign T.d_sign ["size", "labels", "triangle"] (spF ⟨P, w, K, []⟩ (cvOf K) [false, false, false] false fs_sign) :=
  fn_body T.F_sign sc_sign rfl (by decide) fun cdv A outer s H E W hr tk hp => by
    refine sms_cons ?_ ?_
    refine sm_expr ?_
    refine em_call (ok_check_labels T) tk (hr.mono (by decide)) (by rfl) T.g_check_labels T.F_check_labels.kp T.b_check_labels ?_
    refine am_cons ?_ ?_
    exact em_var 0
    refine am_cons ?_ ?_
    exact em_var 1
    exact am_nil
    refine sms_cons ?_ ?_
    refine sm_if ?_ ?_ ?_
    refine TW.tm ?_
    refine tw_or ?_ ?_
    refine tm_not ?_
    refine tm_val ?_
    refine em_callB cd_isi (by rfl) T.z_isinstance (by decide +kernel) ?_
    refine am_cons ?_ ?_
    exact em_var 2
    refine am_cons ?_ ?_
    exact em_ty (by rfl) T.z_tuple (by decide +kernel)
    exact am_nil
    refine tw_or1 ?_
    refine tm_cmp (od_notinA hr) ?_ ?_ (by rfl)
    exact em_var 2
    refine em_call (ok_triangle_list T) tk (hr.mono (by decide)) (by rfl) T.g_triangle_list T.F_triangle_list.kp T.b_triangle_list ?_
    refine am_cons ?_ ?_
    exact em_var 0
    exact am_nil
    refine sms_one ?_
    exact sm_raise (by rfl) rfl T.gl T.x_InvalidTriangle tk (by rfl)
    exact sms_nil
    refine sms_cons ?_ ?_
    refine sm_set sc_sign.nd ?_
    refine em_call (ok_table_of T) tk (hr.mono (by decide)) (by rfl) T.g_table_of T.F_table_of.kp T.b_table_of ?_
    refine am_cons ?_ ?_
    exact em_var 0
    refine am_cons ?_ ?_
    exact em_var 1
    exact am_nil
    refine sms_cons ?_ ?_
    refine sm_if ?_ ?_ ?_
    refine tm_not ?_
    refine tm_val ?_
    refine em_call (ok_is_full T) tk (hr.mono (by decide)) (by rfl) T.g_is_full T.F_is_full.kp T.b_is_full ?_
    refine am_cons ?_ ?_
    exact em_var 3
    refine am_cons ?_ ?_
    exact em_var 2
    exact am_nil
    refine sms_one ?_
    exact sm_raise (by rfl) rfl T.gl T.x_NotFull tk (by rfl)
    exact sms_nil
    refine sms_cons ?_ ?_
    refine sm_for (vs := [4]) hp rfl ?_ ?_ ?_
    refine im_seq ?_
    refine em_call (ok_turned_triangles T) tk (hr.mono (by decide)) (by rfl) T.g_turned_triangles T.F_turned_triangles.kp T.b_turned_triangles ?_
    refine am_cons ?_ ?_
    exact em_var 0
    exact am_nil
    exact gm_name (vs := [4]) sc_sign.nd (by decide) rfl (Or.inl rfl) (.inl rfl)
    refine sms_one ?_
    refine sm_if ?_ ?_ ?_
    refine tm_cmp (od_eq hr.ru) ?_ ?_ (by rfl)
    refine em_callTy cd_tuple (by rfl) T.z_tuple (by decide +kernel) ?_
    refine am_cons ?_ ?_
    refine em_callB (cd_sorted hr) (by rfl) T.z_sorted (by decide +kernel) ?_
    refine am_cons ?_ ?_
    exact em_var 4
    exact am_nil
    exact am_nil
    exact em_var 2
    refine sms_one ?_
    refine sm_setLc (own := [("point", 6)]) rfl sc_sign.nd ?_ ?_ ?_ ?_ (fun _ _ _ _ _ => ?_) ?_
    refine im_seq ?_
    exact em_var 4
    exact blkOk_by (by kernel_rfl)
    exact gmb_name sc_sign.nd (by decide) rfl (fun _ _ _ _ _ => ⟨Or.inl rfl, by first | exact .inl rfl | exact .inr rfl⟩)
    exact fun _ _ _ _ _ => tms_nil
    refine em_ix hr ?_ ?_
    exact em_var 3
    exact em_var 6
    exact sw_true rfl rfl rfl (by kernel_rfl)
    exact sms_nil
    refine sms_one ?_
    refine sm_ret ?_
    refine em_ifE ?_ ?_ ?_
    refine tm_cmp (od_eq hr.ru) ?_ ?_ (by rfl)
    refine em_op od_mod ?_ ?_
    refine em_op od_sub ?_ ?_
    refine em_ix hr ?_ ?_
    exact em_var 5
    exact em_int
    refine em_ix hr ?_ ?_
    exact em_var 5
    exact em_int
    exact em_int
    exact em_int
    exact em_int
    refine em_un od_neg ?_
    exact em_int
theorem ok_winding (T : Fx K mg) : FnOk P w K mg base (L2.CX P w) 4 T.f_winding T.d_winding ["size", "labels"] (spF ⟨P, w, K, []⟩ (cvOf K) [false, false] false fs_winding) :=
  fn_body T.F_winding sc_winding rfl (by decide) fun cdv A outer s H E W hr tk hp => by
    refine sms_cons ?_ ?_
    refine sm_expr ?_
    refine em_call (ok_check_labels T) tk (hr.mono (by decide)) (by rfl) T.g_check_labels T.F_check_labels.kp T.b_check_labels ?_
    refine am_cons ?_ ?_
    exact em_var 0
    refine am_cons ?_ ?_
    exact em_var 1
    exact am_nil
    refine sms_cons ?_ ?_
    refine sm_set sc_winding.nd ?_
    refine em_call (ok_table_of T) tk (hr.mono (by decide)) (by rfl) T.g_table_of T.F_table_of.kp T.b_table_of ?_
    refine am_cons ?_ ?_
    exact em_var 0
    refine am_cons ?_ ?_
    exact em_var 1
    exact am_nil
    refine sms_cons ?_ ?_
    refine sm_setLc (own := [("point", 4)]) rfl sc_winding.nd ?_ ?_ ?_ ?_ (fun _ _ _ _ _ => ?_) ?_
    refine im_seq ?_
    refine em_call (ok_round_list T) tk (hr.mono (by decide)) (by rfl) T.g_round_list T.F_round_list.kp T.b_round_list ?_
    refine am_cons ?_ ?_
    exact em_var 0
    exact am_nil
    exact blkOk_by (by kernel_rfl)
    exact gmb_name sc_winding.nd (by decide) rfl (fun _ _ _ _ _ => ⟨Or.inl rfl, by first | exact .inl rfl | exact .inr rfl⟩)
    exact fun _ _ _ _ _ => tms_nil
    refine em_ix hr ?_ ?_
    exact em_var 2
    exact em_var 4
    exact sw_true rfl rfl rfl (by kernel_rfl)
    refine sms_one ?_
    refine sm_ret ?_
    refine em_op od_div ?_ ?_
    refine em_callB (cd_sum rfl) (by rfl) T.z_sum (by decide +kernel) ?_
    refine am_cons ?_ ?_
    refine em_lc (own := [("one", 5), ("other", 6)]) rfl sc_winding.nd ?_ ?_ ?_ ?_ (fun _ _ _ _ _ => ?_)
    refine im_zip (.inl ⟨_, _, _, rfl⟩) (by rfl) T.z_zip ?_
    refine am_cons ?_ ?_
    exact em_var 3
    refine am_cons ?_ ?_
    refine em_op od_add ?_ ?_
    refine em_sl ?_ ?_ ?_
    exact em_var 3
    refine om_some ?_
    exact em_int
    exact om_none
    refine em_sl ?_ ?_ ?_
    exact em_var 3
    exact om_none
    refine om_some ?_
    exact em_int
    exact am_nil
    exact blkOk_by (by kernel_rfl)
    refine gmb_tup rfl ?_ (fun _ _ _ _ _ => rfl) (fun _ _ _ _ _ => rfl)
    refine glb_cons sc_winding.nd (by decide) ?_ rfl (fun _ _ _ _ _ => ⟨Or.inl rfl, by first | exact .inl rfl | exact .inr rfl⟩) (fun _ _ _ _ _ => rfl)
    refine glb_cons sc_winding.nd (by decide) ?_ rfl (fun _ _ _ _ _ => ⟨Or.inl rfl, by first | exact .inl rfl | exact .inr rfl⟩) (fun _ _ _ _ _ => rfl)
    exact glb_nil
    exact fun _ _ _ _ _ => tms_nil
    refine em_call (ok_turn T) takes0 (hr.mono (by decide)) (by rfl) T.g_turn T.F_turn.kp T.b_turn ?_
    refine am_cons ?_ ?_
    exact em_var 5
    refine am_cons ?_ ?_
    exact em_var 6
    exact am_nil
    exact am_nil
    exact em_int
theorem ok_joining_group (T : Fx K mg) : FnOk P w K mg base (L2.CX P w) 4 T.f_joining_group T.d_joining_group ["size", "colours"] (spF ⟨P, w, K, []⟩ (cvOf K) [false, false] false fs_joining_group) :=
  fn_body T.F_joining_group sc_joining_group rfl (by decide) fun cdv A outer s H E W hr tk hp => by
    refine sms_cons ?_ ?_
    refine sm_set sc_joining_group.nd ?_
    refine em_dz hr rfl (by rfl) T.z_dict (by rfl) T.z_zip ?_
    refine am_cons ?_ ?_
    refine em_call (ok_point_list T) tk (hr.mono (by decide)) (by rfl) T.g_point_list T.F_point_list.kp T.b_point_list ?_
    refine am_cons ?_ ?_
    exact em_var 0
    exact am_nil
    refine am_cons ?_ ?_
    exact em_var 1
    exact am_nil
    refine sms_cons ?_ ?_
    refine sm_set sc_joining_group.nd ?_
    exact em_dct0
    refine sms_cons ?_ ?_
    refine sm_for (vs := [4]) hp rfl ?_ ?_ ?_
    refine im_seq ?_
    exact em_var 2
    exact gm_name (vs := [4]) sc_joining_group.nd (by decide) rfl (Or.inl rfl) (.inl rfl)
    refine sms_one ?_
    refine sm_if ?_ ?_ ?_
    refine tm_cmp (od_notinA hr) ?_ ?_ (by rfl)
    exact em_var 4
    exact em_var 3
    refine sms_cons ?_ ?_
    refine sm_set sc_joining_group.nd ?_
    refine em_call (ok_group_at T) tk (hr.mono (by decide)) (by rfl) T.g_group_at T.F_group_at.kp T.b_group_at ?_
    refine am_cons ?_ ?_
    exact em_var 2
    refine am_cons ?_ ?_
    exact em_var 4
    exact am_nil
    refine sms_cons ?_ ?_
    refine sm_for (vs := [6]) hp rfl ?_ ?_ ?_
    refine im_seq ?_
    exact em_var 5
    exact gm_name (vs := [6]) sc_joining_group.nd (by decide) rfl (Or.inl rfl) (.inl rfl)
    refine sms_one ?_
    refine sm_put hr ?_ ?_ ?_
    exact em_bl
    exact em_var 3
    exact em_var 6
    refine sms_one ?_
    refine sm_if ?_ ?_ ?_
    refine tm_val ?_
    refine em_callB (cd_all rfl) (by rfl) T.z_all (by decide +kernel) ?_
    refine am_cons ?_ ?_
    refine em_lc (own := [("side", 7)]) rfl sc_joining_group.nd ?_ ?_ ?_ ?_ (fun _ _ _ _ _ => ?_)
    refine im_range1 (by rfl) T.z_range ?_
    refine am_cons ?_ ?_
    exact em_int
    exact am_nil
    exact blkOk_by (by kernel_rfl)
    exact gmb_name sc_joining_group.nd (by decide) rfl (fun _ _ _ _ _ => ⟨Or.inr rfl, by first | exact .inl rfl | exact .inr rfl⟩)
    exact fun _ _ _ _ _ => tms_nil
    refine em_callB (cd_any rfl) (by rfl) T.z_any (by decide +kernel) ?_
    refine am_cons ?_ ?_
    refine em_lc (own := [("one", 6)]) rfl sc_joining_group.nd ?_ ?_ ?_ ?_ (fun _ _ _ _ _ => ?_)
    refine im_seq ?_
    exact em_var 5
    exact blkOk_by (by kernel_rfl)
    exact gmb_name sc_joining_group.nd (by decide) rfl (fun _ _ _ _ _ => ⟨Or.inl rfl, by first | exact .inl rfl | exact .inr rfl⟩)
    exact fun _ _ _ _ _ => tms_nil
    refine em_cmp (od_eq hr.ru) ?_ ?_ (by rfl)
    refine em_ix hr ?_ ?_
    exact em_var 6
    exact em_var 7
    exact em_int
    exact am_nil
    exact am_nil
    refine sms_one ?_
    refine sm_ret ?_
    exact em_var 5
    exact sms_nil
    exact sms_nil
    refine sms_one ?_
    refine sm_ret ?_
    refine em_lst ?_
    exact am_nil
theorem ok_check_pair (T : Fx K mg) : FnOk P w K mg base (L2.CX P w) 4 T.f_check_pair T.d_check_pair ["size", "labels", "pair"] (spF ⟨P, w, K, []⟩ (cvOf K) [false, false, false] false fs_check_pair) :=
  fn_body T.F_check_pair sc_check_pair rfl (by decide) fun cdv A outer s H E W hr tk hp => by
    refine sms_cons ?_ ?_
    refine sm_expr ?_
    refine em_call (ok_check_labels T) tk (hr.mono (by decide)) (by rfl) T.g_check_labels T.F_check_labels.kp T.b_check_labels ?_
    refine am_cons ?_ ?_
    exact em_var 0
    refine am_cons ?_ ?_
    exact em_var 1
    exact am_nil
    refine sms_cons ?_ ?_
    refine sm_if ?_ ?_ ?_
    refine TW.tm ?_
    refine tw_or ?_ ?_
    refine tm_not ?_
    refine tm_val ?_
    refine em_callB cd_isi (by rfl) T.z_isinstance (by decide +kernel) ?_
    refine am_cons ?_ ?_
    exact em_var 2
    refine am_cons ?_ ?_
    exact em_ty (by rfl) T.z_tuple (by decide +kernel)
    exact am_nil
    refine tw_or ?_ ?_
    refine tm_cmp (od_ne hr.ru) ?_ ?_ (by rfl)
    refine em_callB cd_len (by rfl) T.z_len (by decide +kernel) ?_
    refine am_cons ?_ ?_
    exact em_var 2
    exact am_nil
    exact em_int
    refine tw_or1 ?_
    refine tm_not ?_
    refine tm_val ?_
    refine em_callB (cd_all rfl) (by rfl) T.z_all (by decide +kernel) ?_
    refine am_cons ?_ ?_
    refine em_lc (own := [("one", 3)]) rfl sc_check_pair.nd ?_ ?_ ?_ ?_ (fun _ _ _ _ _ => ?_)
    refine im_seq ?_
    exact em_var 2
    exact blkOk_by (by kernel_rfl)
    exact gmb_name sc_check_pair.nd (by decide) rfl (fun _ _ _ _ _ => ⟨Or.inl rfl, by first | exact .inl rfl | exact .inr rfl⟩)
    exact fun _ _ _ _ _ => tms_nil
    refine em_call (ok_is_integer T) takes0 (hr.mono (by decide)) (by rfl) T.g_is_integer T.F_is_integer.kp T.b_is_integer ?_
    refine am_cons ?_ ?_
    exact em_var 3
    refine am_cons ?_ ?_
    exact em_int
    refine am_cons ?_ ?_
    exact em_int
    exact am_nil
    exact am_nil
    refine sms_one ?_
    exact sm_raise (by rfl) rfl T.gl T.x_InvalidPair tk (by rfl)
    exact sms_nil
    refine sms_one ?_
    refine sm_if ?_ ?_ ?_
    refine tm_cmp od_ge ?_ ?_ (by rfl)
    refine em_ix hr ?_ ?_
    exact em_var 2
    exact em_int
    refine em_ix hr ?_ ?_
    exact em_var 2
    exact em_int
    refine sms_one ?_
    exact sm_raise (by rfl) rfl T.gl T.x_InvalidPair tk (by rfl)
    exact sms_nil
theorem ok_triangles_at (T : Fx K mg) : FnOk P w K mg base (L2.CX P w) 4 T.f_triangles_at T.d_triangles_at ["size"] (spF ⟨P, w, K, []⟩ (cvOf K) [false] false fs_triangles_at) :=
  fn_body T.F_triangles_at sc_triangles_at rfl (by decide) fun cdv A outer s H E W hr tk hp => by
    refine sms_cons ?_ ?_
    refine sm_set sc_triangles_at.nd ?_
    exact em_dct0
    refine sms_cons ?_ ?_
    refine sm_for (vs := [2]) hp rfl ?_ ?_ ?_
    refine im_seq ?_
    refine em_call (ok_triangle_list T) tk (hr.mono (by decide)) (by rfl) T.g_triangle_list T.F_triangle_list.kp T.b_triangle_list ?_
    refine am_cons ?_ ?_
    exact em_var 0
    exact am_nil
    exact gm_name (vs := [2]) sc_triangles_at.nd (by decide) rfl (Or.inl rfl) (.inl rfl)
    refine sms_one ?_
    refine sm_for (vs := [3]) hp rfl ?_ ?_ ?_
    refine im_seq ?_
    refine em_call (ok_edges_of T) tk (hr.mono (by decide)) (by rfl) T.g_edges_of T.F_edges_of.kp T.b_edges_of ?_
    refine am_cons ?_ ?_
    exact em_var 2
    exact am_nil
    exact gm_name (vs := [3]) sc_triangles_at.nd (by decide) rfl (Or.inl rfl) (.inl rfl)
    refine sms_one ?_
    refine sm_put hr ?_ ?_ ?_
    refine em_op od_add ?_ ?_
    refine em_get hr ?_ ?_
    exact em_var 1
    refine am_cons ?_ ?_
    exact em_var 3
    refine am_cons ?_ ?_
    refine em_lst ?_
    exact am_nil
    exact am_nil
    refine em_lst ?_
    refine am_cons ?_ ?_
    exact em_var 2
    exact am_nil
    exact em_var 1
    exact em_var 3
    refine sms_one ?_
    refine sm_ret ?_
    exact em_var 1
theorem ok_full_triangles (T : Fx K mg) : FnOk P w K mg base (L2.CX P w) 5 T.f_full_triangles T.d_full_triangles ["size", "labels"] (spF ⟨P, w, K, []⟩ (cvOf K) [false, false] false fs_full_triangles) :=
  fn_body T.F_full_triangles sc_full_triangles rfl (by decide) fun cdv A outer s H E W hr tk hp => by
    refine sms_cons ?_ ?_
    refine sm_expr ?_
    refine em_call (ok_check_labels T) tk (hr.mono (by decide)) (by rfl) T.g_check_labels T.F_check_labels.kp T.b_check_labels ?_
    refine am_cons ?_ ?_
    exact em_var 0
    refine am_cons ?_ ?_
    exact em_var 1
    exact am_nil
    refine sms_one ?_
    refine sm_ret ?_
    refine em_call (ok_full_list T) tk (hr.mono (by decide)) (by rfl) T.g_full_list T.F_full_list.kp T.b_full_list ?_
    refine am_cons ?_ ?_
    exact em_var 0
    refine am_cons ?_ ?_
    exact em_var 1
    exact am_nil
theorem ok_joining_colour (T : Fx K mg) : FnOk P w K mg base (L2.CX P w) 5 T.f_joining_colour T.d_joining_colour ["size", "colours"] (spF ⟨P, w, K, []⟩ (cvOf K) [false, false] false fs_joining_colour) :=
  fn_body T.F_joining_colour sc_joining_colour rfl (by decide) fun cdv A outer s H E W hr tk hp => by
    refine sms_cons ?_ ?_
    refine sm_expr ?_
    refine em_call (ok_check_colours T) tk (hr.mono (by decide)) (by rfl) T.g_check_colours T.F_check_colours.kp T.b_check_colours ?_
    refine am_cons ?_ ?_
    exact em_var 0
    refine am_cons ?_ ?_
    exact em_var 1
    exact am_nil
    refine sms_cons ?_ ?_
    refine sm_set sc_joining_colour.nd ?_
    refine em_dz hr rfl (by rfl) T.z_dict (by rfl) T.z_zip ?_
    refine am_cons ?_ ?_
    refine em_call (ok_point_list T) tk (hr.mono (by decide)) (by rfl) T.g_point_list T.F_point_list.kp T.b_point_list ?_
    refine am_cons ?_ ?_
    exact em_var 0
    exact am_nil
    refine am_cons ?_ ?_
    exact em_var 1
    exact am_nil
    refine sms_one ?_
    refine sm_ret ?_
    refine em_ix hr ?_ ?_
    exact em_var 2
    refine em_ix hr ?_ ?_
    refine em_call (ok_joining_group T) tk (hr.mono (by decide)) (by rfl) T.g_joining_group T.F_joining_group.kp T.b_joining_group ?_
    refine am_cons ?_ ?_
    exact em_var 0
    refine am_cons ?_ ?_
    exact em_var 1
    exact am_nil
    exact em_int
theorem ok_joining_points (T : Fx K mg) : FnOk P w K mg base (L2.CX P w) 5 T.f_joining_points T.d_joining_points ["size", "colours"] (spF ⟨P, w, K, []⟩ (cvOf K) [false, false] false fs_joining_points) :=
  fn_body T.F_joining_points sc_joining_points rfl (by decide) fun cdv A outer s H E W hr tk hp => by
    refine sms_cons ?_ ?_
    refine sm_expr ?_
    refine em_call (ok_check_colours T) tk (hr.mono (by decide)) (by rfl) T.g_check_colours T.F_check_colours.kp T.b_check_colours ?_
    refine am_cons ?_ ?_
    exact em_var 0
    refine am_cons ?_ ?_
    exact em_var 1
    exact am_nil
    refine sms_one ?_
    refine sm_ret ?_
    refine em_call (ok_joining_group T) tk (hr.mono (by decide)) (by rfl) T.g_joining_group T.F_joining_group.kp T.b_joining_group ?_
    refine am_cons ?_ ?_
    exact em_var 0
    refine am_cons ?_ ?_
    exact em_var 1
    exact am_nil
theorem ok_spread (T : Fx K mg) : FnOk P w K mg base (L2.CX P w) 5 T.f_spread T.d_spread ["size"] (spF ⟨P, w, K, []⟩ (cvOf K) [false] false fs_spread) :=
  fn_body T.F_spread sc_spread rfl (by decide) fun cdv A outer s H E W hr tk hp => by
    refine sms_cons ?_ ?_
    refine sm_if ?_ ?_ ?_
    refine tm_not ?_
    refine tm_val ?_
    refine em_call (ok_is_integer T) tk (hr.mono (by decide)) (by rfl) T.g_is_integer T.F_is_integer.kp T.b_is_integer ?_
    refine am_cons ?_ ?_
    exact em_var 0
    refine am_cons ?_ ?_
    exact em_int
    refine am_cons ?_ ?_
    exact em_int
    exact am_nil
    refine sms_one ?_
    exact sm_raise (by rfl) rfl T.gl T.x_InvalidSize tk (by rfl)
    exact sms_nil
    refine sms_cons ?_ ?_
    refine sm_set sc_spread.nd ?_
    exact em_dci0
    refine sms_cons ?_ ?_
    refine sm_for (vs := [2]) hp rfl ?_ ?_ ?_
    refine im_seq ?_
    refine em_call (ok_proper_list T) tk (hr.mono (by decide)) (by rfl) T.g_proper_list T.F_proper_list.kp T.b_proper_list ?_
    refine am_cons ?_ ?_
    exact em_var 0
    exact am_nil
    exact gm_name (vs := [2]) sc_spread.nd (by decide) rfl (Or.inl rfl) (.inl rfl)
    refine sms_cons ?_ ?_
    refine sm_set sc_spread.nd ?_
    refine em_callB cd_len (by rfl) T.z_len (by decide +kernel) ?_
    refine am_cons ?_ ?_
    refine em_call (ok_full_list T) tk (hr.mono (by decide)) (by rfl) T.g_full_list T.F_full_list.kp T.b_full_list ?_
    refine am_cons ?_ ?_
    exact em_var 0
    refine am_cons ?_ ?_
    exact em_var 2
    exact am_nil
    exact am_nil
    refine sms_one ?_
    refine sm_putI hr ?_ ?_ ?_
    refine em_op od_add ?_ ?_
    refine em_getI hr ?_ ?_
    exact em_var 1
    refine am_cons ?_ ?_
    exact em_var 3
    refine am_cons ?_ ?_
    exact em_int
    exact am_nil
    exact em_int
    exact em_var 1
    exact em_var 3
    refine sms_one ?_
    refine sm_ret ?_
    refine em_sortIt rfl hr ?_ (by rfl) T.z_sorted
    exact em_var 1
theorem ok_outer_doors (T : Fx K mg) : FnOk P w K mg base (L2.CX P w) 5 T.f_outer_doors T.d_outer_doors ["size", "labels", "pair"] (spF ⟨P, w, K, []⟩ (cvOf K) [false, false, false] false fs_outer_doors) :=
  fn_body T.F_outer_doors sc_outer_doors rfl (by decide) fun cdv A outer s H E W hr tk hp => by
    refine sms_cons ?_ ?_
    refine sm_expr ?_
    refine em_call (ok_check_pair T) tk (hr.mono (by decide)) (by rfl) T.g_check_pair T.F_check_pair.kp T.b_check_pair ?_
    refine am_cons ?_ ?_
    exact em_var 0
    refine am_cons ?_ ?_
    exact em_var 1
    refine am_cons ?_ ?_
    exact em_var 2
    exact am_nil
    refine sms_one ?_
    refine sm_ret ?_
    refine em_call (ok_outer_list T) tk (hr.mono (by decide)) (by rfl) T.g_outer_list T.F_outer_list.kp T.b_outer_list ?_
    refine am_cons ?_ ?_
    exact em_var 0
    refine am_cons ?_ ?_
    refine em_call (ok_table_of T) tk (hr.mono (by decide)) (by rfl) T.g_table_of T.F_table_of.kp T.b_table_of ?_
    refine am_cons ?_ ?_
    exact em_var 0
    refine am_cons ?_ ?_
    exact em_var 1
    exact am_nil
    refine am_cons ?_ ?_
    exact em_var 2
    exact am_nil
theorem ok_all_walks (T : Fx K mg) : FnOk P w K mg base (L2.CX P w) 5 T.f_all_walks T.d_all_walks ["size", "labels", "pair"] (spF ⟨P, w, K, []⟩ (cvOf K) [false, false, false] false fs_all_walks) :=
  fn_body T.F_all_walks sc_all_walks rfl (by decide) fun cdv A outer s H E W hr tk hp => by
    refine sms_cons ?_ ?_
    refine sm_expr ?_
    refine em_call (ok_check_pair T) tk (hr.mono (by decide)) (by rfl) T.g_check_pair T.F_check_pair.kp T.b_check_pair ?_
    refine am_cons ?_ ?_
    exact em_var 0
    refine am_cons ?_ ?_
    exact em_var 1
    refine am_cons ?_ ?_
    exact em_var 2
    exact am_nil
    refine sms_cons ?_ ?_
    refine sm_asg (vs := [3, 4]) ?_ ?_
    refine em_tup ?_
    refine am_cons ?_ ?_
    refine em_call (ok_table_of T) tk (hr.mono (by decide)) (by rfl) T.g_table_of T.F_table_of.kp T.b_table_of ?_
    refine am_cons ?_ ?_
    exact em_var 0
    refine am_cons ?_ ?_
    exact em_var 1
    exact am_nil
    refine am_cons ?_ ?_
    refine em_call (ok_triangles_at T) tk (hr.mono (by decide)) (by rfl) T.g_triangles_at T.F_triangles_at.kp T.b_triangles_at ?_
    refine am_cons ?_ ?_
    exact em_var 0
    exact am_nil
    exact am_nil
    refine gm_tup (vs := [3, 4]) rfl ?_
    refine gls_cons sc_all_walks.nd (by decide) ?_ rfl (Or.inr rfl) (.inl rfl)
    refine gls_cons sc_all_walks.nd (by decide) ?_ rfl (Or.inr rfl) (.inl rfl)
    exact gls_nil
    refine sms_cons ?_ ?_
    refine sm_par rfl sc_all_walks.nd ?_
    refine am_cons ?_ ?_
    exact em_dct0
    refine am_cons ?_ ?_
    refine em_lst ?_
    exact am_nil
    exact am_nil
    refine sms_cons ?_ ?_
    refine sm_setLc (own := [("one", 11)]) rfl sc_all_walks.nd ?_ ?_ ?_ ?_ (fun _ _ _ _ _ => ?_) ?_
    refine im_seq ?_
    refine em_call (ok_triangle_list T) tk (hr.mono (by decide)) (by rfl) T.g_triangle_list T.F_triangle_list.kp T.b_triangle_list ?_
    refine am_cons ?_ ?_
    exact em_var 0
    exact am_nil
    exact blkOk_by (by kernel_rfl)
    exact gmb_name sc_all_walks.nd (by decide) rfl (fun _ _ _ _ _ => ⟨Or.inl rfl, by first | exact .inl rfl | exact .inr rfl⟩)
    refine (fun _ _ _ _ _ => ?_)
    refine tms_one ?_
    refine tm_cmp (od_ne hr.ru) ?_ ?_ (by rfl)
    refine em_call (ok_doors_of T) takes0 (hr.mono (by decide)) (by rfl) T.g_doors_of T.F_doors_of.kp T.b_doors_of ?_
    refine am_cons ?_ ?_
    exact em_var 3
    refine am_cons ?_ ?_
    exact em_var 2
    refine am_cons ?_ ?_
    exact em_var 11
    exact am_nil
    refine em_lst ?_
    exact am_nil
    exact em_var 11
    exact sw_true rfl rfl rfl (by kernel_rfl)
    refine sms_cons ?_ ?_
    refine sm_for (vs := [8]) hp rfl ?_ ?_ ?_
    refine im_seq ?_
    exact em_var 7
    exact gm_name (vs := [8]) sc_all_walks.nd (by decide) rfl (Or.inr rfl) (.inl rfl)
    refine sms_cons ?_ ?_
    refine sm_set sc_all_walks.nd ?_
    refine em_call (ok_entries T) tk (hr.mono (by decide)) (by rfl) T.g_entries T.F_entries.kp T.b_entries ?_
    refine am_cons ?_ ?_
    exact em_var 3
    refine am_cons ?_ ?_
    exact em_var 2
    refine am_cons ?_ ?_
    exact em_var 4
    refine am_cons ?_ ?_
    exact em_var 8
    exact am_nil
    refine sms_one ?_
    refine sm_if ?_ ?_ ?_
    refine TW.tm ?_
    refine tw_and ?_ ?_
    refine tm_cmp (od_notinA hr) ?_ ?_ (by rfl)
    exact em_var 8
    exact em_var 5
    refine tw_and1 ?_
    refine tm_cmp (od_ne hr.ru) ?_ ?_ (by rfl)
    exact em_var 9
    refine em_lst ?_
    exact am_nil
    refine sms_cons ?_ ?_
    refine sm_set sc_all_walks.nd ?_
    refine em_call (ok_followed T) tk (hr.mono (by decide)) (by rfl) T.g_followed T.F_followed.kp T.b_followed ?_
    refine am_cons ?_ ?_
    exact em_var 3
    refine am_cons ?_ ?_
    exact em_var 2
    refine am_cons ?_ ?_
    exact em_var 4
    refine am_cons ?_ ?_
    refine em_ix hr ?_ ?_
    exact em_var 9
    exact em_int
    refine am_cons ?_ ?_
    exact em_var 8
    exact am_nil
    refine sms_cons ?_ ?_
    refine sm_expr ?_
    refine em_app ?_ ?_
    exact em_var 6
    exact em_var 10
    refine sms_one ?_
    refine sm_for (vs := [11]) hp rfl ?_ ?_ ?_
    refine im_seq ?_
    exact em_var 10
    exact gm_name (vs := [11]) sc_all_walks.nd (by decide) rfl (Or.inl rfl) (.inl rfl)
    refine sms_one ?_
    refine sm_put hr ?_ ?_ ?_
    exact em_bl
    exact em_var 5
    exact em_var 11
    exact sms_nil
    refine sms_cons ?_ ?_
    refine sm_for (vs := [8]) hp rfl ?_ ?_ ?_
    refine im_seq ?_
    exact em_var 7
    exact gm_name (vs := [8]) sc_all_walks.nd (by decide) rfl (Or.inr rfl) (.inl rfl)
    refine sms_one ?_
    refine sm_if ?_ ?_ ?_
    refine tm_cmp (od_notinA hr) ?_ ?_ (by rfl)
    exact em_var 8
    exact em_var 5
    refine sms_cons ?_ ?_
    refine sm_setLc (own := [("door", 12)]) rfl sc_all_walks.nd ?_ ?_ ?_ ?_ (fun _ _ _ _ _ => ?_) ?_
    refine im_seq ?_
    refine em_call (ok_doors_of T) tk (hr.mono (by decide)) (by rfl) T.g_doors_of T.F_doors_of.kp T.b_doors_of ?_
    refine am_cons ?_ ?_
    exact em_var 3
    refine am_cons ?_ ?_
    exact em_var 2
    refine am_cons ?_ ?_
    exact em_var 8
    exact am_nil
    exact blkOk_by (by kernel_rfl)
    exact gmb_name sc_all_walks.nd (by decide) rfl (fun _ _ _ _ _ => ⟨Or.inl rfl, by first | exact .inl rfl | exact .inr rfl⟩)
    exact fun _ _ _ _ _ => tms_nil
    refine em_call (ok_followed T) takes0 (hr.mono (by decide)) (by rfl) T.g_followed T.F_followed.kp T.b_followed ?_
    refine am_cons ?_ ?_
    exact em_var 3
    refine am_cons ?_ ?_
    exact em_var 2
    refine am_cons ?_ ?_
    exact em_var 4
    refine am_cons ?_ ?_
    exact em_var 12
    refine am_cons ?_ ?_
    exact em_var 8
    exact am_nil
    exact sw_true rfl rfl rfl (by kernel_rfl)
    refine sms_cons ?_ ?_
    refine sm_expr ?_
    refine em_app ?_ ?_
    exact em_var 6
    refine em_callB (cd_min rfl hr) (by rfl) T.z_min (by decide +kernel) ?_
    refine am_cons ?_ ?_
    exact em_var 9
    exact am_nil
    refine sms_one ?_
    refine sm_for (vs := [11]) hp rfl ?_ ?_ ?_
    refine im_seq ?_
    refine em_ix hr ?_ ?_
    exact em_var 9
    exact em_int
    exact gm_name (vs := [11]) sc_all_walks.nd (by decide) rfl (Or.inl rfl) (.inl rfl)
    refine sms_one ?_
    refine sm_put hr ?_ ?_ ?_
    exact em_bl
    exact em_var 5
    exact em_var 11
    exact sms_nil
    refine sms_one ?_
    refine sm_ret ?_
    refine em_callB (cd_sorted hr) (by rfl) T.z_sorted (by decide +kernel) ?_
    refine am_cons ?_ ?_
    exact em_var 6
    exact am_nil
theorem ok_find_full (T : Fx K mg) : FnOk P w K mg base (L2.CX P w) 5 T.f_find_full T.d_find_full ["size", "labels"] (spF ⟨P, w, K, []⟩ (cvOf K) [false, false] false fs_find_full) :=
  fn_body T.F_find_full sc_find_full rfl (by decide) fun cdv A outer s H E W hr tk hp => by
    refine sms_cons ?_ ?_
    refine sm_expr ?_
    refine em_call (ok_check_labels T) tk (hr.mono (by decide)) (by rfl) T.g_check_labels T.F_check_labels.kp T.b_check_labels ?_
    refine am_cons ?_ ?_
    exact em_var 0
    refine am_cons ?_ ?_
    exact em_var 1
    exact am_nil
    refine sms_cons ?_ ?_
    refine sm_if ?_ ?_ ?_
    refine tm_not ?_
    refine tm_val ?_
    refine em_call (ok_proper_labels T) tk (hr.mono (by decide)) (by rfl) T.g_proper_labels T.F_proper_labels.kp T.b_proper_labels ?_
    refine am_cons ?_ ?_
    exact em_var 0
    refine am_cons ?_ ?_
    exact em_var 1
    exact am_nil
    refine sms_one ?_
    exact sm_raise (by rfl) rfl T.gl T.x_NotProper tk (by rfl)
    exact sms_nil
    refine sms_cons ?_ ?_
    refine sm_par rfl sc_find_full.nd ?_
    refine am_cons ?_ ?_
    refine em_call (ok_table_of T) tk (hr.mono (by decide)) (by rfl) T.g_table_of T.F_table_of.kp T.b_table_of ?_
    refine am_cons ?_ ?_
    exact em_var 0
    refine am_cons ?_ ?_
    exact em_var 1
    exact am_nil
    refine am_cons ?_ ?_
    refine em_call (ok_triangles_at T) tk (hr.mono (by decide)) (by rfl) T.g_triangles_at T.F_triangles_at.kp T.b_triangles_at ?_
    refine am_cons ?_ ?_
    exact em_var 0
    exact am_nil
    exact am_nil
    refine sms_cons ?_ ?_
    refine sm_for (vs := [4]) hp rfl ?_ ?_ ?_
    refine im_seq ?_
    refine em_call (ok_outer_list T) tk (hr.mono (by decide)) (by rfl) T.g_outer_list T.F_outer_list.kp T.b_outer_list ?_
    refine am_cons ?_ ?_
    exact em_var 0
    refine am_cons ?_ ?_
    exact em_var 2
    refine am_cons ?_ ?_
    refine em_tup ?_
    refine am_cons ?_ ?_
    exact em_int
    refine am_cons ?_ ?_
    exact em_int
    exact am_nil
    exact am_nil
    exact gm_name (vs := [4]) sc_find_full.nd (by decide) rfl (Or.inl rfl) (.inl rfl)
    refine sms_cons ?_ ?_
    refine sm_set sc_find_full.nd ?_
    refine em_call (ok_followed T) tk (hr.mono (by decide)) (by rfl) T.g_followed T.F_followed.kp T.b_followed ?_
    refine am_cons ?_ ?_
    exact em_var 2
    refine am_cons ?_ ?_
    refine em_tup ?_
    refine am_cons ?_ ?_
    exact em_int
    refine am_cons ?_ ?_
    exact em_int
    exact am_nil
    refine am_cons ?_ ?_
    exact em_var 3
    refine am_cons ?_ ?_
    exact em_var 4
    refine am_cons ?_ ?_
    refine em_ix hr ?_ ?_
    refine em_ix hr ?_ ?_
    exact em_var 3
    exact em_var 4
    exact em_int
    exact am_nil
    refine sms_one ?_
    refine sm_if ?_ ?_ ?_
    refine tm_val ?_
    refine em_call (ok_is_full T) tk (hr.mono (by decide)) (by rfl) T.g_is_full T.F_is_full.kp T.b_is_full ?_
    refine am_cons ?_ ?_
    exact em_var 2
    refine am_cons ?_ ?_
    refine em_ix hr ?_ ?_
    exact em_var 5
    refine em_un od_neg ?_
    exact em_int
    exact am_nil
    refine sms_one ?_
    refine sm_ret ?_
    refine em_ix hr ?_ ?_
    exact em_var 5
    refine em_un od_neg ?_
    exact em_int
    exact sms_nil
    refine sms_one ?_
    refine sm_ret ?_
    exact em_non
theorem ok_law (T : Fx K mg) : FnOk P w K mg base (L2.CX P w) 6 T.f_law T.d_law ["_law_script"] (spF ⟨P, w, K, []⟩ (cvOf K) [false] false fs_law) :=
  fn_body T.F_law sc_law rfl (by decide) fun cdv A outer s H E W hr tk hp => by
    refine sms_cons ?_ ?_
    refine sm_set sc_law.nd ?_
    refine em_lst ?_
    exact am_nil
    refine sms_cons ?_ ?_
    refine sm_set sc_law.nd ?_
    refine em_op od_add ?_ ?_
    exact em_int
    refine em_call (ok__law_draw T) tk (hr.mono (by decide)) (by rfl) T.g__law_draw T.F__law_draw.kp T.b__law_draw ?_
    refine am_cons ?_ ?_
    exact em_var 0
    refine am_cons ?_ ?_
    exact em_var 1
    refine am_cons ?_ ?_
    exact em_int
    exact am_nil
    refine sms_cons ?_ ?_
    refine sm_set sc_law.nd ?_
    refine em_call (ok_points T) tk (hr.mono (by decide)) (by rfl) T.g_points T.F_points.kp T.b_points ?_
    refine am_cons ?_ ?_
    exact em_var 2
    exact am_nil
    refine sms_cons ?_ ?_
    refine sm_set sc_law.nd ?_
    refine em_call (ok__law_draw T) tk (hr.mono (by decide)) (by rfl) T.g__law_draw T.F__law_draw.kp T.b__law_draw ?_
    refine am_cons ?_ ?_
    exact em_var 0
    refine am_cons ?_ ?_
    exact em_var 1
    refine am_cons ?_ ?_
    exact em_int
    exact am_nil
    refine sms_cons ?_ ?_
    refine sm_set sc_law.nd ?_
    refine em_repT ?_ ?_
    refine em_tup ?_
    refine am_cons ?_ ?_
    exact em_var 4
    exact am_nil
    refine em_callB cd_len (by rfl) T.z_len (by decide +kernel) ?_
    refine am_cons ?_ ?_
    exact em_var 3
    exact am_nil
    refine sms_cons ?_ ?_
    refine sm_if ?_ ?_ ?_
    refine TW.tm ?_
    refine tw_or ?_ ?_
    refine tm_cmp (od_ne hr.ru) ?_ ?_ (by rfl)
    refine em_call (ok_full_triangles T) tk (hr.mono (by decide)) (by rfl) T.g_full_triangles T.F_full_triangles.kp T.b_full_triangles ?_
    refine am_cons ?_ ?_
    exact em_var 2
    refine am_cons ?_ ?_
    exact em_var 5
    exact am_nil
    refine em_lst ?_
    exact am_nil
    refine tw_or ?_ ?_
    refine tm_cmp (od_ne hr.ru) ?_ ?_ (by rfl)
    refine em_call (ok_winding T) tk (hr.mono (by decide)) (by rfl) T.g_winding T.F_winding.kp T.b_winding ?_
    refine am_cons ?_ ?_
    exact em_var 2
    refine am_cons ?_ ?_
    exact em_var 5
    exact am_nil
    exact em_int
    refine tw_or1 ?_
    refine tm_cmp od_isnot ?_ ?_ (by rfl)
    refine em_call (ok_is_proper T) tk (hr.mono (by decide)) (by rfl) T.g_is_proper T.F_is_proper.kp T.b_is_proper ?_
    refine am_cons ?_ ?_
    exact em_var 2
    refine am_cons ?_ ?_
    exact em_var 5
    exact am_nil
    exact em_bl
    refine sms_one ?_
    refine sm_ret ?_
    exact em_bl
    exact sms_nil
    refine sms_cons ?_ ?_
    refine sm_if ?_ ?_ ?_
    refine tm_cmp (od_ne hr.ru) ?_ ?_ (by rfl)
    refine em_lc (own := [("_law_pair", 13)]) rfl sc_law.nd ?_ ?_ ?_ ?_ (fun _ _ _ _ _ => ?_)
    refine im_seq ?_
    refine em_lst ?_
    refine am_cons ?_ ?_
    refine em_tup ?_
    refine am_cons ?_ ?_
    exact em_int
    refine am_cons ?_ ?_
    exact em_int
    exact am_nil
    refine am_cons ?_ ?_
    refine em_tup ?_
    refine am_cons ?_ ?_
    exact em_int
    refine am_cons ?_ ?_
    exact em_int
    exact am_nil
    refine am_cons ?_ ?_
    refine em_tup ?_
    refine am_cons ?_ ?_
    exact em_int
    refine am_cons ?_ ?_
    exact em_int
    exact am_nil
    exact am_nil
    exact blkOk_by (by kernel_rfl)
    exact gmb_name sc_law.nd (by decide) rfl (fun _ _ _ _ _ => ⟨Or.inl rfl, by first | exact .inl rfl | exact .inr rfl⟩)
    exact fun _ _ _ _ _ => tms_nil
    refine em_call (ok_all_walks T) takes0 (hr.mono (by decide)) (by rfl) T.g_all_walks T.F_all_walks.kp T.b_all_walks ?_
    refine am_cons ?_ ?_
    exact em_var 2
    refine am_cons ?_ ?_
    exact em_var 5
    refine am_cons ?_ ?_
    exact em_var 13
    exact am_nil
    refine em_lst ?_
    refine am_cons ?_ ?_
    refine em_lst ?_
    exact am_nil
    refine am_cons ?_ ?_
    refine em_lst ?_
    exact am_nil
    refine am_cons ?_ ?_
    refine em_lst ?_
    exact am_nil
    exact am_nil
    refine sms_one ?_
    refine sm_ret ?_
    exact em_bl
    exact sms_nil
    refine sms_cons ?_ ?_
    refine sm_set sc_law.nd ?_
    refine em_callTy cd_tuple (by rfl) T.z_tuple (by decide +kernel) ?_
    refine am_cons ?_ ?_
    refine em_lc (own := [("_law_point", 14)]) rfl sc_law.nd ?_ ?_ ?_ ?_ (fun _ _ _ _ _ => ?_)
    refine im_seq ?_
    exact em_var 3
    exact blkOk_by (by kernel_rfl)
    exact gmb_name sc_law.nd (by decide) rfl (fun _ _ _ _ _ => ⟨Or.inr rfl, by first | exact .inl rfl | exact .inr rfl⟩)
    exact fun _ _ _ _ _ => tms_nil
    refine em_ix hr ?_ ?_
    refine em_lc (own := [("_law_at", 15)]) rfl sc_law.nd ?_ ?_ ?_ ?_ (fun _ _ _ _ _ => ?_)
    refine im_range1 (by rfl) T.z_range ?_
    refine am_cons ?_ ?_
    exact em_int
    exact am_nil
    exact blkOk_by (by kernel_rfl)
    exact gmb_name sc_law.nd (by decide) rfl (fun _ _ _ _ _ => ⟨Or.inl rfl, by first | exact .inl rfl | exact .inr rfl⟩)
    refine (fun _ _ _ _ _ => ?_)
    refine tms_one ?_
    refine tm_cmp od_gt ?_ ?_ (by rfl)
    refine em_ix hr ?_ ?_
    exact em_var 14
    exact em_var 15
    exact em_int
    exact em_var 15
    exact em_int
    exact am_nil
    refine sms_cons ?_ ?_
    refine sm_set sc_law.nd ?_
    refine em_tup ?_
    refine am_cons ?_ ?_
    refine em_tup ?_
    refine am_cons ?_ ?_
    exact em_int
    refine am_cons ?_ ?_
    exact em_int
    refine am_cons ?_ ?_
    exact em_var 2
    exact am_nil
    refine am_cons ?_ ?_
    refine em_tup ?_
    refine am_cons ?_ ?_
    exact em_int
    refine am_cons ?_ ?_
    exact em_int
    refine am_cons ?_ ?_
    refine em_op od_sub ?_ ?_
    exact em_var 2
    exact em_int
    exact am_nil
    refine am_cons ?_ ?_
    refine em_tup ?_
    refine am_cons ?_ ?_
    exact em_int
    refine am_cons ?_ ?_
    exact em_int
    refine am_cons ?_ ?_
    refine em_op od_sub ?_ ?_
    exact em_var 2
    exact em_int
    exact am_nil
    exact am_nil
    refine sms_cons ?_ ?_
    refine sm_if ?_ ?_ ?_
    refine TW.tm ?_
    refine tw_or ?_ ?_
    refine tm_cmp od_isnot ?_ ?_ (by rfl)
    refine em_call (ok_is_proper T) tk (hr.mono (by decide)) (by rfl) T.g_is_proper T.F_is_proper.kp T.b_is_proper ?_
    refine am_cons ?_ ?_
    exact em_var 2
    refine am_cons ?_ ?_
    exact em_var 6
    exact am_nil
    exact em_bl
    refine tw_or ?_ ?_
    refine tm_cmp (od_ne hr.ru) ?_ ?_ (by rfl)
    refine em_call (ok_full_triangles T) tk (hr.mono (by decide)) (by rfl) T.g_full_triangles T.F_full_triangles.kp T.b_full_triangles ?_
    refine am_cons ?_ ?_
    exact em_var 2
    refine am_cons ?_ ?_
    exact em_var 6
    exact am_nil
    refine em_lst ?_
    refine am_cons ?_ ?_
    exact em_var 7
    exact am_nil
    refine tw_or1 ?_
    refine tm_cmp (od_ne hr.ru) ?_ ?_ (by rfl)
    refine em_call (ok_find_full T) tk (hr.mono (by decide)) (by rfl) T.g_find_full T.F_find_full.kp T.b_find_full ?_
    refine am_cons ?_ ?_
    exact em_var 2
    refine am_cons ?_ ?_
    exact em_var 6
    exact am_nil
    exact em_var 7
    refine sms_one ?_
    refine sm_ret ?_
    exact em_bl
    exact sms_nil
    refine sms_cons ?_ ?_
    refine sm_if ?_ ?_ ?_
    refine TW.tm ?_
    refine tw_or ?_ ?_
    refine tm_cmp (od_ne hr.ru) ?_ ?_ (by rfl)
    refine em_call (ok_winding T) tk (hr.mono (by decide)) (by rfl) T.g_winding T.F_winding.kp T.b_winding ?_
    refine am_cons ?_ ?_
    exact em_var 2
    refine am_cons ?_ ?_
    exact em_var 6
    exact am_nil
    exact em_int
    refine tw_or ?_ ?_
    refine tm_cmp (od_ne hr.ru) ?_ ?_ (by rfl)
    refine em_call (ok_sign T) tk (hr.mono (by decide)) (by rfl) T.g_sign T.F_sign.kp T.b_sign ?_
    refine am_cons ?_ ?_
    exact em_var 2
    refine am_cons ?_ ?_
    exact em_var 6
    refine am_cons ?_ ?_
    exact em_var 7
    exact am_nil
    exact em_int
    refine tw_or1 ?_
    refine tm_cmp (od_ne hr.ru) ?_ ?_ (by rfl)
    refine em_callB cd_len (by rfl) T.z_len (by decide +kernel) ?_
    refine am_cons ?_ ?_
    refine em_call (ok_outer_doors T) tk (hr.mono (by decide)) (by rfl) T.g_outer_doors T.F_outer_doors.kp T.b_outer_doors ?_
    refine am_cons ?_ ?_
    exact em_var 2
    refine am_cons ?_ ?_
    exact em_var 6
    refine am_cons ?_ ?_
    refine em_tup ?_
    refine am_cons ?_ ?_
    exact em_int
    refine am_cons ?_ ?_
    exact em_int
    exact am_nil
    exact am_nil
    exact am_nil
    exact em_int
    refine sms_one ?_
    refine sm_ret ?_
    exact em_bl
    exact sms_nil
    refine sms_cons ?_ ?_
    refine sm_set sc_law.nd ?_
    refine em_callTy cd_tuple (by rfl) T.z_tuple (by decide +kernel) ?_
    refine am_cons ?_ ?_
    refine em_lc (own := [("_law_one", 16)]) rfl sc_law.nd ?_ ?_ ?_ ?_ (fun _ _ _ _ _ => ?_)
    refine im_seq ?_
    exact em_var 6
    exact blkOk_by (by kernel_rfl)
    exact gmb_name sc_law.nd (by decide) rfl (fun _ _ _ _ _ => ⟨Or.inl rfl, by first | exact .inl rfl | exact .inr rfl⟩)
    exact fun _ _ _ _ _ => tms_nil
    refine em_ix hr ?_ ?_
    refine em_lst ?_
    refine am_cons ?_ ?_
    exact em_int
    refine am_cons ?_ ?_
    exact em_int
    refine am_cons ?_ ?_
    exact em_int
    exact am_nil
    exact em_var 16
    exact am_nil
    refine sms_cons ?_ ?_
    refine sm_if ?_ ?_ ?_
    refine TW.tm ?_
    refine tw_or ?_ ?_
    refine tm_cmp (od_ne hr.ru) ?_ ?_ (by rfl)
    refine em_call (ok_winding T) tk (hr.mono (by decide)) (by rfl) T.g_winding T.F_winding.kp T.b_winding ?_
    refine am_cons ?_ ?_
    exact em_var 2
    refine am_cons ?_ ?_
    exact em_var 8
    exact am_nil
    refine em_un od_neg ?_
    exact em_int
    refine tw_or ?_ ?_
    refine tm_cmp (od_ne hr.ru) ?_ ?_ (by rfl)
    refine em_call (ok_full_triangles T) tk (hr.mono (by decide)) (by rfl) T.g_full_triangles T.F_full_triangles.kp T.b_full_triangles ?_
    refine am_cons ?_ ?_
    exact em_var 2
    refine am_cons ?_ ?_
    exact em_var 8
    exact am_nil
    refine em_lst ?_
    refine am_cons ?_ ?_
    exact em_var 7
    exact am_nil
    refine tw_or1 ?_
    refine tm_cmp (od_ne hr.ru) ?_ ?_ (by rfl)
    refine em_call (ok_sign T) tk (hr.mono (by decide)) (by rfl) T.g_sign T.F_sign.kp T.b_sign ?_
    refine am_cons ?_ ?_
    exact em_var 2
    refine am_cons ?_ ?_
    exact em_var 8
    refine am_cons ?_ ?_
    exact em_var 7
    exact am_nil
    refine em_un od_neg ?_
    exact em_int
    refine sms_one ?_
    refine sm_ret ?_
    exact em_bl
    exact sms_nil
    refine sms_cons ?_ ?_
    refine sm_set sc_law.nd ?_
    refine em_ifE ?_ ?_ ?_
    refine tm_cmp od_gt ?_ ?_ (by rfl)
    exact em_var 2
    exact em_int
    refine em_tup ?_
    refine am_cons ?_ ?_
    exact em_int
    refine am_cons ?_ ?_
    exact em_int
    refine am_cons ?_ ?_
    refine em_op od_sub ?_ ?_
    exact em_var 2
    exact em_int
    exact am_nil
    refine em_tup ?_
    refine am_cons ?_ ?_
    exact em_int
    refine am_cons ?_ ?_
    exact em_int
    refine am_cons ?_ ?_
    exact em_int
    exact am_nil
    refine sms_cons ?_ ?_
    refine sm_set sc_law.nd ?_
    refine em_callTy cd_tuple (by rfl) T.z_tuple (by decide +kernel) ?_
    refine am_cons ?_ ?_
    refine em_lc (own := [("_law_point", 14)]) rfl sc_law.nd ?_ ?_ ?_ ?_ (fun _ _ _ _ _ => ?_)
    refine im_seq ?_
    exact em_var 3
    exact blkOk_by (by kernel_rfl)
    exact gmb_name sc_law.nd (by decide) rfl (fun _ _ _ _ _ => ⟨Or.inl rfl, by first | exact .inl rfl | exact .inr rfl⟩)
    exact fun _ _ _ _ _ => tms_nil
    refine em_ifE ?_ ?_ ?_
    refine tm_cmp (od_eq hr.ru) ?_ ?_ (by rfl)
    exact em_var 14
    exact em_var 9
    exact em_int
    exact em_int
    exact am_nil
    refine sms_cons ?_ ?_
    refine sm_if ?_ ?_ ?_
    refine TW.tm ?_
    refine tw_or ?_ ?_
    refine tm_cmp (od_ne hr.ru) ?_ ?_ (by rfl)
    refine em_call (ok_joining_colour T) tk (hr.mono (by decide)) (by rfl) T.g_joining_colour T.F_joining_colour.kp T.b_joining_colour ?_
    refine am_cons ?_ ?_
    exact em_var 2
    refine am_cons ?_ ?_
    exact em_var 10
    exact am_nil
    exact em_int
    refine tw_or1 ?_
    refine tm_cmp (od_ne hr.ru) ?_ ?_ (by rfl)
    refine em_call (ok_full_triangles T) tk (hr.mono (by decide)) (by rfl) T.g_full_triangles T.F_full_triangles.kp T.b_full_triangles ?_
    refine am_cons ?_ ?_
    exact em_var 2
    refine am_cons ?_ ?_
    exact em_var 10
    exact am_nil
    refine em_lst ?_
    exact am_nil
    refine sms_one ?_
    refine sm_ret ?_
    exact em_bl
    exact sms_nil
    refine sms_cons ?_ ?_
    refine sm_set sc_law.nd ?_
    refine em_call (ok_all_walks T) tk (hr.mono (by decide)) (by rfl) T.g_all_walks T.F_all_walks.kp T.b_all_walks ?_
    refine am_cons ?_ ?_
    exact em_var 2
    refine am_cons ?_ ?_
    exact em_var 10
    refine am_cons ?_ ?_
    refine em_tup ?_
    refine am_cons ?_ ?_
    exact em_int
    refine am_cons ?_ ?_
    exact em_int
    exact am_nil
    exact am_nil
    refine sms_cons ?_ ?_
    refine sm_if ?_ ?_ ?_
    refine TW.tm ?_
    refine tw_or ?_ ?_
    refine tm_cmp (od_ne hr.ru) ?_ ?_ (by rfl)
    refine em_callB cd_len (by rfl) T.z_len (by decide +kernel) ?_
    refine am_cons ?_ ?_
    exact em_var 11
    exact am_nil
    exact em_int
    refine tw_or1 ?_
    refine tm_cmp (od_ne hr.ru) ?_ ?_ (by rfl)
    refine em_callB cd_len (by rfl) T.z_len (by decide +kernel) ?_
    refine am_cons ?_ ?_
    refine em_ix hr ?_ ?_
    exact em_var 11
    exact em_int
    exact am_nil
    refine em_ifE ?_ ?_ ?_
    refine tm_cmp od_gt ?_ ?_ (by rfl)
    exact em_var 2
    exact em_int
    exact em_int
    exact em_int
    refine sms_one ?_
    refine sm_ret ?_
    exact em_bl
    exact sms_nil
    refine sms_cons ?_ ?_
    refine sm_set sc_law.nd ?_
    refine em_callTy cd_tuple (by rfl) T.z_tuple (by decide +kernel) ?_
    refine am_cons ?_ ?_
    refine em_lc (own := [("_law_point", 14)]) rfl sc_law.nd ?_ ?_ ?_ ?_ (fun _ _ _ _ _ => ?_)
    refine im_seq ?_
    exact em_var 3
    exact blkOk_by (by kernel_rfl)
    exact gmb_name sc_law.nd (by decide) rfl (fun _ _ _ _ _ => ⟨Or.inl rfl, by first | exact .inl rfl | exact .inr rfl⟩)
    exact fun _ _ _ _ _ => tms_nil
    refine em_ifE ?_ ?_ ?_
    refine tm_cmp (od_eq hr.ru) ?_ ?_ (by rfl)
    refine em_ix hr ?_ ?_
    exact em_var 14
    exact em_int
    exact em_int
    exact em_int
    exact em_int
    exact am_nil
    refine sms_cons ?_ ?_
    refine sm_if ?_ ?_ ?_
    refine TW.tm ?_
    refine tw_or ?_ ?_
    refine tm_cmp (od_ne hr.ru) ?_ ?_ (by rfl)
    refine em_call (ok_joining_colour T) tk (hr.mono (by decide)) (by rfl) T.g_joining_colour T.F_joining_colour.kp T.b_joining_colour ?_
    refine am_cons ?_ ?_
    exact em_var 2
    refine am_cons ?_ ?_
    exact em_var 12
    exact am_nil
    exact em_int
    refine tw_or1 ?_
    refine tm_cmp (od_ne hr.ru) ?_ ?_ (by rfl)
    refine em_call (ok_joining_points T) tk (hr.mono (by decide)) (by rfl) T.g_joining_points T.F_joining_points.kp T.b_joining_points ?_
    refine am_cons ?_ ?_
    exact em_var 2
    refine am_cons ?_ ?_
    exact em_var 12
    exact am_nil
    refine em_lc (own := [("_law_point", 14)]) rfl sc_law.nd ?_ ?_ ?_ ?_ (fun _ _ _ _ _ => ?_)
    refine im_seq ?_
    exact em_var 3
    exact blkOk_by (by kernel_rfl)
    exact gmb_name sc_law.nd (by decide) rfl (fun _ _ _ _ _ => ⟨Or.inl rfl, by first | exact .inl rfl | exact .inr rfl⟩)
    refine (fun _ _ _ _ _ => ?_)
    refine tms_one ?_
    refine tm_cmp (od_eq hr.ru) ?_ ?_ (by rfl)
    refine em_ix hr ?_ ?_
    exact em_var 14
    exact em_int
    exact em_int
    exact em_var 14
    refine sms_one ?_
    refine sm_ret ?_
    exact em_bl
    exact sms_nil
    refine sms_cons ?_ ?_
    refine sm_if ?_ ?_ ?_
    refine TW.tm ?_
    refine tw_or ?_ ?_
    refine tm_cmp (od_ne hr.ru) ?_ ?_ (by rfl)
    refine em_callB cd_len (by rfl) T.z_len (by decide +kernel) ?_
    refine am_cons ?_ ?_
    refine em_call (ok_triangles T) tk (hr.mono (by decide)) (by rfl) T.g_triangles T.F_triangles.kp T.b_triangles ?_
    refine am_cons ?_ ?_
    exact em_int
    exact am_nil
    exact am_nil
    exact em_int
    refine tw_or ?_ ?_
    refine tm_cmp (od_ne hr.ru) ?_ ?_ (by rfl)
    refine em_call (ok_round_of T) tk (hr.mono (by decide)) (by rfl) T.g_round_of T.F_round_of.kp T.b_round_of ?_
    refine am_cons ?_ ?_
    exact em_int
    exact am_nil
    refine em_lst ?_
    refine am_cons ?_ ?_
    refine em_tup ?_
    refine am_cons ?_ ?_
    exact em_int
    refine am_cons ?_ ?_
    exact em_int
    refine am_cons ?_ ?_
    exact em_int
    exact am_nil
    refine am_cons ?_ ?_
    refine em_tup ?_
    refine am_cons ?_ ?_
    exact em_int
    refine am_cons ?_ ?_
    exact em_int
    refine am_cons ?_ ?_
    exact em_int
    exact am_nil
    refine am_cons ?_ ?_
    refine em_tup ?_
    refine am_cons ?_ ?_
    exact em_int
    refine am_cons ?_ ?_
    exact em_int
    refine am_cons ?_ ?_
    exact em_int
    exact am_nil
    exact am_nil
    refine tw_or1 ?_
    refine tm_cmp (od_ne hr.ru) ?_ ?_ (by rfl)
    refine em_call (ok_spread T) tk (hr.mono (by decide)) (by rfl) T.g_spread T.F_spread.kp T.b_spread ?_
    refine am_cons ?_ ?_
    exact em_int
    exact am_nil
    refine em_lst ?_
    refine am_cons ?_ ?_
    refine em_tup ?_
    refine am_cons ?_ ?_
    exact em_int
    refine am_cons ?_ ?_
    exact em_int
    exact am_nil
    exact am_nil
    refine sms_one ?_
    refine sm_ret ?_
    exact em_bl
    exact sms_nil
    refine sms_one ?_
    refine sm_ret ?_
    refine em_and ?_ ?_
    refine em_cmp (od_eq hr.ru) ?_ ?_ (by rfl)
    refine em_lc (own := [("_law_size", 17)]) rfl sc_law.nd ?_ ?_ ?_ ?_ (fun _ _ _ _ _ => ?_)
    refine im_seq ?_
    refine em_tup ?_
    refine am_cons ?_ ?_
    exact em_int
    refine am_cons ?_ ?_
    exact em_int
    refine am_cons ?_ ?_
    exact em_int
    refine am_cons ?_ ?_
    exact em_int
    exact am_nil
    exact blkOk_by (by kernel_rfl)
    exact gmb_name sc_law.nd (by decide) rfl (fun _ _ _ _ _ => ⟨Or.inl rfl, by first | exact .inl rfl | exact .inr rfl⟩)
    exact fun _ _ _ _ _ => tms_nil
    refine em_call (ok_count_proper T) takes0 (hr.mono (by decide)) (by rfl) T.g_count_proper T.F_count_proper.kp T.b_count_proper ?_
    refine am_cons ?_ ?_
    exact em_var 17
    exact am_nil
    refine em_lst ?_
    refine am_cons ?_ ?_
    exact em_int
    refine am_cons ?_ ?_
    exact em_int
    refine am_cons ?_ ?_
    exact em_int
    refine am_cons ?_ ?_
    exact em_int
    exact am_nil
    refine em_one ?_
    refine em_cmp (od_eq hr.ru) ?_ ?_ (by rfl)
    refine em_call (ok_spread T) tk (hr.mono (by decide)) (by rfl) T.g_spread T.F_spread.kp T.b_spread ?_
    refine am_cons ?_ ?_
    exact em_int
    exact am_nil
    refine em_lst ?_
    refine am_cons ?_ ?_
    refine em_tup ?_
    refine am_cons ?_ ?_
    exact em_int
    refine am_cons ?_ ?_
    exact em_int
    exact am_nil
    exact am_nil
end
/-! ### what the top has written -/
set_option maxHeartbeats 4000000 in
def fx_mk {K : PySem.W.Frag} {h : Heap} {mg : Str → Option Value} (X : K.In h) (G : h.Ns mainGlobals mg)
    {f0 : Addr} {od0 an0 : Option Addr} {sl0 : Array (Option Value)} {oc0 kV0 dc0 pm0 cd0 ct0 : Value} {f1 : Addr} {od1 an1 : Option Addr} {sl1 : Array (Option Value)} {oc1 kV1 dc1 pm1 cd1 ct1 : Value} {f2 : Addr} {od2 an2 : Option Addr} {sl2 : Array (Option Value)} {oc2 kV2 dc2 pm2 cd2 ct2 : Value} {f3 : Addr} {od3 an3 : Option Addr} {sl3 : Array (Option Value)} {oc3 kV3 dc3 pm3 cd3 ct3 : Value} {f4 : Addr} {od4 an4 : Option Addr} {sl4 : Array (Option Value)} {oc4 kV4 dc4 pm4 cd4 ct4 : Value} {f5 : Addr} {od5 an5 : Option Addr} {sl5 : Array (Option Value)} {oc5 kV5 dc5 pm5 cd5 ct5 : Value} {f6 : Addr} {od6 an6 : Option Addr} {sl6 : Array (Option Value)} {oc6 kV6 dc6 pm6 cd6 ct6 : Value} {f7 : Addr} {od7 an7 : Option Addr} {sl7 : Array (Option Value)} {oc7 kV7 dc7 pm7 cd7 ct7 : Value} {f8 : Addr} {od8 an8 : Option Addr} {sl8 : Array (Option Value)} {oc8 kV8 dc8 pm8 cd8 ct8 : Value} {f9 : Addr} {od9 an9 : Option Addr} {sl9 : Array (Option Value)} {oc9 kV9 dc9 pm9 cd9 ct9 : Value} {f10 : Addr} {od10 an10 : Option Addr} {sl10 : Array (Option Value)} {oc10 kV10 dc10 pm10 cd10 ct10 : Value} {f11 : Addr} {od11 an11 : Option Addr} {sl11 : Array (Option Value)} {oc11 kV11 dc11 pm11 cd11 ct11 : Value} {f12 : Addr} {od12 an12 : Option Addr} {sl12 : Array (Option Value)} {oc12 kV12 dc12 pm12 cd12 ct12 : Value} {f13 : Addr} {od13 an13 : Option Addr} {sl13 : Array (Option Value)} {oc13 kV13 dc13 pm13 cd13 ct13 : Value} {f14 : Addr} {od14 an14 : Option Addr} {sl14 : Array (Option Value)} {oc14 kV14 dc14 pm14 cd14 ct14 : Value} {f15 : Addr} {od15 an15 : Option Addr} {sl15 : Array (Option Value)} {oc15 kV15 dc15 pm15 cd15 ct15 : Value} {f16 : Addr} {od16 an16 : Option Addr} {sl16 : Array (Option Value)} {oc16 kV16 dc16 pm16 cd16 ct16 : Value} {f17 : Addr} {od17 an17 : Option Addr} {sl17 : Array (Option Value)} {oc17 kV17 dc17 pm17 cd17 ct17 : Value} {f18 : Addr} {od18 an18 : Option Addr} {sl18 : Array (Option Value)} {oc18 kV18 dc18 pm18 cd18 ct18 : Value} {f19 : Addr} {od19 an19 : Option Addr} {sl19 : Array (Option Value)} {oc19 kV19 dc19 pm19 cd19 ct19 : Value} {f20 : Addr} {od20 an20 : Option Addr} {sl20 : Array (Option Value)} {oc20 kV20 dc20 pm20 cd20 ct20 : Value} {f21 : Addr} {od21 an21 : Option Addr} {sl21 : Array (Option Value)} {oc21 kV21 dc21 pm21 cd21 ct21 : Value} {f22 : Addr} {od22 an22 : Option Addr} {sl22 : Array (Option Value)} {oc22 kV22 dc22 pm22 cd22 ct22 : Value} {f23 : Addr} {od23 an23 : Option Addr} {sl23 : Array (Option Value)} {oc23 kV23 dc23 pm23 cd23 ct23 : Value} {f24 : Addr} {od24 an24 : Option Addr} {sl24 : Array (Option Value)} {oc24 kV24 dc24 pm24 cd24 ct24 : Value} {f25 : Addr} {od25 an25 : Option Addr} {sl25 : Array (Option Value)} {oc25 kV25 dc25 pm25 cd25 ct25 : Value} {f26 : Addr} {od26 an26 : Option Addr} {sl26 : Array (Option Value)} {oc26 kV26 dc26 pm26 cd26 ct26 : Value} {f27 : Addr} {od27 an27 : Option Addr} {sl27 : Array (Option Value)} {oc27 kV27 dc27 pm27 cd27 ct27 : Value} {f28 : Addr} {od28 an28 : Option Addr} {sl28 : Array (Option Value)} {oc28 kV28 dc28 pm28 cd28 ct28 : Value} {f29 : Addr} {od29 an29 : Option Addr} {sl29 : Array (Option Value)} {oc29 kV29 dc29 pm29 cd29 ct29 : Value} {f30 : Addr} {od30 an30 : Option Addr} {sl30 : Array (Option Value)} {oc30 kV30 dc30 pm30 cd30 ct30 : Value} {f31 : Addr} {od31 an31 : Option Addr} {sl31 : Array (Option Value)} {oc31 kV31 dc31 pm31 cd31 ct31 : Value} {f32 : Addr} {od32 an32 : Option Addr} {sl32 : Array (Option Value)} {oc32 kV32 dc32 pm32 cd32 ct32 : Value} {f33 : Addr} {od33 an33 : Option Addr} {sl33 : Array (Option Value)} {oc33 kV33 dc33 pm33 cd33 ct33 : Value} {f34 : Addr} {od34 an34 : Option Addr} {sl34 : Array (Option Value)} {oc34 kV34 dc34 pm34 cd34 ct34 : Value} {f35 : Addr} {od35 an35 : Option Addr} {sl35 : Array (Option Value)} {oc35 kV35 dc35 pm35 cd35 ct35 : Value} {f36 : Addr} {od36 an36 : Option Addr} {sl36 : Array (Option Value)} {oc36 kV36 dc36 pm36 cd36 ct36 : Value} {f37 : Addr} {od37 an37 : Option Addr} {sl37 : Array (Option Value)} {oc37 kV37 dc37 pm37 cd37 ct37 : Value} {f38 : Addr} {od38 an38 : Option Addr} {sl38 : Array (Option Value)} {oc38 kV38 dc38 pm38 cd38 ct38 : Value} {f39 : Addr} {od39 an39 : Option Addr} {sl39 : Array (Option Value)} {oc39 kV39 dc39 pm39 cd39 ct39 : Value} {f40 : Addr} {od40 an40 : Option Addr} {sl40 : Array (Option Value)} {oc40 kV40 dc40 pm40 cd40 ct40 : Value} {f41 : Addr} {od41 an41 : Option Addr} {sl41 : Array (Option Value)} {oc41 kV41 dc41 pm41 cd41 ct41 : Value} {f42 : Addr} {od42 an42 : Option Addr} {sl42 : Array (Option Value)} {oc42 kV42 dc42 pm42 cd42 ct42 : Value} {f43 : Addr} {od43 an43 : Option Addr} {sl43 : Array (Option Value)} {oc43 kV43 dc43 pm43 cd43 ct43 : Value} {f44 : Addr} {od44 an44 : Option Addr} {sl44 : Array (Option Value)} {oc44 kV44 dc44 pm44 cd44 ct44 : Value} {f45 : Addr} {od45 an45 : Option Addr} {sl45 : Array (Option Value)} {oc45 kV45 dc45 pm45 cd45 ct45 : Value} {f46 : Addr} {od46 an46 : Option Addr} {sl46 : Array (Option Value)} {oc46 kV46 dc46 pm46 cd46 ct46 : Value} {f47 : Addr} {od47 an47 : Option Addr} {sl47 : Array (Option Value)} {oc47 kV47 dc47 pm47 cd47 ct47 : Value} {tSSTEPS_0_0 : Tok} {tSSTEPS_0_1 : Tok} {tSSTEPS_0_2 : Tok} {SSTEPS_0 : Addr} {odSSTEPS_0 : Option Addr} {nSSTEPS_0 : Nat} {slSSTEPS_0 : Array (Option Value)} {tSSTEPS_1_0 : Tok} {tSSTEPS_1_1 : Tok} {tSSTEPS_1_2 : Tok} {SSTEPS_1 : Addr} {odSSTEPS_1 : Option Addr} {nSSTEPS_1 : Nat} {slSSTEPS_1 : Array (Option Value)} {tSSTEPS_2_0 : Tok} {tSSTEPS_2_1 : Tok} {tSSTEPS_2_2 : Tok} {SSTEPS_2 : Addr} {odSSTEPS_2 : Option Addr} {nSSTEPS_2 : Nat} {slSSTEPS_2 : Array (Option Value)} {tSSTEPS_3_0 : Tok} {tSSTEPS_3_1 : Tok} {tSSTEPS_3_2 : Tok} {SSTEPS_3 : Addr} {odSSTEPS_3 : Option Addr} {nSSTEPS_3 : Nat} {slSSTEPS_3 : Array (Option Value)} {tSSTEPS_4_0 : Tok} {tSSTEPS_4_1 : Tok} {tSSTEPS_4_2 : Tok} {SSTEPS_4 : Addr} {odSSTEPS_4 : Option Addr} {nSSTEPS_4 : Nat} {slSSTEPS_4 : Array (Option Value)} {tSSTEPS_5_0 : Tok} {tSSTEPS_5_1 : Tok} {tSSTEPS_5_2 : Tok} {SSTEPS_5 : Addr} {odSSTEPS_5 : Option Addr} {nSSTEPS_5 : Nat} {slSSTEPS_5 : Array (Option Value)} {SSTEPS : Addr} {odSSTEPS : Option Addr} {nSSTEPS : Nat} {slSSTEPS : Array (Option Value)}
    (a0 : PySem.W.nsIn K mainGlobals "is_integer" = some (some (.ref f0))) (l0 : K.lookup f0 = some ⟨oc0, od0, .func (PySem.W.fnOf "is_integer" "is_integer" (defArgs st_is_integer) (defBody st_is_integer) (defScope st_is_integer) .none kV0 dc0 pm0 an0 cd0 ct0), sl0⟩) (c0 : PySem.W.codeIn K cd0 "is_integer" = true) (k0 : PySem.W.keepIn K (.ref f0) = true)
    (a1 : PySem.W.nsIn K mainGlobals "point_list" = some (some (.ref f1))) (l1 : K.lookup f1 = some ⟨oc1, od1, .func (PySem.W.fnOf "point_list" "point_list" (defArgs st_point_list) (defBody st_point_list) (defScope st_point_list) .none kV1 dc1 pm1 an1 cd1 ct1), sl1⟩) (c1 : PySem.W.codeIn K cd1 "point_list" = true) (k1 : PySem.W.keepIn K (.ref f1) = true)
    (a2 : PySem.W.nsIn K mainGlobals "moved" = some (some (.ref f2))) (l2 : K.lookup f2 = some ⟨oc2, od2, .func (PySem.W.fnOf "moved" "moved" (defArgs st_moved) (defBody st_moved) (defScope st_moved) .none kV2 dc2 pm2 an2 cd2 ct2), sl2⟩) (c2 : PySem.W.codeIn K cd2 "moved" = true) (k2 : PySem.W.keepIn K (.ref f2) = true)
    (a3 : PySem.W.nsIn K mainGlobals "round_list" = some (some (.ref f3))) (l3 : K.lookup f3 = some ⟨oc3, od3, .func (PySem.W.fnOf "round_list" "round_list" (defArgs st_round_list) (defBody st_round_list) (defScope st_round_list) .none kV3 dc3 pm3 an3 cd3 ct3), sl3⟩) (c3 : PySem.W.codeIn K cd3 "round_list" = true) (k3 : PySem.W.keepIn K (.ref f3) = true)
    (a4 : PySem.W.nsIn K mainGlobals "fits" = some (some (.ref f4))) (l4 : K.lookup f4 = some ⟨oc4, od4, .func (PySem.W.fnOf "fits" "fits" (defArgs st_fits) (defBody st_fits) (defScope st_fits) .none kV4 dc4 pm4 an4 cd4 ct4), sl4⟩) (c4 : PySem.W.codeIn K cd4 "fits" = true) (k4 : PySem.W.keepIn K (.ref f4) = true)
    (a5 : PySem.W.nsIn K mainGlobals "is_full" = some (some (.ref f5))) (l5 : K.lookup f5 = some ⟨oc5, od5, .func (PySem.W.fnOf "is_full" "is_full" (defArgs st_is_full) (defBody st_is_full) (defScope st_is_full) .none kV5 dc5 pm5 an5 cd5 ct5), sl5⟩) (c5 : PySem.W.codeIn K cd5 "is_full" = true) (k5 : PySem.W.keepIn K (.ref f5) = true)
    (a6 : PySem.W.nsIn K mainGlobals "turn" = some (some (.ref f6))) (l6 : K.lookup f6 = some ⟨oc6, od6, .func (PySem.W.fnOf "turn" "turn" (defArgs st_turn) (defBody st_turn) (defScope st_turn) .none kV6 dc6 pm6 an6 cd6 ct6), sl6⟩) (c6 : PySem.W.codeIn K cd6 "turn" = true) (k6 : PySem.W.keepIn K (.ref f6) = true)
    (a7 : PySem.W.nsIn K mainGlobals "is_door" = some (some (.ref f7))) (l7 : K.lookup f7 = some ⟨oc7, od7, .func (PySem.W.fnOf "is_door" "is_door" (defArgs st_is_door) (defBody st_is_door) (defScope st_is_door) .none kV7 dc7 pm7 an7 cd7 ct7), sl7⟩) (c7 : PySem.W.codeIn K cd7 "is_door" = true) (k7 : PySem.W.keepIn K (.ref f7) = true)
    (a8 : PySem.W.nsIn K mainGlobals "edges_of" = some (some (.ref f8))) (l8 : K.lookup f8 = some ⟨oc8, od8, .func (PySem.W.fnOf "edges_of" "edges_of" (defArgs st_edges_of) (defBody st_edges_of) (defScope st_edges_of) .none kV8 dc8 pm8 an8 cd8 ct8), sl8⟩) (c8 : PySem.W.codeIn K cd8 "edges_of" = true) (k8 : PySem.W.keepIn K (.ref f8) = true)
    (a9 : PySem.W.nsIn K mainGlobals "_law_cell_at" = some (some (.ref f9))) (l9 : K.lookup f9 = some ⟨oc9, od9, .func (PySem.W.fnOf "_law_cell_at" "_law_cell_at" (defArgs st__law_cell_at) (defBody st__law_cell_at) (defScope st__law_cell_at) .none kV9 dc9 pm9 an9 cd9 ct9), sl9⟩) (c9 : PySem.W.codeIn K cd9 "_law_cell_at" = true) (k9 : PySem.W.keepIn K (.ref f9) = true)
    (a10 : PySem.W.nsIn K mainGlobals "check_size" = some (some (.ref f10))) (l10 : K.lookup f10 = some ⟨oc10, od10, .func (PySem.W.fnOf "check_size" "check_size" (defArgs st_check_size) (defBody st_check_size) (defScope st_check_size) .none kV10 dc10 pm10 an10 cd10 ct10), sl10⟩) (c10 : PySem.W.codeIn K cd10 "check_size" = true) (k10 : PySem.W.keepIn K (.ref f10) = true)
    (a11 : PySem.W.nsIn K mainGlobals "beside" = some (some (.ref f11))) (l11 : K.lookup f11 = some ⟨oc11, od11, .func (PySem.W.fnOf "beside" "beside" (defArgs st_beside) (defBody st_beside) (defScope st_beside) .none kV11 dc11 pm11 an11 cd11 ct11), sl11⟩) (c11 : PySem.W.codeIn K cd11 "beside" = true) (k11 : PySem.W.keepIn K (.ref f11) = true)
    (a12 : PySem.W.nsIn K mainGlobals "turned_triangles" = some (some (.ref f12))) (l12 : K.lookup f12 = some ⟨oc12, od12, .func (PySem.W.fnOf "turned_triangles" "turned_triangles" (defArgs st_turned_triangles) (defBody st_turned_triangles) (defScope st_turned_triangles) .none kV12 dc12 pm12 an12 cd12 ct12), sl12⟩) (c12 : PySem.W.codeIn K cd12 "turned_triangles" = true) (k12 : PySem.W.keepIn K (.ref f12) = true)
    (a13 : PySem.W.nsIn K mainGlobals "outer_edges" = some (some (.ref f13))) (l13 : K.lookup f13 = some ⟨oc13, od13, .func (PySem.W.fnOf "outer_edges" "outer_edges" (defArgs st_outer_edges) (defBody st_outer_edges) (defScope st_outer_edges) .none kV13 dc13 pm13 an13 cd13 ct13), sl13⟩) (c13 : PySem.W.codeIn K cd13 "outer_edges" = true) (k13 : PySem.W.keepIn K (.ref f13) = true)
    (a14 : PySem.W.nsIn K mainGlobals "valid_labels" = some (some (.ref f14))) (l14 : K.lookup f14 = some ⟨oc14, od14, .func (PySem.W.fnOf "valid_labels" "valid_labels" (defArgs st_valid_labels) (defBody st_valid_labels) (defScope st_valid_labels) .none kV14 dc14 pm14 an14 cd14 ct14), sl14⟩) (c14 : PySem.W.codeIn K cd14 "valid_labels" = true) (k14 : PySem.W.keepIn K (.ref f14) = true)
    (a15 : PySem.W.nsIn K mainGlobals "table_of" = some (some (.ref f15))) (l15 : K.lookup f15 = some ⟨oc15, od15, .func (PySem.W.fnOf "table_of" "table_of" (defArgs st_table_of) (defBody st_table_of) (defScope st_table_of) .none kV15 dc15 pm15 an15 cd15 ct15), sl15⟩) (c15 : PySem.W.codeIn K cd15 "table_of" = true) (k15 : PySem.W.keepIn K (.ref f15) = true)
    (a16 : PySem.W.nsIn K mainGlobals "proper_labels" = some (some (.ref f16))) (l16 : K.lookup f16 = some ⟨oc16, od16, .func (PySem.W.fnOf "proper_labels" "proper_labels" (defArgs st_proper_labels) (defBody st_proper_labels) (defScope st_proper_labels) .none kV16 dc16 pm16 an16 cd16 ct16), sl16⟩) (c16 : PySem.W.codeIn K cd16 "proper_labels" = true) (k16 : PySem.W.keepIn K (.ref f16) = true)
    (a17 : PySem.W.nsIn K mainGlobals "choices_at" = some (some (.ref f17))) (l17 : K.lookup f17 = some ⟨oc17, od17, .func (PySem.W.fnOf "choices_at" "choices_at" (defArgs st_choices_at) (defBody st_choices_at) (defScope st_choices_at) .none kV17 dc17 pm17 an17 cd17 ct17), sl17⟩) (c17 : PySem.W.codeIn K cd17 "choices_at" = true) (k17 : PySem.W.keepIn K (.ref f17) = true)
    (a18 : PySem.W.nsIn K mainGlobals "doors_of" = some (some (.ref f18))) (l18 : K.lookup f18 = some ⟨oc18, od18, .func (PySem.W.fnOf "doors_of" "doors_of" (defArgs st_doors_of) (defBody st_doors_of) (defScope st_doors_of) .none kV18 dc18 pm18 an18 cd18 ct18), sl18⟩) (c18 : PySem.W.codeIn K cd18 "doors_of" = true) (k18 : PySem.W.keepIn K (.ref f18) = true)
    (a19 : PySem.W.nsIn K mainGlobals "_law_mixed" = some (some (.ref f19))) (l19 : K.lookup f19 = some ⟨oc19, od19, .func (PySem.W.fnOf "_law_mixed" "_law_mixed" (defArgs st__law_mixed) (defBody st__law_mixed) (defScope st__law_mixed) .none kV19 dc19 pm19 an19 cd19 ct19), sl19⟩) (c19 : PySem.W.codeIn K cd19 "_law_mixed" = true) (k19 : PySem.W.keepIn K (.ref f19) = true)
    (a20 : PySem.W.nsIn K mainGlobals "points" = some (some (.ref f20))) (l20 : K.lookup f20 = some ⟨oc20, od20, .func (PySem.W.fnOf "points" "points" (defArgs st_points) (defBody st_points) (defScope st_points) .none kV20 dc20 pm20 an20 cd20 ct20), sl20⟩) (c20 : PySem.W.codeIn K cd20 "points" = true) (k20 : PySem.W.keepIn K (.ref f20) = true)
    (a21 : PySem.W.nsIn K mainGlobals "triangle_list" = some (some (.ref f21))) (l21 : K.lookup f21 = some ⟨oc21, od21, .func (PySem.W.fnOf "triangle_list" "triangle_list" (defArgs st_triangle_list) (defBody st_triangle_list) (defScope st_triangle_list) .none kV21 dc21 pm21 an21 cd21 ct21), sl21⟩) (c21 : PySem.W.codeIn K cd21 "triangle_list" = true) (k21 : PySem.W.keepIn K (.ref f21) = true)
    (a22 : PySem.W.nsIn K mainGlobals "round_of" = some (some (.ref f22))) (l22 : K.lookup f22 = some ⟨oc22, od22, .func (PySem.W.fnOf "round_of" "round_of" (defArgs st_round_of) (defBody st_round_of) (defScope st_round_of) .none kV22 dc22 pm22 an22 cd22 ct22), sl22⟩) (c22 : PySem.W.codeIn K cd22 "round_of" = true) (k22 : PySem.W.keepIn K (.ref f22) = true)
    (a23 : PySem.W.nsIn K mainGlobals "check_labels" = some (some (.ref f23))) (l23 : K.lookup f23 = some ⟨oc23, od23, .func (PySem.W.fnOf "check_labels" "check_labels" (defArgs st_check_labels) (defBody st_check_labels) (defScope st_check_labels) .none kV23 dc23 pm23 an23 cd23 ct23), sl23⟩) (c23 : PySem.W.codeIn K cd23 "check_labels" = true) (k23 : PySem.W.keepIn K (.ref f23) = true)
    (a24 : PySem.W.nsIn K mainGlobals "check_colours" = some (some (.ref f24))) (l24 : K.lookup f24 = some ⟨oc24, od24, .func (PySem.W.fnOf "check_colours" "check_colours" (defArgs st_check_colours) (defBody st_check_colours) (defScope st_check_colours) .none kV24 dc24 pm24 an24 cd24 ct24), sl24⟩) (c24 : PySem.W.codeIn K cd24 "check_colours" = true) (k24 : PySem.W.keepIn K (.ref f24) = true)
    (a25 : PySem.W.nsIn K mainGlobals "group_at" = some (some (.ref f25))) (l25 : K.lookup f25 = some ⟨oc25, od25, .func (PySem.W.fnOf "group_at" "group_at" (defArgs st_group_at) (defBody st_group_at) (defScope st_group_at) .none kV25 dc25 pm25 an25 cd25 ct25), sl25⟩) (c25 : PySem.W.codeIn K cd25 "group_at" = true) (k25 : PySem.W.keepIn K (.ref f25) = true)
    (a26 : PySem.W.nsIn K mainGlobals "count_proper" = some (some (.ref f26))) (l26 : K.lookup f26 = some ⟨oc26, od26, .func (PySem.W.fnOf "count_proper" "count_proper" (defArgs st_count_proper) (defBody st_count_proper) (defScope st_count_proper) .none kV26 dc26 pm26 an26 cd26 ct26), sl26⟩) (c26 : PySem.W.codeIn K cd26 "count_proper" = true) (k26 : PySem.W.keepIn K (.ref f26) = true)
    (a27 : PySem.W.nsIn K mainGlobals "proper_list" = some (some (.ref f27))) (l27 : K.lookup f27 = some ⟨oc27, od27, .func (PySem.W.fnOf "proper_list" "proper_list" (defArgs st_proper_list) (defBody st_proper_list) (defScope st_proper_list) .none kV27 dc27 pm27 an27 cd27 ct27), sl27⟩) (c27 : PySem.W.codeIn K cd27 "proper_list" = true) (k27 : PySem.W.keepIn K (.ref f27) = true)
    (a28 : PySem.W.nsIn K mainGlobals "outer_list" = some (some (.ref f28))) (l28 : K.lookup f28 = some ⟨oc28, od28, .func (PySem.W.fnOf "outer_list" "outer_list" (defArgs st_outer_list) (defBody st_outer_list) (defScope st_outer_list) .none kV28 dc28 pm28 an28 cd28 ct28), sl28⟩) (c28 : PySem.W.codeIn K cd28 "outer_list" = true) (k28 : PySem.W.keepIn K (.ref f28) = true)
    (a29 : PySem.W.nsIn K mainGlobals "followed" = some (some (.ref f29))) (l29 : K.lookup f29 = some ⟨oc29, od29, .func (PySem.W.fnOf "followed" "followed" (defArgs st_followed) (defBody st_followed) (defScope st_followed) .none kV29 dc29 pm29 an29 cd29 ct29), sl29⟩) (c29 : PySem.W.codeIn K cd29 "followed" = true) (k29 : PySem.W.keepIn K (.ref f29) = true)
    (a30 : PySem.W.nsIn K mainGlobals "entries" = some (some (.ref f30))) (l30 : K.lookup f30 = some ⟨oc30, od30, .func (PySem.W.fnOf "entries" "entries" (defArgs st_entries) (defBody st_entries) (defScope st_entries) .none kV30 dc30 pm30 an30 cd30 ct30), sl30⟩) (c30 : PySem.W.codeIn K cd30 "entries" = true) (k30 : PySem.W.keepIn K (.ref f30) = true)
    (a31 : PySem.W.nsIn K mainGlobals "_law_draw" = some (some (.ref f31))) (l31 : K.lookup f31 = some ⟨oc31, od31, .func (PySem.W.fnOf "_law_draw" "_law_draw" (defArgs st__law_draw) (defBody st__law_draw) (defScope st__law_draw) .none kV31 dc31 pm31 an31 cd31 ct31), sl31⟩) (c31 : PySem.W.codeIn K cd31 "_law_draw" = true) (k31 : PySem.W.keepIn K (.ref f31) = true)
    (a32 : PySem.W.nsIn K mainGlobals "triangles" = some (some (.ref f32))) (l32 : K.lookup f32 = some ⟨oc32, od32, .func (PySem.W.fnOf "triangles" "triangles" (defArgs st_triangles) (defBody st_triangles) (defScope st_triangles) .none kV32 dc32 pm32 an32 cd32 ct32), sl32⟩) (c32 : PySem.W.codeIn K cd32 "triangles" = true) (k32 : PySem.W.keepIn K (.ref f32) = true)
    (a33 : PySem.W.nsIn K mainGlobals "is_proper" = some (some (.ref f33))) (l33 : K.lookup f33 = some ⟨oc33, od33, .func (PySem.W.fnOf "is_proper" "is_proper" (defArgs st_is_proper) (defBody st_is_proper) (defScope st_is_proper) .none kV33 dc33 pm33 an33 cd33 ct33), sl33⟩) (c33 : PySem.W.codeIn K cd33 "is_proper" = true) (k33 : PySem.W.keepIn K (.ref f33) = true)
    (a34 : PySem.W.nsIn K mainGlobals "full_list" = some (some (.ref f34))) (l34 : K.lookup f34 = some ⟨oc34, od34, .func (PySem.W.fnOf "full_list" "full_list" (defArgs st_full_list) (defBody st_full_list) (defScope st_full_list) .none kV34 dc34 pm34 an34 cd34 ct34), sl34⟩) (c34 : PySem.W.codeIn K cd34 "full_list" = true) (k34 : PySem.W.keepIn K (.ref f34) = true)
    (a35 : PySem.W.nsIn K mainGlobals "sign" = some (some (.ref f35))) (l35 : K.lookup f35 = some ⟨oc35, od35, .func (PySem.W.fnOf "sign" "sign" (defArgs st_sign) (defBody st_sign) (defScope st_sign) .none kV35 dc35 pm35 an35 cd35 ct35), sl35⟩) (c35 : PySem.W.codeIn K cd35 "sign" = true) (k35 : PySem.W.keepIn K (.ref f35) = true)
    (a36 : PySem.W.nsIn K mainGlobals "winding" = some (some (.ref f36))) (l36 : K.lookup f36 = some ⟨oc36, od36, .func (PySem.W.fnOf "winding" "winding" (defArgs st_winding) (defBody st_winding) (defScope st_winding) .none kV36 dc36 pm36 an36 cd36 ct36), sl36⟩) (c36 : PySem.W.codeIn K cd36 "winding" = true) (k36 : PySem.W.keepIn K (.ref f36) = true)
    (a37 : PySem.W.nsIn K mainGlobals "joining_group" = some (some (.ref f37))) (l37 : K.lookup f37 = some ⟨oc37, od37, .func (PySem.W.fnOf "joining_group" "joining_group" (defArgs st_joining_group) (defBody st_joining_group) (defScope st_joining_group) .none kV37 dc37 pm37 an37 cd37 ct37), sl37⟩) (c37 : PySem.W.codeIn K cd37 "joining_group" = true) (k37 : PySem.W.keepIn K (.ref f37) = true)
    (a38 : PySem.W.nsIn K mainGlobals "check_pair" = some (some (.ref f38))) (l38 : K.lookup f38 = some ⟨oc38, od38, .func (PySem.W.fnOf "check_pair" "check_pair" (defArgs st_check_pair) (defBody st_check_pair) (defScope st_check_pair) .none kV38 dc38 pm38 an38 cd38 ct38), sl38⟩) (c38 : PySem.W.codeIn K cd38 "check_pair" = true) (k38 : PySem.W.keepIn K (.ref f38) = true)
    (a39 : PySem.W.nsIn K mainGlobals "triangles_at" = some (some (.ref f39))) (l39 : K.lookup f39 = some ⟨oc39, od39, .func (PySem.W.fnOf "triangles_at" "triangles_at" (defArgs st_triangles_at) (defBody st_triangles_at) (defScope st_triangles_at) .none kV39 dc39 pm39 an39 cd39 ct39), sl39⟩) (c39 : PySem.W.codeIn K cd39 "triangles_at" = true) (k39 : PySem.W.keepIn K (.ref f39) = true)
    (a40 : PySem.W.nsIn K mainGlobals "full_triangles" = some (some (.ref f40))) (l40 : K.lookup f40 = some ⟨oc40, od40, .func (PySem.W.fnOf "full_triangles" "full_triangles" (defArgs st_full_triangles) (defBody st_full_triangles) (defScope st_full_triangles) .none kV40 dc40 pm40 an40 cd40 ct40), sl40⟩) (c40 : PySem.W.codeIn K cd40 "full_triangles" = true) (k40 : PySem.W.keepIn K (.ref f40) = true)
    (a41 : PySem.W.nsIn K mainGlobals "joining_colour" = some (some (.ref f41))) (l41 : K.lookup f41 = some ⟨oc41, od41, .func (PySem.W.fnOf "joining_colour" "joining_colour" (defArgs st_joining_colour) (defBody st_joining_colour) (defScope st_joining_colour) .none kV41 dc41 pm41 an41 cd41 ct41), sl41⟩) (c41 : PySem.W.codeIn K cd41 "joining_colour" = true) (k41 : PySem.W.keepIn K (.ref f41) = true)
    (a42 : PySem.W.nsIn K mainGlobals "joining_points" = some (some (.ref f42))) (l42 : K.lookup f42 = some ⟨oc42, od42, .func (PySem.W.fnOf "joining_points" "joining_points" (defArgs st_joining_points) (defBody st_joining_points) (defScope st_joining_points) .none kV42 dc42 pm42 an42 cd42 ct42), sl42⟩) (c42 : PySem.W.codeIn K cd42 "joining_points" = true) (k42 : PySem.W.keepIn K (.ref f42) = true)
    (a43 : PySem.W.nsIn K mainGlobals "spread" = some (some (.ref f43))) (l43 : K.lookup f43 = some ⟨oc43, od43, .func (PySem.W.fnOf "spread" "spread" (defArgs st_spread) (defBody st_spread) (defScope st_spread) .none kV43 dc43 pm43 an43 cd43 ct43), sl43⟩) (c43 : PySem.W.codeIn K cd43 "spread" = true) (k43 : PySem.W.keepIn K (.ref f43) = true)
    (a44 : PySem.W.nsIn K mainGlobals "outer_doors" = some (some (.ref f44))) (l44 : K.lookup f44 = some ⟨oc44, od44, .func (PySem.W.fnOf "outer_doors" "outer_doors" (defArgs st_outer_doors) (defBody st_outer_doors) (defScope st_outer_doors) .none kV44 dc44 pm44 an44 cd44 ct44), sl44⟩) (c44 : PySem.W.codeIn K cd44 "outer_doors" = true) (k44 : PySem.W.keepIn K (.ref f44) = true)
    (a45 : PySem.W.nsIn K mainGlobals "all_walks" = some (some (.ref f45))) (l45 : K.lookup f45 = some ⟨oc45, od45, .func (PySem.W.fnOf "all_walks" "all_walks" (defArgs st_all_walks) (defBody st_all_walks) (defScope st_all_walks) .none kV45 dc45 pm45 an45 cd45 ct45), sl45⟩) (c45 : PySem.W.codeIn K cd45 "all_walks" = true) (k45 : PySem.W.keepIn K (.ref f45) = true)
    (a46 : PySem.W.nsIn K mainGlobals "find_full" = some (some (.ref f46))) (l46 : K.lookup f46 = some ⟨oc46, od46, .func (PySem.W.fnOf "find_full" "find_full" (defArgs st_find_full) (defBody st_find_full) (defScope st_find_full) .none kV46 dc46 pm46 an46 cd46 ct46), sl46⟩) (c46 : PySem.W.codeIn K cd46 "find_full" = true) (k46 : PySem.W.keepIn K (.ref f46) = true)
    (a47 : PySem.W.nsIn K mainGlobals "law" = some (some (.ref f47))) (l47 : K.lookup f47 = some ⟨oc47, od47, .func (PySem.W.fnOf "law" "law" (defArgs st_law) (defBody st_law) (defScope st_law) .none kV47 dc47 pm47 an47 cd47 ct47), sl47⟩) (c47 : PySem.W.codeIn K cd47 "law" = true) (k47 : PySem.W.keepIn K (.ref f47) = true)
    (aSSTEPS : PySem.W.nsIn K mainGlobals "STEPS" = some (some (.ref SSTEPS)))
    (lSSTEPS_0 : K.lookup SSTEPS_0 = some ⟨.type "tuple", odSSTEPS_0, .seq #[.int (-1) tSSTEPS_0_0, .int (0) tSSTEPS_0_1, .int (1) tSSTEPS_0_2] nSSTEPS_0, slSSTEPS_0⟩)
    (lSSTEPS_1 : K.lookup SSTEPS_1 = some ⟨.type "tuple", odSSTEPS_1, .seq #[.int (-1) tSSTEPS_1_0, .int (1) tSSTEPS_1_1, .int (0) tSSTEPS_1_2] nSSTEPS_1, slSSTEPS_1⟩)
    (lSSTEPS_2 : K.lookup SSTEPS_2 = some ⟨.type "tuple", odSSTEPS_2, .seq #[.int (0) tSSTEPS_2_0, .int (-1) tSSTEPS_2_1, .int (1) tSSTEPS_2_2] nSSTEPS_2, slSSTEPS_2⟩)
    (lSSTEPS_3 : K.lookup SSTEPS_3 = some ⟨.type "tuple", odSSTEPS_3, .seq #[.int (0) tSSTEPS_3_0, .int (1) tSSTEPS_3_1, .int (-1) tSSTEPS_3_2] nSSTEPS_3, slSSTEPS_3⟩)
    (lSSTEPS_4 : K.lookup SSTEPS_4 = some ⟨.type "tuple", odSSTEPS_4, .seq #[.int (1) tSSTEPS_4_0, .int (-1) tSSTEPS_4_1, .int (0) tSSTEPS_4_2] nSSTEPS_4, slSSTEPS_4⟩)
    (lSSTEPS_5 : K.lookup SSTEPS_5 = some ⟨.type "tuple", odSSTEPS_5, .seq #[.int (1) tSSTEPS_5_0, .int (0) tSSTEPS_5_1, .int (-1) tSSTEPS_5_2] nSSTEPS_5, slSSTEPS_5⟩)
    (lSSTEPS : K.lookup SSTEPS = some ⟨.type "tuple", odSSTEPS, .seq #[.ref SSTEPS_0, .ref SSTEPS_1, .ref SSTEPS_2, .ref SSTEPS_3, .ref SSTEPS_4, .ref SSTEPS_5] nSSTEPS, slSSTEPS⟩)
    (z_all : PySem.W.nsIn K mainGlobals "all" = some none)
    (z_any : PySem.W.nsIn K mainGlobals "any" = some none)
    (z_bool : PySem.W.nsIn K mainGlobals "bool" = some none)
    (z_dict : PySem.W.nsIn K mainGlobals "dict" = some none)
    (z_int : PySem.W.nsIn K mainGlobals "int" = some none)
    (z_isinstance : PySem.W.nsIn K mainGlobals "isinstance" = some none)
    (z_len : PySem.W.nsIn K mainGlobals "len" = some none)
    (z_list : PySem.W.nsIn K mainGlobals "list" = some none)
    (z_min : PySem.W.nsIn K mainGlobals "min" = some none)
    (z_range : PySem.W.nsIn K mainGlobals "range" = some none)
    (z_sorted : PySem.W.nsIn K mainGlobals "sorted" = some none)
    (z_sum : PySem.W.nsIn K mainGlobals "sum" = some none)
    (z_tuple : PySem.W.nsIn K mainGlobals "tuple" = some none)
    (z_zip : PySem.W.nsIn K mainGlobals "zip" = some none)
    (hx0 : clsOk K 0 = true)
    (hx2 : clsOk K 2 = true)
    (hx3 : clsOk K 3 = true)
    (hx4 : clsOk K 4 = true)
    (hx6 : clsOk K 6 = true)
    (hx9 : clsOk K 9 = true)
    (hx10 : clsOk K 10 = true) : Fx K mg :=
  {
    f_is_integer := f0, d_is_integer := _, F_is_integer := fun_mk (st := st_is_integer) l0 c0 k0, b_is_integer := (fun_mk (st := st_is_integer) l0 c0 k0).binds (ps := ["value", "low", "high"]) (fun _ _ _ _ _ _ us hl => match us, hl with | [_, _, _], _ => rfl), g_is_integer := PySem.W.mg_of X G a0,
    f_point_list := f1, d_point_list := _, F_point_list := fun_mk (st := st_point_list) l1 c1 k1, b_point_list := (fun_mk (st := st_point_list) l1 c1 k1).binds (ps := ["size"]) (fun _ _ _ _ _ _ us hl => match us, hl with | [_], _ => rfl), g_point_list := PySem.W.mg_of X G a1,
    f_moved := f2, d_moved := _, F_moved := fun_mk (st := st_moved) l2 c2 k2, b_moved := (fun_mk (st := st_moved) l2 c2 k2).binds (ps := ["point", "step"]) (fun _ _ _ _ _ _ us hl => match us, hl with | [_, _], _ => rfl), g_moved := PySem.W.mg_of X G a2,
    f_round_list := f3, d_round_list := _, F_round_list := fun_mk (st := st_round_list) l3 c3 k3, b_round_list := (fun_mk (st := st_round_list) l3 c3 k3).binds (ps := ["size"]) (fun _ _ _ _ _ _ us hl => match us, hl with | [_], _ => rfl), g_round_list := PySem.W.mg_of X G a3,
    f_fits := f4, d_fits := _, F_fits := fun_mk (st := st_fits) l4 c4 k4, b_fits := (fun_mk (st := st_fits) l4 c4 k4).binds (ps := ["point", "label"]) (fun _ _ _ _ _ _ us hl => match us, hl with | [_, _], _ => rfl), g_fits := PySem.W.mg_of X G a4,
    f_is_full := f5, d_is_full := _, F_is_full := fun_mk (st := st_is_full) l5 c5 k5, b_is_full := (fun_mk (st := st_is_full) l5 c5 k5).binds (ps := ["table", "triangle"]) (fun _ _ _ _ _ _ us hl => match us, hl with | [_, _], _ => rfl), g_is_full := PySem.W.mg_of X G a5,
    f_turn := f6, d_turn := _, F_turn := fun_mk (st := st_turn) l6 c6 k6, b_turn := (fun_mk (st := st_turn) l6 c6 k6).binds (ps := ["one", "other"]) (fun _ _ _ _ _ _ us hl => match us, hl with | [_, _], _ => rfl), g_turn := PySem.W.mg_of X G a6,
    f_is_door := f7, d_is_door := _, F_is_door := fun_mk (st := st_is_door) l7 c7 k7, b_is_door := (fun_mk (st := st_is_door) l7 c7 k7).binds (ps := ["table", "pair", "edge"]) (fun _ _ _ _ _ _ us hl => match us, hl with | [_, _, _], _ => rfl), g_is_door := PySem.W.mg_of X G a7,
    f_edges_of := f8, d_edges_of := _, F_edges_of := fun_mk (st := st_edges_of) l8 c8 k8, b_edges_of := (fun_mk (st := st_edges_of) l8 c8 k8).binds (ps := ["triangle"]) (fun _ _ _ _ _ _ us hl => match us, hl with | [_], _ => rfl), g_edges_of := PySem.W.mg_of X G a8,
    f__law_cell_at := f9, d__law_cell_at := _, F__law_cell_at := fun_mk (st := st__law_cell_at) l9 c9 k9, b__law_cell_at := (fun_mk (st := st__law_cell_at) l9 c9 k9).binds (ps := ["_law_script", "_law_k"]) (fun _ _ _ _ _ _ us hl => match us, hl with | [_, _], _ => rfl), g__law_cell_at := PySem.W.mg_of X G a9,
    f_check_size := f10, d_check_size := _, F_check_size := fun_mk (st := st_check_size) l10 c10 k10, b_check_size := (fun_mk (st := st_check_size) l10 c10 k10).binds (ps := ["size"]) (fun _ _ _ _ _ _ us hl => match us, hl with | [_], _ => rfl), g_check_size := PySem.W.mg_of X G a10,
    f_beside := f11, d_beside := _, F_beside := fun_mk (st := st_beside) l11 c11 k11, b_beside := (fun_mk (st := st_beside) l11 c11 k11).binds (ps := ["point"]) (fun _ _ _ _ _ _ us hl => match us, hl with | [_], _ => rfl), g_beside := PySem.W.mg_of X G a11,
    f_turned_triangles := f12, d_turned_triangles := _, F_turned_triangles := fun_mk (st := st_turned_triangles) l12 c12 k12, b_turned_triangles := (fun_mk (st := st_turned_triangles) l12 c12 k12).binds (ps := ["size"]) (fun _ _ _ _ _ _ us hl => match us, hl with | [_], _ => rfl), g_turned_triangles := PySem.W.mg_of X G a12,
    f_outer_edges := f13, d_outer_edges := _, F_outer_edges := fun_mk (st := st_outer_edges) l13 c13 k13, b_outer_edges := (fun_mk (st := st_outer_edges) l13 c13 k13).binds (ps := ["size"]) (fun _ _ _ _ _ _ us hl => match us, hl with | [_], _ => rfl), g_outer_edges := PySem.W.mg_of X G a13,
    f_valid_labels := f14, d_valid_labels := _, F_valid_labels := fun_mk (st := st_valid_labels) l14 c14 k14, b_valid_labels := (fun_mk (st := st_valid_labels) l14 c14 k14).binds (ps := ["size", "value"]) (fun _ _ _ _ _ _ us hl => match us, hl with | [_, _], _ => rfl), g_valid_labels := PySem.W.mg_of X G a14,
    f_table_of := f15, d_table_of := _, F_table_of := fun_mk (st := st_table_of) l15 c15 k15, b_table_of := (fun_mk (st := st_table_of) l15 c15 k15).binds (ps := ["size", "labels"]) (fun _ _ _ _ _ _ us hl => match us, hl with | [_, _], _ => rfl), g_table_of := PySem.W.mg_of X G a15,
    f_proper_labels := f16, d_proper_labels := _, F_proper_labels := fun_mk (st := st_proper_labels) l16 c16 k16, b_proper_labels := (fun_mk (st := st_proper_labels) l16 c16 k16).binds (ps := ["size", "labels"]) (fun _ _ _ _ _ _ us hl => match us, hl with | [_, _], _ => rfl), g_proper_labels := PySem.W.mg_of X G a16,
    f_choices_at := f17, d_choices_at := _, F_choices_at := fun_mk (st := st_choices_at) l17 c17 k17, b_choices_at := (fun_mk (st := st_choices_at) l17 c17 k17).binds (ps := ["point"]) (fun _ _ _ _ _ _ us hl => match us, hl with | [_], _ => rfl), g_choices_at := PySem.W.mg_of X G a17,
    f_doors_of := f18, d_doors_of := _, F_doors_of := fun_mk (st := st_doors_of) l18 c18 k18, b_doors_of := (fun_mk (st := st_doors_of) l18 c18 k18).binds (ps := ["table", "pair", "triangle"]) (fun _ _ _ _ _ _ us hl => match us, hl with | [_, _, _], _ => rfl), g_doors_of := PySem.W.mg_of X G a18,
    f__law_mixed := f19, d__law_mixed := _, F__law_mixed := fun_mk (st := st__law_mixed) l19 c19 k19, b__law_mixed := (fun_mk (st := st__law_mixed) l19 c19 k19).binds (ps := ["_law_script", "_law_k", "_law_many"]) (fun _ _ _ _ _ _ us hl => match us, hl with | [_, _, _], _ => rfl), g__law_mixed := PySem.W.mg_of X G a19,
    f_points := f20, d_points := _, F_points := fun_mk (st := st_points) l20 c20 k20, b_points := (fun_mk (st := st_points) l20 c20 k20).binds (ps := ["size"]) (fun _ _ _ _ _ _ us hl => match us, hl with | [_], _ => rfl), g_points := PySem.W.mg_of X G a20,
    f_triangle_list := f21, d_triangle_list := _, F_triangle_list := fun_mk (st := st_triangle_list) l21 c21 k21, b_triangle_list := (fun_mk (st := st_triangle_list) l21 c21 k21).binds (ps := ["size"]) (fun _ _ _ _ _ _ us hl => match us, hl with | [_], _ => rfl), g_triangle_list := PySem.W.mg_of X G a21,
    f_round_of := f22, d_round_of := _, F_round_of := fun_mk (st := st_round_of) l22 c22 k22, b_round_of := (fun_mk (st := st_round_of) l22 c22 k22).binds (ps := ["size"]) (fun _ _ _ _ _ _ us hl => match us, hl with | [_], _ => rfl), g_round_of := PySem.W.mg_of X G a22,
    f_check_labels := f23, d_check_labels := _, F_check_labels := fun_mk (st := st_check_labels) l23 c23 k23, b_check_labels := (fun_mk (st := st_check_labels) l23 c23 k23).binds (ps := ["size", "labels"]) (fun _ _ _ _ _ _ us hl => match us, hl with | [_, _], _ => rfl), g_check_labels := PySem.W.mg_of X G a23,
    f_check_colours := f24, d_check_colours := _, F_check_colours := fun_mk (st := st_check_colours) l24 c24 k24, b_check_colours := (fun_mk (st := st_check_colours) l24 c24 k24).binds (ps := ["size", "colours"]) (fun _ _ _ _ _ _ us hl => match us, hl with | [_, _], _ => rfl), g_check_colours := PySem.W.mg_of X G a24,
    f_group_at := f25, d_group_at := _, F_group_at := fun_mk (st := st_group_at) l25 c25 k25, b_group_at := (fun_mk (st := st_group_at) l25 c25 k25).binds (ps := ["table", "point"]) (fun _ _ _ _ _ _ us hl => match us, hl with | [_, _], _ => rfl), g_group_at := PySem.W.mg_of X G a25,
    f_count_proper := f26, d_count_proper := _, F_count_proper := fun_mk (st := st_count_proper) l26 c26 k26, b_count_proper := (fun_mk (st := st_count_proper) l26 c26 k26).binds (ps := ["size"]) (fun _ _ _ _ _ _ us hl => match us, hl with | [_], _ => rfl), g_count_proper := PySem.W.mg_of X G a26,
    f_proper_list := f27, d_proper_list := _, F_proper_list := fun_mk (st := st_proper_list) l27 c27 k27, b_proper_list := (fun_mk (st := st_proper_list) l27 c27 k27).binds (ps := ["size"]) (fun _ _ _ _ _ _ us hl => match us, hl with | [_], _ => rfl), g_proper_list := PySem.W.mg_of X G a27,
    f_outer_list := f28, d_outer_list := _, F_outer_list := fun_mk (st := st_outer_list) l28 c28 k28, b_outer_list := (fun_mk (st := st_outer_list) l28 c28 k28).binds (ps := ["size", "table", "pair"]) (fun _ _ _ _ _ _ us hl => match us, hl with | [_, _, _], _ => rfl), g_outer_list := PySem.W.mg_of X G a28,
    f_followed := f29, d_followed := _, F_followed := fun_mk (st := st_followed) l29 c29 k29, b_followed := (fun_mk (st := st_followed) l29 c29 k29).binds (ps := ["table", "pair", "around", "door", "triangle"]) (fun _ _ _ _ _ _ us hl => match us, hl with | [_, _, _, _, _], _ => rfl), g_followed := PySem.W.mg_of X G a29,
    f_entries := f30, d_entries := _, F_entries := fun_mk (st := st_entries) l30 c30 k30, b_entries := (fun_mk (st := st_entries) l30 c30 k30).binds (ps := ["table", "pair", "around", "triangle"]) (fun _ _ _ _ _ _ us hl => match us, hl with | [_, _, _, _], _ => rfl), g_entries := PySem.W.mg_of X G a30,
    f__law_draw := f31, d__law_draw := _, F__law_draw := fun_mk (st := st__law_draw) l31 c31 k31, b__law_draw := (fun_mk (st := st__law_draw) l31 c31 k31).binds (ps := ["_law_script", "_law_town", "_law_many"]) (fun _ _ _ _ _ _ us hl => match us, hl with | [_, _, _], _ => rfl), g__law_draw := PySem.W.mg_of X G a31,
    f_triangles := f32, d_triangles := _, F_triangles := fun_mk (st := st_triangles) l32 c32 k32, b_triangles := (fun_mk (st := st_triangles) l32 c32 k32).binds (ps := ["size"]) (fun _ _ _ _ _ _ us hl => match us, hl with | [_], _ => rfl), g_triangles := PySem.W.mg_of X G a32,
    f_is_proper := f33, d_is_proper := _, F_is_proper := fun_mk (st := st_is_proper) l33 c33 k33, b_is_proper := (fun_mk (st := st_is_proper) l33 c33 k33).binds (ps := ["size", "labels"]) (fun _ _ _ _ _ _ us hl => match us, hl with | [_, _], _ => rfl), g_is_proper := PySem.W.mg_of X G a33,
    f_full_list := f34, d_full_list := _, F_full_list := fun_mk (st := st_full_list) l34 c34 k34, b_full_list := (fun_mk (st := st_full_list) l34 c34 k34).binds (ps := ["size", "labels"]) (fun _ _ _ _ _ _ us hl => match us, hl with | [_, _], _ => rfl), g_full_list := PySem.W.mg_of X G a34,
    f_sign := f35, d_sign := _, F_sign := fun_mk (st := st_sign) l35 c35 k35, b_sign := (fun_mk (st := st_sign) l35 c35 k35).binds (ps := ["size", "labels", "triangle"]) (fun _ _ _ _ _ _ us hl => match us, hl with | [_, _, _], _ => rfl), g_sign := PySem.W.mg_of X G a35,
    f_winding := f36, d_winding := _, F_winding := fun_mk (st := st_winding) l36 c36 k36, b_winding := (fun_mk (st := st_winding) l36 c36 k36).binds (ps := ["size", "labels"]) (fun _ _ _ _ _ _ us hl => match us, hl with | [_, _], _ => rfl), g_winding := PySem.W.mg_of X G a36,
    f_joining_group := f37, d_joining_group := _, F_joining_group := fun_mk (st := st_joining_group) l37 c37 k37, b_joining_group := (fun_mk (st := st_joining_group) l37 c37 k37).binds (ps := ["size", "colours"]) (fun _ _ _ _ _ _ us hl => match us, hl with | [_, _], _ => rfl), g_joining_group := PySem.W.mg_of X G a37,
    f_check_pair := f38, d_check_pair := _, F_check_pair := fun_mk (st := st_check_pair) l38 c38 k38, b_check_pair := (fun_mk (st := st_check_pair) l38 c38 k38).binds (ps := ["size", "labels", "pair"]) (fun _ _ _ _ _ _ us hl => match us, hl with | [_, _, _], _ => rfl), g_check_pair := PySem.W.mg_of X G a38,
    f_triangles_at := f39, d_triangles_at := _, F_triangles_at := fun_mk (st := st_triangles_at) l39 c39 k39, b_triangles_at := (fun_mk (st := st_triangles_at) l39 c39 k39).binds (ps := ["size"]) (fun _ _ _ _ _ _ us hl => match us, hl with | [_], _ => rfl), g_triangles_at := PySem.W.mg_of X G a39,
    f_full_triangles := f40, d_full_triangles := _, F_full_triangles := fun_mk (st := st_full_triangles) l40 c40 k40, b_full_triangles := (fun_mk (st := st_full_triangles) l40 c40 k40).binds (ps := ["size", "labels"]) (fun _ _ _ _ _ _ us hl => match us, hl with | [_, _], _ => rfl), g_full_triangles := PySem.W.mg_of X G a40,
    f_joining_colour := f41, d_joining_colour := _, F_joining_colour := fun_mk (st := st_joining_colour) l41 c41 k41, b_joining_colour := (fun_mk (st := st_joining_colour) l41 c41 k41).binds (ps := ["size", "colours"]) (fun _ _ _ _ _ _ us hl => match us, hl with | [_, _], _ => rfl), g_joining_colour := PySem.W.mg_of X G a41,
    f_joining_points := f42, d_joining_points := _, F_joining_points := fun_mk (st := st_joining_points) l42 c42 k42, b_joining_points := (fun_mk (st := st_joining_points) l42 c42 k42).binds (ps := ["size", "colours"]) (fun _ _ _ _ _ _ us hl => match us, hl with | [_, _], _ => rfl), g_joining_points := PySem.W.mg_of X G a42,
    f_spread := f43, d_spread := _, F_spread := fun_mk (st := st_spread) l43 c43 k43, b_spread := (fun_mk (st := st_spread) l43 c43 k43).binds (ps := ["size"]) (fun _ _ _ _ _ _ us hl => match us, hl with | [_], _ => rfl), g_spread := PySem.W.mg_of X G a43,
    f_outer_doors := f44, d_outer_doors := _, F_outer_doors := fun_mk (st := st_outer_doors) l44 c44 k44, b_outer_doors := (fun_mk (st := st_outer_doors) l44 c44 k44).binds (ps := ["size", "labels", "pair"]) (fun _ _ _ _ _ _ us hl => match us, hl with | [_, _, _], _ => rfl), g_outer_doors := PySem.W.mg_of X G a44,
    f_all_walks := f45, d_all_walks := _, F_all_walks := fun_mk (st := st_all_walks) l45 c45 k45, b_all_walks := (fun_mk (st := st_all_walks) l45 c45 k45).binds (ps := ["size", "labels", "pair"]) (fun _ _ _ _ _ _ us hl => match us, hl with | [_, _, _], _ => rfl), g_all_walks := PySem.W.mg_of X G a45,
    f_find_full := f46, d_find_full := _, F_find_full := fun_mk (st := st_find_full) l46 c46 k46, b_find_full := (fun_mk (st := st_find_full) l46 c46 k46).binds (ps := ["size", "labels"]) (fun _ _ _ _ _ _ us hl => match us, hl with | [_, _], _ => rfl), g_find_full := PySem.W.mg_of X G a46,
    f_law := f47, d_law := _, F_law := fun_mk (st := st_law) l47 c47 k47, b_law := (fun_mk (st := st_law) l47 c47 k47).binds (ps := ["_law_script"]) (fun _ _ _ _ _ _ us hl => match us, hl with | [_], _ => rfl), g_law := PySem.W.mg_of X G a47,
    a_STEPS := SSTEPS, g_STEPS := PySem.W.mg_of X G aSSTEPS, r_STEPS := fun P w F => (.tup (.inr ⟨_, _, _, lSSTEPS, rfl, rfl, by show 6 ≤ sizeLine; decide, (.cons (relR _) (.cons (relR _) (.cons (relR _) (.cons (relR _) (.cons (relR _) (.cons (relR _) .nil))))))⟩) (.cons (.tup (.inr ⟨_, _, _, lSSTEPS_0, rfl, rfl, by show 3 ≤ sizeLine; decide, (.cons (relI _ _) (.cons (relI _ _) (.cons (relI _ _) .nil)))⟩) (.cons (.int _) (.cons (.int _) (.cons (.int _) .nil)))) (.cons (.tup (.inr ⟨_, _, _, lSSTEPS_1, rfl, rfl, by show 3 ≤ sizeLine; decide, (.cons (relI _ _) (.cons (relI _ _) (.cons (relI _ _) .nil)))⟩) (.cons (.int _) (.cons (.int _) (.cons (.int _) .nil)))) (.cons (.tup (.inr ⟨_, _, _, lSSTEPS_2, rfl, rfl, by show 3 ≤ sizeLine; decide, (.cons (relI _ _) (.cons (relI _ _) (.cons (relI _ _) .nil)))⟩) (.cons (.int _) (.cons (.int _) (.cons (.int _) .nil)))) (.cons (.tup (.inr ⟨_, _, _, lSSTEPS_3, rfl, rfl, by show 3 ≤ sizeLine; decide, (.cons (relI _ _) (.cons (relI _ _) (.cons (relI _ _) .nil)))⟩) (.cons (.int _) (.cons (.int _) (.cons (.int _) .nil)))) (.cons (.tup (.inr ⟨_, _, _, lSSTEPS_4, rfl, rfl, by show 3 ≤ sizeLine; decide, (.cons (relI _ _) (.cons (relI _ _) (.cons (relI _ _) .nil)))⟩) (.cons (.int _) (.cons (.int _) (.cons (.int _) .nil)))) (.cons (.tup (.inr ⟨_, _, _, lSSTEPS_5, rfl, rfl, by show 3 ≤ sizeLine; decide, (.cons (relI _ _) (.cons (relI _ _) (.cons (relI _ _) .nil)))⟩) (.cons (.int _) (.cons (.int _) (.cons (.int _) .nil)))) .nil))))))),
    h_law := fun s v => .of_eq rfl,
    z_all := PySem.W.mg_none_of X G z_all,
    z_any := PySem.W.mg_none_of X G z_any,
    z_bool := PySem.W.mg_none_of X G z_bool,
    z_dict := PySem.W.mg_none_of X G z_dict,
    z_int := PySem.W.mg_none_of X G z_int,
    z_isinstance := PySem.W.mg_none_of X G z_isinstance,
    z_len := PySem.W.mg_none_of X G z_len,
    z_list := PySem.W.mg_none_of X G z_list,
    z_min := PySem.W.mg_none_of X G z_min,
    z_range := PySem.W.mg_none_of X G z_range,
    z_sorted := PySem.W.mg_none_of X G z_sorted,
    z_sum := PySem.W.mg_none_of X G z_sum,
    z_tuple := PySem.W.mg_none_of X G z_tuple,
    z_zip := PySem.W.mg_none_of X G z_zip,
    x_InvalidSize := hx0,
    x_InvalidLabels := hx2,
    x_InvalidTriangle := hx3,
    x_InvalidPair := hx4,
    x_InvalidColours := hx6,
    x_NotFull := hx9,
    x_NotProper := hx10,
    gl := glOk_of X G }
/-! the law is plain: -/
def Good : Prop := ∀ ns : List Int, ns.length ≤ 63 → (∀ z ∈ ns, Builtin.Int.intBits z ≤ 1048576) → fs_law [.lst (ns.map D.int)] = .ok (.bl true) []
theorem all_of {P : Program} {w : World} {K : PySem.W.Frag} {mg : Str → Option Value} {fa : Addr} (T : Fx K mg) (hfa : mg "law" = some (.ref fa)) : ∃ fd : FuncData, (∀ (s : Shared) (u : Value), BindsTo s fd ⟨[u], []⟩ [("_law_script", u)]) ∧
    ∀ base : Heap, K.In base → base.Ns mainGlobals mg → FnOk P w K mg base (L2.CX P w) 6 fa fd ["_law_script"] (spF ⟨P, w, K, []⟩ (cvOf K) [false] false fs_law) := by
  have e := hfa.symm.trans T.g_law
  cases e
  exact ⟨T.d_law, T.h_law, fun base _ _ => ok_law T⟩
end Lk14
end
section
/-! # Gr: the steps of plain functions as equations for simp -/
namespace Gr
open PySem PySem.Spec PyProof.Rows L2
/-- an equation that simp takes as a step of its own: the kernel need not see it by reckoning -/
theorem mkE {α : Sort _} {a b : α} (h : a = b) : a = b := by cases h; exact Eq.symm (Eq.symm (Eq.refl _))

section
variable {a b : MS} {e e1 : En} {m ma mb mc : M} {t : MT} {tb : MT} {ta : MA} {r ra rb : R} {rs : List R} {i n c : Nat} {d da db : D} {ds bs : List D} {k bb : Bool} {o : Option En} {f : F2} {f1 : F1} {fn : FN} {fs : FS} {ms : List Bool} {fr : Bool} {g : MG} {mi : MI} {ls : List (Option D)}
theorem q_seq : sSeq a b e = thenS (a e) b := mkE (ev_seq rfl rfl)
theorem q_nx : thenS (.nx e) b = b e := mkE rfl
theorem q_rt : thenS (.rt r e) b = .rt r e := mkE rfl
theorem q_bk : thenS (.bk e) b = .bk e := mkE rfl
theorem q_ct : thenS (.ct e) b = .ct e := mkE rfl
theorem q_ex : thenS (.exc c e) b = .exc c e := mkE rfl
theorem q_nil : sNil e = .nx e := mkE rfl
theorem q_brk : sBrk e = .bk e := mkE rfl
theorem q_cnt : sCnt e = .ct e := mkE rfl
theorem q_retN : sRetN e = .rt (.fro .non) e := mkE rfl
theorem q_raise : sRaise c e = .exc c e := mkE rfl
def putS (o : Option En) : SR := match o with
  | some e => .nx e
  | none => .stuck
theorem q_putS : putS (some e) = .nx e := mkE rfl
def exprS (o : ER) : SR := o.andS fun _ e => .nx e
def retS (o : ER) : SR := o.andS fun r e => .rt r e
def setS (i : Nat) (o : ER) : SR := o.andS fun r e => putS (putR i r e)
def ifS (o : TR) (a b : MS) : SR := match o with
  | .ok true e => a e
  | .ok false e => b e
  | .exc c e => .exc c e
  | .stuck => .stuck
def asg2 (g : MG) (o : Option (D × En)) : SR := match o with
  | some (d, e) => putS (g d e)
  | none => .stuck
def asgS (g : MG) (o : ER) : SR := o.andS fun r e => asg2 g (r.take e)
def par2 (is : List Nat) (o : Option (List R × En)) : SR := match o with
  | some (qs, e) => putS (puts is qs e)
  | none => .stuck
def parS (is : List Nat) (o : AR) : SR := match o with
  | .ok rs e => par2 is (settle e rs)
  | .exc c e => .exc c e
  | .stuck => .stuck
def aug3 (i : Nat) (f : Int → Int → Int) (k : Int) (o : Option D) (e : En) : SR := match o with
  | some (.int j) => putS (putF i (.int (f k j)) e)
  | _ => .stuck
def aug2 (i : Nat) (f : Int → Int → Int) (k : Int) (o : ER) : SR := o.andS fun r e => aug3 i f k (r.see e) e
def aug1 (i : Nat) (f : Int → Int → Int) (s : Option SV) (m : M) (e : En) : SR := match s with
  | some (.fro (.int k)) => aug2 i f k (m e)
  | _ => .stuck
def forS (o : IR) (g : MG) (b : MS) : SR := match o with
  | .ok ds e => loopF g b ds e
  | .exc c e => .exc c e
  | .stuck => .stuck
def put5 (i : Nat) (e : En) (o : Option D) : SR := match o with
  | some c' => .nx (e.modify i fun s => s.put c')
  | none => .stuck
def put4 (i : Nat) (kd d : D) (e : En) (o : Option D) : SR := match o with
  | some c => put5 i e (storeD c kd d)
  | none => .stuck
def put3 (i : Nat) (kd : D) (o : Option (D × En)) : SR := match o with
  | some (d, e) => put4 i kd d e ((e[i]?).bind SV.cont)
  | none => .stuck
def put2 (r ro rk : R) (e : En) : SR := match ro, rk with
  | .slot i, .fro kd => put3 i kd (r.take e)
  | _, _ => .stuck
def putA (r ro : R) (o : ER) : SR := o.andS fun rk e => put2 r ro rk e
def putB (r : R) (mk : M) (o : ER) : SR := o.andS fun ro e => putA r ro (mk e)
def putC (mo mk : M) (o : ER) : SR := o.andS fun r e => putB r mk (mo e)
theorem q_expr : sExpr m e = exprS (m e) := mkE rfl
theorem q_expr1 : exprS (.ok r e) = .nx e := mkE rfl
theorem q_expr2 : exprS (.exc c e) = .exc c e := mkE rfl
theorem q_ret : sRet m e = retS (m e) := mkE rfl
theorem q_ret1 : retS (.ok r e) = .rt r e := mkE rfl
theorem q_ret2 : retS (.exc c e) = .exc c e := mkE rfl
theorem q_set : sSet i m e = setS i (m e) := by first | exact mkE rfl | (unfold sSet setS; cases m e <;> rfl)
theorem q_set1 : setS i (.ok r e) = putS (putR i r e) := mkE rfl
theorem q_set2 : setS i (.exc c e) = .exc c e := mkE rfl
theorem q_if : sIf t a b e = ifS (t e) a b := mkE rfl
theorem q_if1 : ifS (.ok true e) a b = a e := mkE rfl
theorem q_if2 : ifS (.ok false e) a b = b e := mkE rfl
theorem q_if3 : ifS (.exc c e) a b = .exc c e := mkE rfl
theorem q_asg : sAsg g m e = asgS g (m e) := by first | exact mkE rfl | (unfold sAsg asgS; cases m e with | ok r e => simp only [ER.andS]; cases r.take e <;> rfl | _ => rfl)
theorem q_asg1 : asgS g (.ok r e) = asg2 g (r.take e) := mkE rfl
theorem q_asg2 : asg2 g (some (d, e)) = putS (g d e) := mkE rfl
theorem q_asg3 : asgS g (.exc c e) = .exc c e := mkE rfl
variable {is : List Nat} {qs : List R} {fi : Int → Int → Int} {x y : Int} {kd c1 : D} {mo mk : M} {ro rk : R}
theorem q_par : sPar is ta e = parS is (ta e) := by first | exact mkE rfl | (unfold sPar parS; cases ta e with | ok rs e => simp only []; cases settle e rs <;> rfl | _ => rfl)
theorem q_par1 : parS is (.ok rs e) = par2 is (settle e rs) := mkE rfl
theorem q_par2 : par2 is (some (qs, e)) = putS (puts is qs e) := mkE rfl
theorem q_par3 : parS is (.exc c e) = .exc c e := mkE rfl
theorem q_aug : sAug i fi m e = aug1 i fi (e[i]?) m e := by first | exact mkE rfl | (unfold sAug aug1; cases e[i]? with | none => rfl | some s => cases s with | fro d => cases d <;> rfl | _ => rfl)
theorem q_aug1 : aug1 i fi (some (.fro (.int x))) m e = aug2 i fi x (m e) := mkE rfl
theorem q_aug2 : aug2 i fi x (.ok r e) = aug3 i fi x (r.see e) e := mkE rfl
theorem q_aug3 : aug3 i fi x (some (.int y)) e = putS (putF i (.int (fi x y)) e) := mkE rfl
theorem q_for : sFor mi g b e = forS (mi e) g b := mkE rfl
theorem q_for1 : forS (.ok ds e) g b = loopF g b ds e := mkE rfl
theorem q_for2 : forS (.exc c e) g b = .exc c e := mkE rfl
theorem q_put : sPut m mo mk e = putC mo mk (m e) := by first | exact mkE rfl | (unfold sPut putC putB putA put2; rfl)
theorem q_put1 : putC mo mk (.ok r e) = putB r mk (mo e) := mkE rfl
theorem q_put2 : putB r mk (.ok ro e) = putA r ro (mk e) := mkE rfl
theorem q_put3 : putA r ro (.ok rk e) = put2 r ro rk e := mkE rfl
theorem q_put4 : put2 r (.slot i) (.fro kd) e = put3 i kd (r.take e) := mkE rfl
theorem q_put5 : put3 i kd (some (d, e)) = put4 i kd d e ((e[i]?).bind SV.cont) := mkE rfl
theorem q_put6 : put4 i kd d e (some c1) = put5 i e (storeD c1 kd d) := mkE rfl
theorem q_put7 : put5 i e (some c1) = .nx (e.modify i fun s => s.put c1) := mkE rfl
def forN (o : SR) (g : MG) (b : MS) (ds : List D) : SR := match o with
  | .nx e => loopF g b ds e
  | .ct e => loopF g b ds e
  | .bk e => .nx e
  | .rt r e => .rt r e
  | .exc c e => .exc c e
  | .stuck => .stuck
def forG (o : Option En) (g : MG) (b : MS) (ds : List D) : SR := match o with
  | some e => forN (b e) g b ds
  | none => .stuck
theorem q_lf0 : loopF g b [] e = .nx e := mkE rfl
theorem q_lf1 : loopF g b (d :: ds) e = forG (g d e) g b ds := by first | exact mkE rfl | (rw [loopF]; unfold forG forN; cases g d e <;> rfl)
theorem q_fG : forG (some e) g b ds = forN (b e) g b ds := mkE rfl
theorem q_fN1 : forN (.nx e) g b ds = loopF g b ds e := mkE rfl
theorem q_fN2 : forN (.ct e) g b ds = loopF g b ds e := mkE rfl
theorem q_fN3 : forN (.bk e) g b ds = .nx e := mkE rfl
theorem q_fN4 : forN (.rt r e) g b ds = .rt r e := mkE rfl
theorem q_fN5 : forN (.exc c e) g b ds = .exc c e := mkE rfl
theorem lf_nx {e2 : En} (h1 : g d e = some e1) (h2 : b e1 = .nx e2) : loopF g b (d :: ds) e = loopF g b ds e2 := by rw [loopF, h1]; simp only [h2]
theorem lf_ct {e2 : En} (h1 : g d e = some e1) (h2 : b e1 = .ct e2) : loopF g b (d :: ds) e = loopF g b ds e2 := by rw [loopF, h1]; simp only [h2]
theorem q_pRf : putR i (.fro d) e = putF i d e := mkE rfl
theorem q_pRt : putR i (.tmp d) e = putO i d e := mkE rfl
def putSl (i : Nat) (o : Option (D × En)) : Option En := match o with
  | some (d, e) => putF i d e
  | none => none
theorem q_pRs : putR i (.slot n) e = putSl i ((R.slot n).take e) := mkE rfl
theorem q_pSl : putSl i (some (d, e)) = putF i d e := mkE rfl
def putFs (s : Option SV) (i : Nat) (d : D) (e : En) : Option En := match s with
  | some (.bor _) => none
  | some _ => some (e.set i (.fro d))
  | none => none
def putOs (s : Option SV) (i : Nat) (d : D) (e : En) : Option En := match s with
  | some (.bor _) => none
  | some _ => some (e.set i (.own d))
  | none => none
theorem q_pF : putF i d e = putFs (e[i]?) i d e := mkE rfl
theorem q_pO : putO i d e = putOs (e[i]?) i d e := mkE rfl
theorem q_pFn : putFs (some .no) i d e = some (e.set i (.fro d)) := mkE rfl
theorem q_pOn : putOs (some .no) i d e = some (e.set i (.own d)) := mkE rfl
theorem q_pFf : putFs (some (.fro da)) i d e = some (e.set i (.fro d)) := mkE rfl
theorem q_pOf : putOs (some (.fro da)) i d e = some (e.set i (.own d)) := mkE rfl
theorem q_pFo : putFs (some (.own da)) i d e = some (e.set i (.fro d)) := mkE rfl
theorem q_pOo : putOs (some (.own da)) i d e = some (e.set i (.own d)) := mkE rfl
def nbS : SV → Bool
  | .bor _ => false
  | _ => true
theorem q_pFb {s : SV} (h : nbS s = true) : putFs (some s) i d e = some (e.set i (.fro d)) := by cases s <;> first | rfl | cases h
theorem q_pOb {s : SV} (h : nbS s = true) : putOs (some s) i d e = some (e.set i (.own d)) := by cases s <;> first | rfl | cases h
theorem q_nbn : nbS .no = true := mkE rfl
theorem q_nbf : nbS (.fro d) = true := mkE rfl
theorem q_nbo : nbS (.own d) = true := mkE rfl
def varS (s : Option SV) (i : Nat) (e : En) : ER := match s with
  | some (.fro d) => .ok (.fro d) e
  | some (.own _) => .ok (.slot i) e
  | some (.bor _) => .ok (.slot i) e
  | _ => .stuck
theorem q_var : mVar i e = varS (e[i]?) i e := mkE rfl
theorem q_var1 : varS (some (.fro d)) i e = .ok (.fro d) e := mkE rfl
theorem q_var2 : varS (some (.own d)) i e = .ok (.slot i) e := mkE rfl
theorem q_var3 : varS (some (.bor d)) i e = .ok (.slot i) e := mkE rfl
theorem q_c : mC d e = .ok (.fro d) e := mkE rfl
theorem q_gl : mGl d e = .ok (.fro d) e := mkE rfl
theorem q_non : mNon e = .ok (.fro .non) e := mkE rfl
def twoC (f : F2) (x y : Option D) (e : En) : ER := match x, y with
  | some da, some db => outR (f da db) e
  | _, _ => .stuck
def twoB (f : F2) (ra : R) (o : ER) : ER := o.and fun rb e => twoC f (ra.see e) (rb.see e) e
def twoA (f : F2) (mb : M) (o : ER) : ER := o.and fun ra e => twoB f ra (mb e)
def oneB (f : F1) (x : Option D) (e : En) : ER := match x with
  | some da => outR (f da) e
  | _ => .stuck
def oneA (f : F1) (o : ER) : ER := o.and fun ra e => oneB f (ra.see e) e
def bltB (f : FN) (x : Option (List D)) (e : En) : ER := match x with
  | some ds => outR (f ds) e
  | none => .stuck
def bltA (f : FN) (o : AR) : ER := o.and fun rs e => bltB f (sees e rs) e
theorem q_2 : m2 f ma mb e = twoA f mb (ma e) := by first | exact mkE rfl | (unfold m2 twoA twoB twoC; rfl)
theorem q_2a : twoA f mb (.ok ra e) = twoB f ra (mb e) := mkE rfl
theorem q_2b : twoB f ra (.ok rb e) = twoC f (ra.see e) (rb.see e) e := mkE rfl
theorem q_2c : twoC f (some da) (some db) e = outR (f da db) e := mkE rfl
theorem q_2x : twoA f mb (.exc c e) = .exc c e := mkE rfl
theorem q_2y : twoB f ra (.exc c e) = .exc c e := mkE rfl
theorem q_1 : m1 f1 m e = oneA f1 (m e) := by first | exact mkE rfl | (unfold m1 oneA oneB; rfl)
theorem q_1a : oneA f1 (.ok r e) = oneB f1 (r.see e) e := mkE rfl
theorem q_1b : oneB f1 (some d) e = outR (f1 d) e := mkE rfl
theorem q_B : mB fn ta e = bltA fn (ta e) := by first | exact mkE rfl | (unfold mB bltA bltB; rfl)
theorem q_Ba : bltA fn (.ok rs e) = bltB fn (sees e rs) e := mkE rfl
theorem q_Bb : bltB fn (some ds) e = outR (fn ds) e := mkE rfl
theorem q_Bx : bltA fn (.exc c e) = .exc c e := mkE rfl
theorem q_out : outR (some (k, d)) e = .ok (mkR k d) e := mkE rfl
theorem q_mkf : mkR false d = .fro d := mkE rfl
theorem q_mkt : mkR true d = .tmp d := mkE rfl
def call5 (r : R) (o : Option En) : ER := match o with
  | some e => .ok r e
  | none => .stuck
def call6 (c : Nat) (o : Option En) : ER := match o with
  | some e => .exc c e
  | none => .stuck
def call4 (ms : List Bool) (fr : Bool) (rs : List R) (e : En) (o : FR) : ER := match o with
  | .ok d bs => call5 (mkR fr d) (backs e ms rs bs)
  | .exc c bs => call6 c (backs e ms rs bs)
  | .stuck => .stuck
def call3 (f : FS) (ms : List Bool) (fr : Bool) (rs : List R) (e : En) (o : Option (List D)) : ER := match o with
  | some ds => call4 ms fr rs e (f ds)
  | none => .stuck
def call2 (f : FS) (ms : List Bool) (fr : Bool) (rs : List R) (o : Option (List (Option D) × En)) : ER := match o with
  | some (ls, e) => call3 f ms fr rs e (lends e rs ls [])
  | none => .stuck
def call1 (f : FS) (ms : List Bool) (fr : Bool) (o : AR) : ER := o.and fun rs e => call2 f ms fr rs (takesM e ms rs)
theorem q_call : mCall fs ms fr ta e = call1 fs ms fr (ta e) := by
  first
  | exact mkE rfl
  | skip
    unfold mCall call1
    cases ta e with
    | ok rs e =>
      simp only [AR.and]
      cases takesM e ms rs with
      | none => rfl
      | some le =>
        simp only [call2]
        cases lends le.2 rs le.1 [] with
        | none => rfl
        | some ds =>
          simp only [call3]
          cases fs ds with
          | ok d bs => simp only [call4, call5]; cases backs le.2 ms rs bs <;> rfl
          | exc c bs => simp only [call4, call6]; cases backs le.2 ms rs bs <;> rfl
          | stuck => rfl
    | _ => rfl
theorem q_call1 : call1 fs ms fr (.ok rs e) = call2 fs ms fr rs (takesM e ms rs) := mkE rfl
theorem q_call1x : call1 fs ms fr (.exc c e) = .exc c e := mkE rfl
theorem q_call2 : call2 fs ms fr rs (some (ls, e)) = call3 fs ms fr rs e (lends e rs ls []) := mkE rfl
theorem q_call3 : call3 fs ms fr rs e (some ds) = call4 ms fr rs e (fs ds) := mkE rfl
theorem q_call4 : call4 ms fr rs e (.ok d bs) = call5 (mkR fr d) (backs e ms rs bs) := mkE rfl
theorem q_call4x : call4 ms fr rs e (.exc c bs) = call6 c (backs e ms rs bs) := mkE rfl
theorem q_call5 : call5 r (some e) = .ok r e := mkE rfl
theorem q_call6 : call6 c (some e) = .exc c e := mkE rfl
def ac2 (r : R) (o : AR) : AR := match o with
  | .ok rs e => .ok (r :: rs) e
  | .exc c e => .exc c e
  | .stuck => .stuck
def ac1 (t : MA) (o : ER) : AR := match o with
  | .ok r e => ac2 r (t e)
  | .exc c e => .exc c e
  | .stuck => .stuck
theorem q_aN : aNil e = .ok [] e := mkE rfl
theorem q_aC : aCons m ta e = ac1 ta (m e) := by first | exact mkE rfl | (unfold aCons ac1; cases m e with | ok r e => simp only [ac2]; cases ta e <;> rfl | _ => rfl)
theorem q_aC1 : ac1 ta (.ok r e) = ac2 r (ta e) := mkE rfl
theorem q_aC2 : ac2 r (.ok rs e) = .ok (r :: rs) e := mkE rfl
theorem q_aC3 : ac1 ta (.exc c e) = .exc c e := mkE rfl
theorem q_aC4 : ac2 r (.exc c e) = .exc c e := mkE rfl
def tup2 (o : Option (List D × En)) : ER := match o with
  | some (ds, e) => if ds.length ≤ szl then .ok (.fro (.tup ds)) e else .stuck
  | none => .stuck
def tup1 (o : AR) : ER := o.and fun rs e => tup2 (takes e rs)
def lst2 (o : Option (List D × En)) : ER := match o with
  | some (ds, e) => if ds.length ≤ szl then .ok (.tmp (.lst ds)) e else .stuck
  | none => .stuck
def lst1 (o : AR) : ER := o.and fun rs e => lst2 (takes e rs)
theorem q_tup : mTup ta e = tup1 (ta e) := by first | exact mkE rfl | (unfold mTup tup1; cases ta e with | ok rs e => simp only [AR.and, tup2]; cases takes e rs <;> rfl | _ => rfl)
theorem q_tup1 : tup1 (.ok rs e) = tup2 (takes e rs) := mkE rfl
theorem q_tup1x : tup1 (.exc c e) = .exc c e := mkE rfl
theorem q_lst : mLst ta e = lst1 (ta e) := by first | exact mkE rfl | (unfold mLst lst1; cases ta e with | ok rs e => simp only [AR.and, lst2]; cases takes e rs <;> rfl | _ => rfl)
theorem q_lst1 : lst1 (.ok rs e) = lst2 (takes e rs) := mkE rfl
theorem q_lst1x : lst1 (.exc c e) = .exc c e := mkE rfl
theorem q_tup2 (h : ds.length ≤ szl) : tup2 (some (ds, e)) = .ok (.fro (.tup ds)) e := if_pos h
theorem q_lst2 (h : ds.length ≤ szl) : lst2 (some (ds, e)) = .ok (.tmp (.lst ds)) e := if_pos h
def mifS (o : TR) (a b : M) : ER := match o with
  | .ok true e => a e
  | .ok false e => b e
  | .exc c e => .exc c e
  | .stuck => .stuck
def andB (x : Option D) (mb : M) (e : En) : ER := match x with
  | some (.bl true) => mb e
  | some (.bl false) => .ok (.fro (.bl false)) e
  | _ => .stuck
def andA (mb : M) (o : ER) : ER := o.and fun r e => andB (r.see e) mb e
def orB (x : Option D) (mb : M) (e : En) : ER := match x with
  | some (.bl true) => .ok (.fro (.bl true)) e
  | some (.bl false) => mb e
  | _ => .stuck
def orA (mb : M) (o : ER) : ER := o.and fun r e => orB (r.see e) mb e
def notB' (x : Option D) (e : En) : ER := match x with
  | some (.bl b) => .ok (.fro (.bl (!b))) e
  | _ => .stuck
def notA (o : ER) : ER := o.and fun r e => notB' (r.see e) e
theorem q_mif : mIf t ma mb e = mifS (t e) ma mb := mkE rfl
theorem q_mif1 : mifS (.ok true e) ma mb = ma e := mkE rfl
theorem q_mif2 : mifS (.ok false e) ma mb = mb e := mkE rfl
theorem q_and : mAnd ma mb e = andA mb (ma e) := by first | exact mkE rfl | (unfold mAnd andA andB; rfl)
theorem q_and1 : andA mb (.ok r e) = andB (r.see e) mb e := mkE rfl
theorem q_and2 : andB (some (.bl true)) mb e = mb e := mkE rfl
theorem q_and3 : andB (some (.bl false)) mb e = .ok (.fro (.bl false)) e := mkE rfl
theorem q_or : mOr ma mb e = orA mb (ma e) := by first | exact mkE rfl | (unfold mOr orA orB; rfl)
theorem q_or1 : orA mb (.ok r e) = orB (r.see e) mb e := mkE rfl
theorem q_or2 : orB (some (.bl true)) mb e = .ok (.fro (.bl true)) e := mkE rfl
theorem q_or3 : orB (some (.bl false)) mb e = mb e := mkE rfl
theorem q_not : mNot ma e = notA (ma e) := by first | exact mkE rfl | (unfold mNot notA notB'; rfl)
theorem q_not1 : notA (.ok r e) = notB' (r.see e) e := mkE rfl
theorem q_not2 : notB' (some (.bl bb)) e = .ok (.fro (.bl (!bb))) e := mkE rfl
def chE (x : Option (Bool × D)) (e : En) : ER := match x with
  | some (false, .bl b) => .ok (.fro (.bl b)) e
  | _ => .stuck
def chD (g : F2) (x y : Option D) (e : En) : ER := match x, y with
  | some db, some dc => chE (g db dc) e
  | _, _ => .stuck
def chC (g : F2) (rb : R) (o : ER) : ER := o.and fun rc e => chD g (rb.see e) (rc.see e) e
def chB2 (g : F2) (mc : M) (rb : R) (x : Option (Bool × D)) (e : En) : ER := match x with
  | some (false, .bl true) => chC g rb (mc e)
  | some (false, .bl false) => .ok (.fro (.bl false)) e
  | _ => .stuck
def chB1 (f g : F2) (mc : M) (rb : R) (x y : Option D) (e : En) : ER := match x, y with
  | some da, some db => chB2 g mc rb (f da db) e
  | _, _ => .stuck
def chB (f g : F2) (mc : M) (ra : R) (o : ER) : ER := o.and fun rb e => chB1 f g mc rb (ra.see e) (rb.see e) e
def chA (f g : F2) (mb mc : M) (o : ER) : ER := o.and fun ra e => chB f g mc ra (mb e)
variable {g2 : F2} {dc : D}
theorem q_ch : mCh f g2 ma mb mc e = chA f g2 mb mc (ma e) := by first | exact mkE rfl | (unfold mCh chA chB chB1 chB2 chC chD chE; rfl)
theorem q_ch1 : chA f g2 mb mc (.ok ra e) = chB f g2 mc ra (mb e) := mkE rfl
theorem q_ch2 : chB f g2 mc ra (.ok rb e) = chB1 f g2 mc rb (ra.see e) (rb.see e) e := mkE rfl
theorem q_ch3 : chB1 f g2 mc rb (some da) (some db) e = chB2 g2 mc rb (f da db) e := mkE rfl
theorem q_ch4 : chB2 g2 mc rb (some (false, .bl true)) e = chC g2 rb (mc e) := mkE rfl
theorem q_ch5 : chB2 g2 mc rb (some (false, .bl false)) e = .ok (.fro (.bl false)) e := mkE rfl
theorem q_ch6 : chC g2 rb (.ok r e) = chD g2 (rb.see e) (r.see e) e := mkE rfl
theorem q_ch7 : chD g2 (some db) (some dc) e = chE (g2 db dc) e := mkE rfl
theorem q_ch8 : chE (some (false, .bl bb)) e = .ok (.fro (.bl bb)) e := mkE rfl
def slC (r : R) (l u : Option Int) (x : Option D) (e : En) : ER := match x with
  | some d => outR (dSl d l u) e
  | none => .stuck
def slH (r : R) (l : Option Int) (x : Option D) (e : En) : ER := match x with
  | some (.int u) => slC r l (some u) (r.see e) e
  | _ => .stuck
def slB (r : R) (hi : Option M) (l : Option Int) (e : En) : ER := match hi with
  | none => slC r l none (r.see e) e
  | some m => (m e).and fun rh e => slH r l (rh.see e) e
def slL (r : R) (hi : Option M) (x : Option D) (e : En) : ER := match x with
  | some (.int l) => slB r hi (some l) e
  | _ => .stuck
def slA (lo hi : Option M) (r : R) (e : En) : ER := match lo with
  | none => slB r hi none e
  | some m => (m e).and fun rl e => slL r hi (rl.see e) e
def sl0 (lo hi : Option M) (o : ER) : ER := o.and fun r e => slA lo hi r e
variable {lo hi : Option M} {l u : Option Int} {li ui : Int}
theorem q_sl : mSl m lo hi e = sl0 lo hi (m e) := mkE rfl
theorem q_sl0 : sl0 lo hi (.ok r e) = slA lo hi r e := mkE rfl
theorem q_slA : slA none hi r e = slB r hi none e := mkE rfl
def slA1 (hi : Option M) (r : R) (o : ER) : ER := o.and fun rl e => slL r hi (rl.see e) e
def slB1 (r : R) (l : Option Int) (o : ER) : ER := o.and fun rh e => slH r l (rh.see e) e
theorem q_slA1 : slA (some m) hi r e = slA1 hi r (m e) := mkE rfl
theorem q_slA2 : slA1 hi r (.ok ra e) = slL r hi (ra.see e) e := mkE rfl
theorem q_slL : slL r hi (some (.int li)) e = slB r hi (some li) e := mkE rfl
theorem q_slB : slB r none l e = slC r l none (r.see e) e := mkE rfl
theorem q_slB1 : slB r (some m) l e = slB1 r l (m e) := mkE rfl
theorem q_slB2 : slB1 r l (.ok ra e) = slH r l (ra.see e) e := mkE rfl
theorem q_slH : slH r l (some (.int ui)) e = slC r l (some ui) (r.see e) e := mkE rfl
theorem q_slC : slC r l u (some d) e = outR (dSl d l u) e := mkE rfl
def mu5 (i : Nat) (x : Option (D × D)) (e : En) : ER := match x with
  | some (d', r) => .ok (.fro r) (e.modify i fun s => s.put d')
  | none => .stuck
def mu4 (f : FMu) (i : Nat) (ds : List D) (x : Option D) (e : En) : ER := match x with
  | some d => mu5 i (f d ds) e
  | none => .stuck
def mu3 (f : FMu) (i : Nat) (o : Option (List D × En)) : ER := match o with
  | some (ds, e) => mu4 f i ds ((e[i]?).bind SV.cont) e
  | none => .stuck
def mu2 (tk : Bool) (f : FMu) (i : Nat) (o : AR) : ER := o.and fun rs e => mu3 f i (if tk then takes e rs else (sees e rs).map fun ds => (ds, e))
def mu1 (tk : Bool) (p : D → Bool) (f : FMu) (i : Nat) (t : MA) (x : Option D) (e : En) : ER := match x with
  | some d0 => if p d0 then mu2 tk f i (t e) else .stuck
  | none => .stuck
def mu0 (tk : Bool) (p : D → Bool) (f : FMu) (t : MA) (r : R) (e : En) : ER := match r with
  | .slot i => mu1 tk p f i t ((e[i]?).bind SV.cont) e
  | _ => .stuck
def muA (tk : Bool) (p : D → Bool) (f : FMu) (t : MA) (o : ER) : ER := o.and fun r e => mu0 tk p f t r e
variable {tk : Bool} {p : D → Bool} {fm : FMu} {dd : D × D}
theorem q_mu : mMu tk p fm mo ta e = muA tk p fm ta (mo e) := mkE rfl
theorem q_mu0 : muA tk p fm ta (.ok r e) = mu0 tk p fm ta r e := mkE rfl
theorem q_mu1 : mu0 tk p fm ta (.slot i) e = mu1 tk p fm i ta ((e[i]?).bind SV.cont) e := mkE rfl
theorem q_mu2 : mu1 tk isLst fm i ta (some (.lst ds)) e = mu2 tk fm i (ta e) := mkE rfl
theorem q_mu3 : mu2 true fm i (.ok rs e) = mu3 fm i (takes e rs) := mkE rfl
def mu3s (f : FMu) (i : Nat) (o : Option (List D)) (e : En) : ER := match o with
  | some ds => mu4 f i ds ((e[i]?).bind SV.cont) e
  | none => .stuck
theorem q_mu4 : mu2 false fm i (.ok rs e) = mu3s fm i (sees e rs) e := by first | exact mkE rfl | (simp only [mu2, AR.and, mu3s]; cases sees e rs <;> rfl)
theorem q_mu5 : mu3s fm i (some ds) e = mu4 fm i ds ((e[i]?).bind SV.cont) e := mkE rfl
theorem q_mu6 : mu3 fm i (some (ds, e)) = mu4 fm i ds ((e[i]?).bind SV.cont) e := mkE rfl
theorem q_mu7 : mu4 fm i ds (some d) e = mu5 i (fm d ds) e := mkE rfl
theorem q_mu8 : mu5 i (some (d, da)) e = .ok (.fro da) (e.modify i fun s => s.put d) := mkE rfl
theorem q_mux : mu2 tk fm i (.exc c e) = .exc c e := mkE rfl
theorem q_app : mApp mo ta e = mMu true isLst fApp mo ta e := mkE rfl
theorem q_ext : mExt mo ta e = mMu false isLst fExt mo ta e := mkE rfl
theorem q_pop : mPop mo e = mMu false isLst fPop mo aNil e := mkE rfl
theorem q_fApp (h : ds.length < szl) : fApp (.lst ds) [d] = some (.lst (ds ++ [d]), .non) := fApp_ok h
theorem q_isL : isLst (.lst ds) = true := mkE rfl
def rm4 (x : Option D) (e : En) : ER := match x with
  | some y => .ok (.fro y) e
  | none => .stuck
def rm3 (f : D → List D → Option D) (ds : List D) (x : Option D) (e : En) : ER := match x with
  | some d => rm4 (f d ds) e
  | none => .stuck
def rm2 (f : D → List D → Option D) (r : R) (o : Option (List D × En)) : ER := match o with
  | some (ds, e) => rm3 f ds (r.see e) e
  | none => .stuck
def rm1 (f : D → List D → Option D) (r : R) (o : AR) : ER := o.and fun rs e => rm2 f r (takes e rs)
def rm0 (p : D → Bool) (f : D → List D → Option D) (r : R) (t : MA) (x : Option D) (y : Bool) (e : En) : ER := match x, y with
  | some d0, true => if p d0 = true then rm1 f r (t e) else .stuck
  | _, _ => .stuck
def rmA (p : D → Bool) (f : D → List D → Option D) (t : MA) (o : ER) : ER := o.and fun r e => rm0 p f r t (r.see e) (notTmp r) e
variable {fr3 : D → List D → Option D}
theorem q_rm : mRm p fr3 mo ta e = rmA p fr3 ta (mo e) := mkE rfl
theorem q_rmA : rmA p fr3 ta (.ok r e) = rm0 p fr3 r ta (r.see e) (notTmp r) e := mkE rfl
theorem q_rm0 : rm0 isLst fr3 r ta (some (.lst ds)) true e = rm1 fr3 r (ta e) := mkE rfl
theorem q_rm1 : rm1 fr3 r (.ok rs e) = rm2 fr3 r (takes e rs) := mkE rfl
theorem q_rm2 : rm2 fr3 r (some (ds, e)) = rm3 fr3 ds (r.see e) e := mkE rfl
theorem q_rm3 : rm3 fr3 ds (some d) e = rm4 (fr3 d ds) e := mkE rfl
theorem q_rm4 : rm4 (some d) e = .ok (.fro d) e := mkE rfl
theorem q_nt1 : notTmp (.fro d) = true := mkE rfl
theorem q_nt2 : notTmp (.slot i) = true := mkE rfl
def get0 (r : R) (t : MA) (x : Option D) (y : Bool) (e : En) : ER := match x, y with
  | some (.dct _), true => rm1 dGet r (t e)
  | _, _ => .stuck
def getA (t : MA) (o : ER) : ER := o.and fun r e => get0 r t (r.see e) (notTmp r) e
variable {kvs : List (D × D)}
theorem q_get : mGet mo ta e = getA ta (mo e) := mkE rfl
theorem q_getA : getA ta (.ok r e) = get0 r ta (r.see e) (notTmp r) e := mkE rfl
theorem q_get0 : get0 r ta (some (.dct kvs)) true e = rm1 dGet r (ta e) := mkE rfl
def repB (x : R) (y : Option D) (e : En) : ER := match x, y with
  | .tmp (.lst ds), some (.int k) => if ds.length * k.toNat ≤ szl ∧ okI k = true then .ok (.tmp (.lst (List.replicate k.toNat ds).flatten)) e else .stuck
  | _, _ => .stuck
def repA (ra : R) (o : ER) : ER := o.and fun rb e => repB ra (rb.see e) e
def rep0 (mb : M) (o : ER) : ER := o.and fun ra e => repA ra (mb e)
theorem q_rep : mRep ma mb e = rep0 mb (ma e) := by first | exact mkE rfl | (unfold mRep rep0 repA repB; rfl)
theorem q_rep0 : rep0 mb (.ok ra e) = repA ra (mb e) := mkE rfl
theorem q_repA : repA ra (.ok rb e) = repB ra (rb.see e) e := mkE rfl
theorem q_repB {j : Int} (h : ds.length * j.toNat ≤ szl) (h2 : okI j = true) : repB (.tmp (.lst ds)) (some (.int j)) e = .ok (.tmp (.lst (List.replicate j.toNat ds).flatten)) e := if_pos ⟨h, h2⟩
theorem q_dc0 : mDct0 e = .ok (.tmp (.dct [])) e := mkE rfl
def dc1B (rk : R) (o : ER) : ER := o.and fun rv e => dct1R rk rv e
def dc1A (mv : M) (o : ER) : ER := o.and fun rk e => dc1B rk (mv e)
theorem q_dc1 : mDct1 mk ma e = dc1A ma (mk e) := mkE rfl
theorem q_dc1A : dc1A ma (.ok rk e) = dc1B rk (ma e) := mkE rfl
theorem q_dc1B : dc1B rk (.ok r e) = dct1R rk r e := mkE rfl
def tv2 (x : Option D) (e : En) : TR := match x with
  | some (.bl b) => .ok b e
  | _ => .stuck
def tv1 (o : ER) : TR := match o with
  | .ok r e => tv2 (r.see e) e
  | .exc c e => .exc c e
  | .stuck => .stuck
def tn1 (o : TR) : TR := match o with
  | .ok b e => .ok (!b) e
  | .exc c e => .exc c e
  | .stuck => .stuck
def ta1 (o : TR) (b : MT) : TR := match o with
  | .ok true e => b e
  | .ok false e => .ok false e
  | .exc c e => .exc c e
  | .stuck => .stuck
def to1 (o : TR) (b : MT) : TR := match o with
  | .ok true e => .ok true e
  | .ok false e => b e
  | .exc c e => .exc c e
  | .stuck => .stuck
theorem q_tV : tmV m e = tv1 (m e) := by first | exact mkE rfl | (unfold tmV tv1 tv2; cases m e with | ok r e => (simp only []; cases r.see e with | none => rfl | some d => (cases d <;> rfl)) | _ => rfl)
theorem q_tV1 : tv1 (.ok r e) = tv2 (r.see e) e := mkE rfl
theorem q_tV2 : tv2 (some (.bl bb)) e = .ok bb e := mkE rfl
theorem q_tVx : tv1 (.exc c e) = .exc c e := mkE rfl
theorem q_tN : tmNot t e = tn1 (t e) := mkE rfl
theorem q_tN1 : tn1 (.ok bb e) = .ok (!bb) e := mkE rfl
theorem q_tNx : tn1 (.exc c e) = .exc c e := mkE rfl
theorem q_tA : tmAnd t tb e = ta1 (t e) tb := mkE rfl
theorem q_tA1 : ta1 (.ok true e) tb = tb e := mkE rfl
theorem q_tA2 : ta1 (.ok false e) tb = .ok false e := mkE rfl
theorem q_tO : tmOr t tb e = to1 (t e) tb := mkE rfl
theorem q_tO1 : to1 (.ok true e) tb = .ok true e := mkE rfl
theorem q_tO2 : to1 (.ok false e) tb = tb e := mkE rfl
theorem q_tY : tmYes e = .ok true e := mkE rfl
def is3 (x : Option (List D)) (e : En) : IR := match x with
  | some ds => .ok ds e
  | none => .stuck
def is2 (x : Option (D × En)) : IR := match x with
  | some (d, e) => is3 (seqOf d) e
  | none => .stuck
def is1 (o : ER) : IR := match o with
  | .ok r e => is2 (r.take e)
  | .exc c e => .exc c e
  | .stuck => .stuck
def ir2 (f : List D → Option (List D)) (x : Option (List D)) (e : En) : IR := match x with
  | some ds => is3 (f ds) e
  | none => .stuck
def ir1 (f : List D → Option (List D)) (o : AR) : IR := match o with
  | .ok rs e => ir2 f (sees e rs) e
  | .exc c e => .exc c e
  | .stuck => .stuck
def iz3 (x y : Option (List D)) (e : En) : IR := match x, y with
  | some xs, some ys => .ok (zipD xs ys) e
  | _, _ => .stuck
def iz2 (x : Option (List D × En)) : IR := match x with
  | some ([d1, d2], e) => iz3 (seqL d1) (seqL d2) e
  | _ => .stuck
def iz1 (o : AR) : IR := match o with
  | .ok rs e => iz2 (takes e rs)
  | .exc c e => .exc c e
  | .stuck => .stuck
def ie2 (x : Option (List D × En)) : IR := match x with
  | some ([.lst xs], e) => .ok (enumD 0 xs) e
  | _ => .stuck
def ie1 (o : AR) : IR := match o with
  | .ok rs e => ie2 (takes e rs)
  | .exc c e => .exc c e
  | .stuck => .stuck
variable {fl : List D → Option (List D)} {xs ys : List D}
theorem q_iS : iSeq m e = is1 (m e) := by first | exact mkE rfl | (unfold iSeq is1 is2 is3; cases m e with | ok r e => (simp only []; cases r.take e with | none => rfl | some x => (simp only []; cases seqOf x.1 <;> rfl)) | _ => rfl)
theorem q_iS1 : is1 (.ok r e) = is2 (r.take e) := mkE rfl
theorem q_iS2 : is2 (some (d, e)) = is3 (seqOf d) e := mkE rfl
theorem q_iS3 : is3 (some ds) e = .ok ds e := mkE rfl
theorem q_iSx : is1 (.exc c e) = .exc c e := mkE rfl
theorem q_iR : iRange fl ta e = ir1 fl (ta e) := by first | exact mkE rfl | (unfold iRange ir1 ir2 is3; cases ta e with | ok rs e => (simp only []; cases sees e rs with | none => rfl | some x => (simp only []; cases fl x <;> rfl)) | _ => rfl)
theorem q_iR1 : ir1 fl (.ok rs e) = ir2 fl (sees e rs) e := mkE rfl
theorem q_iR2 : ir2 fl (some ds) e = is3 (fl ds) e := mkE rfl
theorem q_iZ : iZip ta e = iz1 (ta e) := by
  first
  | exact mkE rfl
  | skip
    unfold iZip iz1
    cases ta e with
    | ok rs e =>
      simp only []
      unfold iz2
      split
      · rename_i h
        rw [h]
        unfold iz3
        split <;> simp_all
      · split
        · rename_i h _ _ _ h2
          exact absurd h2 (by simp_all)
        · rfl
    | _ => rfl
theorem q_iZ1 : iz1 (.ok rs e) = iz2 (takes e rs) := mkE rfl
theorem q_iZ2 : iz2 (some ([da, db], e)) = iz3 (seqL da) (seqL db) e := mkE rfl
theorem q_iZ3 : iz3 (some xs) (some ys) e = .ok (zipD xs ys) e := mkE rfl
theorem q_iE : iEnumM ta e = ie1 (ta e) := by
  first
  | exact mkE rfl
  | skip
    unfold iEnumM ie1
    cases ta e with
    | ok rs e => rfl
    | _ => rfl
theorem q_iE1 : ie1 (.ok rs e) = ie2 (takes e rs) := mkE rfl
theorem q_iE2 : ie2 (some ([.lst xs], e)) = .ok (enumD 0 xs) e := mkE rfl
def lcS (vs : List Nat) (g : MG) (t : MT) (m : M) (o : IR) : ER := match o with
  | .ok ds e => outC (loopC vs g t m ds e)
  | .exc c e => .exc c e
  | .stuck => .stuck
variable {vs : List Nat}
theorem q_lc : mLc vs mi g t m e = lcS vs g t m (mi e) := mkE rfl
theorem q_lc1 : lcS vs g t m (.ok ds e) = outC (loopC vs g t m ds e) := mkE rfl
theorem q_outC (h : ds.length ≤ szl) : outC (some (ds, e)) = .ok (.tmp (.lst ds)) e := if_pos h
def lcE (y : D) (o : Option (List D × En)) : Option (List D × En) := match o with
  | some (ys, e) => some (y :: ys, e)
  | none => none
def lcD (vs : List Nat) (g : MG) (t : MT) (m : M) (ds : List D) (env : En) (o : Option (D × En)) : Option (List D × En) := match o with
  | some (y, e4) => lcE y (loopC vs g t m ds (unw env e4 vs))
  | none => none
def lcC (vs : List Nat) (g : MG) (t : MT) (m : M) (ds : List D) (env : En) (o : ER) : Option (List D × En) := match o with
  | .ok r e3 => lcD vs g t m ds env (r.take e3)
  | _ => none
def lcB (vs : List Nat) (g : MG) (t : MT) (m : M) (ds : List D) (env : En) (o : TR) : Option (List D × En) := match o with
  | .ok false e2 => loopC vs g t m ds (unw env e2 vs)
  | .ok true e2 => lcC vs g t m ds env (m e2)
  | _ => none
def lcA (vs : List Nat) (g : MG) (t : MT) (m : M) (ds : List D) (env : En) (o : Option En) : Option (List D × En) := match o with
  | some e1 => lcB vs g t m ds env (t e1)
  | none => none
theorem q_lC0 : loopC vs g t m [] e = some ([], e) := mkE rfl
theorem q_lC1 : loopC vs g t m (d :: ds) e = lcA vs g t m ds e (g d (wipeE e vs)) := by
  first
  | exact mkE rfl
  | skip
    rw [loopC]
    unfold lcA
    cases g d (wipeE e vs) with
    | none => rfl
    | some e1 =>
      simp only
      unfold lcB
      cases t e1 with
      | ok b e2 =>
        cases b with
        | false => rfl
        | true =>
          simp only
          unfold lcC
          cases m e2 with
          | ok r e3 =>
            simp only
            unfold lcD
            cases r.take e3 with
            | none => rfl
            | some y =>
              simp only
              unfold lcE
              cases loopC vs g t m ds (unw e y.2 vs) <;> rfl
          | _ => rfl
      | _ => rfl
theorem q_lcA : lcA vs g t m ds e (some e1) = lcB vs g t m ds e (t e1) := mkE rfl
theorem q_lcB1 : lcB vs g t m ds e (.ok true e1) = lcC vs g t m ds e (m e1) := mkE rfl
theorem q_lcB2 : lcB vs g t m ds e (.ok false e1) = loopC vs g t m ds (unw e e1 vs) := mkE rfl
theorem q_lcC : lcC vs g t m ds e (.ok r e1) = lcD vs g t m ds e (r.take e1) := mkE rfl
theorem q_lcD : lcD vs g t m ds e (some (d, e1)) = lcE d (loopC vs g t m ds (unw e e1 vs)) := mkE rfl
theorem q_lcE : lcE d (some (ds, e)) = some (d :: ds, e) := mkE rfl
theorem q_se1 : R.see e (.fro d) = some d := mkE rfl
theorem q_se2 : R.see e (.tmp d) = some d := mkE rfl
theorem q_se3 : R.see e (.slot i) = (e[i]?).bind SV.cont := mkE rfl
theorem q_ta1 : R.take e (.fro d) = some (d, e) := mkE rfl
theorem q_ta2 : R.take e (.tmp d) = some (d, e) := mkE rfl
def takeS (s : Option SV) (i : Nat) (e : En) : Option (D × En) := match s with
  | some (.own d) => some (d, e.set i (.fro d))
  | _ => none
theorem q_ta3 : R.take e (.slot i) = takeS (e[i]?) i e := by first | exact mkE rfl | (unfold R.take takeS; rfl)
theorem q_ta4 : takeS (some (.own d)) i e = some (d, e.set i (.fro d)) := mkE rfl
def seesB (d : D) (o : Option (List D)) : Option (List D) := match o with
  | some ds => some (d :: ds)
  | none => none
def seesA (x : Option D) (rs : List R) (e : En) : Option (List D) := match x with
  | some d => seesB d (sees e rs)
  | none => none
theorem q_sN : sees e [] = some [] := mkE rfl
theorem q_sC : sees e (r :: rs) = seesA (r.see e) rs e := by first | exact mkE rfl | (rw [sees]; unfold seesA seesB; cases r.see e with | none => rfl | some d => simp only []; cases sees e rs <;> rfl)
theorem q_sA : seesA (some d) rs e = seesB d (sees e rs) := mkE rfl
theorem q_sB : seesB d (some ds) = some (d :: ds) := mkE rfl
def takesB (d : D) (o : Option (List D × En)) : Option (List D × En) := match o with
  | some (ds, e) => some (d :: ds, e)
  | none => none
def takesA (x : Option (D × En)) (rs : List R) : Option (List D × En) := match x with
  | some (d, e) => takesB d (takes e rs)
  | none => none
theorem q_tkN : takes e [] = some ([], e) := mkE rfl
theorem q_tkC : takes e (r :: rs) = takesA (r.take e) rs := by first | exact mkE rfl | (rw [takes]; unfold takesA takesB; cases r.take e with | none => rfl | some d => simp only []; cases takes d.2 rs <;> rfl)
theorem q_tkA : takesA (some (d, e)) rs = takesB d (takes e rs) := mkE rfl
theorem q_tkB : takesB d (some (ds, e)) = some (d :: ds, e) := mkE rfl
def tkMB (x : Option D) (o : Option (List (Option D) × En)) : Option (List (Option D) × En) := match o with
  | some (l, e) => some (x :: l, e)
  | none => none
def tkMA (x : Option (D × En)) (ms : List Bool) (rs : List R) : Option (List (Option D) × En) := match x with
  | some (d, e) => tkMB (some d) (takesM e ms rs)
  | none => none
variable {od : Option D}
theorem q_tMN : takesM e [] [] = some ([], e) := mkE rfl
theorem q_tMf : takesM e (false :: ms) (r :: rs) = tkMA (r.take e) ms rs := by first | exact mkE rfl | (rw [takesM]; unfold tkMA tkMB; cases r.take e with | none => rfl | some d => simp only []; cases takesM d.2 ms rs <;> rfl)
theorem q_tMt : takesM e (true :: ms) (r :: rs) = tkMB none (takesM e ms rs) := by first | exact mkE rfl | (rw [takesM]; unfold tkMB; cases takesM e ms rs <;> rfl)
theorem q_tMA : tkMA (some (d, e)) ms rs = tkMB (some d) (takesM e ms rs) := mkE rfl
theorem q_tMB : tkMB od (some (ls, e)) = some (od :: ls, e) := mkE rfl
theorem q_lN : lends e [] [] is = some [] := mkE rfl
theorem q_lS : lends e (r :: rs) (some d :: ls) is = seesB d (lends e rs ls is) := by first | exact mkE rfl | (rw [lends]; unfold seesB; cases lends e rs ls is <;> rfl)
def lnA (x : Option D) (e : En) (rs : List R) (ls : List (Option D)) (is : List Nat) : Option (List D) := match x with
  | some d => seesB d (lends e rs ls is)
  | none => none
theorem q_lB0 : lends e (.slot i :: rs) (none :: ls) [] = lnA ((e[i]?).bind SV.cont) e rs ls [i] := by
  rw [lends, show List.contains ([] : List Nat) i = false from rfl]
  unfold lnA seesB
  cases (e[i]?).bind SV.cont with
  | none => rfl
  | some d => simp only []; cases lends e rs ls [i] <;> rfl
theorem q_lB (h : is.contains i = false) : lends e (.slot i :: rs) (none :: ls) is = lnA ((e[i]?).bind SV.cont) e rs ls (i :: is) := by
  rw [lends, h]
  unfold lnA seesB
  cases (e[i]?).bind SV.cont with
  | none => rfl
  | some d => simp only []; cases lends e rs ls (i :: is) <;> rfl
theorem q_lA : lnA (some d) e rs ls is = seesB d (lends e rs ls is) := mkE rfl
theorem q_bN : backs e [] [] [] = some e := mkE rfl
theorem q_bf : backs e (false :: ms) (r :: rs) bs = backs e ms rs bs := by first | exact mkE rfl | (cases bs <;> rfl)
theorem q_bt : backs e (true :: ms) (.slot i :: rs) (d :: bs) = backs (e.modify i fun s => s.put d) ms rs bs := mkE rfl
theorem q_co : SV.cont (.own d) = some d := mkE rfl
theorem q_cb : SV.cont (.bor d) = some d := mkE rfl
theorem q_po : SV.put (.own da) d = .own d := mkE rfl
theorem q_pb : SV.put (.bor da) d = .bor d := mkE rfl
theorem q_gN : gN i d e = putF i d e := mkE rfl
theorem q_gT : gT is (.tup ds) e = gL is ds e := mkE rfl
theorem q_gL0 : gL [] [] e = some e := mkE rfl
def gLs (o : Option En) (is : List Nat) (ds : List D) : Option En := match o with
  | some e => gL is ds e
  | none => none
theorem q_gL1 : gL (i :: is) (d :: ds) e = gLs (putF i d e) is ds := by first | exact mkE rfl | (rw [gL]; unfold gLs; cases putF i d e <;> rfl)
theorem q_gLs : gLs (some e) is ds = gL is ds e := mkE rfl
theorem q_st0 : settle e [] = some ([], e) := mkE rfl
def stB (r : R) (o : Option (List R × En)) : Option (List R × En) := match o with
  | some (qs, e) => some (r :: qs, e)
  | none => none
theorem q_stf : settle e (.fro d :: rs) = stB (.fro d) (settle e rs) := by first | exact mkE rfl | (rw [settle]; unfold stB; cases settle e rs <;> rfl; exact fun _ h => nomatch h)
theorem q_stt : settle e (.tmp d :: rs) = stB (.tmp d) (settle e rs) := by first | exact mkE rfl | (rw [settle]; unfold stB; cases settle e rs <;> rfl; exact fun _ h => nomatch h)
def stA (x : Option (D × En)) (rs : List R) : Option (List R × En) := match x with
  | some (d, e) => stB (.fro d) (settle e rs)
  | none => none
theorem q_sts : settle e (.slot i :: rs) = stA ((R.slot i).take e) rs := by first | exact mkE rfl | (rw [settle]; unfold stA stB; cases (R.slot i).take e with | none => rfl | some d => simp only []; cases settle d.2 rs <;> rfl)
theorem q_stA : stA (some (d, e)) rs = stB (.fro d) (settle e rs) := mkE rfl
theorem q_stB : stB r (some (rs, e)) = some (r :: rs, e) := mkE rfl
theorem q_pu0 : puts [] [] e = some e := mkE rfl
def pusA (o : Option En) (is : List Nat) (rs : List R) : Option En := match o with
  | some e => puts is rs e
  | none => none
theorem q_puf : puts (i :: is) (.fro d :: rs) e = pusA (putF i d e) is rs := by first | exact mkE rfl | (rw [puts]; unfold pusA; cases putF i d e <;> rfl)
theorem q_put_ : puts (i :: is) (.tmp d :: rs) e = pusA (putO i d e) is rs := by first | exact mkE rfl | (rw [puts]; unfold pusA; cases putO i d e <;> rfl)
theorem q_pusA : pusA (some e) is rs = puts is rs e := mkE rfl
theorem q_wN : wipeE e [] = e := mkE rfl
theorem q_wC : wipeE e (i :: is) = (wipeE e is).set i .no := mkE rfl
theorem q_uN : unw e e1 [] = e1 := mkE rfl
theorem q_uC : unw e e1 (i :: is) = (unw e e1 is).set i (e.getD i .no) := mkE rfl
theorem q_fin1 : finE ms fr (.rt r e) = finR fr ms r e := mkE rfl
theorem q_fin2 : finE ms fr (.nx e) = finR fr ms (.fro .non) e := mkE rfl
def exE (c : Nat) (o : Option (List D)) : FR := match o with
  | some bs => .exc c bs
  | none => .stuck
theorem q_fin3 : finE ms fr (.exc c e) = exE c (bors 0 ms e) := mkE rfl
theorem q_exE : exE c (some ds) = .exc c ds := mkE rfl
def finB (d : D) (o : Option (List D)) : FR := match o with
  | some bs => .ok d bs
  | none => .stuck
def finA (ms : List Bool) (x : Option (D × En)) : FR := match x with
  | some (d, e) => finB d (bors 0 ms e)
  | none => .stuck
theorem q_fR : finR false ms r e = finA ms (r.take e) := by first | exact mkE rfl | (unfold finR finA finB; cases r.take e with | none => rfl | some d => simp only []; cases bors 0 ms d.2 <;> rfl)
theorem q_fA : finA ms (some (d, e)) = finB d (bors 0 ms e) := mkE rfl
theorem q_fB : finB d (some ds) = .ok d ds := mkE rfl
theorem q_fRt : finR true ms (.tmp d) e = finB d (bors 0 ms e) := by first | exact mkE rfl | (unfold finR finB; simp only []; cases bors 0 ms e <;> rfl)
theorem q_bo0 : bors i [] e = some [] := mkE rfl
theorem q_bof : bors i (false :: ms) e = bors (i + 1) ms e := mkE rfl
def borA (s : Option SV) (i : Nat) (ms : List Bool) (e : En) : Option (List D) := match s with
  | some (.bor d) => seesB d (bors (i + 1) ms e)
  | _ => none
theorem q_bot : bors i (true :: ms) e = borA (e[i]?) i ms e := by first | exact mkE rfl | (rw [bors]; unfold borA seesB; cases e[i]? with | none => rfl | some s => cases s with | bor d => simp only []; cases bors (i + 1) ms e <;> rfl | _ => rfl)
theorem q_boA : borA (some (.bor d)) i ms e = seesB d (bors (i + 1) ms e) := mkE rfl
theorem q_fBody : fBody n ms fr a ds = finE ms fr (a (initE n ms ds)) := by first | exact mkE rfl | (unfold fBody finE; cases a (initE n ms ds) <;> rfl)
end
section
variable {x y z : Int} {ds : List D} {d : D} {p q : Bool} {s : Str}
theorem o_add : dAdd (.int x) (.int y) = some (false, .int (x + y)) := mkE rfl
theorem o_sub : dSub (.int x) (.int y) = some (false, .int (x - y)) := mkE rfl
theorem o_neg : dNeg (.int x) = some (false, .int (-x)) := mkE rfl
theorem o_lt : dLt (.int x) (.int y) = some (false, .bl (decide (x < y))) := mkE rfl
theorem o_le : dLe (.int x) (.int y) = some (false, .bl (decide (x ≤ y))) := mkE rfl
theorem o_gt : dGt (.int x) (.int y) = some (false, .bl (decide (y < x))) := mkE rfl
theorem o_ge : dGe (.int x) (.int y) = some (false, .bl (decide (y ≤ x))) := mkE rfl
theorem o_eqI : dEq (.int x) (.int y) = some (false, .bl (x == y)) := mkE rfl
theorem o_neI : dNe (.int x) (.int y) = some (false, .bl (!(x == y))) := mkE rfl
theorem o_eqB : dEq (.bl p) (.bl q) = some (false, .bl (p == q)) := mkE rfl
theorem o_neB : dNe (.bl p) (.bl q) = some (false, .bl (!(p == q))) := mkE rfl
theorem o_lenL : dLen [.lst ds] = some (false, .int (ds.length : Int)) := mkE rfl
theorem o_lenT : dLen [.tup ds] = some (false, .int (ds.length : Int)) := mkE rfl
theorem o_tupL : dTuple [.lst ds] = some (false, .tup ds) := mkE rfl
theorem o_tupT : dTuple [.tup ds] = some (false, .tup ds) := mkE rfl
theorem o_lstL : dList [.lst ds] = some (true, .lst ds) := mkE rfl
theorem o_lstT : dList [.tup ds] = some (true, .lst ds) := mkE rfl
theorem o_sqL : seqOf (.lst ds) = some ds := mkE rfl
theorem o_sqT : seqOf (.tup ds) = some ds := mkE rfl
theorem o_slL : seqL (.lst ds) = some ds := mkE rfl
theorem o_slT : seqL (.tup ds) = some ds := mkE rfl
variable {kvs : List (D × D)}
theorem o_sqD : seqOf (.dct kvs) = some (kvs.map (·.1)) := mkE rfl
end
end Gr
end
section
namespace GP
open Gr PySem
/-! ### draws -/
theorem halve_loop (S K : D) : ∀ (ds : List D) (v : Int) (x : SV), (∀ d, x ≠ .bor d) → ∃ v' x', loopF (gN 3) (sSet 2 (m2 dDiv (mVar 2) (mC (.int 1000003)))) ds [.fro S, .fro K, .fro (.int v), x] = .nx [.fro S, .fro K, .fro (.int v'), x'] ∧ ∀ d, x' ≠ .bor d
  | [], v, x, h => ⟨v, x, rfl, h⟩
  | d :: ds, v, x, h => by
    obtain ⟨v', x', e, h'⟩ := halve_loop S K ds (v / 1000003) (.fro d) (fun d z => by cases z)
    refine ⟨v', x', ?_, h'⟩
    have g : gN 3 d [.fro S, .fro K, .fro (.int v), x] = some [.fro S, .fro K, .fro (.int v), .fro d] := by
      cases x with
      | bor d => exact absurd rfl (h d)
      | _ => rfl
    unfold loopF
    rw [g]
    exact e
theorem cell_ok (ns : List Int) (hz : ns.length ≤ 1000) (k : Nat) (hk : k ≤ 100000) : ∃ v, fs__law_cell_at [.lst (ns.map D.int), .int k] = .ok (.int v) [] := by
  have lenE : dLen [.lst (ns.map D.int)] = some (false, .int (ns.length : Int)) := by
    show some (false, D.int ((ns.map D.int).length : Int)) = _
    rw [List.length_map]
  have hlen : mB dLen (aCons (mVar 0) aNil) [.fro (.lst (ns.map D.int)), .fro (.int k), .no, .no] = .ok (.fro (.int (ns.length : Int))) [.fro (.lst (ns.map D.int)), .fro (.int k), .no, .no] := mB_ok rfl rfl lenE
  have c1 : tmV (m2 dLt (mVar 1) (mB dLen (aCons (mVar 0) aNil))) [.fro (.lst (ns.map D.int)), .fro (.int k), .no, .no] = .ok (decide ((k : Int) < (ns.length : Int))) [.fro (.lst (ns.map D.int)), .fro (.int k), .no, .no] := tmV_ok (m2_ok rfl hlen rfl rfl rfl) rfl
  have fin : ∀ {m : MS} {e : En} {v : Int}, m [.fro (.lst (ns.map D.int)), .fro (.int k), .no, .no] = .rt (.fro (.int v)) e → fBody 4 [false, false] false m [.lst (ns.map D.int), .int k] = .ok (.int v) [] := fun {m e v} h => by
    rw [fBody_rt (e := e) (r := .fro (.int v)) h]
    rfl
  by_cases h : k < ns.length
  · refine ⟨ns[k], fin (e := [.fro (.lst (ns.map D.int)), .fro (.int k), .no, .no]) ?_⟩
    unfold m__law_cell_at
    refine sSeq_rt ?_
    rw [sIf_t (c1.trans (by rw [decide_eq_true (by omega)]))]
    refine sRet_ok (m2_ok rfl rfl rfl rfl (ix_nat (d := .int ns[k]) ?_))
    rw [List.getElem?_map, List.getElem?_eq_getElem h]
    rfl
  · have s1 : sIf (tmV (m2 dLt (mVar 1) (mB dLen (aCons (mVar 0) aNil)))) (sRet (m2 dIx (mVar 0) (mVar 1))) sNil [.fro (.lst (ns.map D.int)), .fro (.int k), .no, .no] = .nx [.fro (.lst (ns.map D.int)), .fro (.int k), .no, .no] := by
      rw [sIf_f (c1.trans (by rw [decide_eq_false (by omega)]))]
      rfl
    have c2 : tmV (m2 dEq (mVar 0) (mLst aNil)) [.fro (.lst (ns.map D.int)), .fro (.int k), .no, .no] = .ok ns.isEmpty [.fro (.lst (ns.map D.int)), .fro (.int k), .no, .no] := tmV_ok (m2_ok rfl rfl rfl rfl (eq_nil ns)) rfl
    by_cases h0 : ns.isEmpty = true
    · refine ⟨0, fin (e := [.fro (.lst (ns.map D.int)), .fro (.int k), .no, .no]) ?_⟩
      unfold m__law_cell_at
      rw [sSeq_nx s1]
      refine sSeq_rt ?_
      rw [sIf_t (c2.trans (by rw [h0]))]
      rfl
    · have hn : 0 < ns.length := by
        cases ns with
        | nil => exact absurd rfl h0
        | cons _ _ => simp
      have hm : k % ns.length < ns.length := Nat.mod_lt _ hn
      have ixE : ∀ (x y : SV), m2 dIx (mVar 0) (m2 dMod (mVar 1) (mB dLen (aCons (mVar 0) aNil))) [.fro (.lst (ns.map D.int)), .fro (.int k), x, y] = .ok (.fro (.int ns[k % ns.length])) [.fro (.lst (ns.map D.int)), .fro (.int k), x, y] := fun x y => by
        have hlen2 : mB dLen (aCons (mVar 0) aNil) [.fro (.lst (ns.map D.int)), .fro (.int k), x, y] = .ok (.fro (.int (ns.length : Int))) [.fro (.lst (ns.map D.int)), .fro (.int k), x, y] := mB_ok rfl rfl lenE
        have md : dMod (.int k) (.int (ns.length : Int)) = some (false, .int ((k % ns.length : Nat) : Int)) := by
          show (if decide (0 < (ns.length : Int)) then some (false, D.int ((k : Int) % (ns.length : Int))) else none) = _
          rw [if_pos (decide_eq_true (by omega))]
          rfl
        refine m2_ok rfl (m2_ok rfl hlen2 rfl rfl md) rfl rfl (ix_nat (d := .int ns[k % ns.length]) ?_)
        rw [List.getElem?_map, List.getElem?_eq_getElem hm]
        rfl
      have s2 : sIf (tmV (m2 dEq (mVar 0) (mLst aNil))) (sRet (mC (.int 0))) sNil [.fro (.lst (ns.map D.int)), .fro (.int k), .no, .no] = .nx [.fro (.lst (ns.map D.int)), .fro (.int k), .no, .no] := by
        rw [sIf_f (c2.trans (by rw [Bool.eq_false_iff.mpr h0]))]
        rfl
      have s3 : sSet 2 (m2 dIx (mVar 0) (m2 dMod (mVar 1) (mB dLen (aCons (mVar 0) aNil)))) [.fro (.lst (ns.map D.int)), .fro (.int k), .no, .no] = .nx [.fro (.lst (ns.map D.int)), .fro (.int k), .fro (.int ns[k % ns.length]), .no] := sSet_ok (ixE .no .no) rfl
      obtain ⟨r, hr⟩ : ∃ r : List D, iRange dR1 (aCons (mB dMin (aCons (m2 dDiv (mVar 1) (mB dLen (aCons (mVar 0) aNil))) (aCons (mC (.int 60)) aNil))) aNil) [.fro (.lst (ns.map D.int)), .fro (.int k), .fro (.int ns[k % ns.length]), .no] = .ok r [.fro (.lst (ns.map D.int)), .fro (.int k), .fro (.int ns[k % ns.length]), .no] := by
        have hlen2 : mB dLen (aCons (mVar 0) aNil) [.fro (.lst (ns.map D.int)), .fro (.int k), .fro (.int ns[k % ns.length]), .no] = .ok (.fro (.int (ns.length : Int))) [.fro (.lst (ns.map D.int)), .fro (.int k), .fro (.int ns[k % ns.length]), .no] := mB_ok rfl rfl lenE
        have dv : dDiv (.int k) (.int (ns.length : Int)) = some (false, .int ((k / ns.length : Nat) : Int)) := by
          show (if decide (0 < (ns.length : Int)) && decide ((ns.length : Int) < 1073741824) then some (false, D.int ((k : Int) / (ns.length : Int))) else none) = _
          rw [decide_eq_true (by omega : 0 < (ns.length : Int)), decide_eq_true (by omega : (ns.length : Int) < 1073741824)]
          rfl
        have mn : dMin [.int ((k / ns.length : Nat) : Int), .int 60] = some (false, .int (if (60 : Int) < ((k / ns.length : Nat) : Int) then 60 else ((k / ns.length : Nat) : Int))) := rfl
        have mB1 : mB dMin (aCons (m2 dDiv (mVar 1) (mB dLen (aCons (mVar 0) aNil))) (aCons (mC (.int 60)) aNil)) [.fro (.lst (ns.map D.int)), .fro (.int k), .fro (.int ns[k % ns.length]), .no] = .ok (.fro (.int (if (60 : Int) < ((k / ns.length : Nat) : Int) then 60 else ((k / ns.length : Nat) : Int)))) [.fro (.lst (ns.map D.int)), .fro (.int k), .fro (.int ns[k % ns.length]), .no] := by
          refine mB_ok (rs := [.fro (.int ((k / ns.length : Nat) : Int)), .fro (.int 60)]) (aCons_ok ?_ rfl) rfl mn
          exact m2_ok rfl hlen2 rfl rfl dv
        refine ⟨rng 0 1 (if (60 : Int) < ((k / ns.length : Nat) : Int) then 60 else ((k / ns.length : Nat) : Int)).toNat, ?_⟩
        unfold iRange
        rw [aCons_ok (t := aNil) (rs := []) mB1 rfl]
        show (match dR1 [D.int (if (60 : Int) < ((k / ns.length : Nat) : Int) then 60 else ((k / ns.length : Nat) : Int))] with
          | some l => IR.ok l _
          | none => .stuck) = _
        have ok : okI (if (60 : Int) < ((k / ns.length : Nat) : Int) then 60 else ((k / ns.length : Nat) : Int)) = true := by
          have := Nat.div_le_self k ns.length
          generalize k / ns.length = q at this ⊢
          unfold okI
          rw [Bool.and_eq_true]
          refine ⟨decide_eq_true ?_, decide_eq_true ?_⟩ <;> split <;> omega
        have e : dR1 [D.int (if (60 : Int) < ((k / ns.length : Nat) : Int) then 60 else ((k / ns.length : Nat) : Int))] = some (rng 0 1 (if (60 : Int) < ((k / ns.length : Nat) : Int) then 60 else ((k / ns.length : Nat) : Int)).toNat) := by
          show (if okI _ = true then some _ else none) = _
          rw [if_pos ok]
        rw [e]
      obtain ⟨v', x', e4, hx'⟩ := halve_loop (.lst (ns.map D.int)) (.int k) r ns[k % ns.length] .no (fun d z => by cases z)
      refine ⟨ns[k % ns.length] * 31 + k + v' * 101, fin (e := [.fro (.lst (ns.map D.int)), .fro (.int k), .fro (.int v'), x']) ?_⟩
      unfold m__law_cell_at
      rw [sSeq_nx s1, sSeq_nx s2, sSeq_nx s3, sSeq_nx (show sFor _ _ _ _ = .nx [.fro (.lst (ns.map D.int)), .fro (.int k), .fro (.int v'), x'] by
        unfold sFor
        rw [hr]
        exact e4)]
      have q1 : m2 dMul (m2 dIx (mVar 0) (m2 dMod (mVar 1) (mB dLen (aCons (mVar 0) aNil)))) (mC (.int 31)) [.fro (.lst (ns.map D.int)), .fro (.int k), .fro (.int v'), x'] = .ok (.fro (.int (ns[k % ns.length] * 31))) [.fro (.lst (ns.map D.int)), .fro (.int k), .fro (.int v'), x'] := m2_ok (k := false) (ixE _ _) rfl rfl rfl ?_
      have q2 : m2 dMul (mVar 2) (mC (.int 101)) [.fro (.lst (ns.map D.int)), .fro (.int k), .fro (.int v'), x'] = .ok (.fro (.int (v' * 101))) [.fro (.lst (ns.map D.int)), .fro (.int k), .fro (.int v'), x'] := m2_ok (k := false) rfl rfl rfl rfl ?_
      · have q3 : m2 dAdd (m2 dMul (m2 dIx (mVar 0) (m2 dMod (mVar 1) (mB dLen (aCons (mVar 0) aNil)))) (mC (.int 31))) (mVar 1) [.fro (.lst (ns.map D.int)), .fro (.int k), .fro (.int v'), x'] = .ok (.fro (.int (ns[k % ns.length] * 31 + k))) [.fro (.lst (ns.map D.int)), .fro (.int k), .fro (.int v'), x'] := m2_ok (k := false) q1 rfl rfl rfl rfl
        exact sRet_ok (m2_ok (k := false) q3 q2 rfl rfl rfl)
      · show (if smallI v' || smallI 101 then some (false, D.int (v' * 101)) else none) = _
        rw [show smallI 101 = true by decide, Bool.or_true]
        rfl
      · show (if smallI ns[k % ns.length] || smallI 31 then some (false, D.int (ns[k % ns.length] * 31)) else none) = _
        rw [show smallI 31 = true by decide, Bool.or_true]
        rfl
theorem mixed_ok (ns : List Int) (hz : ns.length ≤ 1000) (k : Nat) (hk : k ≤ 100000) (m : Nat) (hm : 0 < m) : ∃ v : Nat, v < m ∧ fs__law_mixed [.lst (ns.map D.int), .int k, .int m] = .ok (.int v) [] := by
  obtain ⟨c, hc⟩ := cell_ok ns hz k hk
  have p0 : (0 : Int) < 2147483647 := by decide
  have hs0 := Int.emod_nonneg (c * 1103515245 + 7919 * k + 12345) (Int.ne_of_gt p0)
  have hs1 := Int.emod_lt_of_pos (c * 1103515245 + 7919 * k + 12345) p0
  generalize hsp : (c * 1103515245 + 7919 * k + 12345) % 2147483647 = sp at hs0 hs1
  have hp : 0 ≤ sp ^ 5 % 2147483647 % 999983 % (m : Int) := Int.emod_nonneg _ (by omega)
  have hp2 : sp ^ 5 % 2147483647 % 999983 % (m : Int) < m := Int.emod_lt_of_pos _ (by omega)
  refine ⟨(sp ^ 5 % 2147483647 % 999983 % (m : Int)).toNat, by omega, ?_⟩
  have e0 : (((sp ^ 5 % 2147483647 % 999983 % (m : Int)).toNat : Nat) : Int) = sp ^ 5 % 2147483647 % 999983 % (m : Int) := Int.toNat_of_nonneg hp
  rw [e0]
  let E (x : SV) : En := [.fro (.lst (ns.map D.int)), .fro (.int k), .fro (.int m), x]
  have call : mCall fs__law_cell_at [false, false] false (aCons (mVar 0) (aCons (mVar 1) aNil)) (E .no) = .ok (.fro (.int c)) (E .no) := mCall_ok (fresh := false) rfl rfl rfl hc rfl
  have a1 : m2 dMul (mCall fs__law_cell_at [false, false] false (aCons (mVar 0) (aCons (mVar 1) aNil))) (mC (.int 1103515245)) (E .no) = .ok (.fro (.int (c * 1103515245))) (E .no) := m2_ok (k := false) call rfl rfl rfl (by
    show (if smallI c || smallI 1103515245 then some (false, D.int (c * 1103515245)) else none) = _
    rw [show smallI 1103515245 = true by decide, Bool.or_true]
    rfl)
  have a2 : m2 dMul (mC (.int 7919)) (mVar 1) (E .no) = .ok (.fro (.int (7919 * k))) (E .no) := m2_ok (k := false) rfl rfl rfl rfl rfl
  have a3 : m2 dAdd (m2 dMul (mCall fs__law_cell_at [false, false] false (aCons (mVar 0) (aCons (mVar 1) aNil))) (mC (.int 1103515245))) (m2 dMul (mC (.int 7919)) (mVar 1)) (E .no) = .ok (.fro (.int (c * 1103515245 + 7919 * k))) (E .no) := m2_ok (k := false) a1 a2 rfl rfl rfl
  have a4 : m2 dAdd (m2 dAdd (m2 dMul (mCall fs__law_cell_at [false, false] false (aCons (mVar 0) (aCons (mVar 1) aNil))) (mC (.int 1103515245))) (m2 dMul (mC (.int 7919)) (mVar 1))) (mC (.int 12345)) (E .no) = .ok (.fro (.int (c * 1103515245 + 7919 * k + 12345))) (E .no) := m2_ok (k := false) a3 rfl rfl rfl rfl
  have a5 : m2 dMod (m2 dAdd (m2 dAdd (m2 dMul (mCall fs__law_cell_at [false, false] false (aCons (mVar 0) (aCons (mVar 1) aNil))) (mC (.int 1103515245))) (m2 dMul (mC (.int 7919)) (mVar 1))) (mC (.int 12345))) (mC (.int 2147483647)) (E .no) = .ok (.fro (.int sp)) (E .no) := by
    rw [← hsp]
    exact m2_ok (k := false) a4 rfl rfl rfl rfl
  have s1 : sSet 3 (m2 dMod (m2 dAdd (m2 dAdd (m2 dMul (mCall fs__law_cell_at [false, false] false (aCons (mVar 0) (aCons (mVar 1) aNil))) (mC (.int 1103515245))) (m2 dMul (mC (.int 7919)) (mVar 1))) (mC (.int 12345))) (mC (.int 2147483647))) (E .no) = .nx (E (.fro (.int sp))) := sSet_ok a5 rfl
  have b1 : m2 dPow (mVar 3) (mC (.int 5)) (E (.fro (.int sp))) = .ok (.fro (.int (sp ^ 5))) (E (.fro (.int sp))) := m2_ok (k := false) rfl rfl rfl rfl (by
    have hsm : smallI sp = true := by
      unfold smallI
      exact decide_eq_true (by omega)
    show (if decide ((0 : Int) ≤ 5) && decide ((5 : Int) ≤ 1000) && smallI sp then some (false, D.int (sp ^ 5)) else none) = _
    rw [hsm]
    rfl)
  have b2 : m2 dMod (m2 dPow (mVar 3) (mC (.int 5))) (mC (.int 2147483647)) (E (.fro (.int sp))) = .ok (.fro (.int (sp ^ 5 % 2147483647))) (E (.fro (.int sp))) := m2_ok (k := false) b1 rfl rfl rfl rfl
  have b3 : m2 dMod (m2 dMod (m2 dPow (mVar 3) (mC (.int 5))) (mC (.int 2147483647))) (mC (.int 999983)) (E (.fro (.int sp))) = .ok (.fro (.int (sp ^ 5 % 2147483647 % 999983))) (E (.fro (.int sp))) := m2_ok (k := false) b2 rfl rfl rfl rfl
  have b4 : m2 dMod (m2 dMod (m2 dMod (m2 dPow (mVar 3) (mC (.int 5))) (mC (.int 2147483647))) (mC (.int 999983))) (mVar 2) (E (.fro (.int sp))) = .ok (.fro (.int (sp ^ 5 % 2147483647 % 999983 % (m : Int)))) (E (.fro (.int sp))) := m2_ok (k := false) b3 rfl rfl rfl (by
    show (if decide ((0 : Int) < (m : Int)) then some (false, D.int (sp ^ 5 % 2147483647 % 999983 % (m : Int))) else none) = _
    rw [if_pos (decide_eq_true (by omega))])
  unfold fs__law_mixed
  rw [fBody_rt (r := .fro (.int (sp ^ 5 % 2147483647 % 999983 % (m : Int)))) (e := E (.fro (.int sp))) (by
    unfold m__law_mixed
    show sSeq _ _ (E .no) = _
    rw [sSeq_nx s1]
    exact sRet_ok b4)]
  rfl
/-- a town of t draws -/
def town (t : Nat) : D := .lst (List.replicate t (.int 0))
theorem draw_ok (ns : List Int) (hz : ns.length ≤ 1000) (t : Nat) (ht : t ≤ 10000) (m : Nat) (hm : 0 < m) : ∃ v : Nat, v < m ∧ fs__law_draw [.lst (ns.map D.int), town t, .int m] = .ok (.int v) [town (t + 1)] := by
  obtain ⟨v, hv, hc⟩ := mixed_ok ns hz (t + 1) (by omega) m hm
  refine ⟨v, hv, ?_⟩
  let E (t : Nat) : En := [.fro (.lst (ns.map D.int)), .bor (town t), .fro (.int m)]
  have s1 : sExpr (mApp (mVar 1) (aCons (mC (.int 0)) aNil)) (E t) = .nx (E (t + 1)) := by
    have e : mApp (mVar 1) (aCons (mC (.int 0)) aNil) (E t) = .ok (.fro .non) (E (t + 1)) := by
      show (match fApp (town t) [.int 0] with
        | some (d', r) => ER.ok (.fro r) ((E t).modify 1 fun s => s.put d')
        | none => .stuck) = _
      have f : fApp (town t) [.int 0] = some (town (t + 1), .non) := by
        show (if (List.replicate t (D.int 0)).length < szl then some (D.lst (List.replicate t (D.int 0) ++ [D.int 0]), D.non) else none) = _
        rw [if_pos (by rw [List.length_replicate]; unfold szl; omega)]
        unfold town
        rw [List.replicate_succ']
      rw [f]
      rfl
    exact sExpr_ok e
  have l1 : mB dLen (aCons (mVar 1) aNil) (E (t + 1)) = .ok (.fro (.int ((t + 1 : Nat) : Int))) (E (t + 1)) := mB_ok (k := false) rfl rfl (by
    show some (false, D.int ((List.replicate (t + 1) (D.int 0)).length : Int)) = _
    rw [List.length_replicate])
  have cl : mCall fs__law_mixed [false, false, false] false (aCons (mVar 0) (aCons (mB dLen (aCons (mVar 1) aNil)) (aCons (mVar 2) aNil))) (E (t + 1)) = .ok (.fro (.int v)) (E (t + 1)) := mCall_ok (aCons_ok rfl (aCons_ok l1 rfl)) rfl rfl hc rfl
  unfold fs__law_draw
  rw [fBody_rt (r := .fro (.int v)) (e := E (t + 1)) (by
    unfold m__law_draw
    show sSeq _ _ (E t) = _
    rw [sSeq_nx s1]
    exact sRet_ok cl)]
  rfl
/-! ### pick -/
theorem pick_ok (ns : List Int) (hz : ns.length ≤ 1000) (t : Nat) (ht : t ≤ 10000) (ds : List D) (hd : 0 < ds.length) : ∃ v : Nat, v < ds.length ∧ fs__law_pick [.lst (ns.map D.int), town t, .lst ds] = .ok (ds.getD v .non) [town (t + 1)] := by
  obtain ⟨v, hv, hc⟩ := draw_ok ns hz t ht ds.length hd
  refine ⟨v, hv, ?_⟩
  let E (t : Nat) : En := [.fro (.lst (ns.map D.int)), .bor (town t), .fro (.lst ds)]
  have l1 : mB dLen (aCons (mVar 2) aNil) (E t) = .ok (.fro (.int (ds.length : Int))) (E t) := mB_ok (k := false) rfl rfl rfl
  have cl : mCall fs__law_draw [false, true, false] false (aCons (mVar 0) (aCons (mVar 1) (aCons (mB dLen (aCons (mVar 2) aNil)) aNil))) (E t) = .ok (.fro (.int v)) (E (t + 1)) := mCall_ok (fresh := false) (aCons_ok rfl (aCons_ok rfl (aCons_ok l1 rfl))) rfl rfl hc rfl
  have ix : m2 dIx (mVar 2) (mCall fs__law_draw [false, true, false] false (aCons (mVar 0) (aCons (mVar 1) (aCons (mB dLen (aCons (mVar 2) aNil)) aNil)))) (E t) = .ok (.fro (ds.getD v .non)) (E (t + 1)) := m2_ok (k := false) rfl cl rfl rfl (ix_nat (by rw [List.getD_eq_getElem?_getD, List.getElem?_eq_getElem hv]; rfl))
  unfold fs__law_pick
  rw [fBody_rt (r := .fro (ds.getD v .non)) (e := E (t + 1)) (by
    unfold m__law_pick
    exact sRet_ok ix)]
  rfl
/-! ### the grid, by the kernel -/
def lstOf : FR → List D
  | .ok (.lst ds) _ => ds
  | _ => []
def PLs (n : Nat) : List D := lstOf (fs_point_list [.int n])
def TRs (n : Nat) : List D := lstOf (fs_triangle_list [.int n])
def inTab (ps : List D) (p : D) : Bool := match keyOf p with
  | some k => (idxK k ps 0).isSome
  | none => false
def isTr (ps : List D) : D → Bool
  | .tup [p, q, r] => inTab ps p && inTab ps q && inTab ps r
  | _ => false
structure Nok (n : Nat) (PL TR : List D) : Prop where
  pl : fs_point_list [.int n] = .ok (.lst PL) []
  lp : fs__law_places [.int n] = .ok (.lst PL) []
  tr : fs_triangle_list [.int n] = .ok (.lst TR) []
  lc : fs__law_cells [.int n] = .ok (.lst TR) []
  keys : keysOk PL = true
  pts : PL.all isPt = true
  trs : TR.all (isTr PL) = true
  okp : okq (.lst PL) = true
  okt : okq (.lst TR) = true
  len : PL.length = (n + 1) * (n + 2) / 2
  lent : (decide (TR.length ≤ szl)) = true
  chk : fs_check_size [.int n] = .ok .non []
  small : (decide (n ≤ 6)) = true
set_option maxHeartbeats 0 in
theorem nok1 : Nok 1 (PLs 1) (TRs 1) := ⟨by kernel_rfl, by kernel_rfl, by kernel_rfl, by kernel_rfl, by kernel_rfl, by kernel_rfl, by kernel_rfl, by kernel_rfl, by kernel_rfl, by kernel_rfl, by kernel_rfl, by kernel_rfl, by kernel_rfl⟩
set_option maxHeartbeats 0 in
theorem nok2 : Nok 2 (PLs 2) (TRs 2) := ⟨by kernel_rfl, by kernel_rfl, by kernel_rfl, by kernel_rfl, by kernel_rfl, by kernel_rfl, by kernel_rfl, by kernel_rfl, by kernel_rfl, by kernel_rfl, by kernel_rfl, by kernel_rfl, by kernel_rfl⟩
set_option maxHeartbeats 0 in
theorem nok3 : Nok 3 (PLs 3) (TRs 3) := ⟨by kernel_rfl, by kernel_rfl, by kernel_rfl, by kernel_rfl, by kernel_rfl, by kernel_rfl, by kernel_rfl, by kernel_rfl, by kernel_rfl, by kernel_rfl, by kernel_rfl, by kernel_rfl, by kernel_rfl⟩
set_option maxHeartbeats 0 in
theorem nok4 : Nok 4 (PLs 4) (TRs 4) := ⟨by kernel_rfl, by kernel_rfl, by kernel_rfl, by kernel_rfl, by kernel_rfl, by kernel_rfl, by kernel_rfl, by kernel_rfl, by kernel_rfl, by kernel_rfl, by kernel_rfl, by kernel_rfl, by kernel_rfl⟩
set_option maxHeartbeats 0 in
theorem nok5 : Nok 5 (PLs 5) (TRs 5) := ⟨by kernel_rfl, by kernel_rfl, by kernel_rfl, by kernel_rfl, by kernel_rfl, by kernel_rfl, by kernel_rfl, by kernel_rfl, by kernel_rfl, by kernel_rfl, by kernel_rfl, by kernel_rfl, by kernel_rfl⟩
set_option maxHeartbeats 0 in
theorem nok6 : Nok 6 (PLs 6) (TRs 6) := ⟨by kernel_rfl, by kernel_rfl, by kernel_rfl, by kernel_rfl, by kernel_rfl, by kernel_rfl, by kernel_rfl, by kernel_rfl, by kernel_rfl, by kernel_rfl, by kernel_rfl, by kernel_rfl, by kernel_rfl⟩
theorem nok_all : ∀ v : Nat, v < 6 → Nok (v + 1) (PLs (v + 1)) (TRs (v + 1))
  | 0, _ => nok1
  | 1, _ => nok2
  | 2, _ => nok3
  | 3, _ => nok4
  | 4, _ => nok5
  | 5, _ => nok6
  | v + 6, h => absurd h (by omega)
/-! ### is_integer, valid_labels -/
def inB : D → Bool
  | .int i => decide (0 ≤ i) && decide (i ≤ 2)
  | _ => false
def simp1 : D → Bool
  | .int _ => true
  | .bl _ => true
  | .str _ => true
  | _ => false
theorem int_ok (d : D) (h : simp1 d = true) : fs_is_integer [d, .int 0, .int 2] = .ok (.bl (inB d)) [] := by
  cases d with
  | int i =>
    have e : m_is_integer [.fro (.int i), .fro (.int 0), .fro (.int 2)] = .rt (.fro (.bl (inB (.int i)))) [.fro (.int i), .fro (.int 0), .fro (.int 2)] := by
      have c : mCh dLe dLe (mVar 1) (mVar 0) (mVar 2) [.fro (.int i), .fro (.int 0), .fro (.int 2)] = .ok (.fro (.bl (inB (.int i)))) [.fro (.int i), .fro (.int 0), .fro (.int 2)] := by
        show (match (some (false, D.bl (decide ((0 : Int) ≤ i))) : Option (Bool × D)) with
          | some (false, .bl true) => _
          | some (false, .bl false) => ER.ok (.fro (.bl false)) [.fro (.int i), .fro (.int 0), .fro (.int 2)]
          | _ => .stuck) = _
        have e2 : inB (.int i) = (decide ((0 : Int) ≤ i) && decide (i ≤ 2)) := rfl
        rw [e2]
        cases h0 : decide ((0 : Int) ≤ i) with
        | false => rfl
        | true => rfl
      unfold m_is_integer
      refine sRet_ok ?_
      exact c
    unfold fs_is_integer
    rw [fBody_rt (by exact e)]
    rfl
  | bl b => rfl
  | str x => rfl
  | _ => cases h
theorem valid_ok (n : Nat) (hn : n ≤ 6) (row : List D) (hr : ∀ d ∈ row, simp1 d = true) (hz : row.length ≤ 1000) : fs_valid_labels [.int n, .tup row] = .ok (.bl (decide (row.length = (n + 1) * (n + 2) / 2) && row.all inB)) [] := by
  let E : En := [.fro (.int n), .fro (.tup row), .no]
  have cnd : (tmOr (tmNot (tmV (mB dIsi (aCons (mVar 1) (aCons (mGl (.opq (.ty "tuple"))) aNil))))) (tmV (m2 dNe (mB dLen (aCons (mVar 1) aNil)) (m2 dDiv (m2 dMul (m2 dAdd (mVar 0) (mC (.int 1))) (m2 dAdd (mVar 0) (mC (.int 2)))) (mC (.int 2)))))) E = .ok (!decide (row.length = (n + 1) * (n + 2) / 2)) E := by
    have a1 : mB dLen (aCons (mVar 1) aNil) E = .ok (.fro (.int (row.length : Int))) E := mB_ok (k := false) rfl rfl rfl
    have a2 : m2 dMul (m2 dAdd (mVar 0) (mC (.int 1))) (m2 dAdd (mVar 0) (mC (.int 2))) E = .ok (.fro (.int (((n + 1) * (n + 2) : Nat) : Int))) E := by
      refine m2_ok (k := false) (m2_ok (k := false) (d := .int ((n : Int) + 1)) rfl rfl rfl rfl rfl) (m2_ok (k := false) (d := .int ((n : Int) + 2)) rfl rfl rfl rfl rfl) rfl rfl ?_
      have hs : smallI ((n : Int) + 1) = true := decide_eq_true (by omega)
      show (if smallI ((n : Int) + 1) || smallI ((n : Int) + 2) then some (false, D.int (((n : Int) + 1) * ((n : Int) + 2))) else none) = _
      rw [hs]
      rfl
    have a3 : m2 dDiv (m2 dMul (m2 dAdd (mVar 0) (mC (.int 1))) (m2 dAdd (mVar 0) (mC (.int 2)))) (mC (.int 2)) E = .ok (.fro (.int (((n + 1) * (n + 2) / 2 : Nat) : Int))) E := m2_ok (k := false) a2 rfl rfl rfl rfl
    have a4 : m2 dNe (mB dLen (aCons (mVar 1) aNil)) (m2 dDiv (m2 dMul (m2 dAdd (mVar 0) (mC (.int 1))) (m2 dAdd (mVar 0) (mC (.int 2)))) (mC (.int 2))) E = .ok (.fro (.bl (!decide (row.length = (n + 1) * (n + 2) / 2)))) E := by
      refine m2_ok (k := false) a1 a3 rfl rfl ?_
      show some (false, D.bl (!((row.length : Int) == (((n + 1) * (n + 2) / 2 : Nat) : Int)))) = _
      have hK : ∀ a b : Nat, ((a : Int) == (b : Int)) = decide (a = b) := fun a b => by
        rw [Bool.eq_iff_iff]
        simp
        omega
      rw [hK]
    exact tmV_ok a4 rfl
  unfold fs_valid_labels
  by_cases hl : row.length = (n + 1) * (n + 2) / 2
  · rw [decide_eq_true hl] at cnd ⊢
    have lp : mLc [2] (iSeq (mVar 1)) (gN 2) tmYes (mCall fs_is_integer [false, false, false] false (aCons (mVar 2) (aCons (mC (.int 0)) (aCons (mC (.int 2)) aNil)))) E = .ok (.tmp (.lst (row.map fun d => .bl (inB d)))) E := by
      have lc := loopC_pure (vs := [2]) (g := gN 2) (t := tmYes) (m := mCall fs_is_integer [false, false, false] false (aCons (mVar 2) (aCons (mC (.int 0)) (aCons (mC (.int 2)) aNil)))) (env := E) (fun _ => true) (fun d => .bl (inB d)) row fun d hd => ⟨[.fro (.int n), .fro (.tup row), .fro d], _, rfl, rfl, (fun h => by cases h), fun _ => ⟨_, _, _, mCall_ok (fresh := false) rfl rfl rfl (int_ok d (hr d hd)) rfl, rfl, rfl⟩⟩
      rw [show row.filter (fun _ => true) = row from List.filter_eq_self.mpr fun _ _ => rfl] at lc
      exact mLc_ok (e1 := E) rfl lc (by rw [List.length_map]; unfold szl; omega)
    have bs : boolsD (row.map fun d => D.bl (inB d)) = some (row.map inB) := by
      clear lp hr hz hl cnd
      induction row with
      | nil => rfl
      | cons d row ih =>
        show (match boolsD (row.map fun d => D.bl (inB d)) with
          | some is => some (inB d :: is)
          | none => none) = _
        rw [ih]
        rfl
    have al : mB dAll (aCons (mLc [2] (iSeq (mVar 1)) (gN 2) tmYes (mCall fs_is_integer [false, false, false] false (aCons (mVar 2) (aCons (mC (.int 0)) (aCons (mC (.int 2)) aNil))))) aNil) E = .ok (.fro (.bl (row.all inB))) E := by
      refine mB_ok (k := false) (aCons_ok lp rfl) rfl ?_
      show (boolsD (row.map fun d => D.bl (inB d))).map (fun is => (false, D.bl (is.all id))) = _
      rw [bs]
      show some (false, D.bl ((row.map inB).all id)) = _
      rw [List.all_map]
      rfl
    rw [fBody_rt (r := .fro (.bl (row.all inB))) (e := E) (by
      unfold m_valid_labels
      show sSeq _ _ E = _
      rw [sSeq_nx (show sIf _ _ _ E = .nx E by rw [sIf_f cnd]; rfl)]
      exact sRet_ok al)]
    rw [Bool.true_and]
    rfl
  · rw [decide_eq_false hl] at cnd ⊢
    rw [fBody_rt (r := .fro (.bl false)) (e := E) (by
      unfold m_valid_labels
      show sSeq _ _ E = _
      refine sSeq_rt ?_
      rw [sIf_t cnd]
      rfl)]
    rfl
/-! ### tables -/
/-- what stands at the place of a point -/
theorem tab_at {ps vs : List D} {p : D} (hl : vs.length = ps.length) (h : inTab ps p = true) : ∃ i, i < vs.length ∧ ∀ v, vs[i]? = some v → dIx (.dct (ps.zip vs)) p = some (false, v) := by
  unfold inTab at h
  cases hk : keyOf p with
  | none => rw [hk] at h; cases h
  | some k =>
    rw [hk] at h
    simp only at h
    cases hi : idxK k ps 0 with
    | none => rw [hi] at h; cases h
    | some j =>
      obtain ⟨_, e⟩ := lookK_zip k ps vs 0 j hl hi
      have hj : j < vs.length := by
        have gen : ∀ (ps : List D) (i j : Nat), idxK k ps i = some j → j < i + ps.length := by
          intro ps
          induction ps with
          | nil => intro i j h; cases h
          | cons p ps ih =>
            intro i j h
            unfold idxK at h
            cases e : p.nk with
            | none =>
              rw [e] at h
              have := ih _ _ h
              simp
              omega
            | some k' =>
              rw [e] at h
              simp only at h
              split at h
              · cases h; simp
              · have := ih _ _ h
                simp
                omega
        have := gen ps 0 j hi
        omega
      refine ⟨j, hj, fun v hv => ?_⟩
      show (match keyOf p with
        | some k => (lookK k (ps.zip vs)).map fun d => (false, d)
        | none => none) = _
      rw [hk]
      simp only
      rw [e, Nat.sub_zero, hv]
      rfl
section
variable {n : Nat} {PL TR : List D} (N : Nok n PL TR)
include N
theorem table_ok (row : List D) (hl : row.length = PL.length) : fs_table_of [.int n, .tup row] = .ok (.dct (PL.zip row)) [] := by
  let E : En := [.fro (.int n), .fro (.tup row)]
  have hs := of_decide_eq_true N.small
  have hlen : PL.length ≤ 100 := by
    rw [N.len]
    have : (n + 1) * (n + 2) ≤ 7 * 8 := Nat.mul_le_mul (by omega) (by omega)
    omega
  have pl : mCall fs_point_list [false] false (aCons (mVar 0) aNil) E = .ok (.fro (.lst PL)) E := mCall_ok (fresh := false) rfl rfl rfl N.pl rfl
  have bk := buildK_zip PL row [] hl N.keys fun p hp x hx => nomatch hx
  rw [List.nil_append] at bk
  have dz : mDz (aCons (mCall fs_point_list [false] false (aCons (mVar 0) aNil)) (aCons (mVar 1) aNil)) E = .ok (.tmp (.dct (PL.zip row))) E :=
    mDz_ok (aCons_ok (t := aCons (mVar 1) aNil) (rs := [.fro (.tup row)]) (e2 := E) pl rfl) rfl rfl rfl bk ⟨szl_big (by rw [List.length_zip]; omega), szl_big (by omega)⟩
  unfold fs_table_of
  rw [fBody_rt (r := .tmp (.dct (PL.zip row))) (e := E) (by unfold m_table_of; exact sRet_ok dz)]
  rfl
theorem point_okS (r : D) (row : List D) (hr : seqL r = some row) (hl : row.length = PL.length) : fs__law_by_point [.int n, r] = .ok (.dct (PL.zip row)) [] := by
  have hs := of_decide_eq_true N.small
  have hlen : PL.length ≤ 100 := by
    rw [N.len]
    have : (n + 1) * (n + 2) ≤ 7 * 8 := Nat.mul_le_mul (by omega) (by omega)
    omega
  let E (kvs : List (D × D)) (x y : SV) : En := [.fro (.int n), .fro r, .own (.dct kvs), x, y]
  have pl : mCall fs__law_places [false] false (aCons (mVar 0) aNil) (E [] .no .no) = .ok (.fro (.lst PL)) (E [] .no .no) := mCall_ok (fresh := false) rfl rfl rfl N.lp rfl
  have it : iZip (aCons (mCall fs__law_places [false] false (aCons (mVar 0) aNil)) (aCons (mVar 1) aNil)) (E [] .no .no) = .ok (zipD PL row) (E [] .no .no) := by
    exact iZip_ok (aCons_ok (t := aCons (mVar 1) aNil) (rs := [.fro r]) (e2 := E [] .no .no) pl rfl) rfl rfl hr
  -- the loop: each point once
  have lp : ∀ (ps vs : List D) (acc : List (D × D)) (x y : SV), vs.length = ps.length → keysOk ps = true → (∀ p ∈ ps, ∀ x ∈ acc, ∀ k, p.nk = some k → x.1.nk ≠ some k) → acc.length + ps.length ≤ 1000 → (∀ d, x ≠ .bor d) → (∀ d, y ≠ .bor d) →
      ∃ x' y', loopF (gT [3, 4]) (sPut (mVar 4) (mVar 2) (mVar 3)) (zipD ps vs) (E acc x y) = .nx (E (acc ++ ps.zip vs) x' y') := by
    intro ps
    induction ps with
    | nil =>
      intro vs acc x y h _ _ _ _ _
      cases vs with
      | nil => exact ⟨x, y, by simp [zipD, loopF]⟩
      | cons _ _ => simp at h
    | cons p ps ih =>
      intro vs acc x y h hk ha hz hx hy
      cases vs with
      | nil => simp at h
      | cons v vs =>
        obtain ⟨k, h1, h2, h3⟩ := keysOk_cons hk
        obtain ⟨n1, _⟩ := keyOf_ok h1
        have st : storeD (.dct acc) p v = some (.dct (acc ++ [(p, v)])) := store_new h1 (fun x hx => ha p (by simp) x hx k n1) (szl_big' (by simp at hz; omega))
        obtain ⟨x', y', ih'⟩ := ih vs (acc ++ [(p, v)]) (.fro p) (.fro v) (by simpa using h) h3 (fun q hq z hz k' hk' => by
          rcases List.mem_append.mp hz with hz | hz
          · exact ha q (List.mem_cons_of_mem _ hq) z hz k' hk'
          · have ez : z = (p, v) := by simpa using hz
            subst ez
            intro w
            rw [n1] at w
            cases w
            exact h2 q hq hk') (by simp at hz ⊢; omega) (fun d z => by cases z) (fun d z => by cases z)
        refine ⟨x', y', ?_⟩
        rw [List.append_assoc] at ih'
        show loopF (gT [3, 4]) _ (D.tup [p, v] :: zipD ps vs) (E acc x y) = _
        have g : gT [3, 4] (D.tup [p, v]) (E acc x y) = some (E acc (.fro p) (.fro v)) := by
          cases x with
          | bor d => exact absurd rfl (hx d)
          | _ => cases y with
            | bor d => exact absurd rfl (hy d)
            | _ => rfl
        unfold loopF
        rw [g]
        simp only
        have b : sPut (mVar 4) (mVar 2) (mVar 3) (E acc (.fro p) (.fro v)) = .nx (E (acc ++ [(p, v)]) (.fro p) (.fro v)) := sPut_ok (r := .fro v) (i := 2) rfl rfl rfl rfl rfl st
        rw [b]
        exact ih'
  obtain ⟨x', y', lpe⟩ := lp PL row [] .no .no hl N.keys (fun p hp x hx => nomatch hx) (by simp; omega) (fun d z => by cases z) (fun d z => by cases z)
  rw [List.nil_append] at lpe
  unfold fs__law_by_point
  rw [fBody_rt (r := .slot 2) (e := E (PL.zip row) x' y') (by
    unfold m__law_by_point
    rw [sSeq_nx (show sSet 2 mDct0 _ = .nx (E [] .no .no) from rfl), sSeq_nx (sFor_ok it lpe)]
    rfl)]
  rfl
theorem point_ok (row : List D) (hl : row.length = PL.length) : fs__law_by_point [.int n, .tup row] = .ok (.dct (PL.zip row)) [] := point_okS N (.tup row) row rfl hl

end
end GP
end
section
namespace Lk14
open Gr GP PySem
local macro_rules | `(tactic| walk_at "gs") => `(tactic| simp only [q_seq, q_nx, q_rt, q_bk, q_ct, q_ex, q_nil, q_brk, q_cnt, q_retN, q_raise, q_putS, q_expr, q_expr1, q_expr2, q_ret, q_ret1, q_ret2, q_set, q_set1, q_set2, q_if, q_if1, q_if2, q_if3, q_asg, q_asg1, q_asg2, q_asg3, q_par, q_par1, q_par2, q_par3, q_aug, q_aug1, q_aug2, q_aug3, q_for, q_for1, q_for2, q_put, q_put1, q_put2, q_put3, q_put4, q_put5, q_put6, q_put7, q_lf0, q_lf1, q_fG, q_fN1, q_fN2, q_fN3, q_fN4, q_fN5, q_pRf, q_pRt, q_pRs, q_pSl, q_pF, q_pO, q_pFn, q_pOn, q_pFf, q_pOf, q_pFo, q_pOo, q_pFb, q_pOb, q_nbn, q_nbf, q_nbo, q_var, q_var1, q_var2, q_var3, q_c, q_gl, q_non, q_2, q_2a, q_2b, q_2c, q_2x, q_2y, q_1, q_1a, q_1b, q_B, q_Ba, q_Bb, q_Bx, q_out, q_mkf, q_mkt, q_call, q_call1, q_call1x, q_call2, q_call3, q_call4, q_call4x, q_call5, q_call6, q_aN, q_aC, q_aC1, q_aC2, q_aC3, q_aC4, q_tup, q_tup1, q_tup1x, q_lst, q_lst1, q_lst1x, q_tup2, q_lst2, q_mif, q_mif1, q_mif2, q_and, q_and1, q_and2, q_and3, q_or, q_or1, q_or2, q_or3, q_not, q_not1, q_not2, q_ch, q_ch1, q_ch2, q_ch3, q_ch4, q_ch5, q_ch6, q_ch7, q_ch8, q_sl, q_sl0, q_slA, q_slA1, q_slA2, q_slL, q_slB, q_slB1, q_slB2, q_slH, q_slC, q_mu, q_mu0, q_mu1, q_mu2, q_mu3, q_mu4, q_mu5, q_mu6, q_mu7, q_mu8, q_mux, q_app, q_ext, q_pop, q_fApp, q_isL, q_rm, q_rmA, q_rm0, q_rm1, q_rm2, q_rm3, q_rm4, q_nt1, q_nt2, q_get, q_getA, q_get0, q_rep, q_rep0, q_repA, q_repB, q_dc0, q_dc1, q_dc1A, q_dc1B, q_tV, q_tV1, q_tV2, q_tVx, q_tN, q_tN1, q_tNx, q_tA, q_tA1, q_tA2, q_tO, q_tO1, q_tO2, q_tY, q_iS, q_iS1, q_iS2, q_iS3, q_iSx, q_iR, q_iR1, q_iR2, q_iZ, q_iZ1, q_iZ2, q_iZ3, q_iE, q_iE1, q_iE2, q_lc, q_lc1, q_outC, q_lC0, q_lC1, q_lcA, q_lcB1, q_lcB2, q_lcC, q_lcD, q_lcE, q_se1, q_se2, q_se3, q_ta1, q_ta2, q_ta3, q_ta4, q_sN, q_sC, q_sA, q_sB, q_tkN, q_tkC, q_tkA, q_tkB, q_tMN, q_tMf, q_tMt, q_tMA, q_tMB, q_lN, q_lS, q_lB0, q_lB, q_lA, q_bN, q_bf, q_bt, q_co, q_cb, q_po, q_pb, q_gN, q_gT, q_gL0, q_gL1, q_gLs, q_st0, q_stf, q_stt, q_sts, q_stA, q_stB, q_pu0, q_puf, q_put_, q_pusA, q_wN, q_wC, q_uN, q_uC, q_fin1, q_fin2, q_fin3, q_exE, q_fR, q_fA, q_fB, q_fRt, q_bo0, q_bof, q_bot, q_boA, q_fBody, o_add, o_sub, o_neg, o_lt, o_le, o_gt, o_ge, o_eqI, o_neI, o_eqB, o_neB, o_lenL, o_lenT, o_tupL, o_tupT, o_lstL, o_lstT, o_sqL, o_sqT, o_slL, o_slT, o_sqD, List.getElem?_cons_zero, List.getElem?_cons_succ, List.set_cons_zero, List.set_cons_succ, List.modify_zero_cons, List.modify_succ_cons, List.getD_cons_zero, List.getD_cons_succ, Option.bind_some, List.length_cons, List.length_nil, List.length_map, List.length_append, initE, List.zipWith_cons_cons, List.zipWith_nil_left, List.zipWith_nil_right, List.replicate_succ, List.replicate_zero, List.cons_append, List.nil_append, Nat.reduceSub, Nat.reduceAdd, reduceIte, Bool.false_eq_true, Bool.not_true, Bool.not_false, szl_big, szl_big', Nat.reduceLeDiff, List.contains_nil, List.contains_cons, Bool.or_false, Bool.true_and, Bool.false_and, Nat.reduceBEq, List.map_cons, List.map_nil, *])

def isYes : SR → Bool
  | .rt (.fro (.bl true)) _ => true
  | _ => false
theorem isYes_get {r : SR} (h : isYes r = true) : ∃ e, r = .rt (.fro (.bl true)) e := by
  unfold isYes at h
  split at h
  · exact ⟨_, rfl⟩
  · cases h
def rest : MS := sSeq law_s5 (sSeq law_s6 (sSeq law_s7 (sSeq law_s8 (sSeq law_s9 (sSeq law_s10 (sSeq law_s11 (sSeq law_s12 (sSeq law_s13 (sSeq law_s14 (sSeq law_s15 (sSeq law_s16 (sSeq law_s17 (sSeq law_s18 (sSeq law_s19 (sSeq law_s20 (sSeq law_s21 (law_s22)))))))))))))))))
abbrev E0 (S : D) (n : Int) : En := [.fro S, .own (town 1), .fro (.int n), .no, .no, .no, .no, .no, .no, .no, .no, .no, .no, .no, .no, .no, .no, .no]
abbrev E3 (S : D) (n : Nat) : En := [.fro S, .own (town 1), .fro (.int n), .fro (.lst (PLs n)), .no, .no, .no, .no, .no, .no, .no, .no, .no, .no, .no, .no, .no, .no]
abbrev E4 (S : D) (n : Nat) (l : Nat) : En := [.fro S, .own (town 2), .fro (.int n), .fro (.lst (PLs n)), .fro (.int l), .no, .no, .no, .no, .no, .no, .no, .no, .no, .no, .no, .no, .no]
def ptsB (n : Nat) : Bool := match fs_points [.int n] with
  | .ok (.lst _) [] => true
  | _ => false
theorem p2 : fs_points [.int ((0 + 2 : Nat) : Int)] = .ok (.lst (PLs (0 + 2))) [] := by kernel_rfl
theorem p3 : fs_points [.int ((0 + 3 : Nat) : Int)] = .ok (.lst (PLs (0 + 3))) [] := by kernel_rfl
theorem p4 : fs_points [.int ((0 + 4 : Nat) : Int)] = .ok (.lst (PLs (0 + 4))) [] := by kernel_rfl
theorem p5 : fs_points [.int ((0 + 5 : Nat) : Int)] = .ok (.lst (PLs (0 + 5))) [] := by kernel_rfl
theorem p6 : fs_points [.int ((0 + 6 : Nat) : Int)] = .ok (.lst (PLs (0 + 6))) [] := by kernel_rfl
set_option maxHeartbeats 0 in
theorem r20 (S : D) : isYes (rest (E4 S 2 0)) = true := by kernel_rfl
set_option maxHeartbeats 0 in
theorem r21 (S : D) : isYes (rest (E4 S 2 1)) = true := by kernel_rfl
set_option maxHeartbeats 0 in
theorem r22 (S : D) : isYes (rest (E4 S 2 2)) = true := by kernel_rfl
set_option maxHeartbeats 0 in
theorem r30 (S : D) : isYes (rest (E4 S 3 0)) = true := by kernel_rfl
set_option maxHeartbeats 0 in
theorem r31 (S : D) : isYes (rest (E4 S 3 1)) = true := by kernel_rfl
set_option maxHeartbeats 0 in
theorem r32 (S : D) : isYes (rest (E4 S 3 2)) = true := by kernel_rfl
set_option maxHeartbeats 0 in
theorem r40 (S : D) : isYes (rest (E4 S 4 0)) = true := by kernel_rfl
set_option maxHeartbeats 0 in
theorem r41 (S : D) : isYes (rest (E4 S 4 1)) = true := by kernel_rfl
set_option maxHeartbeats 0 in
theorem r42 (S : D) : isYes (rest (E4 S 4 2)) = true := by kernel_rfl
set_option maxHeartbeats 0 in
theorem r50 (S : D) : isYes (rest (E4 S 5 0)) = true := by kernel_rfl
set_option maxHeartbeats 0 in
theorem r51 (S : D) : isYes (rest (E4 S 5 1)) = true := by kernel_rfl
set_option maxHeartbeats 0 in
theorem r52 (S : D) : isYes (rest (E4 S 5 2)) = true := by kernel_rfl
set_option maxHeartbeats 0 in
theorem r60 (S : D) : isYes (rest (E4 S 6 0)) = true := by kernel_rfl
set_option maxHeartbeats 0 in
theorem r61 (S : D) : isYes (rest (E4 S 6 1)) = true := by kernel_rfl
set_option maxHeartbeats 0 in
theorem r62 (S : D) : isYes (rest (E4 S 6 2)) = true := by kernel_rfl
theorem r_all (S : D) : ∀ v l : Nat, v < 5 → l < 3 → isYes (rest (E4 S (v + 2) l)) = true
  | 0, 0, _, _ => r20 S
  | 0, 1, _, _ => r21 S
  | 0, 2, _, _ => r22 S
  | 1, 0, _, _ => r30 S
  | 1, 1, _, _ => r31 S
  | 1, 2, _, _ => r32 S
  | 2, 0, _, _ => r40 S
  | 2, 1, _, _ => r41 S
  | 2, 2, _, _ => r42 S
  | 3, 0, _, _ => r50 S
  | 3, 1, _, _ => r51 S
  | 3, 2, _, _ => r52 S
  | 4, 0, _, _ => r60 S
  | 4, 1, _, _ => r61 S
  | 4, 2, _, _ => r62 S
  | v + 5, _, h, _ => absurd h (by omega)
  | 0, l + 3, _, h => absurd h (by omega)
  | 1, l + 3, _, h => absurd h (by omega)
  | 2, l + 3, _, h => absurd h (by omega)
  | 3, l + 3, _, h => absurd h (by omega)
  | 4, l + 3, _, h => absurd h (by omega)
theorem p_all : ∀ v : Nat, v < 5 → fs_points [.int ((v + 2 : Nat) : Int)] = .ok (.lst (PLs (v + 2))) []
  | 0, _ => p2
  | 1, _ => p3
  | 2, _ => p4
  | 3, _ => p5
  | 4, _ => p6
  | v + 5, h => absurd h (by omega)
theorem good : Good := fun ns hl _ => by
  have hz : ns.length ≤ 1000 := by omega
  obtain ⟨v, hv, hd⟩ := draw_ok ns hz 0 (by decide) 5 (by decide)
  obtain ⟨l, hl2, hd2⟩ := draw_ok ns hz 1 (by decide) 3 (by decide)
  generalize D.lst (ns.map D.int) = S at *
  obtain ⟨e, h⟩ := isYes_get (r_all S v l hv hl2)
  have pe := p_all v hv
  unfold rest at h
  refine fBody_yes ?_
  unfold m_law
  have s1 : law_s1 (initE 18 [false] [S]) = .nx [.fro S, .own (town 0), .no, .no, .no, .no, .no, .no, .no, .no, .no, .no, .no, .no, .no, .no, .no, .no] := rfl
  have hd : fs__law_draw [S, town 0, .int 5] = .ok (.int v) [town 1] := hd
  have hd2 : fs__law_draw [S, town 1, .int 3] = .ok (.int l) [town 2] := hd2
  have en : (2 + (v : Int)) = ((v + 2 : Nat) : Int) := by omega
  have s2 : law_s2 [.fro S, .own (town 0), .no, .no, .no, .no, .no, .no, .no, .no, .no, .no, .no, .no, .no, .no, .no, .no] = .nx (E0 S (v + 2 : Nat)) := by
    clear h
    unfold law_s2
    walk_at "gs"
  have s3 : law_s3 (E0 S (v + 2 : Nat)) = .nx (E3 S (v + 2)) := by
    clear h
    show law_s3 (E0 S (v + 2 : Nat)) = .nx [.fro S, .own (town 1), .fro (.int ((v + 2 : Nat) : Int)), .fro (.lst (PLs (v + 2))), .no, .no, .no, .no, .no, .no, .no, .no, .no, .no, .no, .no, .no, .no]
    unfold law_s3
    generalize PLs (v + 2) = L at *
    walk_at "gs"
  have s4 : law_s4 (E3 S (v + 2)) = .nx (E4 S (v + 2) l) := by
    clear h
    show law_s4 [.fro S, .own (town 1), .fro (.int ((v + 2 : Nat) : Int)), .fro (.lst (PLs (v + 2))), .no, .no, .no, .no, .no, .no, .no, .no, .no, .no, .no, .no, .no, .no] = .nx [.fro S, .own (town 2), .fro (.int ((v + 2 : Nat) : Int)), .fro (.lst (PLs (v + 2))), .fro (.int l), .no, .no, .no, .no, .no, .no, .no, .no, .no, .no, .no, .no, .no]
    unfold law_s4
    generalize PLs (v + 2) = L at *
    walk_at "gs"
  rw [sSeq_nx s1, sSeq_nx s2, sSeq_nx s3, sSeq_nx s4, h]
  rfl
end Lk14
end
open PySem PySem.W PyProof.Rows
set_option maxHeartbeats 0 in
theorem PySem.Challenge.cw_labelgrids_k14_whole_known_grids_holds : PySem.Challenge.rw_labelgrids_k14_whole_known_grids.Holds := by
  w_on; o_law; k_head; (case hw => w_witness2)
  k_fill
  refine Gr.walk_grE (l := PySem.Challenge.rw_labelgrids_k14_whole_known_grids) (n := 63) (k := 6) (x := "_law_script") (fs := Lk14.fs_law) rfl (by decide) rfl ⟨rfl, by decide, by decide⟩ (fun w h Y => PySem.W.kIn_of Y) ?F Lk14.good
  case F =>
    intro w mg fa h KX G hmg
    refine' Lk14.all_of (Lk14.fx_mk KX G ?a0 ?l0 ?c0 ?k0 ?a1 ?l1 ?c1 ?k1 ?a2 ?l2 ?c2 ?k2 ?a3 ?l3 ?c3 ?k3 ?a4 ?l4 ?c4 ?k4 ?a5 ?l5 ?c5 ?k5 ?a6 ?l6 ?c6 ?k6 ?a7 ?l7 ?c7 ?k7 ?a8 ?l8 ?c8 ?k8 ?a9 ?l9 ?c9 ?k9 ?a10 ?l10 ?c10 ?k10 ?a11 ?l11 ?c11 ?k11 ?a12 ?l12 ?c12 ?k12 ?a13 ?l13 ?c13 ?k13 ?a14 ?l14 ?c14 ?k14 ?a15 ?l15 ?c15 ?k15 ?a16 ?l16 ?c16 ?k16 ?a17 ?l17 ?c17 ?k17 ?a18 ?l18 ?c18 ?k18 ?a19 ?l19 ?c19 ?k19 ?a20 ?l20 ?c20 ?k20 ?a21 ?l21 ?c21 ?k21 ?a22 ?l22 ?c22 ?k22 ?a23 ?l23 ?c23 ?k23 ?a24 ?l24 ?c24 ?k24 ?a25 ?l25 ?c25 ?k25 ?a26 ?l26 ?c26 ?k26 ?a27 ?l27 ?c27 ?k27 ?a28 ?l28 ?c28 ?k28 ?a29 ?l29 ?c29 ?k29 ?a30 ?l30 ?c30 ?k30 ?a31 ?l31 ?c31 ?k31 ?a32 ?l32 ?c32 ?k32 ?a33 ?l33 ?c33 ?k33 ?a34 ?l34 ?c34 ?k34 ?a35 ?l35 ?c35 ?k35 ?a36 ?l36 ?c36 ?k36 ?a37 ?l37 ?c37 ?k37 ?a38 ?l38 ?c38 ?k38 ?a39 ?l39 ?c39 ?k39 ?a40 ?l40 ?c40 ?k40 ?a41 ?l41 ?c41 ?k41 ?a42 ?l42 ?c42 ?k42 ?a43 ?l43 ?c43 ?k43 ?a44 ?l44 ?c44 ?k44 ?a45 ?l45 ?c45 ?k45 ?a46 ?l46 ?c46 ?k46 ?a47 ?l47 ?c47 ?k47 ?aSSTEPS ?lSSTEPS_0 ?lSSTEPS_1 ?lSSTEPS_2 ?lSSTEPS_3 ?lSSTEPS_4 ?lSSTEPS_5 ?lSSTEPS ?z_all ?z_any ?z_bool ?z_dict ?z_int ?z_isinstance ?z_len ?z_list ?z_min ?z_range ?z_sorted ?z_sum ?z_tuple ?z_zip ?hx0 ?hx2 ?hx3 ?hx4 ?hx6 ?hx9 ?hx10) hmg
    (case a0 => k_is); (case l0 => k_is); (case c0 => k_is); (case k0 => k_is); (case a1 => k_is); (case l1 => k_is); (case c1 => k_is); (case k1 => k_is); (case a2 => k_is); (case l2 => k_is); (case c2 => k_is); (case k2 => k_is); (case a3 => k_is); (case l3 => k_is); (case c3 => k_is); (case k3 => k_is); (case a4 => k_is); (case l4 => k_is); (case c4 => k_is); (case k4 => k_is); (case a5 => k_is); (case l5 => k_is); (case c5 => k_is); (case k5 => k_is); (case a6 => k_is); (case l6 => k_is); (case c6 => k_is); (case k6 => k_is); (case a7 => k_is); (case l7 => k_is); (case c7 => k_is); (case k7 => k_is); (case a8 => k_is); (case l8 => k_is); (case c8 => k_is); (case k8 => k_is); (case a9 => k_is); (case l9 => k_is); (case c9 => k_is); (case k9 => k_is); (case a10 => k_is); (case l10 => k_is); (case c10 => k_is); (case k10 => k_is); (case a11 => k_is); (case l11 => k_is); (case c11 => k_is); (case k11 => k_is); (case a12 => k_is); (case l12 => k_is); (case c12 => k_is); (case k12 => k_is); (case a13 => k_is); (case l13 => k_is); (case c13 => k_is); (case k13 => k_is); (case a14 => k_is); (case l14 => k_is); (case c14 => k_is); (case k14 => k_is); (case a15 => k_is); (case l15 => k_is); (case c15 => k_is); (case k15 => k_is); (case a16 => k_is); (case l16 => k_is); (case c16 => k_is); (case k16 => k_is); (case a17 => k_is); (case l17 => k_is); (case c17 => k_is); (case k17 => k_is); (case a18 => k_is); (case l18 => k_is); (case c18 => k_is); (case k18 => k_is); (case a19 => k_is); (case l19 => k_is); (case c19 => k_is); (case k19 => k_is); (case a20 => k_is); (case l20 => k_is); (case c20 => k_is); (case k20 => k_is); (case a21 => k_is); (case l21 => k_is); (case c21 => k_is); (case k21 => k_is); (case a22 => k_is); (case l22 => k_is); (case c22 => k_is); (case k22 => k_is); (case a23 => k_is); (case l23 => k_is); (case c23 => k_is); (case k23 => k_is); (case a24 => k_is); (case l24 => k_is); (case c24 => k_is); (case k24 => k_is); (case a25 => k_is); (case l25 => k_is); (case c25 => k_is); (case k25 => k_is); (case a26 => k_is); (case l26 => k_is); (case c26 => k_is); (case k26 => k_is); (case a27 => k_is); (case l27 => k_is); (case c27 => k_is); (case k27 => k_is); (case a28 => k_is); (case l28 => k_is); (case c28 => k_is); (case k28 => k_is); (case a29 => k_is); (case l29 => k_is); (case c29 => k_is); (case k29 => k_is); (case a30 => k_is); (case l30 => k_is); (case c30 => k_is); (case k30 => k_is); (case a31 => k_is); (case l31 => k_is); (case c31 => k_is); (case k31 => k_is); (case a32 => k_is); (case l32 => k_is); (case c32 => k_is); (case k32 => k_is); (case a33 => k_is); (case l33 => k_is); (case c33 => k_is); (case k33 => k_is); (case a34 => k_is); (case l34 => k_is); (case c34 => k_is); (case k34 => k_is); (case a35 => k_is); (case l35 => k_is); (case c35 => k_is); (case k35 => k_is); (case a36 => k_is); (case l36 => k_is); (case c36 => k_is); (case k36 => k_is); (case a37 => k_is); (case l37 => k_is); (case c37 => k_is); (case k37 => k_is); (case a38 => k_is); (case l38 => k_is); (case c38 => k_is); (case k38 => k_is); (case a39 => k_is); (case l39 => k_is); (case c39 => k_is); (case k39 => k_is); (case a40 => k_is); (case l40 => k_is); (case c40 => k_is); (case k40 => k_is); (case a41 => k_is); (case l41 => k_is); (case c41 => k_is); (case k41 => k_is); (case a42 => k_is); (case l42 => k_is); (case c42 => k_is); (case k42 => k_is); (case a43 => k_is); (case l43 => k_is); (case c43 => k_is); (case k43 => k_is); (case a44 => k_is); (case l44 => k_is); (case c44 => k_is); (case k44 => k_is); (case a45 => k_is); (case l45 => k_is); (case c45 => k_is); (case k45 => k_is); (case a46 => k_is); (case l46 => k_is); (case c46 => k_is); (case k46 => k_is); (case a47 => k_is); (case l47 => k_is); (case c47 => k_is); (case k47 => k_is); (case aSSTEPS => k_is); (case lSSTEPS => k_is); (case z_all => k_is); (case z_any => k_is); (case z_bool => k_is); (case z_dict => k_is); (case z_int => k_is); (case z_isinstance => k_is); (case z_len => k_is); (case z_list => k_is); (case z_min => k_is); (case z_range => k_is); (case z_sorted => k_is); (case z_sum => k_is); (case z_tuple => k_is); (case z_zip => k_is); (case hx0 => kernel_rfl); (case hx2 => kernel_rfl); (case hx3 => kernel_rfl); (case hx4 => kernel_rfl); (case hx6 => kernel_rfl); (case hx9 => kernel_rfl); (case hx10 => kernel_rfl); (case lSSTEPS_0 => k_is); (case lSSTEPS_1 => k_is); (case lSSTEPS_2 => k_is); (case lSSTEPS_3 => k_is); (case lSSTEPS_4 => k_is); (case lSSTEPS_5 => k_is)
