import PyProof.Rows.All
import Wide.All
import OpenK.AllK
import Wide.FinOn
import HandS.ForMost
import HandS.Wide
import HandS.Gcd
import HandS.Deep
import HandS.IsInst
import HandS.Defaults
import PyProof.ReprReads
import PySem.Challenge.RW_oddcrown_k81_marks_of_the_first_steps
import HandS.DictTup
import KE.KDictDisplayH
set_option Elab.async false
set_option linter.all false
set_option maxRecDepth 100000
set_option autoImplicit false
/-! Od: pure data over the hand layer: what an expression or a statement does to plain data (PyData), told as a partial function of the frame's slots. -/
namespace Od
open PySem PySem.Spec PyProof.Rows L2

abbrev D := PyData
/-- an object that this frame alone holds -/
inductive Ob where
  | lst (ds : List D)
  | dk (kvs : List (L2.Key × D))
  | dt (kvs : List (List L2.Key × D))
inductive EV where
  | dat (d : D)
  | own (o : Ob)
  /-- a dict that a loop walks: read, not written -/
  | lck (o : Ob)
  /-- a tuple of numbers and texts that is a key -/
  | ktp (ks : List L2.Key)
  /-- a dict that is read alone, for the time of one statement -/
  | fdt (es : List (List L2.Key × D))
abbrev En := List (Option EV)

/-! ### heaps -/
section
variable {K : PySem.W.Frag} {F F' H H' H'' F'' : Hp} {a p : Addr} {o u : HO} {σ : L2.St}
theorem sqT_same (e : Same F F') {xs : List V} (h : SqT K F a xs) : SqT K F' a xs := by
  rcases h with (h | ⟨o, h⟩) | h
  · exact .inl (.inl (e _ _ h))
  · exact .inl (.inr ⟨o, e _ _ h⟩)
  · exact .inr h
mutual
theorem dp_same (e : Same F F') : ∀ (d : D) (v : V), Dp K F v d → Dp K F' v d
  | .none, _, h => by cases h; exact .non
  | .bool b, _, h => by cases h; exact .bl b
  | .int i, _, h => by cases h; exact .int i
  | .str x, _, h => by cases h; exact .str x
  | .list ds, _, h => by
    cases h with
    | lst hs ha => exact .lst (e.seq hs) (dpAll_same e ds _ ha)
  | .tuple ds, _, h => by
    cases h with
    | tup hs ha => exact .tup (sqT_same e hs) (dpAll_same e ds _ ha)
  | .dict _, _, h => by cases h
theorem dpAll_same (e : Same F F') : ∀ (ds : List D) (vs : List V), DpAll K F vs ds → DpAll K F' vs ds
  | [], _, h => by cases h; exact .nil
  | d :: ds, _, h => by
    cases h with
    | cons h1 h2 => exact .cons (dp_same e d _ h1) (dpAll_same e ds _ h2)
end
theorem dpAll_len : ∀ {vs : List V} {ds : List D}, DpAll K F vs ds → vs.length = ds.length
  | _, _, .nil => rfl
  | _, _, .cons _ t => by rw [List.length_cons, List.length_cons, dpAll_len t]
theorem dpAll_get : ∀ {vs : List V} {ds : List D}, DpAll K F vs ds → ∀ {i : Nat} {d : D}, ds[i]? = some d → ∃ v, vs[i]? = some v ∧ Dp K F v d
  | _, _, .nil, i, d, h => by simp at h
  | _, _, .cons r _, 0, d, h => by simp at h; subst h; exact ⟨_, rfl, r⟩
  | _, _, .cons _ t, i + 1, d, h => by
    obtain ⟨v, h1, h2⟩ := dpAll_get t (i := i) (d := d) (by simpa using h)
    exact ⟨v, by simpa using h1, h2⟩
theorem dpAll_getV : ∀ {vs : List V} {ds : List D}, DpAll K F vs ds → ∀ {i : Nat} {v : V}, vs[i]? = some v → ∃ d, ds[i]? = some d ∧ Dp K F v d
  | _, _, .nil, i, d, h => by simp at h
  | _, _, .cons r _, 0, d, h => by simp at h; subst h; exact ⟨_, rfl, r⟩
  | _, _, .cons _ t, i + 1, d, h => by
    obtain ⟨v, h1, h2⟩ := dpAll_getV t (i := i) (v := d) (by simpa using h)
    exact ⟨v, by simpa using h1, h2⟩
theorem dpAll_append : ∀ {vs : List V} {ds : List D}, DpAll K F vs ds → ∀ {ws : List V} {es : List D}, DpAll K F ws es → DpAll K F (vs ++ ws) (ds ++ es)
  | _, _, .nil, _, _, s => s
  | _, _, .cons r t, _, _, s => .cons r (dpAll_append t s)
theorem dpAll_set {v : V} {d : D} (r : Dp K F v d) : ∀ {vs : List V} {ds : List D} (i : Nat), DpAll K F vs ds → DpAll K F (vs.set i v) (ds.set i d)
  | _, _, _, .nil => .nil
  | _, _, 0, .cons _ t => .cons r t
  | _, _, i + 1, .cons q t => .cons q (dpAll_set r i t)
theorem dpAll_take : ∀ {vs : List V} {ds : List D} (n : Nat), DpAll K F vs ds → DpAll K F (vs.take n) (ds.take n)
  | _, _, 0, _ => .nil
  | _, _, _ + 1, .nil => .nil
  | _, _, n + 1, .cons r t => .cons r (dpAll_take n t)
theorem dpAll_drop : ∀ {vs : List V} {ds : List D} (n : Nat), DpAll K F vs ds → DpAll K F (vs.drop n) (ds.drop n)
  | _, _, 0, r => r
  | _, _, _ + 1, .nil => .nil
  | _, _, n + 1, .cons _ t => dpAll_drop n t

theorem same_upd (h : H p = none) : Same H (upd H p o) := fun b x e => by
  rw [upd_ne (ne_of_none e h)]
  exact e
theorem same_upd2 (s : Same F H) (h : H p = none) : Same (upd F p o) (upd H p o) := fun b x e => by
  by_cases q : b = p
  · subst q; rw [upd_same] at e ⊢; exact e
  · rw [upd_ne q] at e ⊢; exact s _ _ e

/-- no tuple: it may change -/
def NT (u : HO) : Prop := ∀ xs, u ≠ .tup xs
/-- behind an expression: F grows, what is owned stands -/
structure Ext (F H F' H' : Hp) : Prop where
  fz : Same F F'
  low : Same F' H'
  keep : ∀ a u, H a = some u → H' a = some u ∧ (NT u → F a = none → F' a = none)
theorem Ext.rfl' (s : Same F H) : Ext F H F H := ⟨Same.refl _, s, fun _ _ e => ⟨e, fun _ q => q⟩⟩
theorem Ext.trans {F1 H1 : Hp} (x : Ext F H F1 H1) (y : Ext F1 H1 F' H') : Ext F H F' H' :=
  ⟨x.fz.trans y.fz, y.low, fun a u e => let ⟨e1, q1⟩ := x.keep a u e; let ⟨e2, q2⟩ := y.keep a u e1; ⟨e2, fun t n => q2 t (q1 t n)⟩⟩
theorem Ext.same (x : Ext F H F' H') : Same H H' := fun a u e => (x.keep a u e).1
/-- a new object, data from now on -/
theorem Ext.alloc (s : Same F H) (h : H p = none) : Ext F H (upd F p o) (upd H p o) :=
  ⟨same_upd (s.free h), same_upd2 s h, fun a u e => ⟨by rw [upd_ne (ne_of_none e h)]; exact e, fun _ n => by rw [upd_ne (ne_of_none e h)]; exact n⟩⟩
/-- a new object, owned -/
theorem Ext.allocN (s : Same F H) (h : H p = none) : Ext F H F (upd H p o) :=
  ⟨Same.refl _, s.trans (same_upd h), fun a u e => ⟨by rw [upd_ne (ne_of_none e h)]; exact e, fun _ n => n⟩⟩
/-- an owned object becomes data -/
theorem Ext.freeze (x : Ext F H F' H') (hn : H p = none) (hf : F' p = none) (hp : H' p = some u) : Ext F H (upd F' p u) H' :=
  ⟨x.fz.trans (same_upd hf), fun b w e => by
    by_cases q : b = p
    · subst q; rw [upd_same] at e; cases e; exact hp
    · rw [upd_ne q] at e; exact x.low _ _ e, fun a w e => ⟨(x.keep a w e).1, fun t n => by rw [upd_ne (ne_of_none e hn)]; exact (x.keep a w e).2 t n⟩⟩

/-! ### owned objects, values of the frame -/
def ObOk (K : PySem.W.Frag) (F : Hp) : HO → Ob → Prop
  | .lst xs, .lst ds => DpAll K F xs ds
  | .dK kvs, .dk es => Paired (fun (p : L2.Key × V) (q : L2.Key × D) => p.1 = q.1 ∧ Dp K F p.2 q.2) kvs es
  | .dT kvs, .dt es => Paired (fun (p : List L2.Key × V) (q : List L2.Key × D) => p.1 = q.1 ∧ Dp K F p.2 q.2) kvs es
  | _, _ => False
theorem ObOk.same (e : Same F F') {o : HO} {b : Ob} (h : ObOk K F o b) : ObOk K F' o b := by
  cases o <;> cases b <;> first
    | exact dpAll_same e _ _ h
    | exact Paired.mapP (show Paired _ _ _ from h) (fun p q z => ⟨z.1, dp_same e _ _ z.2⟩)
    | exact False.elim h
theorem ObOk.nt {o : HO} {b : Ob} (h : ObOk K F o b) : NT o := fun xs e => by
  subst e
  cases b <;> exact h
def EvOk (K : PySem.W.Frag) (F H : Hp) (v : V) : EV → Prop
  | .dat d => Dp K F v d
  | .own o => ∃ p u, v = .ref p ∧ F p = none ∧ H p = some u ∧ ObOk K F u o
  | .lck o => ∃ p od u, v = .ref p ∧ F p = none ∧ H p = some (.frz od u) ∧ ObOk K F u o
  | .ktp ks => ∃ p, v = .ref p ∧ F p = some (.tup (ks.map kV))
  | .fdt es => ∃ p od kvs, v = .ref p ∧ F p = some (.frz od (.dT kvs)) ∧ ObOk K F (.dT kvs) (.dt es)
theorem EvOk.ext (x : Ext F H F' H') {v : V} : ∀ {e : EV}, EvOk K F H v e → EvOk K F' H' v e
  | .dat d, h => dp_same x.fz d v h
  | .own o, ⟨p, u, e, n, hp, q⟩ => ⟨p, u, e, (x.keep p u hp).2 q.nt n, (x.keep p u hp).1, q.same x.fz⟩
  | .lck o, ⟨p, od, u, e, n, hp, q⟩ => ⟨p, od, u, e, (x.keep p _ hp).2 (fun _ z => nomatch z) n, (x.keep p _ hp).1, q.same x.fz⟩
  | .ktp _, ⟨p, e, h⟩ => ⟨p, e, x.fz _ _ h⟩
  | .fdt _, ⟨p, od, kvs, e, h, q⟩ => ⟨p, od, kvs, e, x.fz _ _ h, q.same x.fz⟩
abbrev EvAll (K : PySem.W.Frag) (F H : Hp) : List V → List EV → Prop := Paired (EvOk K F H)
theorem EvAll.ext (x : Ext F H F' H') {vs : List V} {es : List EV} (h : EvAll K F H vs es) : EvAll K F' H' vs es := Paired.mapP h fun _ _ q => q.ext x

/-- the frame's slots hold what env says -/
structure StOk (K : PySem.W.Frag) (F H : Hp) (σ : L2.St) (env : En) : Prop where
  sub : Same F H
  len : σ.length = env.length
  get : ∀ (i : Nat) (e : EV), env[i]? = some (some e) → ∃ v : V, σ[i]? = some (some v) ∧ EvOk K F H v e
  sep : ∀ (i j : Nat) (o o' : Ob) (p : Addr), env[i]? = some (some (.own o)) → env[j]? = some (some (.own o')) → σ[i]? = some (some (.ref p)) → σ[j]? = some (some (.ref p)) → i = j
theorem StOk.ext {env : En} (s : StOk K F H σ env) (x : Ext F H F' H') : StOk K F' H' σ env :=
  ⟨x.low, s.len, fun i e h => let ⟨v, h1, h2⟩ := s.get i e h; ⟨v, h1, h2.ext x⟩, s.sep⟩
/-- a slot takes data -/
theorem StOk.setD {env : En} (s : StOk K F H σ env) {v : V} {d : D} (i : Nat) (h : Dp K F v d) : StOk K F H (σ.set i (some v)) (env.set i (some (.dat d))) := by
  have lt : ∀ {j : Nat} {e : Option EV}, env[j]? = some e → j < σ.length := fun h => by rw [s.len]; exact (List.getElem?_eq_some_iff.mp h).1
  have own : ∀ (j : Nat) (o : Ob), (env.set i (some (.dat d)))[j]? = some (some (.own o)) → j ≠ i ∧ env[j]? = some (some (.own o)) := fun j o e => by
    by_cases q : i = j
    · subst q
      have hl : i < env.length := by simpa using (List.getElem?_eq_some_iff.mp e).1
      rw [List.getElem?_set_self hl] at e
      cases e
    · rw [List.getElem?_set_ne q] at e
      exact ⟨fun z => q z.symm, e⟩
  refine ⟨s.sub, by simpa using s.len, fun j e q => ?_, fun j k o o' p e1 e2 q1 q2 => ?_⟩
  · by_cases z : i = j
    · subst z
      have hl : i < env.length := by simpa using (List.getElem?_eq_some_iff.mp q).1
      rw [List.getElem?_set_self hl] at q
      cases q
      exact ⟨v, List.getElem?_set_self (by rw [s.len]; exact hl), h⟩
    · rw [List.getElem?_set_ne z] at q ⊢
      exact s.get j e q
  · obtain ⟨n1, e1⟩ := own j o e1
    obtain ⟨n2, e2⟩ := own k o' e2
    rw [List.getElem?_set_ne (Ne.symm n1)] at q1
    rw [List.getElem?_set_ne (Ne.symm n2)] at q2
    exact s.sep j k o o' p e1 e2 q1 q2
/-- a slot is forgotten -/
theorem StOk.clr {env : En} (s : StOk K F H σ env) (i : Nat) : StOk K F H (σ.set i none) (env.set i none) := by
  have own : ∀ (j : Nat) (e : EV), (env.set i none)[j]? = some (some e) → j ≠ i ∧ env[j]? = some (some e) := fun j e h => by
    by_cases q : i = j
    · subst q
      have hl : i < env.length := by simpa using (List.getElem?_eq_some_iff.mp h).1
      rw [List.getElem?_set_self hl] at h
      cases h
    · rw [List.getElem?_set_ne q] at h
      exact ⟨fun z => q z.symm, h⟩
  refine ⟨s.sub, by simpa using s.len, fun j e q => ?_, fun j k o o' p e1 e2 q1 q2 => ?_⟩
  · obtain ⟨n, q⟩ := own j e q
    rw [List.getElem?_set_ne (Ne.symm n)]
    exact s.get j e q
  · obtain ⟨n1, e1⟩ := own j _ e1
    obtain ⟨n2, e2⟩ := own k _ e2
    rw [List.getElem?_set_ne (Ne.symm n1)] at q1
    rw [List.getElem?_set_ne (Ne.symm n2)] at q2
    exact s.sep j k o o' p e1 e2 q1 q2
/-- the wiped frame of a comprehension -/
def wipeE (env : En) : List Nat → En
  | [] => env
  | v :: vs => (wipeE env vs).set v none
theorem StOk.wipe {env : En} (s : StOk K F H σ env) : ∀ vs : List Nat, StOk K F H (wipe σ vs) (wipeE env vs)
  | [] => s
  | v :: vs => (StOk.wipe s vs).clr v
theorem wipe_set_in {v : Option V} {i : Nat} : ∀ {vs : List Nat} (σ : L2.St), i ∈ vs → L2.wipe (σ.set i v) vs = L2.wipe σ vs
  | w :: vs, σ, h => by
    by_cases q : i ∈ vs
    · show (L2.wipe (σ.set i v) vs).set w none = (L2.wipe σ vs).set w none
      rw [wipe_set_in σ q]
    · have e : w = i := by
        rcases List.mem_cons.mp h with z | z
        · exact z.symm
        · exact absurd z q
      subst e
      have out : ∀ (us : List Nat), w ∉ us → L2.wipe (σ.set w v) us = (L2.wipe σ us).set w v := fun us => by
        induction us with
        | nil => intro _; rfl
        | cons u us ih =>
          intro hn
          simp only [List.mem_cons, not_or] at hn
          show (L2.wipe (σ.set w v) us).set u none = ((L2.wipe σ us).set u none).set w v
          rw [ih hn.2, List.set_comm _ _ hn.1]
      show (L2.wipe (σ.set w v) vs).set w none = (L2.wipe σ vs).set w none
      rw [out vs q, List.set_set]
end

/-! ### judgements -/
def tE (K : PySem.W.Frag) (f : En → Option EV) : TE := fun σ H Q => ∃ F env ev, StOk K F H σ env ∧ f env = some ev ∧ ∀ v F' H', Ext F H F' H' → EvOk K F' H' v ev → Q v H'
/-- a new object -/
def tN (K : PySem.W.Frag) (f : En → Option Ob) : TE := fun σ H Q => ∃ F env o, StOk K F H σ env ∧ f env = some o ∧ ∀ p u F' H', Ext F H F' H' → H p = none → F' p = none → H' p = some u → ObOk K F' u o → Q (.ref p) H'
def tT (K : PySem.W.Frag) (f : En → Option Bool) : TT := fun σ H Q => ∃ F env b, StOk K F H σ env ∧ f env = some b ∧ ∀ F' H', Ext F H F' H' → Q b H'
def tA (K : PySem.W.Frag) (f : En → Option (List EV)) : TA := fun σ H Q => ∃ F env es, StOk K F H σ env ∧ f env = some es ∧ ∀ vs F' H', Ext F H F' H' → EvAll K F' H' vs es → Q vs H'

theorem pe_imp {X : Cx} {e : Expr} {t t' : TE} (h : PE X e t) (i : ∀ σ H Q, t' σ H Q → t σ H Q) : PE X e t' := ⟨fun pins s σ H Q I q => h.run pins s σ H Q I (i σ H Q q)⟩
theorem pt_imp {X : Cx} {e : Expr} {t t' : TT} (h : PT X e t) (i : ∀ σ H Q, t' σ H Q → t σ H Q) : PT X e t' := ⟨fun pins s σ H Q I q => h.run pins s σ H Q I (i σ H Q q)⟩
theorem pw_imp {X : Cx} {e : Expr} {t t' : TT} (h : PW X e t) (i : ∀ σ H Q, t' σ H Q → t σ H Q) : PW X e t' := ⟨fun wh pins s σ H Q I q => h.run wh pins s σ H Q I (i σ H Q q)⟩
theorem pa_imp {X : Cx} {e : List Expr} {t t' : TA} (h : PA X e t) (i : ∀ σ H Q, t' σ H Q → t σ H Q) : PA X e t' := ⟨fun pos pins s σ H Q I q => h.run pos pins s σ H Q I (i σ H Q q)⟩
theorem ps_imp {X : Cx} {e : Stmt} {t t' : TS} (h : PS X e t) (i : ∀ D σ H, t' D σ H → t D σ H) : PS X e t' := ⟨fun pins s σ H D I q => h.run pins s σ H D I (i D σ H q)⟩
theorem pss_imp {X : Cx} {e : List Stmt} {t t' : TS} (h : PSs X e t) (i : ∀ D σ H, t' D σ H → t D σ H) : PSs X e t' := ⟨fun pins s σ H D I q => h.run pins s σ H D I (i D σ H q)⟩
theorem pi_imp {X : Cx} {g e : Expr} {t t' : TI} (h : PI X g e t) (i : ∀ σ H R, t' σ H R → t σ H R) : PI X g e t' := ⟨fun pins s σ H R I q => h.run pins s σ H R I (i σ H R q)⟩

/-! ### what the expressions say, as functions -/
def vr (i : Nat) : En → Option EV := fun env => (env[i]?).join
def cs (d : D) : En → Option EV := fun _ => some (.dat d)
def fz (f : En → Option Ob) : En → Option EV := fun env => match f env with
  | some (.lst ds) => some (.dat (.list ds))
  | _ => none
def nw (f : En → Option Ob) : En → Option EV := fun env => (f env).map .own
def e1 (o : EV → Option EV) (f : En → Option EV) : En → Option EV := fun env => (f env).bind o
def e2 (o : EV → EV → Option EV) (f g : En → Option EV) : En → Option EV := fun env => (f env).bind fun x => (g env).bind fun y => o x y
def eA (o : List EV → Option EV) (f : En → Option (List EV)) : En → Option EV := fun env => (f env).bind o
def nA (o : List EV → Option Ob) (f : En → Option (List EV)) : En → Option Ob := fun env => (f env).bind o
def a0 : En → Option (List EV) := fun _ => some []
def ac (f : En → Option EV) (g : En → Option (List EV)) : En → Option (List EV) := fun env => (f env).bind fun x => (g env).bind fun xs => some (x :: xs)
def ifE (t : En → Option Bool) (f g : En → Option EV) : En → Option EV := fun env => (t env).bind fun b => if b = true then f env else g env

def asI : EV → Option Int | .dat (.int i) => some i | _ => none
def asB : EV → Option Bool | .dat (.bool b) => some b | _ => none
def asX : EV → Option Str | .dat (.str b) => some b | _ => none
def asD : EV → Option D | .dat d => some d | _ => none
def asL : EV → Option (List D) | .dat (.list ds) => some ds | .own (.lst ds) => some ds | _ => none
def asT : EV → Option (List D) | .dat (.tuple ds) => some ds | _ => none
def asDs : List EV → Option (List D) | [] => some [] | e :: es => (asD e).bind fun d => (asDs es).bind fun ds => some (d :: ds)
section
variable {K : PySem.W.Frag} {F H : Hp} {v : V} {e : EV}
theorem asI_ok {i : Int} (h : EvOk K F H v e) (q : asI e = some i) : v = .int i := by
  cases e with
  | own o => cases q
  | lck o => cases q
  | ktp o => cases q
  | fdt o => cases q
  | dat d => cases d <;> first | cases q | skip
             cases h; rfl
theorem asB_ok {i : Bool} (h : EvOk K F H v e) (q : asB e = some i) : v = .bl i := by
  cases e with
  | own o => cases q
  | lck o => cases q
  | ktp o => cases q
  | fdt o => cases q
  | dat d => cases d <;> first | cases q | skip
             cases h; rfl
theorem asX_ok {i : Str} (h : EvOk K F H v e) (q : asX e = some i) : v = .str i := by
  cases e with
  | own o => cases q
  | lck o => cases q
  | ktp o => cases q
  | fdt o => cases q
  | dat d => cases d <;> first | cases q | skip
             cases h; rfl
theorem asD_ok {d : D} (h : EvOk K F H v e) (q : asD e = some d) : Dp K F v d := by
  cases e with
  | own o => cases q
  | lck o => cases q
  | ktp o => cases q
  | fdt o => cases q
  | dat d' => cases q; exact h
theorem asL_ok {ds : List D} (s : Same F H) (h : EvOk K F H v e) (q : asL e = some ds) : ∃ p xs, v = .ref p ∧ SqL K H p xs ∧ DpAll K F xs ds := by
  cases e with
  | own o =>
    cases o <;> first | cases q | skip
    obtain ⟨p, u, rfl, n, hp, ok⟩ := h
    cases u <;> first | exact False.elim ok | skip
    exact ⟨p, _, rfl, SqL.of hp, ok⟩
  | lck o => cases q
  | ktp o => cases q
  | fdt o => cases q
  | dat d =>
    cases d <;> first | cases q | skip
    cases h with
    | lst hs ha => exact ⟨_, _, rfl, s.seq hs, ha⟩
theorem asT_ok {ds : List D} (s : Same F H) (h : EvOk K F H v e) (q : asT e = some ds) : ∃ p xs, v = .ref p ∧ SqT K H p xs ∧ DpAll K F xs ds := by
  cases e with
  | own o => cases q
  | lck o => cases q
  | ktp o => cases q
  | fdt o => cases q
  | dat d =>
    cases d <;> first | cases q | skip
    cases h with
    | tup hs ha => exact ⟨_, _, rfl, sqT_same s hs, ha⟩
theorem asDs_ok : ∀ {vs : List V} {es : List EV} {ds : List D}, EvAll K F H vs es → asDs es = some ds → DpAll K F vs ds
  | _, _, _, .nil, q => by cases q; exact .nil
  | _, _, _, .cons (a := v) (b := e) r t, q => by
    unfold asDs at q
    cases h1 : asD e with
    | none => rw [h1] at q; cases q
    | some d =>
      rw [h1] at q
      simp only [Option.bind_some] at q
      cases h2 : asDs _ with
      | none => rw [h2] at q; cases q
      | some ds' =>
        rw [h2] at q
        cases q
        exact .cons (asD_ok r h1) (asDs_ok t h2)
end
theorem bind_eq {α β : Type} {o : Option α} {f : α → Option β} {b : β} (h : o.bind f = some b) : ∃ a, o = some a ∧ f a = some b := by
  cases o with
  | none => cases h
  | some a => exact ⟨a, rfl, h⟩

/-! ### names, constants -/
section
variable {X : Cx} {pos : Pos}
theorem xv (i : Nat) {x : Str} (hN : X.N[i]? = some x := by rfl) (hv : Vis X.env.scope x := by first | exact Or.inl rfl | exact Or.inr (Or.inl rfl) | exact Or.inr (Or.inr rfl)) (hd : (x == ("__debug__" : Str)) = false := by decide)
    (hcd : (x == ("__classdict__" : Str)) = false := by decide) : PE X (.Name x pos) (tE X.K (vr i)) :=
  pe_imp (pe_var hN hv hd hcd) fun σ H Q ⟨F, env, ev, S, e, q⟩ => by
    have e' : env[i]? = some (some ev) := by
      unfold vr at e
      cases h : env[i]? with
      | none => rw [h] at e; cases e
      | some o => rw [h] at e; cases o with
        | none => cases e
        | some z => cases e; rfl
    obtain ⟨v, h1, h2⟩ := S.get i ev e'
    exact ⟨v, h1, q v F H (Ext.rfl' S.sub) h2⟩
theorem xc_of {e : Expr} {v : V} {d : D} (h : PE X e (tC v)) (hd : ∀ F, Dp X.K F v d) : PE X e (tE X.K (cs d)) :=
  pe_imp h fun σ H Q ⟨F, env, ev, S, e, q⟩ => by
    cases e
    exact q v F H (Ext.rfl' S.sub) (hd F)
theorem xint {i j} : PE X (.Constant (.int i) j pos) (tE X.K (cs (.int i))) := xc_of pe_int fun _ => .int i
theorem xbl {i j} : PE X (.Constant (.bool i) j pos) (tE X.K (cs (.bool i))) := xc_of pe_bl fun _ => .bl i
theorem xnon {j} : PE X (.Constant .none j pos) (tE X.K (cs .none)) := xc_of pe_non fun _ => .non
theorem xstr {i j} : PE X (.Constant (.str i) j pos) (tE X.K (cs (.str i))) := xc_of pe_str fun _ => .str i
/-- a module's constant -/
theorem xg {x : Str} {v : V} {u : Value} {d : D} (hg : Gl X x) (hm : X.mg x = some u) (r : RelV v u) (hd : ∀ F, Dp X.K F v d) (h1 : (x == ("__debug__" : Str)) = false := by decide) : PE X (.Name x pos) (tE X.K (cs d)) := xc_of (pe_glob hg hm r h1) hd

variable {e a b c : Expr} {f g : En → Option EV} {n : En → Option Ob}
theorem xfz (h : PE X e (tN X.K n)) : PE X e (tE X.K (fz n)) := pe_imp h fun σ H Q ⟨F, env, ev, S, e, q⟩ => by
  unfold fz at e
  cases h : n env with
  | none => rw [h] at e; cases e
  | some o =>
    rw [h] at e
    cases o <;> first | cases e | skip
    refine ⟨F, env, _, S, h, fun p u F' H' x hn hf hp ok => ?_⟩
    cases u <;> first | exact False.elim ok | skip
    exact q (.ref p) _ _ (x.freeze hn hf hp) (.lst (SqL.of upd_same) (dpAll_same (same_upd hf) _ _ ok))
theorem xnw (h : PE X e (tN X.K n)) : PE X e (tE X.K (nw n)) := pe_imp h fun σ H Q ⟨F, env, ev, S, e, q⟩ => by
  unfold nw at e
  cases h : n env with
  | none => rw [h] at e; cases e
  | some o =>
    rw [h] at e
    cases e
    exact ⟨F, env, o, S, h, fun p u F' H' x hn hf hp ok => q (.ref p) F' H' x ⟨p, u, rfl, hf, hp, ok⟩⟩

/-! ### two operands -/
def OpE (X : Cx) (r : R2) (o : EV → EV → Option EV) : Prop := ∀ (F H : Hp) (x y : V) (ex ey ev : EV) (Q : VK), Same F H → EvOk X.K F H x ex → EvOk X.K F H y ey → o ex ey = some ev →
  (∀ v F' H', Ext F H F' H' → EvOk X.K F' H' v ev → Q v H') → r x y H Q
theorem two_ok {r : R2} {o : EV → EV → Option EV} (h : OpE X r o) {σ : L2.St} {H : Hp} {Q : VK} (w : tE X.K (e2 o f g) σ H Q) : tOp r (tE X.K f) (tE X.K g) σ H Q := by
  obtain ⟨F, env, ev, S, e, q⟩ := w
  obtain ⟨x, hx, e⟩ := bind_eq e
  obtain ⟨y, hy, e⟩ := bind_eq e
  refine ⟨F, env, x, S, hx, fun v F1 H1 x1 o1 => ⟨F1, env, y, S.ext x1, hy, fun u F2 H2 x2 o2 => ?_⟩⟩
  exact h F2 H2 v u x y ev Q x2.low (o1.ext x2) o2 e fun z F3 H3 x3 o3 => q z F3 H3 (x1.trans (x2.trans x3)) o3
theorem xop {op : Operator} {r : R2} {o : EV → EV → Option EV} (ho : OpR X (binaryOp op) r) (h : OpE X r o) (ha : PE X a (tE X.K f)) (hb : PE X b (tE X.K g)) : PE X (.BinOp a op b pos) (tE X.K (e2 o f g)) :=
  pe_imp (pe_op ho ha hb) fun σ H Q w => two_ok h w
theorem xcm {op : CmpOp} {r : R2} {o : EV → EV → Option EV} (ho : OpR X (compareOp op) r) (h : OpE X r o) (ha : PE X a (tE X.K f)) (hb : PE X b (tE X.K g)) (hm : behindInMarks op b = false) : PE X (.Compare a [op] [b] pos) (tE X.K (e2 o f g)) :=
  pe_imp (pe_cmpR ho ha hb hm) fun σ H Q w => two_ok h w
/-- a value that is a bool, as a test -/
def tb (f : En → Option EV) : En → Option Bool := fun env => (f env).bind asB
theorem tb_ok {f : En → Option EV} {σ : L2.St} {H : Hp} {Q : Bool → Hp → Prop} (w : tT X.K (tb f) σ H Q) : tE X.K f σ H fun x H' => ∃ k, x = .bl k ∧ Q k H' := by
  obtain ⟨F, env, k, S, e, q⟩ := w
  obtain ⟨ev, h1, h2⟩ := bind_eq e
  exact ⟨F, env, ev, S, h1, fun v F' H' x ok => ⟨k, asB_ok ok h2, q F' H' x⟩⟩
theorem tcm {op : CmpOp} {r : R2} {o : EV → EV → Option EV} (ho : OpR X (compareOp op) r) (h : OpE X r o) (ha : PE X a (tE X.K f)) (hb : PE X b (tE X.K g)) (hm : behindInMarks op b = false) : PT X (.Compare a [op] [b] pos) (tT X.K (tb (e2 o f g))) :=
  pt_imp (pt_cmpR ho ha hb hm) fun σ H Q w => by
    obtain ⟨F, env, ev, S, e, q⟩ := tb_ok w
    exact two_ok h ⟨F, env, ev, S, e, q⟩
theorem tval {f : En → Option EV} (h : PE X e (tE X.K f)) (he : ∀ whole, isTrue e X.env whole = (do let v ← whole; standAt e.pos; holding [v] (truthy v)) := by intro _; rfl) : PT X e (tT X.K (tb f)) :=
  pt_imp (pt_val h he) fun σ H Q w => tb_ok w
def chE (o o' : EV → EV → Option EV) (f g h : En → Option EV) : En → Option EV := fun env => (f env).bind fun x => (g env).bind fun y => ((o x y).bind asB).bind fun k => if k = true then (h env).bind fun z => o' y z else some (.dat (.bool false))
theorem chain_ok {r r' : R2} {o o' : EV → EV → Option EV} {h : En → Option EV} (ho : OpE X r o) (ho' : OpE X r' o') {σ : L2.St} {H : Hp} {Q : VK} (w : tE X.K (chE o o' f g h) σ H Q) : tChain r r' (tE X.K f) (tE X.K g) (tE X.K h) σ H Q := by
  obtain ⟨F, env, ev, S, e, q⟩ := w
  obtain ⟨x, hx, e⟩ := bind_eq e
  obtain ⟨y, hy, e⟩ := bind_eq e
  obtain ⟨k, hk, e⟩ := bind_eq e
  obtain ⟨kv, hkv, hk⟩ := bind_eq hk
  refine ⟨F, env, x, S, hx, fun v F1 H1 x1 o1 => ⟨F1, env, y, S.ext x1, hy, fun u F2 H2 x2 o2 => ?_⟩⟩
  refine ho F2 H2 v u x y kv _ x2.low (o1.ext x2) o2 hkv fun z F3 H3 x3 o3 => ⟨k, asB_ok o3 hk, ?_⟩
  cases k with
  | false =>
    rw [if_neg Bool.false_ne_true] at e ⊢
    cases e
    exact q _ F3 H3 (x1.trans (x2.trans x3)) (.bl false)
  | true =>
    rw [if_pos rfl] at e ⊢
    obtain ⟨z, hz, e⟩ := bind_eq e
    refine ⟨F3, env, z, S.ext (x1.trans (x2.trans x3)), hz, fun w' F4 H4 x4 o4 => ?_⟩
    exact ho' F4 H4 u w' y z ev Q x4.low ((o2.ext x3).ext x4) o4 e fun z' F5 H5 x5 o5 => q z' F5 H5 (x1.trans (x2.trans (x3.trans (x4.trans x5)))) o5
theorem xch {op op' : CmpOp} {r r' : R2} {o o' : EV → EV → Option EV} {h : En → Option EV} (ho : OpR X (compareOp op) r) (he : OpE X r o) (ho' : OpR X (compareOp op') r') (he' : OpE X r' o') (ha : PE X a (tE X.K f)) (hb : PE X b (tE X.K g)) (hc : PE X c (tE X.K h))
    (hm : lastMarks [op, op'] [b, c] = false := by with_unfolding_all rfl) : PE X (.Compare a [op, op'] [b, c] pos) (tE X.K (chE o o' f g h)) :=
  pe_imp (pe_chain ho ho' ha hb hc hm) fun σ H Q w => chain_ok he he' w
theorem tch {op op' : CmpOp} {r r' : R2} {o o' : EV → EV → Option EV} {h : En → Option EV} (ho : OpR X (compareOp op) r) (he : OpE X r o) (ho' : OpR X (compareOp op') r') (he' : OpE X r' o') (ha : PE X a (tE X.K f)) (hb : PE X b (tE X.K g)) (hc : PE X c (tE X.K h))
    (hm : lastMarks [op, op'] [b, c] = false := by with_unfolding_all rfl) : PT X (.Compare a [op, op'] [b, c] pos) (tT X.K (tb (chE o o' f g h))) :=
  pt_imp (pt_chain ho ho' ha hb hc hm) fun σ H Q w => by
    obtain ⟨F, env, ev, S, e, q⟩ := tb_ok w
    exact chain_ok he he' ⟨F, env, ev, S, e, q⟩

/-! ### and, or, not, if -/
def tn (f : En → Option Bool) : En → Option Bool := fun env => (f env).map (!·)
def tnd (f g : En → Option Bool) : En → Option Bool := fun env => (f env).bind fun b => if b = true then g env else some false
def tor (f g : En → Option Bool) : En → Option Bool := fun env => (f env).bind fun b => if b = true then some true else g env
variable {p q : En → Option Bool} {rest : List Expr}
theorem tnot (h : PT X a (tT X.K p)) : PT X (.UnaryOp .Not a pos) (tT X.K (tn p)) := pt_imp (pt_not h) fun σ H Q ⟨F, env, k, S, e, q⟩ => by
  unfold tn at e
  cases h : p env with
  | none => rw [h] at e; cases e
  | some b =>
    rw [h] at e
    cases e
    exact ⟨F, env, b, S, h, fun F' H' x => q F' H' x⟩
theorem tand1 (h : PT X a (tT X.K p)) : PW X (.BoolOp .And [a] pos) (tT X.K p) := pw_and1 h
theorem tor1 (h : PT X a (tT X.K p)) : PW X (.BoolOp .Or [a] pos) (tT X.K p) := pw_or1 h
theorem tand (h : PT X a (tT X.K p)) (h2 : PW X (.BoolOp .And (b :: rest) pos) (tT X.K q)) : PW X (.BoolOp .And (a :: b :: rest) pos) (tT X.K (tnd p q)) := pw_imp (pw_and h h2) fun σ H Q ⟨F, env, k, S, e, w⟩ => by
  obtain ⟨b1, h1, e⟩ := bind_eq e
  refine ⟨F, env, b1, S, h1, fun F' H' x => ?_⟩
  cases b1 with
  | true =>
    rw [if_pos rfl] at e ⊢
    exact ⟨F', env, k, S.ext x, e, fun F2 H2 x2 => w F2 H2 (x.trans x2)⟩
  | false =>
    rw [if_neg Bool.false_ne_true] at e ⊢
    cases e
    exact w F' H' x
theorem tor2 (h : PT X a (tT X.K p)) (h2 : PW X (.BoolOp .Or (b :: rest) pos) (tT X.K q)) : PW X (.BoolOp .Or (a :: b :: rest) pos) (tT X.K (tor p q)) := pw_imp (pw_or h h2) fun σ H Q ⟨F, env, k, S, e, w⟩ => by
  obtain ⟨b1, h1, e⟩ := bind_eq e
  refine ⟨F, env, b1, S, h1, fun F' H' x => ?_⟩
  cases b1 with
  | true =>
    rw [if_pos rfl] at e ⊢
    cases e
    exact w F' H' x
  | false =>
    rw [if_neg Bool.false_ne_true] at e ⊢
    exact ⟨F', env, k, S.ext x, e, fun F2 H2 x2 => w F2 H2 (x.trans x2)⟩
theorem xif (hc : PT X c (tT X.K p)) (ha : PE X a (tE X.K f)) (hb : PE X b (tE X.K g)) : PE X (.IfExp c a b pos) (tE X.K (ifE p f g)) := pe_imp (pe_ifExp hc ha hb) fun σ H Q ⟨F, env, k, S, e, w⟩ => by
  obtain ⟨b1, h1, e⟩ := bind_eq e
  refine ⟨F, env, b1, S, h1, fun F' H' x => ?_⟩
  cases b1 with
  | true =>
    rw [if_pos rfl] at e ⊢
    exact ⟨F', env, k, S.ext x, e, fun v F2 H2 x2 => w v F2 H2 (x.trans x2)⟩
  | false =>
    rw [if_neg Bool.false_ne_true] at e ⊢
    exact ⟨F', env, k, S.ext x, e, fun v F2 H2 x2 => w v F2 H2 (x.trans x2)⟩
/-- a value's truth -/
def truE : EV → Option Bool
  | .dat .none => some false
  | .dat (.bool b) => some b
  | .dat (.int i) => some (i != 0)
  | .dat (.list ds) => some (!ds.isEmpty)
  | .dat (.tuple ds) => some (!ds.isEmpty)
  | .own (.lst ds) => some (!ds.isEmpty)
  | .own (.dk ds) => some (!ds.isEmpty)
  | _ => none
def tr (f : En → Option EV) : En → Option Bool := fun env => (f env).bind truE
theorem dpAll_empty {K : PySem.W.Frag} {F : Hp} {vs : List V} {ds : List D} (h : DpAll K F vs ds) : vs.isEmpty = ds.isEmpty := by cases h <;> rfl
theorem paired_empty {α β : Type} {R : α → β → Prop} {vs : List α} {ds : List β} (h : Paired R vs ds) : vs.isEmpty = ds.isEmpty := by cases h <;> rfl
theorem ttru {f : En → Option EV} (h : PE X a (tE X.K f)) (he : ∀ whole, isTrue a X.env whole = (do let v ← whole; standAt a.pos; holding [v] (truthy v)) := by intro _; rfl) : PT X a (tT X.K (tr f)) :=
  pt_imp (pt_truth h he) fun σ H Q ⟨F, env, k, S, e, w⟩ => by
    obtain ⟨ev, h1, h2⟩ := bind_eq e
    refine ⟨F, env, ev, S, h1, fun v F' H' x ok => ⟨k, ?_, w F' H' x⟩⟩
    cases ev with
    | lck o => cases h2
    | ktp o => cases h2
    | fdt o => cases h2
    | own o =>
      obtain ⟨p, u, rfl, n, hp, ok⟩ := ok
      cases o <;> first | cases h2 | skip
      · cases u <;> first | exact False.elim ok | skip
        exact .inl ⟨_, SqL.of hp, by rw [dpAll_empty ok]⟩
      · cases u <;> first | exact False.elim ok | skip
        exact .inr (.inr ⟨_, hp, by rw [paired_empty ok]⟩)
    | dat d =>
      cases d <;> first | cases h2 | skip
      · cases ok; rfl
      · cases ok; rfl
      · cases ok; rfl
      · cases ok with
        | lst hs ha => exact .inl ⟨_, x.low.seq hs, by rw [dpAll_empty ha]⟩
      · cases ok with
        | tup hs ha => exact .inr (.inl ⟨_, sqT_same x.low hs, by rw [dpAll_empty ha]⟩)

/-! ### arguments, displays -/
variable {es : List Expr} {fs : En → Option (List EV)}
theorem xa0 : PA X [] (tA X.K a0) := pa_imp pa_nil fun σ H Q ⟨F, env, ev, S, e, q⟩ => by
  cases e
  exact q [] F H (Ext.rfl' S.sub) .nil
theorem xac (ha : PE X e (tE X.K f)) (hr : PA X es (tA X.K fs)) (hs : starEach (e :: es) X.env = (false, eval e X.env) :: starEach es X.env := by rfl) : PA X (e :: es) (tA X.K (ac f fs)) :=
  pa_imp (pa_cons ha hr hs) fun σ H Q ⟨F, env, ev, S, e, q⟩ => by
    obtain ⟨x, hx, e⟩ := bind_eq e
    obtain ⟨xs, hxs, e⟩ := bind_eq e
    cases e
    refine ⟨F, env, x, S, hx, fun v F1 H1 x1 o1 => ⟨F1, env, xs, S.ext x1, hxs, fun vs F2 H2 x2 o2 => ?_⟩⟩
    exact q (v :: vs) F2 H2 (x1.trans x2) (.cons (o1.ext x2) o2)
def tupE : List EV → Option EV := fun es => (asDs es).bind fun ds => if ds.length ≤ 1000000 then some (.dat (.tuple ds)) else none
def lstE : List EV → Option Ob := fun es => (asDs es).bind fun ds => if ds.length ≤ 1000000 then some (.lst ds) else none
theorem xtup {x1} (h : PA X es (tA X.K fs)) : PE X (.Tuple es x1 pos) (tE X.K (eA tupE fs)) := pe_imp (pe_tup h) fun σ H Q ⟨F, env, ev, S, e, q⟩ => by
  obtain ⟨xs, hxs, e⟩ := bind_eq e
  obtain ⟨ds, hds, e⟩ := bind_eq e
  by_cases hl : ds.length ≤ 1000000
  · rw [if_pos hl] at e
    cases e
    refine ⟨F, env, xs, S, hxs, fun vs F1 H1 x1 o1 => ?_⟩
    have ok := asDs_ok o1 hds
    have hlen := dpAll_len ok
    refine ⟨Nat.le_trans (by rw [hlen]; exact hl) (by decide), fun p hp => ?_⟩
    exact q (.ref p) _ _ (x1.trans (Ext.alloc x1.low hp)) (.tup (SqT.of upd_same) (dpAll_same (same_upd (x1.low.free hp)) _ _ ok))
  · rw [if_neg hl] at e; cases e
theorem xlst (h : PA X es (tA X.K fs)) : PE X (.List es pos) (tN X.K (nA lstE fs)) := pe_imp (pe_lst h) fun σ H Q ⟨F, env, ev, S, e, q⟩ => by
  obtain ⟨xs, hxs, e⟩ := bind_eq e
  obtain ⟨ds, hds, e⟩ := bind_eq e
  by_cases hl : ds.length ≤ 1000000
  · rw [if_pos hl] at e
    cases e
    refine ⟨F, env, xs, S, hxs, fun vs F1 H1 x1 o1 => ?_⟩
    have ok := asDs_ok o1 hds
    have hlen := dpAll_len ok
    refine ⟨Nat.le_trans (by rw [hlen]; exact hl) (by decide), fun p hp => ?_⟩
    exact q p _ F1 _ (x1.trans (Ext.allocN x1.low hp)) (x1.same.free hp) (x1.low.free hp) upd_same ok
  · rw [if_neg hl] at e; cases e
end
end Od

set_option Elab.async false
set_option linter.all false
set_option maxRecDepth 100000
set_option autoImplicit false
/-! Od, second part: operators, built-in calls, subscripts, calls of defs, what is walked, comprehensions. -/
namespace Od
open PySem PySem.Spec PyProof.Rows L2

/-! ### ints -/
def i2 (C : Int → Int → Bool) (g : Int → Int → D) : EV → EV → Option EV := fun x y => (asI x).bind fun i => (asI y).bind fun j => if C i j = true then some (.dat (g i j)) else none
def noC : Int → Int → Bool := fun _ _ => true
def mulC : Int → Int → Bool := fun i j => decide (i.natAbs.log2 + j.natAbs.log2 < 1000000) || decide (-(2 ^ 64) < i ∧ i < 2 ^ 64) || decide (-(2 ^ 64) < j ∧ j < 2 ^ 64)
def divC : Int → Int → Bool := fun _ j => decide (0 < j) && decide (j.natAbs.log2 < 9000)
def modC : Int → Int → Bool := fun _ j => decide (0 < j)
def powC : Int → Int → Bool := fun i j => decide (0 ≤ j) && decide (j ≤ 1000000) && decide (i.natAbs < 2 ^ 64)
def addE : EV → EV → Option EV := i2 noC fun i j => .int (i + j)
def subE : EV → EV → Option EV := i2 noC fun i j => .int (i - j)
def mulE : EV → EV → Option EV := i2 mulC fun i j => .int (i * j)
def divE : EV → EV → Option EV := i2 divC fun i j => .int (i / j)
def modE : EV → EV → Option EV := i2 modC fun i j => .int (i % j)
def powE : EV → EV → Option EV := i2 powC fun i j => .int (i ^ j.toNat)
def ltE : EV → EV → Option EV := i2 noC fun i j => .bool (decide (i < j))
def leE : EV → EV → Option EV := i2 noC fun i j => .bool (decide (i ≤ j))
def gtE : EV → EV → Option EV := i2 noC fun i j => .bool (decide (j < i))
def geE : EV → EV → Option EV := i2 noC fun i j => .bool (decide (j ≤ i))
def negE : EV → Option EV := fun x => (asI x).bind fun i => some (.dat (.int (-i)))

section
variable {X : Cx} {pos : Pos} {e a b c : Expr} {f g : En → Option EV} {n : En → Option Ob} {es : List Expr} {fs : En → Option (List EV)}
theorem i2_ok {C : Int → Int → Bool} {C' : Int → Int → Prop} {gi : Int → Int → D} {g' : Int → Int → V} (hC : ∀ i j, C i j = true → C' i j) (hg : ∀ F i j, Dp X.K F (g' i j) (gi i j)) : OpE X (rI C' g') (i2 C gi) := by
  intro F H x y ex ey ev Q s ox oy e q
  obtain ⟨i, hi, e⟩ := bind_eq e
  obtain ⟨j, hj, e⟩ := bind_eq e
  by_cases h : C i j = true
  · rw [if_pos h] at e
    cases e
    exact ⟨i, j, asI_ok ox hi, asI_ok oy hj, hC i j h, q _ F H (Ext.rfl' s) (hg F i j)⟩
  · rw [if_neg h] at e; cases e
theorem i20_ok {gi : Int → Int → D} {g' : Int → Int → V} (hg : ∀ F i j, Dp X.K F (g' i j) (gi i j)) : OpE X (rI0 g') (i2 noC gi) := by
  intro F H x y ex ey ev Q s ox oy e q
  obtain ⟨i, hi, e⟩ := bind_eq e
  obtain ⟨j, hj, e⟩ := bind_eq e
  rw [show (if noC i j = true then some (EV.dat (gi i j)) else none) = some (EV.dat (gi i j)) from rfl] at e
  cases e
  exact ⟨i, j, asI_ok ox hi, asI_ok oy hj, q _ F H (Ext.rfl' s) (hg F i j)⟩
theorem xadd (ha : PE X a (tE X.K f)) (hb : PE X b (tE X.K g)) : PE X (.BinOp a .Add b pos) (tE X.K (e2 addE f g)) := xop op_add (i20_ok fun _ _ _ => .int _) ha hb
theorem xsub (ha : PE X a (tE X.K f)) (hb : PE X b (tE X.K g)) : PE X (.BinOp a .Sub b pos) (tE X.K (e2 subE f g)) := xop op_sub (i20_ok fun _ _ _ => .int _) ha hb
theorem xmul (ha : PE X a (tE X.K f)) (hb : PE X b (tE X.K g)) : PE X (.BinOp a .Mult b pos) (tE X.K (e2 mulE f g)) := by
  have w : OpR X (binaryOp .Mult) (rI (fun i j => CMul i j ∨ CMulW i j) fun i j => .int (i * j)) := by
    intro pins s σ H x y v u Q I rx ry ⟨i, j, h1, h2, h3, q⟩
    rcases h3 with h3 | h3
    · exact op_mul pins s σ H x y v u Q I rx ry ⟨i, j, h1, h2, h3, q⟩
    · exact op_mulW pins s σ H x y v u Q I rx ry ⟨i, j, h1, h2, h3, q⟩
  refine xop w (i2_ok (fun i j h => ?_) fun _ _ _ => .int _) ha hb
  unfold mulC at h
  simp only [Bool.or_eq_true, decide_eq_true_eq] at h
  rcases h with (h | h) | h
  · exact .inr h
  · exact .inl (.inl h)
  · exact .inl (.inr h)
theorem xdiv (ha : PE X a (tE X.K f)) (hb : PE X b (tE X.K g)) : PE X (.BinOp a .FloorDiv b pos) (tE X.K (e2 divE f g)) :=
  xop op_fdivW (i2_ok (fun i j h => by unfold divC at h; simp only [Bool.and_eq_true, decide_eq_true_eq] at h; exact h) fun _ _ _ => .int _) ha hb
theorem xmod (ha : PE X a (tE X.K f)) (hb : PE X b (tE X.K g)) : PE X (.BinOp a .Mod b pos) (tE X.K (e2 modE f g)) :=
  xop op_mod (i2_ok (fun i j h => by unfold modC at h; simpa using h) fun _ _ _ => .int _) ha hb
theorem xpow (ha : PE X a (tE X.K f)) (hb : PE X b (tE X.K g)) : PE X (.BinOp a .Pow b pos) (tE X.K (e2 powE f g)) :=
  xop op_pow (i2_ok (fun i j h => by unfold powC at h; simp only [Bool.and_eq_true, decide_eq_true_eq] at h; exact ⟨h.1.1, h.1.2, h.2⟩) fun _ _ _ => .int _) ha hb
theorem o_lt : OpE X (rI0 fun i j => .bl (decide (i < j))) ltE := i20_ok fun _ _ _ => .bl _
theorem o_le : OpE X (rI0 fun i j => .bl (decide (i ≤ j))) leE := i20_ok fun _ _ _ => .bl _
theorem o_gt : OpE X (rI0 fun i j => .bl (decide (j < i))) gtE := i20_ok fun _ _ _ => .bl _
theorem o_ge : OpE X (rI0 fun i j => .bl (decide (j ≤ i))) geE := i20_ok fun _ _ _ => .bl _
theorem xneg (ha : PE X a (tE X.K f)) : PE X (.UnaryOp .USub a pos) (tE X.K (e1 negE f)) := pe_imp (pe_un un_neg ha) fun σ H Q ⟨F, env, ev, S, e, q⟩ => by
  obtain ⟨x, hx, e⟩ := bind_eq e
  obtain ⟨i, hi, e⟩ := bind_eq e
  cases e
  exact ⟨F, env, x, S, hx, fun v F' H' x1 o => ⟨i, asI_ok o hi, q _ F' H' x1 (.int _)⟩⟩
/-- not x, a value -/
def notE : EV → Option EV := fun x => (asB x).bind fun i => some (.dat (.bool (!i)))

/-! ### == at any depth; is None -/
/-- what is compared: data, or an owned list -/
def asQ : EV → Option D | .dat d => some d | .own (.lst ds) => some (.list ds) | _ => none
theorem asQ_ok {K : PySem.W.Frag} {F H : Hp} {v : V} {e : EV} {d : D} (s : Same F H) (h : EvOk K F H v e) (q : asQ e = some d) : Dp K H v d := by
  cases e with
  | dat d' => cases q; exact dp_same s _ v h
  | lck o => cases q
  | ktp o => cases q
  | fdt o => cases q
  | own o =>
    cases o <;> first | cases q | skip
    obtain ⟨p, u, rfl, n, hp, ok⟩ := h
    cases u <;> first | exact False.elim ok | skip
    exact .lst (SqL.of hp) (dpAll_same s _ _ ok)
def eqE : EV → EV → Option EV := fun x y => (asQ x).bind fun d => (asQ y).bind fun e => if (SeqAt.shaped d && SeqAt.shaped e) = true then some (.dat (.bool (PyData.eqv d e))) else none
def neE : EV → EV → Option EV := fun x y => (asQ x).bind fun d => (asQ y).bind fun e => if (SeqAt.shaped d && SeqAt.shaped e) = true then some (.dat (.bool (!PyData.eqv d e))) else none
theorem o_eq : OpE X (rEqD X.K) eqE := by
  intro F H x y ex ey ev Q s ox oy e q
  obtain ⟨d, hd, e⟩ := bind_eq e
  obtain ⟨d', hd', e⟩ := bind_eq e
  by_cases h : (SeqAt.shaped d && SeqAt.shaped d') = true
  · rw [if_pos h] at e
    cases e
    simp only [Bool.and_eq_true] at h
    exact ⟨d, d', asQ_ok s ox hd, asQ_ok s oy hd', h.1, h.2, q _ F H (Ext.rfl' s) (.bl _)⟩
  · rw [if_neg h] at e; cases e
theorem o_ne : OpE X (rNeD X.K) neE := by
  intro F H x y ex ey ev Q s ox oy e q
  obtain ⟨d, hd, e⟩ := bind_eq e
  obtain ⟨d', hd', e⟩ := bind_eq e
  by_cases h : (SeqAt.shaped d && SeqAt.shaped d') = true
  · rw [if_pos h] at e
    cases e
    simp only [Bool.and_eq_true] at h
    exact ⟨d, d', asQ_ok s ox hd, asQ_ok s oy hd', h.1, h.2, q _ F H (Ext.rfl' s) (.bl _)⟩
  · rw [if_neg h] at e; cases e
/-- x in xs, any data -/
def asSeq : EV → Option (List D) | .dat (.list ds) => some ds | .dat (.tuple ds) => some ds | .own (.lst ds) => some ds | _ => none
def isNone : D → Bool | .none => true | _ => false
def isN : EV → EV → Option EV := fun x y => match y with
  | .dat .none => (asD x).bind fun d => some (.dat (.bool (isNone d)))
  | _ => none
def ntN : EV → EV → Option EV := fun x y => match y with
  | .dat .none => (asD x).bind fun d => some (.dat (.bool (!isNone d)))
  | _ => none
theorem dp_none {K : PySem.W.Frag} {F : Hp} {v : V} {d : D} (h : Dp K F v d) : decide (v = .non) = isNone d := by
  cases h <;> first | rfl | simp [isNone]
theorem o_isN : OpE X (fun x y H Q => y = .non ∧ Q (.bl (decide (x = .non))) H) isN := by
  intro F H x y ex ey ev Q s ox oy e q
  unfold isN at e
  split at e
  · obtain ⟨d, hd, e⟩ := bind_eq e
    cases e
    cases oy
    refine ⟨rfl, q _ F H (Ext.rfl' s) ?_⟩
    rw [dp_none (asD_ok ox hd)]
    exact .bl _
  · cases e
theorem o_ntN : OpE X (fun x y H Q => y = .non ∧ Q (.bl (!decide (x = .non))) H) ntN := by
  intro F H x y ex ey ev Q s ox oy e q
  unfold ntN at e
  split at e
  · obtain ⟨d, hd, e⟩ := bind_eq e
    cases e
    cases oy
    refine ⟨rfl, q _ F H (Ext.rfl' s) ?_⟩
    rw [dp_none (asD_ok ox hd)]
    exact .bl _
  · cases e

/-! ### subscripts -/
def ixE : EV → EV → Option EV := fun x y => (asSeq x).bind fun ds => (asI y).bind fun i => (atI ds i).bind fun d => some (.dat d)
theorem dpAll_atI {K : PySem.W.Frag} {F : Hp} {vs : List V} {ds : List D} (h : DpAll K F vs ds) {i : Int} {d : D} (e : atI ds i = some d) : ∃ v, atI vs i = some v ∧ Dp K F v d := by
  unfold atI at e ⊢
  rw [dpAll_len h]
  obtain ⟨j, hj, e⟩ := bind_eq e
  obtain ⟨v, h1, h2⟩ := dpAll_get h e
  exact ⟨v, by rw [hj]; exact h1, h2⟩
theorem asSeq_ok {K : PySem.W.Frag} {F H : Hp} {v : V} {e : EV} {ds : List D} (s : Same F H) (h : EvOk K F H v e) (q : asSeq e = some ds) : ∃ p xs, v = .ref p ∧ (SqL K H p xs ∨ SqT K H p xs) ∧ DpAll K F xs ds := by
  cases e with
  | own o =>
    cases o <;> first | cases q | skip
    obtain ⟨p, xs, e, h1, h2⟩ := asL_ok s h (show asL (EV.own (Ob.lst _)) = some _ from rfl)
    exact ⟨p, xs, e, .inl h1, h2⟩
  | lck o => cases q
  | ktp o => cases q
  | fdt o => cases q
  | dat d =>
    cases d <;> first | cases q | skip
    · obtain ⟨p, xs, e, h1, h2⟩ := asL_ok s h (show asL (EV.dat (.list _)) = some _ from rfl)
      exact ⟨p, xs, e, .inl h1, h2⟩
    · obtain ⟨p, xs, e, h1, h2⟩ := asT_ok s h (show asT (EV.dat (.tuple _)) = some _ from rfl)
      exact ⟨p, xs, e, .inr h1, h2⟩
theorem o_ix : OpE X (rIx X.K) ixE := by
  intro F H x y ex ey ev Q s ox oy e q
  obtain ⟨ds, hd, e⟩ := bind_eq e
  obtain ⟨i, hi, e⟩ := bind_eq e
  obtain ⟨d, hx, e⟩ := bind_eq e
  cases e
  obtain ⟨p, xs, rfl, h1, h2⟩ := asSeq_ok s ox hd
  obtain ⟨v, e1, e2⟩ := dpAll_atI h2 hx
  rcases h1 with h1 | h1
  · exact .inl ⟨p, xs, i, v, rfl, asI_ok oy hi, h1, e1, q v F H (Ext.rfl' s) e2⟩
  · exact .inr (.inl ⟨p, xs, i, v, rfl, asI_ok oy hi, h1, e1, q v F H (Ext.rfl' s) e2⟩)
theorem xix (ha : PE X a (tE X.K f)) (hb : PE X b (tE X.K g)) (hs : PlainIx b := by intro _ _; rfl) : PE X (.Subscript a b pos) (tE X.K (e2 ixE f g)) :=
  pe_imp (pe_ix ix_seq ha hb hs) fun σ H Q w => two_ok o_ix w

/-! ### calls -/
def CallE (X : Cx) (r : List V → Hp → VK → Prop) (o : List EV → Option EV) : Prop := ∀ (F H : Hp) (vs : List V) (es : List EV) (ev : EV) (Q : VK), Same F H → EvAll X.K F H vs es → o es = some ev →
  (∀ v F' H', Ext F H F' H' → EvOk X.K F' H' v ev → Q v H') → r vs H Q
def CallN (X : Cx) (r : List V → Hp → VK → Prop) (o : List EV → Option Ob) : Prop := ∀ (F H : Hp) (vs : List V) (es : List EV) (ob : Ob) (Q : VK), Same F H → EvAll X.K F H vs es → o es = some ob →
  (∀ p u F' H', Ext F H F' H' → H p = none → F' p = none → H' p = some u → ObOk X.K F' u ob → Q (.ref p) H') → r vs H Q
theorem cb_ok {r : List V → Hp → VK → Prop} {o : List EV → Option EV} (h : CallE X r o) {σ : L2.St} {H : Hp} {Q : VK} (w : tE X.K (eA o fs) σ H Q) : tCB r (tA X.K fs) σ H Q := by
  obtain ⟨F, env, ev, S, e, q⟩ := w
  obtain ⟨xs, hx, e⟩ := bind_eq e
  exact ⟨F, env, xs, S, hx, fun vs F1 H1 x1 o1 => h F1 H1 vs xs ev Q x1.low o1 e fun v F2 H2 x2 o2 => q v F2 H2 (x1.trans x2) o2⟩
theorem cn_ok {r : List V → Hp → VK → Prop} {o : List EV → Option Ob} (h : CallN X r o) {σ : L2.St} {H : Hp} {Q : VK} (w : tN X.K (nA o fs) σ H Q) : tCB r (tA X.K fs) σ H Q := by
  obtain ⟨F, env, ev, S, e, q⟩ := w
  obtain ⟨xs, hx, e⟩ := bind_eq e
  exact ⟨F, env, xs, S, hx, fun vs F1 H1 x1 o1 => h F1 H1 vs xs ev Q x1.low o1 e fun p u F2 H2 x2 hn hf hp ok => q p u F2 H2 (x1.trans x2) (x1.same.free hn) hf hp ok⟩
theorem xcb {id : String} {x : Str} {p : Pos} {r : List V → Hp → VK → Prop} {o : List EV → Option EV} (hc : CallR X (.builtin id) r) (h : CallE X r o) (hg : Gl X x) (hm : X.mg x = none) (hv : bootBuiltins x = some (.builtin id)) (ha : PA X (e :: es) (tA X.K fs)) (hn : x ≠ "__name__" := by decide) (hdb : (x == ("__debug__" : Str)) = false := by decide)
    (he : starEach (e :: es) X.env = (false, eval e X.env) :: starEach es X.env := by rfl) (hpl : (backTo pos (starEach es X.env)).any (·.1) = false := by rfl) : PE X (.Call (.Name x p) (e :: es) [] pos) (tE X.K (eA o fs)) :=
  pe_imp (pe_callB hc hg hm hv ha hn hdb he hpl) fun σ H Q w => cb_ok h w
theorem xcbN {id : String} {x : Str} {p : Pos} {r : List V → Hp → VK → Prop} {o : List EV → Option Ob} (hc : CallR X (.builtin id) r) (h : CallN X r o) (hg : Gl X x) (hm : X.mg x = none) (hv : bootBuiltins x = some (.builtin id)) (ha : PA X (e :: es) (tA X.K fs)) (hn : x ≠ "__name__" := by decide) (hdb : (x == ("__debug__" : Str)) = false := by decide)
    (he : starEach (e :: es) X.env = (false, eval e X.env) :: starEach es X.env := by rfl) (hpl : (backTo pos (starEach es X.env)).any (·.1) = false := by rfl) : PE X (.Call (.Name x p) (e :: es) [] pos) (tN X.K (nA o fs)) :=
  pe_imp (pe_callB hc hg hm hv ha hn hdb he hpl) fun σ H Q w => cn_ok h w
theorem xct {T : String} {x : Str} {p : Pos} {r : List V → Hp → VK → Prop} {o : List EV → Option EV} (hc : CallR X (.type T) r) (h : CallE X r o) (hg : Gl X x) (hm : X.mg x = none) (hv : bootBuiltins x = some (.type T)) (ha : PA X (e :: es) (tA X.K fs)) (hn : x ≠ "__name__" := by decide) (hdb : (x == ("__debug__" : Str)) = false := by decide)
    (he : starEach (e :: es) X.env = (false, eval e X.env) :: starEach es X.env := by rfl) (hpl : (backTo pos (starEach es X.env)).any (·.1) = false := by rfl) : PE X (.Call (.Name x p) (e :: es) [] pos) (tE X.K (eA o fs)) :=
  pe_imp (pe_callTy hc hg hm hv ha hn hdb he hpl) fun σ H Q w => cb_ok h w
theorem xctN {T : String} {x : Str} {p : Pos} {r : List V → Hp → VK → Prop} {o : List EV → Option Ob} (hc : CallR X (.type T) r) (h : CallN X r o) (hg : Gl X x) (hm : X.mg x = none) (hv : bootBuiltins x = some (.type T)) (ha : PA X (e :: es) (tA X.K fs)) (hn : x ≠ "__name__" := by decide) (hdb : (x == ("__debug__" : Str)) = false := by decide)
    (he : starEach (e :: es) X.env = (false, eval e X.env) :: starEach es X.env := by rfl) (hpl : (backTo pos (starEach es X.env)).any (·.1) = false := by rfl) : PE X (.Call (.Name x p) (e :: es) [] pos) (tN X.K (nA o fs)) :=
  pe_imp (pe_callTy hc hg hm hv ha hn hdb he hpl) fun σ H Q w => cn_ok h w
/-- a module's name for a built-in function -/
theorem xcf {id : String} {x : Str} {p : Pos} {r : List V → Hp → VK → Prop} {o : List EV → Option EV} (hc : CallR X (.builtin id) r) (h : CallE X r o) (hg : Gl X x) (hm : X.mg x = some (.builtin id)) (ha : PA X (e :: es) (tA X.K fs)) (hdb : (x == ("__debug__" : Str)) = false := by decide)
    (he : starEach (e :: es) X.env = (false, eval e X.env) :: starEach es X.env := by rfl) (hpl : (backTo pos (starEach es X.env)).any (·.1) = false := by rfl) : PE X (.Call (.Name x p) (e :: es) [] pos) (tE X.K (eA o fs)) :=
  pe_imp (pe_callBfun hc hg hm ha hdb he hpl) fun σ H Q w => cb_ok h w

theorem all1 {K : PySem.W.Frag} {F H : Hp} {vs : List V} {ev : EV} (h : EvAll K F H vs [ev]) : ∃ v, vs = [v] ∧ EvOk K F H v ev := by
  cases h with
  | cons r t => cases t; exact ⟨_, rfl, r⟩
theorem all2 {K : PySem.W.Frag} {F H : Hp} {vs : List V} {ev ev' : EV} (h : EvAll K F H vs [ev, ev']) : ∃ v v', vs = [v, v'] ∧ EvOk K F H v ev ∧ EvOk K F H v' ev' := by
  cases h with
  | cons r t =>
    cases t with
    | cons r' t' => cases t'; exact ⟨_, _, rfl, r, r'⟩
def lenE : List EV → Option EV | [e] => (asSeq e).bind fun ds => some (.dat (.int ds.length)) | _ => none
theorem o_len : CallE X (fun xs H Q => ∃ p ys, xs = [V.ref p] ∧ (SqL X.K H p ys ∨ SqT X.K H p ys) ∧ Q (.int ys.length) H) lenE := by
  intro F H vs es ev Q s ok e q
  match es, e, ok with
  | [x], e, ok =>
    obtain ⟨ds, hd, e⟩ := bind_eq (show (asSeq x).bind (fun ds => some (EV.dat (.int ds.length))) = some ev from e)
    cases e
    obtain ⟨v, rfl, o⟩ := all1 ok
    obtain ⟨p, xs, rfl, h1, h2⟩ := asSeq_ok s o hd
    refine ⟨p, xs, rfl, h1, q _ F H (Ext.rfl' s) ?_⟩
    rw [dpAll_len h2]
    exact .int _
def absE : List EV → Option EV | [e] => (asI e).bind fun i => some (.dat (.int (if i < 0 then -i else i))) | _ => none
theorem o_abs : CallE X (fun xs H Q => ∃ i, xs = [V.int i] ∧ Q (.int (if i < 0 then -i else i)) H) absE := by
  intro F H vs es ev Q s ok e q
  match es, e, ok with
  | [x], e, ok =>
    obtain ⟨i, hd, e⟩ := bind_eq (show (asI x).bind _ = some ev from e)
    cases e
    obtain ⟨v, rfl, o⟩ := all1 ok
    exact ⟨i, by rw [asI_ok o hd], q _ F H (Ext.rfl' s) (.int _)⟩
def maxE : List EV → Option EV | [e, e'] => (asI e).bind fun i => (asI e').bind fun j => some (.dat (.int (if j > i then j else i))) | _ => none
theorem o_max : CallE X (fun xs H Q => ∃ i j, xs = [V.int i, V.int j] ∧ Q (.int (if j > i then j else i)) H) maxE := by
  intro F H vs es ev Q s ok e q
  match es, e, ok with
  | [x, y], e, ok =>
    obtain ⟨i, hd, e⟩ := bind_eq (show (asI x).bind _ = some ev from e)
    obtain ⟨j, hj, e⟩ := bind_eq e
    cases e
    obtain ⟨v, v', rfl, o, o'⟩ := all2 ok
    exact ⟨i, j, by rw [asI_ok o hd, asI_ok o' hj], q _ F H (Ext.rfl' s) (.int _)⟩
/-- int(x) of an int or a bool -/
def intE : List EV → Option EV | [.dat (.int i)] => some (.dat (.int i)) | [.dat (.bool b)] => some (.dat (.int (if b = true then 1 else 0))) | _ => none
theorem o_int : CallE X (fun xs H Q => (∃ i, xs = [V.int i] ∧ Q (.int i) H) ∨ ∃ k, xs = [V.bl k] ∧ Q (.int (if k = true then 1 else 0)) H) intE := by
  intro F H vs es ev Q s ok e q
  unfold intE at e
  split at e
  · cases e
    obtain ⟨v, rfl, o⟩ := all1 ok
    cases o
    exact .inl ⟨_, rfl, q _ F H (Ext.rfl' s) (.int _)⟩
  · cases e
    obtain ⟨v, rfl, o⟩ := all1 ok
    cases o
    exact .inr ⟨_, rfl, q _ F H (Ext.rfl' s) (.int _)⟩
  · cases e
def gcdE : List EV → Option EV | [e, e'] => (asI e).bind fun i => (asI e').bind fun j => some (.dat (.int ((Nat.gcd i.natAbs j.natAbs : Nat) : Int))) | _ => none
theorem o_gcd : CallE X rGcd gcdE := by
  intro F H vs es ev Q s ok e q
  match es, e, ok with
  | [x, y], e, ok =>
    obtain ⟨i, hd, e⟩ := bind_eq (show (asI x).bind _ = some ev from e)
    obtain ⟨j, hj, e⟩ := bind_eq e
    cases e
    obtain ⟨v, v', rfl, o, o'⟩ := all2 ok
    exact ⟨i, j, by rw [asI_ok o hd, asI_ok o' hj], q _ F H (Ext.rfl' s) (.int _)⟩
/-- list(xs) -/
def listN : List EV → Option Ob | [e] => (asSeq e).bind fun ds => some (.lst ds) | _ => none
theorem o_list : CallN X (fun xs H Q => ∃ p ys, xs = [V.ref p] ∧ (SqL X.K H p ys ∨ SqT X.K H p ys) ∧ ∀ l, H l = none → Q (.ref l) (upd H l (.lst ys))) listN := by
  intro F H vs es ob Q s ok e q
  match es, e, ok with
  | [x], e, ok =>
    obtain ⟨ds, hd, e⟩ := bind_eq (show (asSeq x).bind _ = some ob from e)
    cases e
    obtain ⟨v, rfl, o⟩ := all1 ok
    obtain ⟨p, xs, rfl, h1, h2⟩ := asSeq_ok s o hd
    exact ⟨p, xs, rfl, h1, fun l hl => q l _ F _ (Ext.allocN s hl) hl (s.free hl) upd_same h2⟩

/-! ### calls of the text's defs -/
def spD (K : PySem.W.Frag) (M : List D → Option D) : Sp := fun vs H Q _ => ∃ F ds d, Same F H ∧ DpAll K F vs ds ∧ M ds = some d ∧ ∀ v F' H', Ext F H F' H' → Dp K F' v d → Q v H'
def spN (K : PySem.W.Frag) (M : List D → Option Ob) : Sp := fun vs H Q _ => ∃ F ds o, Same F H ∧ DpAll K F vs ds ∧ M ds = some o ∧ ∀ p u F' H', Ext F H F' H' → H p = none → F' p = none → H' p = some u → ObOk K F' u o → Q (.ref p) H'
def cl (M : List D → Option D) (fs : En → Option (List EV)) : En → Option EV := fun env => (fs env).bind fun es => (asDs es).bind fun ds => (M ds).bind fun d => some (.dat d)
def clN (M : List D → Option Ob) (fs : En → Option (List EV)) : En → Option Ob := fun env => (fs env).bind fun es => (asDs es).bind M
variable {k : Nat} {fa : Addr} {fd : FuncData} {ps : List Str} {x : Str} {p : Pos} {M : List D → Option D} {MN : List D → Option Ob}
theorem xcall (G : FnOk X.prog X.w X.K X.mg X.base CX0 k fa fd ps (spD X.K M)) (hr : Room k X.A) (hg : Gl X x) (hm : X.mg x = some (.ref fa)) (hk : PySem.W.keepIn X.K (.ref fa) = true) (hb : Binds X.K fd ps []) (ha : PA X (e :: es) (tA X.K fs))
    (hdb : (x == ("__debug__" : Str)) = false := by decide) (he : starEach (e :: es) X.env = (false, eval e X.env) :: starEach es X.env := by rfl) (hpl : (backTo pos (starEach es X.env)).any (·.1) = false := by rfl) :
    PE X (.Call (.Name x p) (e :: es) [] pos) (tE X.K (cl M fs)) :=
  pe_imp (pe_call G hr hg hm hk hb .nil pass0 ha hdb he hpl) fun σ H Q ⟨F, env, ev, S, e, q⟩ => by
    obtain ⟨xs, hx, e⟩ := bind_eq e
    obtain ⟨ds, hd, e⟩ := bind_eq e
    obtain ⟨d, hM, e⟩ := bind_eq e
    cases e
    refine ⟨F, env, xs, S, hx, fun vs F1 H1 x1 o1 => ⟨F1, ds, d, x1.low, ?_, hM, fun v F2 H2 x2 o2 => q v F2 H2 (x1.trans x2) o2⟩⟩
    rw [List.append_nil]
    exact asDs_ok o1 hd
theorem xcallN (G : FnOk X.prog X.w X.K X.mg X.base CX0 k fa fd ps (spN X.K MN)) (hr : Room k X.A) (hg : Gl X x) (hm : X.mg x = some (.ref fa)) (hk : PySem.W.keepIn X.K (.ref fa) = true) (hb : Binds X.K fd ps []) (ha : PA X (e :: es) (tA X.K fs))
    (hdb : (x == ("__debug__" : Str)) = false := by decide) (he : starEach (e :: es) X.env = (false, eval e X.env) :: starEach es X.env := by rfl) (hpl : (backTo pos (starEach es X.env)).any (·.1) = false := by rfl) :
    PE X (.Call (.Name x p) (e :: es) [] pos) (tN X.K (clN MN fs)) :=
  pe_imp (pe_call G hr hg hm hk hb .nil pass0 ha hdb he hpl) fun σ H Q ⟨F, env, ev, S, e, q⟩ => by
    obtain ⟨xs, hx, e⟩ := bind_eq e
    obtain ⟨ds, hd, hM⟩ := bind_eq e
    refine ⟨F, env, xs, S, hx, fun vs F1 H1 x1 o1 => ⟨F1, ds, ev, x1.low, ?_, hM, fun p u F2 H2 x2 hn hf hp ok => q p u F2 H2 (x1.trans x2) (x1.same.free hn) hf hp ok⟩⟩
    rw [List.append_nil]
    exact asDs_ok o1 hd
/-- with keywords: g puts the values in the parameters' order -/
def aKW (gV : List EV → List EV → List EV) (fs gs : En → Option (List EV)) : En → Option (List EV) := fun env => (fs env).bind fun xs => (gs env).bind fun ys => some (gV xs ys)
theorem xk0 : PK X [] (tA X.K a0) := ⟨fun pos pins s σ H Q I w => by
  obtain ⟨F, env, ev, S, e, q⟩ := w
  cases e
  exact pk_nil.run pos pins s σ H Q I (q [] F H (Ext.rfl' S.sub) .nil)⟩
theorem xkc {nm : Option Str} {kpos : Pos} {kws : List Keyword} (ha : PE X e (tE X.K f)) (hr : PK X kws (tA X.K fs)) : PK X (⟨nm, e, kpos⟩ :: kws) (tA X.K (ac f fs)) := ⟨fun pos pins s σ H Q I w => by
  obtain ⟨F, env, ev, S, e, q⟩ := w
  obtain ⟨x, hx, e⟩ := bind_eq e
  obtain ⟨xs, hxs, e⟩ := bind_eq e
  cases e
  refine (pk_cons ha hr).run pos pins s σ H Q I ⟨F, env, x, S, hx, fun v F1 H1 x1 o1 => ⟨F1, env, xs, S.ext x1, hxs, fun vs F2 H2 x2 o2 => ?_⟩⟩
  exact q (v :: vs) F2 H2 (x1.trans x2) (.cons (o1.ext x2) o2)⟩
end
end Od

set_option Elab.async false
set_option linter.all false
set_option maxRecDepth 100000
set_option autoImplicit false
/-! Od, third part: what is walked, targets, comprehensions, statements, a def by its body. -/
namespace Od
open PySem PySem.Spec PyProof.Rows L2

/-! ### what is walked -/
/-- J yields ds while F0 stands -/
structure Wk (K : PySem.W.Frag) (J : It) (ds : List D) (F0 : Hp) : Prop where
  go : ∀ (i : Nat) (F H : Hp), Same F0 F → Same F H → i < ds.length → J.go i H
  yld : ∀ (i : Nat) (F H H' : Hp) (x : V) (d : D), Same F0 F → Same F H → J.yld i H x H' → ds[i]? = some d → ∃ F', Ext F H F' H' ∧ Dp K F' x d
  stop : ∀ (i : Nat) (F H : Hp), Same F0 F → Same F H → ds.length ≤ i → J.stop i H
def iI (K : PySem.W.Frag) (it : En → Option (List D)) : TI := fun σ H R => ∃ F env ds, StOk K F H σ env ∧ it env = some ds ∧ ∀ J F' H', Ext F H F' H' → Wk K J ds F' → R J H'
/-- data that is walked -/
def asDL : EV → Option (List D) | .dat (.list ds) => some ds | _ => none
def itL (f : En → Option EV) : En → Option (List D) := fun env => (f env).bind asDL
def itT (f : En → Option EV) : En → Option (List D) := fun env => (f env).bind asT
/-- a new list that is walked at once -/
def itN (f : En → Option Ob) : En → Option (List D) := fun env => match f env with | some (.lst ds) => some ds | _ => none
def upTo (lo : Int) (n : Nat) : List D := (List.range n).map fun (k : Nat) => PyData.int (lo + (k : Int))
def rg1E : List EV → Option (List D) | [e] => (asI e).bind fun j => if -(2 ^ 62) ≤ j ∧ j < 2 ^ 62 then some (upTo 0 j.toNat) else none | _ => none
def rg2E : List EV → Option (List D) | [e, e'] => (asI e).bind fun i => (asI e').bind fun j => if -(2 ^ 62) ≤ i ∧ i < 2 ^ 62 ∧ -(2 ^ 62) ≤ j ∧ j < 2 ^ 62 then some (upTo i (j - i).toNat) else none | _ => none
def itA (o : List EV → Option (List D)) (fs : En → Option (List EV)) : En → Option (List D) := fun env => (fs env).bind o
/-- enumerate, zip -/
def enumD (ds : List D) : List D := ds.zipIdx.map fun p => PyData.tuple [.int ((p.2 : Nat) : Int), p.1]
def zipD (ds es : List D) : List D := (ds.zip es).map fun p => PyData.tuple [p.1, p.2]
def enE : List EV → Option (List D) | [e] => (asDL e).bind fun ds => some (enumD ds) | _ => none
def zpE : List EV → Option (List D) | [e, e'] => (asDL e).bind fun ds => (asDL e').bind fun es => some (zipD ds es) | _ => none
section
variable {X : Cx} {pos : Pos} {tg e a b c : Expr} {f g : En → Option EV} {n : En → Option Ob} {es : List Expr} {fs : En → Option (List EV)}
theorem wk_list {K : PySem.W.Frag} {F : Hp} {p : Addr} {xs : List V} {ds : List D} (h : SqL K F p xs) (ha : DpAll K F xs ds) : Wk K (Itl K p) ds F := by
  have hl := dpAll_len ha
  refine ⟨fun i F1 H s s1 hi => ?_, fun i F1 H H' x d s s1 y e => ?_, fun i F1 H s s1 hi => ⟨xs, s1.seq (s.seq h), by omega⟩⟩
  · have hx : i < xs.length := by omega
    exact ⟨xs, xs[i], s1.seq (s.seq h), by simp [hx]⟩
  · obtain ⟨rfl, y⟩ := y
    obtain ⟨v, h1, h2⟩ := dpAll_get ha e
    have := y xs (s1.seq (s.seq h))
    rw [h1] at this
    cases this
    exact ⟨F1, Ext.rfl' s1, dp_same s d _ h2⟩
theorem wk_tup {K : PySem.W.Frag} {F : Hp} {p : Addr} {xs : List V} {ds : List D} (h : SqT K F p xs) (ha : DpAll K F xs ds) : Wk K (Itt K p) ds F := by
  have hl := dpAll_len ha
  refine ⟨fun i F1 H s s1 hi => ?_, fun i F1 H H' x d s s1 y e => ?_, fun i F1 H s s1 hi => ⟨xs, sqT_same s1 (sqT_same s h), by omega⟩⟩
  · have hx : i < xs.length := by omega
    exact ⟨xs, xs[i], sqT_same s1 (sqT_same s h), by simp [hx]⟩
  · obtain ⟨rfl, y⟩ := y
    obtain ⟨v, h1, h2⟩ := dpAll_get ha e
    have := y xs (sqT_same s1 (sqT_same s h))
    rw [h1] at this
    cases this
    exact ⟨F1, Ext.rfl' s1, dp_same s d _ h2⟩
theorem upTo_get {lo : Int} {n i : Nat} {d : D} (h : (upTo lo n)[i]? = some d) : d = .int (lo + (i : Int)) := by
  unfold upTo at h
  rw [List.getElem?_map] at h
  cases e : (List.range n)[i]? with
  | none => rw [e] at h; cases h
  | some k =>
    rw [e] at h
    cases h
    obtain ⟨h1, h2⟩ := List.getElem?_eq_some_iff.mp e
    rw [List.getElem_range] at h2
    rw [← h2]
theorem upTo_len {lo : Int} {n : Nat} : (upTo lo n).length = n := by unfold upTo; simp
theorem wk_range {K : PySem.W.Frag} {F : Hp} {lo : Int} {n : Nat} : Wk K (Itr lo n) (upTo lo n) F := by
  refine ⟨fun i F1 H s s1 hi => by rw [upTo_len] at hi; exact hi, fun i F1 H H' x d s s1 y e => ?_, fun i F1 H s s1 hi => by rw [upTo_len] at hi; exact hi⟩
  obtain ⟨rfl, rfl⟩ := y
  rw [upTo_get e]
  exact ⟨F1, Ext.rfl' s1, .int _⟩
theorem enum_get {ds : List D} {i : Nat} {d : D} (h : (enumD ds)[i]? = some d) : ∃ d', ds[i]? = some d' ∧ d = .tuple [.int (i : Int), d'] := by
  unfold enumD at h
  rw [List.getElem?_map, List.getElem?_zipIdx] at h
  cases e : ds[i]? with
  | none => rw [e] at h; cases h
  | some k =>
    rw [e] at h
    cases h
    exact ⟨k, rfl, by simp⟩
theorem enum_len {ds : List D} : (enumD ds).length = ds.length := by unfold enumD; simp
theorem zip_get {ds es : List D} {i : Nat} {d : D} (h : (zipD ds es)[i]? = some d) : ∃ x y, ds[i]? = some x ∧ es[i]? = some y ∧ d = .tuple [x, y] := by
  unfold zipD at h
  rw [List.getElem?_map] at h
  cases e : (ds.zip es)[i]? with
  | none => rw [e] at h; cases h
  | some k =>
    rw [e] at h
    cases h
    obtain ⟨h1, h2⟩ := List.getElem?_zip_eq_some.mp e
    exact ⟨_, _, h1, h2, rfl⟩
theorem zip_len {ds es : List D} : (zipD ds es).length = min ds.length es.length := by unfold zipD; simp
theorem wk_enum {K : PySem.W.Frag} {F : Hp} {p : Addr} {xs : List V} {ds : List D} (h : SqL K F p xs) (ha : DpAll K F xs ds) : Wk K (Ite K p) (enumD ds) F := by
  have hl := dpAll_len ha
  refine ⟨fun i F1 H s s1 hi => ?_, fun i F1 H H' x d s s1 y e => ?_, fun i F1 H s s1 hi => ⟨xs, s1.seq (s.seq h), by rw [enum_len] at hi; omega⟩⟩
  · rw [enum_len] at hi
    have hx : i < xs.length := by omega
    exact ⟨xs, xs[i], s1.seq (s.seq h), by simp [hx]⟩
  · obtain ⟨T, v, rfl, hT, rfl, y⟩ := y
    obtain ⟨d', e1, rfl⟩ := enum_get e
    obtain ⟨v', h1, h2⟩ := dpAll_get ha e1
    have := y xs (s1.seq (s.seq h))
    rw [h1] at this
    cases this
    exact ⟨upd F1 T (.tup [.int i, v]), Ext.alloc s1 hT, .tup (SqT.of upd_same) (.cons (.int _) (.cons (dp_same (same_upd (s1.free hT)) _ _ (dp_same s _ _ h2)) .nil))⟩
theorem wk_zip {K : PySem.W.Frag} {F : Hp} {p q : Addr} {xs ys : List V} {ds es : List D} (h : SqL K F p xs) (ha : DpAll K F xs ds) (h' : SqL K F q ys) (ha' : DpAll K F ys es) : Wk K (Itz K p q) (zipD ds es) F := by
  have hl := dpAll_len ha
  have hl' := dpAll_len ha'
  refine ⟨fun i F1 H s s1 hi => ?_, fun i F1 H H' x d s s1 y e => ?_, fun i F1 H s s1 hi => ⟨xs, ys, s1.seq (s.seq h), s1.seq (s.seq h'), by rw [zip_len] at hi; omega⟩⟩
  · rw [zip_len] at hi
    have hx : i < xs.length := by omega
    have hy : i < ys.length := by omega
    exact ⟨xs, ys, xs[i], ys[i], s1.seq (s.seq h), s1.seq (s.seq h'), by simp [hx], by simp [hy]⟩
  · obtain ⟨T, v, w, rfl, hT, rfl, y, y'⟩ := y
    obtain ⟨d1, d2, e1, e2, rfl⟩ := zip_get e
    obtain ⟨v1, h1, h2⟩ := dpAll_get ha e1
    obtain ⟨v2, h3, h4⟩ := dpAll_get ha' e2
    have z1 := y xs (s1.seq (s.seq h))
    rw [h1] at z1
    cases z1
    have z2 := y' ys (s1.seq (s.seq h'))
    rw [h3] at z2
    cases z2
    have sm := same_upd (o := .tup [v, w]) (s1.free hT)
    exact ⟨upd F1 T (.tup [v, w]), Ext.alloc s1 hT, .tup (SqT.of upd_same) (.cons (dp_same sm _ _ (dp_same s _ _ h2)) (.cons (dp_same sm _ _ (dp_same s _ _ h4)) .nil))⟩
theorem asDL_ok {K : PySem.W.Frag} {F H : Hp} {v : V} {e : EV} {ds : List D} (h : EvOk K F H v e) (q : asDL e = some ds) : ∃ p xs, v = .ref p ∧ SqL K F p xs ∧ DpAll K F xs ds := by
  cases e with
  | own o => cases q
  | lck o => cases q
  | ktp o => cases q
  | fdt o => cases q
  | dat d =>
    cases d <;> first | cases q | skip
    cases h with
    | lst hs ha => exact ⟨_, _, rfl, hs, ha⟩
theorem asDT_ok {K : PySem.W.Frag} {F H : Hp} {v : V} {e : EV} {ds : List D} (h : EvOk K F H v e) (q : asT e = some ds) : ∃ p xs, v = .ref p ∧ SqT K F p xs ∧ DpAll K F xs ds := by
  cases e with
  | own o => cases q
  | lck o => cases q
  | ktp o => cases q
  | fdt o => cases q
  | dat d =>
    cases d <;> first | cases q | skip
    cases h with
    | tup hs ha => exact ⟨_, _, rfl, hs, ha⟩
theorem ilist (h : PE X e (tE X.K f)) : PI X tg e (iI X.K (itL f)) := pi_imp (pi_list h) fun σ H R ⟨F, env, ds, S, e, q⟩ => by
  obtain ⟨ev, hx, e⟩ := bind_eq e
  refine ⟨F, env, ev, S, hx, fun v F' H' x o => ?_⟩
  obtain ⟨p, xs, rfl, h1, h2⟩ := asDL_ok o e
  exact ⟨p, rfl, ⟨xs, x.low.seq h1⟩, q _ F' H' x (wk_list h1 h2)⟩
theorem itup (h : PE X e (tE X.K f)) : PI X tg e (iI X.K (itT f)) := pi_imp (pi_tup h) fun σ H R ⟨F, env, ds, S, e, q⟩ => by
  obtain ⟨ev, hx, e⟩ := bind_eq e
  refine ⟨F, env, ev, S, hx, fun v F' H' x o => ?_⟩
  obtain ⟨p, xs, rfl, h1, h2⟩ := asDT_ok o e
  exact ⟨p, rfl, ⟨xs, sqT_same x.low h1⟩, q _ F' H' x (wk_tup h1 h2)⟩
theorem irg1 {p : Pos} (hg : Gl X "range") (hm : X.mg "range" = none) (ha : PA X [a] (tA X.K fs)) (hs : starEach [a] X.env = [(false, eval a X.env)] := by rfl) : PI X tg (.Call (.Name "range" p) [a] [] pos) (iI X.K (itA rg1E fs)) :=
  pi_imp (pi_range1 hg hm ha hs) fun σ H R ⟨F, env, ds, S, e, q⟩ => by
    obtain ⟨xs, hx, e⟩ := bind_eq e
    refine ⟨F, env, xs, S, hx, fun vs F' H' x o => ?_⟩
    match xs, e, o with
    | [ev], e, o =>
      obtain ⟨j, hj, e⟩ := bind_eq (show (asI ev).bind (fun j => if -(2 ^ 62) ≤ j ∧ j < 2 ^ 62 then some (upTo 0 j.toNat) else none) = some ds from e)
      obtain ⟨v, rfl, ok⟩ := all1 o
      by_cases h : -(2 ^ 62) ≤ j ∧ j < 2 ^ 62
      · rw [if_pos h] at e
        cases e
        exact ⟨j, by rw [asI_ok ok hj], h.1, h.2, q _ F' H' x wk_range⟩
      · rw [if_neg h] at e; cases e
theorem irg2 {p : Pos} (hg : Gl X "range") (hm : X.mg "range" = none) (ha : PA X [a, b] (tA X.K fs)) (hs : starEach [a, b] X.env = [(false, eval a X.env), (false, eval b X.env)] := by rfl) (hs2 : starEach [b] X.env = [(false, eval b X.env)] := by rfl) :
    PI X tg (.Call (.Name "range" p) [a, b] [] pos) (iI X.K (itA rg2E fs)) :=
  pi_imp (pi_range2 hg hm ha hs hs2) fun σ H R ⟨F, env, ds, S, e, q⟩ => by
    obtain ⟨xs, hx, e⟩ := bind_eq e
    refine ⟨F, env, xs, S, hx, fun vs F' H' x o => ?_⟩
    match xs, e, o with
    | [ev, ev'], e, o =>
      obtain ⟨i, hi, e⟩ := bind_eq (show (asI ev).bind _ = some ds from e)
      obtain ⟨j, hj, e⟩ := bind_eq e
      obtain ⟨v, v', rfl, ok, ok'⟩ := all2 o
      by_cases h : -(2 ^ 62) ≤ i ∧ i < 2 ^ 62 ∧ -(2 ^ 62) ≤ j ∧ j < 2 ^ 62
      · rw [if_pos h] at e
        cases e
        exact ⟨i, j, by rw [asI_ok ok hi, asI_ok ok' hj], h, q _ F' H' x wk_range⟩
      · rw [if_neg h] at e; cases e
theorem ienum {p tpos : Pos} {elts : List Expr} {kk : Nat} (hg : Gl X "enumerate") (hm : X.mg "enumerate" = none) (ha : PA X [a] (tA X.K fs)) (hs : starEach [a] X.env = [(false, eval a X.env)] := by rfl) : PI X (.Tuple elts kk tpos) (.Call (.Name "enumerate" p) [a] [] pos) (iI X.K (itA enE fs)) :=
  pi_imp (pi_enum hg hm ha hs) fun σ H R ⟨F, env, ds, S, e, q⟩ => by
    obtain ⟨xs, hx, e⟩ := bind_eq e
    refine ⟨F, env, xs, S, hx, fun vs F' H' x o => ?_⟩
    match xs, e, o with
    | [ev], e, o =>
      obtain ⟨j, hj, e⟩ := bind_eq (show (asDL ev).bind (fun ds => some (enumD ds)) = some ds from e)
      cases e
      obtain ⟨v, rfl, ok⟩ := all1 o
      obtain ⟨p, xs, rfl, h1, h2⟩ := asDL_ok ok hj
      exact ⟨p, xs, rfl, x.low.seq h1, q _ F' H' x (wk_enum h1 h2)⟩
theorem izip {p tpos : Pos} {elts : List Expr} {kk : Nat} (hg : Gl X "zip") (hm : X.mg "zip" = none) (ha : PA X [a, b] (tA X.K fs)) (hs : starEach [a, b] X.env = (false, eval a X.env) :: starEach [b] X.env := by rfl) (hpl : (backTo pos (starEach [b] X.env)).any (·.1) = false := by rfl) :
    PI X (.Tuple elts kk tpos) (.Call (.Name "zip" p) [a, b] [] pos) (iI X.K (itA zpE fs)) :=
  pi_imp (pi_zip hg hm ha hs hpl) fun σ H R ⟨F, env, ds, S, e, q⟩ => by
    obtain ⟨xs, hx, e⟩ := bind_eq e
    refine ⟨F, env, xs, S, hx, fun vs F' H' x o => ?_⟩
    match xs, e, o with
    | [ev, ev'], e, o =>
      obtain ⟨i, hi, e⟩ := bind_eq (show (asDL ev).bind _ = some ds from e)
      obtain ⟨j, hj, e⟩ := bind_eq e
      cases e
      obtain ⟨v, v', rfl, ok, ok'⟩ := all2 o
      obtain ⟨p, xs, rfl, h1, h2⟩ := asDL_ok ok hi
      obtain ⟨p', xs', rfl, h1', h2'⟩ := asDL_ok ok' hj
      exact ⟨p, p', xs, xs', rfl, x.low.seq h1, x.low.seq h1', q _ F' H' x (wk_zip h1 h2 h1' h2')⟩
end

/-! ### targets -/
mutual
inductive Pat where
  | nm (i : Nat)
  | tp (ps : Pats)
inductive Pats where
  | nil
  | cons (p : Pat) (ps : Pats)
end
mutual
def Pat.g (K : PySem.W.Frag) : Pat → TG
  | .nm i => gName i
  | .tp ps => gTup K ps.len (Pats.g K ps)
def Pats.g (K : PySem.W.Frag) : Pats → TGs
  | .nil => gNil
  | .cons p ps => gCons (Pat.g K p) (Pats.g K ps)
def Pats.len : Pats → Nat
  | .nil => 0
  | .cons _ ps => ps.len + 1
end
mutual
def Pat.bind : Pat → D → En → Option En
  | .nm i, d, env => some (env.set i (some (.dat d)))
  | .tp ps, d, env => match d with
    | .tuple ds => Pats.bind ps ds env
    | _ => none
def Pats.bind : Pats → List D → En → Option En
  | .nil, ds, env => match ds with
    | [] => some env
    | _ => none
  | .cons p ps, ds, env => match ds with
    | d :: ds => (Pat.bind p d env).bind (Pats.bind ps ds)
    | [] => none
end
mutual
def Pat.slots : Pat → List Nat
  | .nm i => [i]
  | .tp ps => ps.slots
def Pats.slots : Pats → List Nat
  | .nil => []
  | .cons p ps => p.slots ++ ps.slots
end
theorem pats_len : ∀ (ps : Pats) (ds : List D) (env env' : En), ps.bind ds env = some env' → ds.length = ps.len
  | .nil, ds, env, env', h => by
    unfold Pats.bind at h
    cases ds with
    | nil => simp [Pats.len]
    | cons d ds => cases h
  | .cons p ps, ds, env, env', h => by
    unfold Pats.bind at h
    cases ds with
    | nil => cases h
    | cons d ds =>
      obtain ⟨e1, h1, h⟩ := bind_eq h
      have := pats_len ps ds e1 env' h
      simp only [List.length_cons, Pats.len, this]
/-- binding leaves what is owned -/
def Ow (σ σ' : L2.St) (env env' : En) : Prop := ∀ (j : Nat) (o : Ob), env'[j]? = some (some (.own o)) → env[j]? = some (some (.own o)) ∧ σ'[j]? = σ[j]?
theorem Ow.set {σ : L2.St} {env : En} {i : Nat} {v : V} {d : D} : Ow σ (σ.set i (some v)) env (env.set i (some (.dat d))) := fun j o e => by
  by_cases z : i = j
  · subst z
    have hl : i < env.length := by simpa using (List.getElem?_eq_some_iff.mp e).1
    rw [List.getElem?_set_self hl] at e
    cases e
  · rw [List.getElem?_set_ne z] at e
    exact ⟨e, List.getElem?_set_ne z⟩
theorem Ow.trans {σ σ1 σ2 : L2.St} {env e1 e2 : En} (a : Ow σ σ1 env e1) (b : Ow σ1 σ2 e1 e2) : Ow σ σ2 env e2 := fun j o e =>
  ⟨(a j o (b j o e).1).1, (b j o e).2.trans (a j o (b j o e).1).2⟩
mutual
theorem Pat.ok {K : PySem.W.Frag} {F H : Hp} : ∀ (p : Pat) (σ : L2.St) (env env' : En) (v : V) (d : D) (Q : L2.St → Hp → Prop), StOk K F H σ env → Dp K F v d → p.bind d env = some env' →
    (∀ σ', StOk K F H σ' env' → Ow σ σ' env env' → (∀ vs, (∀ i ∈ p.slots, i ∈ vs) → L2.wipe σ' vs = L2.wipe σ vs) → Q σ' H) → Pat.g K p v σ H Q
  | .nm i, σ, env, env', v, d, Q, S, h, e, q => by
    simp only [Pat.bind, Option.some.injEq] at e
    subst e
    unfold Pat.g
    exact q _ (S.setD i h) Ow.set fun vs hv => wipe_set_in σ (hv i (by simp [Pat.slots]))
  | .tp ps, σ, env, env', v, d, Q, S, h, e, q => by
    unfold Pat.bind at e
    cases d <;> first | cases e | skip
    rename_i ds
    cases h with
    | tup hs ha =>
      unfold Pat.g
      refine ⟨_, _, rfl, sqT_same S.sub hs, ?_, ?_⟩
      · rw [dpAll_len ha]
        exact pats_len ps ds env env' e
      · exact Pats.ok ps σ env env' _ ds Q S ha e fun σ' S' ow w => q σ' S' ow fun vs hv => w vs (by unfold Pat.slots at hv; exact hv)
theorem Pats.ok {K : PySem.W.Frag} {F H : Hp} : ∀ (p : Pats) (σ : L2.St) (env env' : En) (vs : List V) (ds : List D) (Q : L2.St → Hp → Prop), StOk K F H σ env → DpAll K F vs ds → p.bind ds env = some env' →
    (∀ σ', StOk K F H σ' env' → Ow σ σ' env env' → (∀ ws, (∀ i ∈ p.slots, i ∈ ws) → L2.wipe σ' ws = L2.wipe σ ws) → Q σ' H) → Pats.g K p vs σ H Q
  | .nil, σ, env, env', vs, ds, Q, S, h, e, q => by
    unfold Pats.bind at e
    cases ds with
    | cons d ds => cases e
    | nil =>
      cases e
      cases h
      unfold Pats.g
      exact ⟨rfl, q σ S (fun _ _ e => ⟨e, rfl⟩) fun _ _ => rfl⟩
  | .cons p ps, σ, env, env', vs, ds, Q, S, h, e, q => by
    unfold Pats.bind at e
    cases ds with
    | nil => cases e
    | cons d ds =>
      obtain ⟨e1, h1, e⟩ := bind_eq e
      cases h with
      | cons r t =>
        unfold Pats.g
        refine ⟨_, _, rfl, Pat.ok p σ env e1 _ d _ S r h1 fun σ1 S1 ow1 w1 => ?_⟩
        exact Pats.ok ps σ1 e1 env' _ ds Q S1 t e fun σ' S' ow w => q σ' S' (ow1.trans ow) fun ws hw => (w ws fun i hi => hw i (by unfold Pats.slots; exact List.mem_append_right _ hi)).trans (w1 ws fun i hi => hw i (by unfold Pats.slots; exact List.mem_append_left _ hi))
end

/-! ### comprehensions -/
def lcGo (p : Pat) (t : En → Option Bool) (f : En → Option EV) (env : En) : List D → Option (List D)
  | [] => some []
  | d :: ds => (p.bind d env).bind fun env1 => (t env1).bind fun b =>
    if b = true then ((f env1).bind asD).bind fun x => (lcGo p t f env ds).bind fun xs => some (x :: xs) else lcGo p t f env ds
def lcN (it : En → Option (List D)) (p : Pat) (t : En → Option Bool) (f : En → Option EV) (vs : List Nat) : En → Option Ob := fun env => (it env).bind fun ds =>
  if ds.length ≤ 1000000 then (lcGo p t f (wipeE env vs) ds).bind fun xs => some (.lst xs) else none
def tyes : En → Option Bool := fun _ => some true
theorem lcGo_len {p : Pat} {t : En → Option Bool} {f : En → Option EV} {env : En} : ∀ {ds xs : List D}, lcGo p t f env ds = some xs → xs.length ≤ ds.length
  | [], xs, h => by cases h; simp
  | d :: ds, xs, h => by
    unfold lcGo at h
    obtain ⟨e1, h1, h⟩ := bind_eq h
    obtain ⟨b, h2, h⟩ := bind_eq h
    cases b with
    | true =>
      rw [if_pos rfl] at h
      obtain ⟨x, h3, h⟩ := bind_eq h
      obtain ⟨ys, h4, h⟩ := bind_eq h
      cases h
      have := lcGo_len h4
      simp only [List.length_cons]; omega
    | false =>
      rw [if_neg Bool.false_ne_true] at h
      have := lcGo_len h
      simp only [List.length_cons]; omega
theorem lc_ok {K : PySem.W.Frag} {it : En → Option (List D)} {p : Pat} {t : En → Option Bool} {f : En → Option EV} {vs : List Nat} (hp : ∀ i ∈ p.slots, i ∈ vs) {σ : L2.St} {H : Hp} {Q : VK} (w : tN K (lcN it p t f vs) σ H Q) :
    tLc (iI K it) (p.g K) (tT K t) (tE K f) vs σ H Q := by
  obtain ⟨F, env, ob, S, e, q⟩ := w
  obtain ⟨ds, hds, e⟩ := bind_eq e
  by_cases hl : ds.length ≤ 1000000
  · rw [if_pos hl] at e
    obtain ⟨xs, hxs, e⟩ := bind_eq e
    cases e
    refine ⟨F, env, ds, S, hds, fun J F1 H1 x1 wk C hC => ?_⟩
    -- the heap at a turn: what the new list holds, what is to come
    refine ⟨fun i m H2 => m = ds.length - i ∧ i ≤ ds.length ∧ ∃ F2 us done rest, Ext F1 H1 F2 H2 ∧ H2 C = some (.lst us) ∧ F2 C = none ∧ DpAll K F2 us done ∧ lcGo p t f (wipeE env vs) (ds.drop i) = some rest ∧ xs = done ++ rest ∧ us.length ≤ i,
      ⟨ds.length, rfl, Nat.zero_le _, F1, [], [], xs, Ext.allocN x1.low hC, upd_same, x1.low.free hC, .nil, by rw [List.drop_zero]; exact hxs, rfl, Nat.le_refl _⟩, ?_⟩
    rintro i m H2 ⟨rfl, hi, F2, us, done, rest, x2, hC2, hF2, hus, hgo, hx, hui⟩
    by_cases hlt : i < ds.length
    · refine .inr ⟨wk.go i F2 H2 x2.fz x2.low hlt, _, fun H' h' => ⟨ds.length - (i + 1), by omega, h'⟩, fun x H3 y => ?_⟩
      have hd : ds[i]? = some ds[i] := by simp [hlt]
      obtain ⟨F3, x3, o3⟩ := wk.yld i F2 H2 H3 x _ x2.fz x2.low y hd
      rw [List.drop_eq_getElem_cons hlt] at hgo
      unfold lcGo at hgo
      obtain ⟨env1, hb, hgo⟩ := bind_eq hgo
      obtain ⟨b, ht, hgo⟩ := bind_eq hgo
      have S3 : StOk K F3 H3 σ env := ((S.ext x1).ext x2).ext x3
      refine Pat.ok p _ _ env1 x _ _ (S3.wipe vs) o3 hb fun σ' S' _ wp => ⟨?_, ?_⟩
      · have ww : ∀ (us : List Nat) (τ : L2.St), L2.wipe (L2.wipe τ us) us = L2.wipe τ us := fun us => by
          induction us with
          | nil => intro τ; rfl
          | cons u us ih =>
            intro τ
            have out : ∀ (ws : List Nat) (τ : L2.St) (k : Nat), L2.wipe (τ.set k none) ws = (L2.wipe τ ws).set k none := fun ws => by
              induction ws with
              | nil => intro τ k; rfl
              | cons z ws ih2 =>
                intro τ k
                show (L2.wipe (τ.set k none) ws).set z none = ((L2.wipe τ ws).set z none).set k none
                rw [ih2 τ k]
                by_cases hz : k = z
                · subst hz; rfl
                · rw [List.set_comm _ _ hz]
            show (L2.wipe ((L2.wipe τ us).set u none) us).set u none = (L2.wipe τ us).set u none
            rw [out us _ u, ih τ, List.set_set]
        rw [wp vs hp, ww]
      · refine ⟨F3, env1, b, S', ht, fun F4 H4 x4 => ?_⟩
        have hC4 : H4 C = some (.lst us) := (x4.keep _ _ (x3.keep _ _ hC2).1).1
        have hF4 : F4 C = none := (x4.keep _ _ (x3.keep _ _ hC2).1).2 (fun _ z => nomatch z) ((x3.keep _ _ hC2).2 (fun _ z => nomatch z) hF2)
        have us4 := dpAll_same (x3.fz.trans x4.fz) _ _ hus
        cases b with
        | false =>
          rw [if_neg Bool.false_ne_true] at hgo
          refine iteF ?_
          exact ⟨rfl, hlt, F4, us, done, rest, x2.trans (x3.trans x4), hC4, hF4, us4, hgo, hx, by omega⟩
        | true =>
          rw [if_pos rfl] at hgo
          refine iteT ?_
          obtain ⟨z, hz, hgo⟩ := bind_eq hgo
          obtain ⟨ev, hev, hz⟩ := bind_eq hz
          obtain ⟨ys, hys, hgo⟩ := bind_eq hgo
          cases hgo
          refine ⟨F4, env1, ev, S'.ext x4, hev, fun v F5 H5 x5 o5 => ?_⟩
          have hC5 : H5 C = some (.lst us) := (x5.keep _ _ hC4).1
          have hF5 : F5 C = none := (x5.keep _ _ hC4).2 (fun _ z => nomatch z) hF4
          have x15 := x2.trans (x3.trans (x4.trans x5))
          refine ⟨us, hC5, Nat.lt_of_le_of_lt (Nat.le_trans hui (Nat.le_of_lt (Nat.lt_of_lt_of_le hlt hl))) (by decide), rfl, hlt, F5, us ++ [v], done ++ [z], ys, ⟨x15.fz, fun b o e => ?_, fun a u e => ⟨?_, (x15.keep a u e).2⟩⟩, upd_same, hF5, dpAll_append (dpAll_same x5.fz _ _ us4) (.cons (asD_ok o5 hz) .nil), hys, by rw [hx, List.append_assoc]; rfl, by rw [List.length_append, List.length_singleton]; omega⟩
          · rw [upd_ne (ne_of_none e hF5)]
            exact x5.low _ _ e
          · rw [upd_ne (ne_of_none e hC)]
            exact (x15.keep a u e).1
    · have e : i = ds.length := by omega
      subst e
      refine .inl ⟨wk.stop _ F2 H2 x2.fz x2.low (Nat.le_refl _), ?_⟩
      rw [List.drop_length] at hgo
      cases hgo
      rw [List.append_nil] at hx
      subst hx
      exact q C _ F2 H2 (x1.trans x2) (x1.same.free hC) hF2 hC2 hus
  · rw [if_neg hl] at e; cases e
section
variable {X : Cx} {pos : Pos} {elt tg iter : Expr} {ifs : List Expr} {scope : Scope} {own : List (Str × Nat)} {it : En → Option (List D)} {p : Pat} {t : En → Option Bool} {f : En → Option EV}
theorem tno {h : Unit} : PTs X [] (tT X.K tyes) := ⟨fun pins s σ H Q I w => by
  obtain ⟨F, env, b, S, e, q⟩ := w
  cases e
  exact pts_nil.run pins s σ H Q I (q F H (Ext.rfl' S.sub))⟩
theorem tnoT : PTs X [] (tT X.K tyes) := tno (h := ())
theorem xlc (hc : X.calm = true) (hN : X.N.Nodup) (hi : PI X tg iter (iI X.K it)) (ok : BlkOk X.N X.env.scope scope own) (hp : ∀ i ∈ p.slots, i ∈ own.map (·.2))
    (hg : ∀ (s : Shared) (H : Hp) (C : Addr) (cl : List (Str × Addr)) (fp : List Addr), PG (X.blk s H scope (compEnvC scope cl C X.env) fp) tg (p.g X.K)) (ht : ∀ (s : Shared) (H : Hp) (C : Addr) (cl : List (Str × Addr)) (fp : List Addr), PTs (X.blk s H scope (compEnvC scope cl C X.env) fp) ifs (tT X.K t))
    (he : ∀ (s : Shared) (H : Hp) (C : Addr) (cl : List (Str × Addr)) (fp : List Addr), PE (X.blk s H scope (compEnvC scope cl C X.env) fp) elt (tE X.K f)) (hs : ∀ x, foldedSetIterable iter X.env x = pure x := by intro _; rfl) :
    PE X (.ListComp elt [⟨tg, iter, ifs, 0⟩] scope pos) (tN X.K (lcN it p t f (own.map (·.2)))) :=
  pe_imp (pe_lc hc hN hi ok hg ht he hs) fun σ H Q w => lc_ok hp w
end
end Od

set_option Elab.async false
set_option linter.all false
set_option maxRecDepth 100000
set_option autoImplicit false
/-! Od, fourth part: statements, a def by its body. -/
namespace Od
open PySem PySem.Spec PyProof.Rows L2

inductive Out where
  | nx (e : En)
  | rt (d : D)
  | rtN (o : Ob)
  | bk (e : En)
  | ct (e : En)
/-- behind a statement: what stood at the def's entry (B) stands -/
structure ExtB (B : Addr → Prop) (F H F' H' : Hp) : Prop where
  fz : Same F F'
  low : Same F' H'
  keep : ∀ a u, B a → H a = some u → H' a = some u ∧ (NT u → F a = none → F' a = none)
structure StB (K : PySem.W.Frag) (B : Addr → Prop) (F H : Hp) (σ : L2.St) (env : En) : Prop extends StOk K F H σ env where
  bk : ∀ a, B a → ∃ u, H a = some u
  out : ∀ (i : Nat) (o : Ob) (p : Addr), env[i]? = some (some (.own o)) → σ[i]? = some (some (.ref p)) → ¬ B p
section
variable {K : PySem.W.Frag} {B : Addr → Prop} {F F' F1 H H' H1 : Hp} {σ : L2.St} {env : En}
theorem ExtB.rfl' (s : Same F H) : ExtB B F H F H := ⟨Same.refl _, s, fun _ _ _ e => ⟨e, fun _ q => q⟩⟩
theorem ExtB.trans (x : ExtB B F H F1 H1) (y : ExtB B F1 H1 F' H') : ExtB B F H F' H' :=
  ⟨x.fz.trans y.fz, y.low, fun a u b e => let ⟨e1, q1⟩ := x.keep a u b e; let ⟨e2, q2⟩ := y.keep a u b e1; ⟨e2, fun t n => q2 t (q1 t n)⟩⟩
theorem Ext.b (x : Ext F H F' H') : ExtB B F H F' H' := ⟨x.fz, x.low, fun a u _ e => x.keep a u e⟩
theorem StB.ext (s : StB K B F H σ env) (x : Ext F H F' H') : StB K B F' H' σ env :=
  ⟨s.toStOk.ext x, fun a b => let ⟨u, e⟩ := s.bk a b; ⟨u, (x.keep a u e).1⟩, s.out⟩
theorem StB.setD (s : StB K B F H σ env) {v : V} {d : D} (i : Nat) (h : Dp K F v d) : StB K B F H (σ.set i (some v)) (env.set i (some (.dat d))) :=
  ⟨s.toStOk.setD i h, s.bk, fun j o p e q => by
    by_cases z : i = j
    · subst z
      have hl : i < env.length := by simpa using (List.getElem?_eq_some_iff.mp e).1
      rw [List.getElem?_set_self hl] at e
      cases e
    · rw [List.getElem?_set_ne z] at e q
      exact s.out j o p e q⟩
/-- a slot takes a new object -/
theorem StB.setN (s : StB K B F H σ env) {p : Addr} {u : HO} {o : Ob} (i : Nat) (x : Ext F H F' H') (hn : H p = none) (hf : F' p = none) (hp : H' p = some u) (ok : ObOk K F' u o) :
    StB K B F' H' (σ.set i (some (.ref p))) (env.set i (some (.own o))) := by
  have S := s.ext x
  have other : ∀ (j : Nat) (o' : Ob), env[j]? = some (some (.own o')) → σ[j]? ≠ some (some (.ref p)) := fun j o' e q => by
    obtain ⟨v, h1, p', u', rfl, _, h3, _⟩ := s.get j _ e
    rw [q] at h1
    cases h1
    rw [hn] at h3
    cases h3
  have own : ∀ (j : Nat) (e : EV), (env.set i (some (.own o)))[j]? = some (some e) → (j = i ∧ e = .own o ∧ i < env.length) ∨ (j ≠ i ∧ env[j]? = some (some e)) := fun j e h => by
    by_cases q : i = j
    · subst q
      have hl : i < env.length := by simpa using (List.getElem?_eq_some_iff.mp h).1
      rw [List.getElem?_set_self hl] at h
      cases h
      exact .inl ⟨rfl, rfl, hl⟩
    · rw [List.getElem?_set_ne q] at h
      exact .inr ⟨fun z => q z.symm, h⟩
  have len := S.len
  refine ⟨⟨S.sub, by simpa using S.len, fun j e h => ?_, fun j k o1 o2 a e1 e2 q1 q2 => ?_⟩, S.bk, fun j o1 a e q => ?_⟩
  · rcases own j e h with ⟨rfl, rfl, hl⟩ | ⟨n, h⟩
    · exact ⟨_, List.getElem?_set_self (by omega), p, u, rfl, hf, hp, ok⟩
    · rw [List.getElem?_set_ne (Ne.symm n)]
      exact S.get j e h
  · rcases own j _ e1 with ⟨rfl, _, hl⟩ | ⟨n1, e1'⟩
    · rw [List.getElem?_set_self (by omega)] at q1
      cases q1
      rcases own k _ e2 with ⟨rfl, _, _⟩ | ⟨n2, e2'⟩
      · rfl
      · rw [List.getElem?_set_ne (Ne.symm n2)] at q2
        exact absurd q2 (other k _ e2')
    · rw [List.getElem?_set_ne (Ne.symm n1)] at q1
      rcases own k _ e2 with ⟨rfl, _, hl⟩ | ⟨n2, e2'⟩
      · rw [List.getElem?_set_self (by omega)] at q2
        cases q2
        exact absurd q1 (other j _ e1')
      · rw [List.getElem?_set_ne (Ne.symm n2)] at q2
        exact S.sep j k o1 o2 a e1' e2' q1 q2
  · rcases own j _ e with ⟨rfl, _, hl⟩ | ⟨n, e⟩
    · rw [List.getElem?_set_self (by omega)] at q
      cases q
      intro b
      obtain ⟨u', e'⟩ := s.bk p b
      rw [hn] at e'
      cases e'
    · rw [List.getElem?_set_ne (Ne.symm n)] at q
      exact S.out j o1 a e q
/-- an owned object changes -/
theorem StB.mut (s : StB K B F H σ env) {p : Addr} {u : HO} {o o' : Ob} {i : Nat} (e : env[i]? = some (some (.own o))) (q : σ[i]? = some (some (.ref p))) (ok : ObOk K F u o') :
    StB K B F (upd H p u) σ (env.set i (some (.own o'))) ∧ ExtB B F H F (upd H p u) := by
  have np := s.out i o p e q
  have hi : i < env.length := (List.getElem?_eq_some_iff.mp e).1
  have hf : F p = none := by
    obtain ⟨v, h1, p', u', rfl, h2, _⟩ := s.get i _ e
    rw [q] at h1
    cases h1
    exact h2
  have low : Same F (upd H p u) := fun b w h => by rw [upd_ne (ne_of_none h hf)]; exact s.sub b w h
  have own : ∀ (j : Nat) (e : EV), (env.set i (some (.own o')))[j]? = some (some e) → (j = i ∧ e = .own o') ∨ (j ≠ i ∧ env[j]? = some (some e)) := fun j e h => by
    by_cases z : i = j
    · subst z
      rw [List.getElem?_set_self hi] at h
      cases h
      exact .inl ⟨rfl, rfl⟩
    · rw [List.getElem?_set_ne z] at h
      exact .inr ⟨fun z' => z z'.symm, h⟩
  refine ⟨⟨⟨low, by simpa using s.len, fun j ev h => ?_, fun j k o1 o2 a e1 e2 q1 q2 => ?_⟩, fun a b => ?_, fun j o1 a h q1 => ?_⟩, ⟨Same.refl _, low, fun a w b h => ⟨by rw [upd_ne (fun z : a = p => np (by rw [← z]; exact b))]; exact h, fun _ n => n⟩⟩⟩
  · rcases own j ev h with ⟨rfl, rfl⟩ | ⟨n, h⟩
    · exact ⟨.ref p, q, p, u, rfl, hf, upd_same, ok⟩
    · obtain ⟨v, h1, h2⟩ := s.get j ev h
      refine ⟨v, h1, ?_⟩
      cases ev with
      | dat d => exact h2
      | ktp _ => exact h2
      | fdt _ => exact h2
      | lck o2 =>
        obtain ⟨p', od, u', rfl, h3, h4, h5⟩ := h2
        have ne : p' ≠ p := fun z => by
          subst z
          obtain ⟨v, k1, p2, u2, rfl, k2, k3, k4⟩ := s.get i _ e
          rw [q] at k1
          cases k1
          rw [h4] at k3
          cases k3
          cases o <;> exact k4
        exact ⟨p', od, u', rfl, h3, by rw [upd_ne ne]; exact h4, h5⟩
      | own o2 =>
        obtain ⟨p', u', rfl, h3, h4, h5⟩ := h2
        have ne : p' ≠ p := fun z => by
          subst z
          exact n (s.sep j i o2 o p' h e h1 q)
        exact ⟨p', u', rfl, h3, by rw [upd_ne ne]; exact h4, h5⟩
  · have z : ∀ (j : Nat) (o1 : Ob), (env.set i (some (.own o')))[j]? = some (some (.own o1)) → ∃ o2, env[j]? = some (some (.own o2)) := fun j o1 h => by
      rcases own j _ h with ⟨rfl, _⟩ | ⟨_, h⟩
      · exact ⟨o, e⟩
      · exact ⟨o1, h⟩
    obtain ⟨o3, e3⟩ := z j o1 e1
    obtain ⟨o4, e4⟩ := z k o2 e2
    exact s.sep j k o3 o4 a e3 e4 q1 q2
  · obtain ⟨w, h⟩ := s.bk a b
    exact ⟨w, by rw [upd_ne (fun z : a = p => np (by rw [← z]; exact b))]; exact h⟩
  · rcases own j _ h with ⟨rfl, _⟩ | ⟨_, h⟩
    · exact s.out j o a e q1
    · exact s.out j o1 a h q1
end

theorem pat_okB {K : PySem.W.Frag} {B : Addr → Prop} {F H : Hp} (p : Pat) (σ : L2.St) (env env' : En) (v : V) (d : D) (Q : L2.St → Hp → Prop) (S : StB K B F H σ env) (h : Dp K F v d) (e : p.bind d env = some env') (q : ∀ σ', StB K B F H σ' env' → Q σ' H) : Pat.g K p v σ H Q :=
  Pat.ok p σ env env' v d Q S.toStOk h e fun σ' S' ow _ => q σ' ⟨S', S.bk, fun i o a e1 e2 => by
    obtain ⟨e3, e4⟩ := ow i o e1
    exact S.out i o a e3 (e4.symm.trans e2)⟩
def OutOk (K : PySem.W.Frag) (B : Addr → Prop) (F H : Hp) (T : Ends) : Out → Prop
  | .nx env => ∀ σ' F' H', ExtB B F H F' H' → StB K B F' H' σ' env → T.nx σ' H'
  | .bk env => ∀ σ' F' H', ExtB B F H F' H' → StB K B F' H' σ' env → T.bk σ' H'
  | .ct env => ∀ σ' F' H', ExtB B F H F' H' → StB K B F' H' σ' env → T.ct σ' H'
  | .rt d => ∀ v F' H', ExtB B F H F' H' → Dp K F' v d → T.rt v H'
  | .rtN o => ∀ p u F' H', ExtB B F H F' H' → ¬ B p → F' p = none → H' p = some u → ObOk K F' u o → T.rt (.ref p) H'
theorem OutOk.ext {K : PySem.W.Frag} {B : Addr → Prop} {F H F1 H1 : Hp} {T : Ends} {o : Out} (x : ExtB B F H F1 H1) (h : OutOk K B F H T o) : OutOk K B F1 H1 T o := by
  cases o with
  | nx env => exact fun σ' F' H' y s => h σ' F' H' (x.trans y) s
  | bk env => exact fun σ' F' H' y s => h σ' F' H' (x.trans y) s
  | ct env => exact fun σ' F' H' y s => h σ' F' H' (x.trans y) s
  | rt d => exact fun v F' H' y s => h v F' H' (x.trans y) s
  | rtN o => exact fun p u F' H' y => h p u F' H' (x.trans y)
def sE (K : PySem.W.Frag) (B : Addr → Prop) (f : En → Option Out) : TS := fun T σ H => ∃ F env out, StB K B F H σ env ∧ f env = some out ∧ OutOk K B F H T out

/-! ### what the statements do -/
def skip : En → Option Out := fun env => some (.nx env)
def seqS (f g : En → Option Out) : En → Option Out := fun env => (f env).bind fun o => match o with | .nx e => g e | o => some o
def setS (i : Nat) (f : En → Option EV) : En → Option Out := fun env => ((f env).bind asD).bind fun d => some (.nx (env.set i (some (.dat d))))
def setN (i : Nat) (f : En → Option Ob) : En → Option Out := fun env => (f env).bind fun o => some (.nx (env.set i (some (.own o))))
def unpS (p : Pat) (f : En → Option EV) : En → Option Out := fun env => ((f env).bind asD).bind fun d => (p.bind d env).bind fun e => some (.nx e)
def parS (i j : Nat) (fs : En → Option (List EV)) : En → Option Out := fun env => ((fs env).bind asDs).bind fun ds => match ds with | [d, d'] => some (.nx ((env.set i (some (.dat d))).set j (some (.dat d')))) | _ => none
def ifS (t : En → Option Bool) (f g : En → Option Out) : En → Option Out := fun env => (t env).bind fun b => if b = true then f env else g env
def retS (f : En → Option EV) : En → Option Out := fun env => ((f env).bind asD).bind fun d => some (.rt d)
def retN (f : En → Option Ob) : En → Option Out := fun env => (f env).bind fun o => some (.rtN o)
def retO (i : Nat) : En → Option Out := fun env => match vr i env with | some (.own o) => some (.rtN o) | _ => none
def retZ : En → Option Out := fun _ => some (.rt .none)
def brkS : En → Option Out := fun env => some (.bk env)
def cntS : En → Option Out := fun env => some (.ct env)
def dropS (f : En → Option EV) : En → Option Out := fun env => (f env).bind fun _ => some (.nx env)
def appS (i : Nat) (f : En → Option EV) : En → Option Out := fun env => match vr i env with
  | some (.own (.lst ds)) => ((f env).bind asD).bind fun d => if ds.length < 1000000 then some (.nx (env.set i (some (.own (.lst (ds ++ [d])))))) else none
  | _ => none
def putS (i : Nat) (k f : En → Option EV) : En → Option Out := fun env => ((f env).bind asD).bind fun d => match vr i env with
  | some (.own (.lst ds)) => ((k env).bind asI).bind fun z => (ixN ds.length z).bind fun j => some (.nx (env.set i (some (.own (.lst (ds.set j d))))))
  | _ => none
def forGo (p : Pat) (b : En → Option Out) : List D → En → Option Out
  | [], env => some (.nx env)
  | d :: ds, env => (p.bind d env).bind fun e1 => (b e1).bind fun o => match o with
    | .nx e2 => forGo p b ds e2
    | .ct e2 => forGo p b ds e2
    | .bk e2 => some (.nx e2)
    | .rt d => some (.rt d)
    | .rtN o => some (.rtN o)
def forS (it : En → Option (List D)) (p : Pat) (b : En → Option Out) : En → Option Out := fun env => (it env).bind fun ds => forGo p b ds env
def whGo (t : En → Option Bool) (b : En → Option Out) : Nat → En → Option Out
  | 0, _ => none
  | n + 1, env => (t env).bind fun c => if c = true then (b env).bind fun o => match o with
    | .nx e2 => whGo t b n e2
    | .ct e2 => whGo t b n e2
    | .bk e2 => some (.nx e2)
    | .rt d => some (.rt d)
    | .rtN o => some (.rtN o)
    else some (.nx env)
def whS (n : En → Nat) (t : En → Option Bool) (b : En → Option Out) : En → Option Out := fun env => whGo t b (n env) env

theorem vr_eq {i : Nat} {env : En} {ev : EV} (h : vr i env = some ev) : env[i]? = some (some ev) := by
  unfold vr at h
  cases e : env[i]? with
  | none => rw [e] at h; cases h
  | some o => rw [e] at h; cases o with
    | none => cases h
    | some z => cases h; rfl

section
variable {X : Cx} {B : Addr → Prop} {pos : Pos} {e a c tg iter : Expr} {f g : En → Option EV} {n : En → Option Ob} {st : Stmt} {sts body orelse : List Stmt} {s t : En → Option Out} {q : En → Option Bool} {x : Str} {px : Pos}
theorem snil : PSs X [] (sE X.K B skip) := pss_imp pss_nil fun T σ H ⟨F, env, out, S, e, o⟩ => by
  cases e
  exact o σ F H (ExtB.rfl' S.sub) S
theorem scons (h1 : PS X st (sE X.K B s)) (h2 : PSs X sts (sE X.K B t)) : PSs X (st :: sts) (sE X.K B (seqS s t)) := pss_imp (pss_cons h1 h2) fun T σ H ⟨F, env, out, S, e, o⟩ => by
  obtain ⟨o1, h, e⟩ := bind_eq e
  refine ⟨F, env, o1, S, h, ?_⟩
  cases o1 with
  | nx e1 => exact fun σ' F' H' x S' => ⟨F', e1, out, S', e, o.ext x⟩
  | rt d => cases e; exact o
  | rtN d => cases e; exact o
  | bk d => cases e; exact o
  | ct d => cases e; exact o
theorem sone (h1 : PS X st (sE X.K B s)) : PSs X [st] (sE X.K B s) := pss_one h1
theorem spass : PS X (.Pass pos) (sE X.K B skip) := ps_imp ps_pass fun T σ H ⟨F, env, out, S, e, o⟩ => by
  cases e
  exact o σ F H (ExtB.rfl' S.sub) S
theorem sbrk : PS X (.Break pos) (sE X.K B brkS) := ps_imp ps_break fun T σ H ⟨F, env, out, S, e, o⟩ => by
  cases e
  exact o σ F H (ExtB.rfl' S.sub) S
theorem scnt : PS X (.Continue pos) (sE X.K B cntS) := ps_imp ps_continue fun T σ H ⟨F, env, out, S, e, o⟩ => by
  cases e
  exact o σ F H (ExtB.rfl' S.sub) S
/-- name = data -/
theorem sset {i : Nat} (hN : X.N.Nodup) (he : PE X e (tE X.K f)) (hi : X.N[i]? = some x := by rfl) (hx : Loc X.env.scope x := by first | exact Or.inl rfl | exact Or.inr rfl) (hs : swapsWith e (some (.Name x px)) pos.line X.env = pure false := by rfl) (hf : X.fn x = true ∨ X.env.scope.names.lookup x = some .local := by first | exact .inl rfl | exact .inr rfl | assumption) :
    PS X (.Assign [.Name x px] e pos) (sE X.K B (setS i f)) := ps_imp (ps_set hN hi hx he hs hf) fun T σ H ⟨F, env, out, S, e, o⟩ => by
  obtain ⟨d, h, e⟩ := bind_eq e
  obtain ⟨ev, h, hd⟩ := bind_eq h
  cases e
  exact ⟨F, env, ev, S.toStOk, h, fun v F' H' y ok => o _ F' H' y.b ((S.ext y).setD i (asD_ok ok hd))⟩
/-- name = a new object -/
theorem ssetN {i : Nat} (hN : X.N.Nodup) (he : PE X e (tN X.K n)) (hi : X.N[i]? = some x := by rfl) (hx : Loc X.env.scope x := by first | exact Or.inl rfl | exact Or.inr rfl) (hs : swapsWith e (some (.Name x px)) pos.line X.env = pure false := by rfl) (hf : X.fn x = true ∨ X.env.scope.names.lookup x = some .local := by first | exact .inl rfl | exact .inr rfl | assumption) :
    PS X (.Assign [.Name x px] e pos) (sE X.K B (setN i n)) := ps_imp (ps_set hN hi hx he hs hf) fun T σ H ⟨F, env, out, S, e, o⟩ => by
  obtain ⟨ob, h, e⟩ := bind_eq e
  cases e
  exact ⟨F, env, ob, S.toStOk, h, fun p u F' H' y hn hf hp ok => o _ F' H' y.b (S.setN i y hn hf hp ok)⟩
/-- name = [.. for ..] -/
theorem ssetLcN {i : Nat} {elt tg iter : Expr} {ifs : List Expr} {scope : Scope} {own : List (Str × Nat)} {it : En → Option (List D)} {p : Pat} {t : En → Option Bool} {f : En → Option EV} {lpos : Pos} (hc : X.calm = true) (hN : X.N.Nodup) (hy : X.N[i]? = some x) (hyl : X.env.scope.names.lookup x = some .local)
    (hsw : swapsWith (.ListComp elt [⟨tg, iter, ifs, 0⟩] scope lpos) (some (.Name x px)) pos.line X.env = pure true) (hi : PI X tg iter (iI X.K it)) (ok : BlkOk X.N X.env.scope scope own) (hp : ∀ i ∈ p.slots, i ∈ own.map (·.2))
    (hg : ∀ (s : Shared) (H : Hp) (C : Addr) (cl : List (Str × Addr)) (fp : List Addr), PG (X.blk s H scope (compEnvC scope cl C X.env) fp) tg (p.g X.K)) (ht : ∀ (s : Shared) (H : Hp) (C : Addr) (cl : List (Str × Addr)) (fp : List Addr), PTs (X.blk s H scope (compEnvC scope cl C X.env) fp) ifs (tT X.K t))
    (he : ∀ (s : Shared) (H : Hp) (C : Addr) (cl : List (Str × Addr)) (fp : List Addr), PE (X.blk s H scope (compEnvC scope cl C X.env) fp) elt (tE X.K f)) (hs : ∀ x, foldedSetIterable iter X.env x = pure x := by intro _; rfl) :
    PS X (.Assign [.Name x px] (.ListComp elt [⟨tg, iter, ifs, 0⟩] scope lpos) pos) (sE X.K B (setN i (lcN it p t f (own.map (·.2))))) :=
  ps_imp (ps_setLc hc hN hy hyl hsw hi ok hg ht he hs) fun T σ H ⟨F, env, out, S, e, o⟩ => by
    obtain ⟨ob, h, e⟩ := bind_eq e
    cases e
    exact lc_ok hp ⟨F, env, ob, S.toStOk, h, fun p u F' H' y hn hf hp ok => o _ F' H' y.b (S.setN i y hn hf hp ok)⟩
/-- .. as data from now on -/
theorem ssetLc {i : Nat} {elt tg iter : Expr} {ifs : List Expr} {scope : Scope} {own : List (Str × Nat)} {it : En → Option (List D)} {p : Pat} {t : En → Option Bool} {f : En → Option EV} {lpos : Pos} (hc : X.calm = true) (hN : X.N.Nodup) (hy : X.N[i]? = some x) (hyl : X.env.scope.names.lookup x = some .local)
    (hsw : swapsWith (.ListComp elt [⟨tg, iter, ifs, 0⟩] scope lpos) (some (.Name x px)) pos.line X.env = pure true) (hi : PI X tg iter (iI X.K it)) (ok : BlkOk X.N X.env.scope scope own) (hp : ∀ i ∈ p.slots, i ∈ own.map (·.2))
    (hg : ∀ (s : Shared) (H : Hp) (C : Addr) (cl : List (Str × Addr)) (fp : List Addr), PG (X.blk s H scope (compEnvC scope cl C X.env) fp) tg (p.g X.K)) (ht : ∀ (s : Shared) (H : Hp) (C : Addr) (cl : List (Str × Addr)) (fp : List Addr), PTs (X.blk s H scope (compEnvC scope cl C X.env) fp) ifs (tT X.K t))
    (he : ∀ (s : Shared) (H : Hp) (C : Addr) (cl : List (Str × Addr)) (fp : List Addr), PE (X.blk s H scope (compEnvC scope cl C X.env) fp) elt (tE X.K f)) (hs : ∀ x, foldedSetIterable iter X.env x = pure x := by intro _; rfl) :
    PS X (.Assign [.Name x px] (.ListComp elt [⟨tg, iter, ifs, 0⟩] scope lpos) pos) (sE X.K B (setS i (fz (lcN it p t f (own.map (·.2)))))) :=
  ps_imp (ps_setLc hc hN hy hyl hsw hi ok hg ht he hs) fun T σ H ⟨F, env, out, S, e, o⟩ => by
    obtain ⟨d, h, e⟩ := bind_eq e
    obtain ⟨ev, h, hd⟩ := bind_eq h
    unfold fz at h
    cases e
    cases h' : lcN it p t f (own.map (·.2)) env with
    | none => rw [h'] at h; cases h
    | some ob =>
      rw [h'] at h
      cases ob <;> first | cases h | skip
      cases hd
      refine lc_ok hp ⟨F, env, _, S.toStOk, h', fun p u F' H' y hn hf hp ok => ?_⟩
      cases u <;> first | exact False.elim ok | skip
      exact o _ _ H' (y.freeze hn hf hp).b ((S.ext (y.freeze hn hf hp)).setD i (.lst (SqL.of upd_same) (dpAll_same (same_upd hf) _ _ ok)))
/-- a, b = x, y -/
theorem spar {i j : Nat} {y : Str} {b : Expr} {fs : En → Option (List EV)} {py pt : Pos} {kt k2 : Nat} {pt2 : Pos} (hc : X.calm = true) (hN : X.N.Nodup) (ha : PA X [a, b] (tA X.K fs)) (hi : X.N[i]? = some x := by rfl) (hj : X.N[j]? = some y := by rfl) (hij : i ≠ j := by decide)
    (hx : X.env.scope.names.lookup x = some .local := by rfl) (hy : X.env.scope.names.lookup y = some .local := by rfl)
    (hw : swappedStores [.Tuple [.Name x px, .Name y py] kt pt] (.Tuple [a, b] k2 pt2) X.env = pure (some [x, y]) := by rfl)
    (hs : swapsWithSole [.Tuple [.Name x px, .Name y py] kt pt] (.Tuple [a, b] k2 pt2) pos.line X.env = pure false := by rfl) :
    PS X (.Assign [.Tuple [.Name x px, .Name y py] kt pt] (.Tuple [a, b] k2 pt2) pos) (sE X.K B (parS i j fs)) := ps_imp (ps_par hc hN hi hj hij hx hy ha hw hs) fun T σ H ⟨F, env, out, S, e, o⟩ => by
  obtain ⟨ds, h, e⟩ := bind_eq e
  obtain ⟨es, h, hd⟩ := bind_eq h
  refine ⟨F, env, es, S.toStOk, h, fun vs F' H' z ok => ?_⟩
  have hA := asDs_ok ok hd
  cases hA with
  | nil => cases e
  | cons r1 t1 =>
    cases t1 with
    | nil => cases e
    | cons r2 t2 =>
      cases t2 with
      | cons _ _ => cases e
      | nil =>
        cases e
        exact ⟨_, _, rfl, o _ F' H' z.b (((S.ext z).setD i r1).setD j r2)⟩
/-- (a, b, ..) = e -/
theorem sunp {p : Pat} (he : PE X e (tE X.K f)) (hg : PG X tg (p.g X.K)) (hs : swapsWithSole [tg] e pos.line X.env = pure false := by rfl) (hw : swappedStores [tg] e X.env = pure none := by rfl)
    (h1 : (assignEach [tg] X.env).map (·.2) = [assign tg X.env] := by rfl) : PS X (.Assign [tg] e pos) (sE X.K B (unpS p f)) := ps_imp (ps_asg he hg hs hw h1) fun T σ H ⟨F, env, out, S, e, o⟩ => by
  obtain ⟨d, h, e⟩ := bind_eq e
  obtain ⟨ev, h, hd⟩ := bind_eq h
  obtain ⟨env', hb, e⟩ := bind_eq e
  cases e
  refine ⟨F, env, ev, S.toStOk, h, fun v F' H' y ok => ?_⟩
  exact pat_okB p σ env env' v d _ (S.ext y) (asD_ok ok hd) hb fun σ' S' => o σ' F' H' y.b S'
end
end Od

set_option Elab.async false
set_option linter.all false
set_option maxRecDepth 100000
set_option autoImplicit false
/-! Od, fifth part: the other statements, loops, a def by its body. -/
namespace Od
open PySem PySem.Spec PyProof.Rows L2
section
variable {X : Cx} {B : Addr → Prop} {pos : Pos} {e a c tg iter : Expr} {f g : En → Option EV} {n : En → Option Ob} {st : Stmt} {sts body orelse : List Stmt} {s t : En → Option Out} {q : En → Option Bool} {x : Str} {px : Pos} {es : List Expr} {fs : En → Option (List EV)}
theorem sret (he : PE X e (tE X.K f)) : PS X (.Return (some e) pos) (sE X.K B (retS f)) := ps_imp (ps_ret he) fun T σ H ⟨F, env, out, S, e, o⟩ => by
  obtain ⟨d, h, e⟩ := bind_eq e
  obtain ⟨ev, h, hd⟩ := bind_eq h
  cases e
  exact ⟨F, env, ev, S.toStOk, h, fun v F' H' y ok => o v F' H' y.b (asD_ok ok hd)⟩
theorem nb_of {K : PySem.W.Frag} {F H : Hp} {σ : L2.St} {env : En} {p : Addr} (S : StB K B F H σ env) (h : H p = none) : ¬ B p := fun b => by
  obtain ⟨w, hw⟩ := S.bk p b
  rw [h] at hw
  cases hw
theorem sretN (he : PE X e (tN X.K n)) : PS X (.Return (some e) pos) (sE X.K B (retN n)) := ps_imp (ps_ret he) fun T σ H ⟨F, env, out, S, e, o⟩ => by
  obtain ⟨ob, h, e⟩ := bind_eq e
  cases e
  exact ⟨F, env, ob, S.toStOk, h, fun p u F' H' y hn hf hp ok => o p u F' H' y.b (nb_of S hn) hf hp ok⟩
/-- an owned object is handed back -/
theorem sretO (i : Nat) {xpos : Pos} (hN : X.N[i]? = some x := by rfl) (hv : Vis X.env.scope x := by first | exact Or.inl rfl | exact Or.inr (Or.inl rfl) | exact Or.inr (Or.inr rfl)) (hd : (x == ("__debug__" : Str)) = false := by decide)
    (hcd : (x == ("__classdict__" : Str)) = false := by decide) : PS X (.Return (some (.Name x xpos)) pos) (sE X.K B (retO i)) := ps_imp (ps_ret (pe_var hN hv hd hcd)) fun T σ H ⟨F, env, out, S, e, o⟩ => by
  unfold retO at e
  cases h : vr i env with
  | none => rw [h] at e; cases e
  | some ev =>
    rw [h] at e
    cases ev <;> first | cases e | skip
    have e' := vr_eq h
    obtain ⟨v, h1, p, u, rfl, h2, h3, h4⟩ := S.get i _ e'
    exact ⟨.ref p, h1, o p u F H (ExtB.rfl' S.sub) (S.out i _ p e' h1) h2 h3 h4⟩
theorem sretZ : PS X (.Return none pos) (sE X.K B retZ) := ps_imp ps_retN fun T σ H ⟨F, env, out, S, e, o⟩ => by
  cases e
  exact o .non F H (ExtB.rfl' S.sub) .non
theorem sdrop (he : PE X e (tE X.K f)) (hs : swapsWith e none pos.line X.env = pure false := by rfl) : PS X (.Expr e pos) (sE X.K B (dropS f)) := ps_imp (ps_expr he hs) fun T σ H ⟨F, env, out, S, e, o⟩ => by
  obtain ⟨ev, h, e⟩ := bind_eq e
  cases e
  exact ⟨F, env, ev, S.toStOk, h, fun v F' H' y _ => o σ F' H' y.b (S.ext y)⟩
theorem sif (hc : PT X c (tT X.K q)) (ha : PSs X body (sE X.K B s)) (hb : PSs X orelse (sE X.K B t)) : PS X (.If c body orelse pos) (sE X.K B (ifS q s t)) := ps_imp (ps_if hc ha hb) fun T σ H ⟨F, env, out, S, e, o⟩ => by
  obtain ⟨b, h, e⟩ := bind_eq e
  refine ⟨F, env, b, S.toStOk, h, fun F' H' y => ?_⟩
  cases b with
  | true =>
    rw [if_pos rfl] at e
    exact iteT ⟨F', env, out, S.ext y, e, o.ext y.b⟩
  | false =>
    rw [if_neg Bool.false_ne_true] at e
    exact iteF ⟨F', env, out, S.ext y, e, o.ext y.b⟩
theorem sfor {it : En → Option (List D)} {p : Pat} (hc : X.calm = true) (hi : PI X tg iter (iI X.K it)) (hg : PG X tg (p.g X.K)) (hb : PSs X body (sE X.K B s)) (hp : PassesOwn (model X.prog X.w) X.A X.env X.xe := by exact PassesOwn.never)
    (hs : ∀ x, foldedSetIterable iter X.env x = pure x := by intro _; rfl) : PS X (.For tg iter body [] pos) (sE X.K B (forS it p s)) := ps_imp (ps_for hp hc hi hg hb hs) fun T σ H ⟨F, env, out, S, e, o⟩ => by
  obtain ⟨ds, h, e⟩ := bind_eq e
  refine ⟨F, env, ds, S.toStOk, h, fun J F1 H1 x1 wk => ?_⟩
  refine ⟨fun i m σ2 H2 => m = ds.length - i ∧ i ≤ ds.length ∧ ∃ F2 env2, ExtB B F1 H1 F2 H2 ∧ StB X.K B F2 H2 σ2 env2 ∧ forGo p s (ds.drop i) env2 = some out,
    ⟨ds.length, rfl, Nat.zero_le _, F1, env, ExtB.rfl' x1.low, S.ext x1, by rw [List.drop_zero]; exact e⟩, ?_⟩
  rintro i m σ2 H2 ⟨rfl, hi, F2, env2, x2, S2, hgo⟩
  have o2 : OutOk X.K B F2 H2 T out := o.ext (x1.b.trans x2)
  by_cases hlt : i < ds.length
  · refine .inr ⟨wk.go i F2 H2 x2.fz x2.low hlt, _, fun σ' H' h' => ⟨ds.length - (i + 1), by omega, h'⟩, fun x H3 y => ?_⟩
    have hd : ds[i]? = some ds[i] := by simp [hlt]
    obtain ⟨F3, x3, o3⟩ := wk.yld i F2 H2 H3 x _ x2.fz x2.low y hd
    rw [List.drop_eq_getElem_cons hlt] at hgo
    unfold forGo at hgo
    obtain ⟨env1, hb1, hgo⟩ := bind_eq hgo
    obtain ⟨ob, hbo, hgo⟩ := bind_eq hgo
    refine pat_okB p σ2 env2 env1 x _ _ (S2.ext x3) o3 hb1 fun σ' S' => ⟨F3, env1, ob, S', hbo, ?_⟩
    cases ob with
    | nx e2 => exact fun σ4 F4 H4 x4 S4 => ⟨rfl, hlt, F4, e2, x2.trans (x3.b.trans x4), S4, hgo⟩
    | ct e2 => exact fun σ4 F4 H4 x4 S4 => ⟨rfl, hlt, F4, e2, x2.trans (x3.b.trans x4), S4, hgo⟩
    | bk e2 => cases hgo; exact fun σ4 F4 H4 x4 S4 => o2 σ4 F4 H4 (x3.b.trans x4) S4
    | rt d => cases hgo; exact fun v F4 H4 x4 ok => o2 v F4 H4 (x3.b.trans x4) ok
    | rtN d => cases hgo; exact fun p u F4 H4 x4 => o2 p u F4 H4 (x3.b.trans x4)
  · have e0 : i = ds.length := by omega
    subst e0
    rw [List.drop_length] at hgo
    cases hgo
    exact .inl ⟨wk.stop _ F2 H2 x2.fz x2.low (Nat.le_refl _), o2 σ2 F2 H2 (ExtB.rfl' S2.sub) S2⟩
theorem swhile {nf : En → Nat} (hc : PT X c (tT X.K q)) (hb : PSs X body (sE X.K B s)) (hp : PassesOwn (model X.prog X.w) X.A X.env X.xe := by exact PassesOwn.never) : PS X (.While c body [] pos) (sE X.K B (whS nf q s)) := ps_imp (ps_while hp hc hb) fun T σ H ⟨F, env, out, S, e, o⟩ => by
  refine ⟨fun m σ2 H2 => ∃ F2 env2, ExtB B F H F2 H2 ∧ StB X.K B F2 H2 σ2 env2 ∧ whGo q s m env2 = some out, ⟨nf env, F, env, ExtB.rfl' S.sub, S, e⟩, ?_⟩
  rintro m σ2 H2 ⟨F2, env2, x2, S2, hgo⟩
  cases m with
  | zero => cases hgo
  | succ m =>
    unfold whGo at hgo
    obtain ⟨b, hb1, hgo⟩ := bind_eq hgo
    refine ⟨F2, env2, b, S2.toStOk, hb1, fun F3 H3 x3 => ?_⟩
    have o2 : OutOk X.K B F3 H3 T out := o.ext (x2.trans x3.b)
    cases b with
    | false =>
      rw [if_neg Bool.false_ne_true] at hgo
      cases hgo
      exact iteF (o2 σ2 F3 H3 (ExtB.rfl' x3.low) (S2.ext x3))
    | true =>
      rw [if_pos rfl] at hgo
      refine iteT ⟨_, fun σ' H' h' => ⟨m, Nat.lt_succ_self m, h'⟩, ?_⟩
      obtain ⟨ob, hbo, hgo⟩ := bind_eq hgo
      refine ⟨F3, env2, ob, S2.ext x3, hbo, ?_⟩
      cases ob with
      | nx e2 => exact fun σ4 F4 H4 x4 S4 => ⟨F4, e2, x2.trans (x3.b.trans x4), S4, hgo⟩
      | ct e2 => exact fun σ4 F4 H4 x4 S4 => ⟨F4, e2, x2.trans (x3.b.trans x4), S4, hgo⟩
      | bk e2 => cases hgo; exact fun σ4 F4 H4 x4 S4 => o2 σ4 F4 H4 x4 S4
      | rt d => cases hgo; exact fun v F4 H4 x4 ok => o2 v F4 H4 x4 ok
      | rtN d => cases hgo; exact fun p u F4 H4 x4 => o2 p u F4 H4 x4
/-- x.append(e), x owned -/
theorem sapp (i : Nat) {apos cpos xpos : Pos} (he : PE X e (tE X.K f)) (hN : X.N[i]? = some x := by rfl) (hv : Vis X.env.scope x := by first | exact Or.inl rfl | exact Or.inr (Or.inl rfl) | exact Or.inr (Or.inr rfl)) (hd : (x == ("__debug__" : Str)) = false := by decide)
    (hcd : (x == ("__classdict__" : Str)) = false := by decide)
    (hbase : attributeBase (.Name x xpos) "append" X.env (eval (.Name x xpos) X.env) = eval (.Name x xpos) X.env := by rfl)
    (hfew : ((backTo cpos (starEach [e] X.env)).all (fun x => !x.1) && (backToKw cpos (keywordEach [] X.env)).all (fun x => x.1.isSome)
      && decide ([e].length + ([] : List Keyword).length + (if ([] : List Keyword).isEmpty then 0 else 1) < 30)) = true := by rfl)
    (hline : (apos.endLine == cpos.line) = true := by rfl) (hs : starEach [e] X.env = (false, eval e X.env) :: starEach [] X.env := by rfl) (hplain : (backTo cpos (starEach [] X.env)).any (·.1) = false := by rfl)
    (hsw : swapsWith (.Call (.Attribute (.Name x xpos) "append" apos) [e] [] cpos) none pos.line X.env = pure false := by rfl) :
    PS X (.Expr (.Call (.Attribute (.Name x xpos) "append" apos) [e] [] cpos) pos) (sE X.K B (appS i f)) :=
  ps_imp (ps_expr (pe_bm PySem.F.plainAttrs_list PySem.F.slot_list_append PySem.F.type_list_append mt_append (pe_var hN hv hd hcd) (xac he xa0 hs) hbase hfew hline hs hplain) hsw) fun T σ H ⟨F, env, out, S, e, o⟩ => by
    unfold appS at e
    cases h : vr i env with
    | none => rw [h] at e; cases e
    | some ev =>
      rw [h] at e
      cases ev <;> first | cases e | skip
      rename_i ob
      cases ob <;> first | cases e | skip
      rename_i ds
      obtain ⟨d, hd, e⟩ := bind_eq (show ((f env).bind asD).bind (fun d => if ds.length < 1000000 then some (Out.nx (env.set i (some (.own (.lst (ds ++ [d])))))) else none) = some out from e)
      obtain ⟨ev, hev, hd⟩ := bind_eq hd
      have e' := vr_eq h
      obtain ⟨v, h1, p, u, rfl, h2, h3, h4⟩ := S.get i _ e'
      cases u <;> first | exact False.elim h4 | skip
      rename_i vs
      refine ⟨.ref p, h1, .inl ⟨rfl, vs, SqL.of h3⟩, ?_⟩
      by_cases hl : ds.length < 1000000
      · rw [if_pos hl] at e
        cases e
        refine ⟨F, env, [ev], S.toStOk, ?_, fun ws F' H' y ok => ?_⟩
        · show (f env).bind _ = _
          rw [hev]
          rfl
        · obtain ⟨w, rfl, ok1⟩ := all1 ok
          have S' := S.ext y
          have h4' : DpAll X.K F' vs ds := dpAll_same y.fz _ _ h4
          obtain ⟨m1, m2⟩ := S'.mut (u := .lst (vs ++ [w])) (o' := .lst (ds ++ [d])) e' h1 (dpAll_append h4' (.cons (asD_ok ok1 hd) .nil))
          refine ⟨p, vs, w, rfl, rfl, (y.keep p _ h3).1, ?_, o σ F' _ (y.b.trans m2) m1⟩
          rw [dpAll_len h4]
          exact Nat.lt_of_lt_of_le hl (by decide)
      · rw [if_neg hl] at e; cases e
/-- x[k] = e, x owned -/
theorem sput (i : Nat) {k : Expr} {kf : En → Option EV} {xpos tpos : Pos} (he : PE X e (tE X.K f)) (hk : PE X k (tE X.K kf)) (hN : X.N[i]? = some x := by rfl) (hv : Vis X.env.scope x := by first | exact Or.inl rfl | exact Or.inr (Or.inl rfl) | exact Or.inr (Or.inr rfl)) (hd : (x == ("__debug__" : Str)) = false := by decide)
    (hcd : (x == ("__classdict__" : Str)) = false := by decide)
    (ha : ∀ v, assign (.Subscript (.Name x xpos) k tpos) X.env v = (do
      let ov ← holding [v] (eval (.Name x xpos) X.env)
      let iv ← holding [v, ov] (eval k X.env)
      standAt tpos
      holding [v, ov, iv] (setItem ov iv v)
      release [v, ov, iv] []) := by intro _; rfl)
    (hs : swapsWithSole [.Subscript (.Name x xpos) k tpos] e pos.line X.env = pure false := by rfl) (hw : swappedStores [.Subscript (.Name x xpos) k tpos] e X.env = pure none := by rfl)
    (h1 : (assignEach [.Subscript (.Name x xpos) k tpos] X.env).map (·.2) = [assign (.Subscript (.Name x xpos) k tpos) X.env] := by rfl) :
    PS X (.Assign [.Subscript (.Name x xpos) k tpos] e pos) (sE X.K B (putS i kf f)) :=
  ps_imp (ps_asg he (pg_sub (pe_var hN hv hd hcd) hk set_list ha) hs hw h1) fun T σ H ⟨F, env, out, S, e, o⟩ => by
    obtain ⟨d, hd, e⟩ := bind_eq e
    obtain ⟨ev, hev, hd⟩ := bind_eq hd
    refine ⟨F, env, ev, S.toStOk, hev, fun w F1 H1 x1 o1 => ?_⟩
    cases h : vr i env with
    | none => rw [h] at e; cases e
    | some ev =>
      rw [h] at e
      cases ev <;> first | cases e | skip
      rename_i ob
      cases ob <;> first | cases e | skip
      rename_i ds
      obtain ⟨z, hz, e⟩ := bind_eq (show ((kf env).bind asI).bind (fun z => (ixN ds.length z).bind fun j => some (Out.nx (env.set i (some (.own (.lst (ds.set j d))))))) = some out from e)
      obtain ⟨kv, hkv, hz⟩ := bind_eq hz
      obtain ⟨j, hj, e⟩ := bind_eq e
      cases e
      have e' := vr_eq h
      have S1 := S.ext x1
      obtain ⟨v, h1, p, u, rfl, h2, h3, h4⟩ := S1.get i _ e'
      cases u <;> first | exact False.elim h4 | skip
      rename_i vs
      refine ⟨.ref p, h1, F1, env, kv, S1.toStOk, hkv, fun kw F2 H2 x2 o2 => ?_⟩
      have S2 := S1.ext x2
      have h4' : DpAll X.K F2 vs ds := dpAll_same x2.fz _ _ h4
      obtain ⟨m1, m2⟩ := S2.mut (u := .lst (vs.set j w)) (o' := .lst (ds.set j d)) e' h1 (dpAll_set (asD_ok (o1.ext x2) hd) j h4')
      exact ⟨p, vs, z, j, rfl, asI_ok o2 hz, (x2.keep p _ h3).1, by rw [dpAll_len h4]; exact hj, o σ F2 _ (x1.b.trans (x2.b.trans m2)) m1⟩
end

/-! ### a def by its body -/
def startE (n : Nat) (ds : List D) : En := ds.map (fun d => some (.dat d)) ++ List.replicate (n - ds.length) none
def fnD (np n : Nat) (b : En → Option Out) : List D → Option D := fun ds => if ds.length = np then (b (startE n ds)).bind fun o => match o with
  | .rt d => some d
  | .rtN (.lst ds) => some (.list ds)
  | .nx _ => some .none
  | _ => none else none
def fnN (np n : Nat) (b : En → Option Out) : List D → Option Ob := fun ds => if ds.length = np then (b (startE n ds)).bind fun o => match o with
  | .rtN o => some o
  | _ => none else none
theorem start_get {ds : List D} {n i : Nat} {ev : EV} (h : (startE n ds)[i]? = some (some ev)) : ∃ d, ds[i]? = some d ∧ ev = .dat d := by
  unfold startE at h
  by_cases hi : i < ds.length
  · rw [List.getElem?_append_left (by simpa using hi), List.getElem?_map] at h
    cases e : ds[i]? with
    | none => rw [e] at h; cases h
    | some d => rw [e] at h; cases h; exact ⟨d, rfl, rfl⟩
  · rw [List.getElem?_append_right (by simpa using hi), List.getElem?_replicate] at h
    split at h <;> cases h
theorem start_ok {K : PySem.W.Frag} {F H : Hp} {N : List Str} {vs : List V} {ds : List D} (s : Same F H) (h : DpAll K F vs ds) : StB K (fun a => ∃ u, H a = some u) F H (L2.start N vs) (startE N.length ds) := by
  have hl := dpAll_len h
  refine ⟨⟨s, ?_, fun i ev e => ?_, fun i j o o' p e => ?_⟩, fun a b => b, fun i o p e => ?_⟩
  · unfold L2.start startE
    simp [hl]
  · obtain ⟨d, h1, rfl⟩ := start_get e
    obtain ⟨v, h2, h3⟩ := dpAll_get h h1
    refine ⟨v, ?_, h3⟩
    unfold L2.start
    rw [List.getElem?_append_left (by rw [List.length_map]; exact (List.getElem?_eq_some_iff.mp h2).1), List.getElem?_map, h2]
    rfl
  · obtain ⟨d, _, q⟩ := start_get e
    cases q
  · obtain ⟨d, _, q⟩ := start_get e
    cases q
section
variable {P : Program} {w : World} {K : PySem.W.Frag} {mg : Str → Option Value} {base : Heap} {x qual : Str} {st : Stmt} {f : Addr} {fd : FuncData} {N ps : List Str} {k : Nat} {b : En → Option Out}
theorem body_ok {X : Cx} {F H : Hp} {vs : List V} {ds : List D} {Q : VK} {d : D} (hK : X.K = K) (s : Same F H) (h : DpAll K F vs ds) (hM : fnD ps.length N.length b ds = some d) (q : ∀ v F' H', Ext F H F' H' → Dp K F' v d → Q v H') :
    sE X.K (fun a => ∃ u, H a = some u) b { nx := fun _ H' => Q .non H', rt := Q } (L2.start N vs) H := by
  subst hK
  unfold fnD at hM
  by_cases hl : ds.length = ps.length
  · rw [if_pos hl] at hM
    obtain ⟨o, ho, hM⟩ := bind_eq hM
    refine ⟨F, _, o, start_ok s h, ho, ?_⟩
    have up : ∀ {F' H' : Hp}, ExtB (fun a => ∃ u, H a = some u) F H F' H' → Ext F H F' H' := fun y => ⟨y.fz, y.low, fun a u e => y.keep a u ⟨u, e⟩ e⟩
    cases o with
    | rt d' => cases hM; exact fun v F' H' y ok => q v F' H' (up y) ok
    | nx e => cases hM; exact fun σ' F' H' y _ => q .non F' H' (up y) .non
    | bk e => cases hM
    | ct e => cases hM
    | rtN o =>
      cases o <;> first | cases hM | skip
      refine fun p u F' H' y nb hf hp ok => ?_
      cases u <;> first | exact False.elim ok | skip
      have hn : H p = none := by
        cases e : H p with
        | none => rfl
        | some u => exact absurd ⟨u, e⟩ nb
      exact q (.ref p) _ H' ((up y).freeze hn hf hp) (.lst (SqL.of upd_same) (dpAll_same (same_upd hf) _ _ ok))
  · rw [if_neg hl] at hM; cases hM
theorem body_okN {X : Cx} {F H : Hp} {vs : List V} {ds : List D} {Q : VK} {o : Ob} (hK : X.K = K) (s : Same F H) (h : DpAll K F vs ds) (hM : fnN ps.length N.length b ds = some o)
    (q : ∀ p u F' H', Ext F H F' H' → H p = none → F' p = none → H' p = some u → ObOk K F' u o → Q (.ref p) H') :
    sE X.K (fun a => ∃ u, H a = some u) b { nx := fun _ H' => Q .non H', rt := Q } (L2.start N vs) H := by
  subst hK
  unfold fnN at hM
  by_cases hl : ds.length = ps.length
  · rw [if_pos hl] at hM
    obtain ⟨o', ho, hM⟩ := bind_eq hM
    refine ⟨F, _, o', start_ok s h, ho, ?_⟩
    cases o' <;> first | cases hM | skip
    refine fun p u F' H' y nb hf hp ok => ?_
    have hn : H p = none := by
      cases e : H p with
      | none => rfl
      | some u => exact absurd ⟨u, e⟩ nb
    exact q p u F' H' ⟨y.fz, y.low, fun a u e => y.keep a u ⟨u, e⟩ e⟩ hn hf hp ok
  · rw [if_neg hl] at hM; cases hM
theorem len_of {M : List D → Option D} {n : Nat} (h : ∀ ds d, M ds = some d → ds.length = n) : ∀ vs H Q E, spD K M vs H Q E → vs.length = n := fun vs H Q E ⟨F, ds, d, _, h1, h2, _⟩ => by
  rw [dpAll_len h1]
  exact h ds d h2
theorem fnD_len {np n : Nat} : ∀ ds d, fnD np n b ds = some d → ds.length = np := fun ds d h => by
  unfold fnD at h
  by_cases hl : ds.length = np
  · exact hl
  · rw [if_neg hl] at h; cases h
theorem fnN_len {np n : Nat} : ∀ ds d, fnN np n b ds = some d → ds.length = np := fun ds d h => by
  unfold fnN at h
  by_cases hl : ds.length = np
  · exact hl
  · rw [if_neg hl] at h; cases h
/-- a def by its body; M may be less defined than the body -/
theorem ok_def (F : Fun K x qual st f fd) (S : FnScope N ps (defScope st)) (M : List D → Option D) (hM : ∀ ds d, M ds = some d → fnD ps.length N.length b ds = some d)
    (hb : ∀ (cdv : Value) (A : Around) (outer : List Env) (s : Shared) (H : Hp) (E : XK) (B : Addr → Prop), Room k (A.deeper (envOfC qual (defScope st) s.heap.objs.size f cdv)) →
      PSs (cxOf CX0 P w K mg base N qual (defScope st) f cdv A outer s H E).nox (defBody st) (sE K B b)) : FnOk P w K mg base CX0 (k + 1) f fd ps (spD K M) := by
  refine F.ok S (len_of fun ds d h => fnD_len ds d (hM ds d h)) fun cdv A outer s H vs Q E hr ⟨F', ds, d, s1, h1, h2, q⟩ => ⟨_, hb cdv A outer s H E (fun a => ∃ u, H a = some u) hr, ?_⟩
  exact body_ok (X := (cxOf CX0 P w K mg base N qual (defScope st) f cdv A outer s H E).nox) rfl s1 h1 (hM ds d h2) q
theorem ok_defN (F : Fun K x qual st f fd) (S : FnScope N ps (defScope st)) (M : List D → Option Ob) (hM : ∀ ds d, M ds = some d → fnN ps.length N.length b ds = some d)
    (hb : ∀ (cdv : Value) (A : Around) (outer : List Env) (s : Shared) (H : Hp) (E : XK) (B : Addr → Prop), Room k (A.deeper (envOfC qual (defScope st) s.heap.objs.size f cdv)) →
      PSs (cxOf CX0 P w K mg base N qual (defScope st) f cdv A outer s H E).nox (defBody st) (sE K B b)) : FnOk P w K mg base CX0 (k + 1) f fd ps (spN K M) := by
  refine F.ok S (fun vs H Q E ⟨F', ds, d, s1, h1, h2, q⟩ => by rw [dpAll_len h1]; exact fnN_len ds d (hM ds d h2)) fun cdv A outer s H vs Q E hr ⟨F', ds, d, s1, h1, h2, q⟩ => ⟨_, hb cdv A outer s H E (fun a => ∃ u, H a = some u) hr, ?_⟩
  exact body_okN (X := (cxOf CX0 P w K mg base N qual (defScope st) f cdv A outer s H E).nox) rfl s1 h1 (hM ds d h2) q
/-- a new object handed back, taken as data -/
def frz : Ob → Option D | .lst ds => some (.list ds) | _ => none
theorem toD {CX : CXT} {M : List D → Option Ob} (G : FnOk P w K mg base CX k f fd ps (spN K M)) : FnOk P w K mg base CX k f fd ps (spD K fun ds => (M ds).bind frz) := by
  refine G.imp fun vs H Q E ⟨F, ds, d, s1, h1, h2, q⟩ => ?_
  obtain ⟨o, ho, hd⟩ := bind_eq h2
  cases o <;> first | cases hd | skip
  refine ⟨F, ds, _, s1, h1, ho, fun p u F' H' x hn hf hp ok => ?_⟩
  cases u <;> first | exact False.elim ok | skip
  exact q (.ref p) _ H' (x.freeze hn hf hp) (.lst (SqL.of upd_same) (dpAll_same (same_upd hf) _ _ ok))
end
end Od

set_option Elab.async false
set_option linter.all false
set_option maxRecDepth 100000
set_option autoImplicit false
/-! Od, sixth part: in, sums, all, any, sorted, isinstance, repr, slices, dicts with tuple keys, constants, defs by their names. -/
namespace Od
open PySem PySem.Spec PyProof.Rows L2

section
variable {X : Cx} {B : Addr → Prop} {pos : Pos} {e a b c tg iter : Expr} {f g : En → Option EV} {n : En → Option Ob} {es : List Expr} {fs gs : En → Option (List EV)} {x : Str} {px p : Pos} {k : Nat}
theorem room65 {A : Around} (hr : Room k A) : A.units + 65 < cLine := by have := hr.un; omega
/-! ### in -/
def inE : EV → EV → Option EV := fun x y => (asD x).bind fun d => (asL y).bind fun ds => if (SeqAt.shaped d && SeqAt.shaped (.list ds)) = true then some (.dat (.bool (ds.any fun z => PyData.eqv z d))) else none
def niE : EV → EV → Option EV := fun x y => (asD x).bind fun d => (asL y).bind fun ds => if (SeqAt.shaped d && SeqAt.shaped (.list ds)) = true then some (.dat (.bool (!ds.any fun z => PyData.eqv z d))) else none
theorem o_in : OpE X (rInD X.K) inE := by
  intro F H x y ex ey ev Q s ox oy e q
  obtain ⟨d, hd, e⟩ := bind_eq e
  obtain ⟨ds, hds, e⟩ := bind_eq e
  by_cases h : (SeqAt.shaped d && SeqAt.shaped (.list ds)) = true
  · rw [if_pos h] at e
    cases e
    simp only [Bool.and_eq_true] at h
    obtain ⟨p, xs, rfl, h1, h2⟩ := asL_ok s oy hds
    exact ⟨d, ds, dp_same s d _ (asD_ok ox hd), .lst h1 (dpAll_same s _ _ h2), h.1, h.2, q _ F H (Ext.rfl' s) (.bl _)⟩
  · rw [if_neg h] at e; cases e
theorem o_ni : OpE X (rNotInD X.K) niE := by
  intro F H x y ex ey ev Q s ox oy e q
  obtain ⟨d, hd, e⟩ := bind_eq e
  obtain ⟨ds, hds, e⟩ := bind_eq e
  by_cases h : (SeqAt.shaped d && SeqAt.shaped (.list ds)) = true
  · rw [if_pos h] at e
    cases e
    simp only [Bool.and_eq_true] at h
    obtain ⟨p, xs, rfl, h1, h2⟩ := asL_ok s oy hds
    exact ⟨d, ds, dp_same s d _ (asD_ok ox hd), .lst h1 (dpAll_same s _ _ h2), h.1, h.2, q _ F H (Ext.rfl' s) (.bl _)⟩
  · rw [if_neg h] at e; cases e
/-! ### lists of intsD, of bools -/
def intsD : List D → Option (List Int) | [] => some [] | .int i :: r => (intsD r).bind fun is => some (i :: is) | _ => none
def blsD : List D → Option (List Bool) | [] => some [] | .bool i :: r => (blsD r).bind fun is => some (i :: is) | _ => none
theorem ints_map : ∀ is : List Int, intsD (is.map .int) = some is
  | [] => rfl
  | i :: r => by simp [intsD, ints_map r]
theorem bls_map : ∀ is : List Bool, blsD (is.map .bool) = some is
  | [] => rfl
  | i :: r => by simp [blsD, bls_map r]
theorem ints_ok {K : PySem.W.Frag} {F : Hp} : ∀ {vs : List V} {ds : List D} {is : List Int}, DpAll K F vs ds → intsD ds = some is → vs = is.map V.int
  | _, _, _, .nil, h => by cases h; rfl
  | _, _, _, .cons (d := d) r t, h => by
    cases d <;> first | cases h | skip
    unfold intsD at h
    obtain ⟨js, h1, h⟩ := bind_eq h
    cases h
    cases r
    rw [ints_ok t h1]
    rfl
theorem bls_ok {K : PySem.W.Frag} {F : Hp} : ∀ {vs : List V} {ds : List D} {is : List Bool}, DpAll K F vs ds → blsD ds = some is → vs = is.map V.bl
  | _, _, _, .nil, h => by cases h; rfl
  | _, _, _, .cons (d := d) r t, h => by
    cases d <;> first | cases h | skip
    unfold blsD at h
    obtain ⟨js, h1, h⟩ := bind_eq h
    cases h
    cases r
    rw [bls_ok t h1]
    rfl
def sumE : List EV → Option EV | [e] => (asL e).bind fun ds => (intsD ds).bind fun is => some (.dat (.int is.sum)) | _ => none
def anyE : List EV → Option EV | [e] => (asL e).bind fun ds => (blsD ds).bind fun is => some (.dat (.bool (is.any id))) | _ => none
def allE : List EV → Option EV | [e] => (asL e).bind fun ds => (blsD ds).bind fun is => some (.dat (.bool (is.all id))) | _ => none
theorem o_sum : CallE X (rSum X.K) sumE := by
  intro F H vs es ev Q s ok e q
  match es, e, ok with
  | [x], e, ok =>
    obtain ⟨ds, hd, e⟩ := bind_eq (show (asL x).bind _ = some ev from e)
    obtain ⟨is, hi, e⟩ := bind_eq e
    cases e
    obtain ⟨v, rfl, o⟩ := all1 ok
    obtain ⟨p, xs, rfl, h1, h2⟩ := asL_ok s o hd
    exact ⟨p, is, rfl, by rw [← ints_ok h2 hi]; exact h1, q _ F H (Ext.rfl' s) (.int _)⟩
theorem o_any : CallE X (rAny X.K) anyE := by
  intro F H vs es ev Q s ok e q
  match es, e, ok with
  | [x], e, ok =>
    obtain ⟨ds, hd, e⟩ := bind_eq (show (asL x).bind _ = some ev from e)
    obtain ⟨is, hi, e⟩ := bind_eq e
    cases e
    obtain ⟨v, rfl, o⟩ := all1 ok
    obtain ⟨p, xs, rfl, h1, h2⟩ := asL_ok s o hd
    exact ⟨p, is, rfl, by rw [← bls_ok h2 hi]; exact h1, q _ F H (Ext.rfl' s) (.bl _)⟩
theorem o_all : CallE X (rAll X.K) allE := by
  intro F H vs es ev Q s ok e q
  match es, e, ok with
  | [x], e, ok =>
    obtain ⟨ds, hd, e⟩ := bind_eq (show (asL x).bind _ = some ev from e)
    obtain ⟨is, hi, e⟩ := bind_eq e
    cases e
    obtain ⟨v, rfl, o⟩ := all1 ok
    obtain ⟨p, xs, rfl, h1, h2⟩ := asL_ok s o hd
    exact ⟨p, is, rfl, by rw [← bls_ok h2 hi]; exact h1, q _ F H (Ext.rfl' s) (.bl _)⟩
/-! ### isinstance(x, T), T a built-in type -/
def tyOfD : D → Option String | .none => some "NoneType" | .bool _ => some "bool" | .int _ => some "int" | .str _ => some "str" | .list _ => some "list" | .tuple _ => some "tuple" | _ => none
def isiE (T : String) : EV → Option EV := fun x => (asQ x).bind fun d => (tyOfD d).bind fun t => (kitB t T).bind fun b => some (.dat (.bool b))
theorem ty_ok {K : PySem.W.Frag} {H : Hp} {v : V} {d : D} {t : String} (h : Dp K H v d) (e : tyOfD d = some t) : TyX K H v (.type t) := by
  cases h with
  | non => cases e; exact .base .non
  | bl b => cases e; exact .base (.bl b)
  | int b => cases e; exact .base (.int b)
  | str b => cases e; exact .base (.str b)
  | lst hs ha =>
    cases e
    rcases hs with (hs | ⟨o, hs⟩) | ⟨o, its, n, h1, h2, _⟩
    · exact .base (.lst hs)
    · exact .base (.frz hs)
    · exact .kList h1 h2
  | tup hs ha =>
    cases e
    rcases hs with (hs | ⟨o, hs⟩) | ⟨o, its, n, h1, h2, _⟩
    · exact .base (.tup hs)
    · exact .fTuple hs
    · exact .kTuple h1 h2
theorem xisi {T : String} {ty : Str} {pT : Pos} (hg : Gl X "isinstance") (hm : X.mg "isinstance" = none) (hgT : Gl X ty) (hmT : X.mg ty = none) (hvT : bootBuiltins ty = some (.type T)) (ha : PE X a (tE X.K f)) (hnT : ty ≠ "__name__" := by decide) (hdT : (ty == ("__debug__" : Str)) = false := by decide)
    (he : starEach [a, .Name ty pT] X.env = (false, eval a X.env) :: starEach [.Name ty pT] X.env := by rfl) (hpl : (backTo pos (starEach [.Name ty pT] X.env)).any (·.1) = false := by rfl) (hs2 : starEach [.Name ty pT] X.env = (false, eval (.Name ty pT) X.env) :: starEach [] X.env := by rfl) :
    PE X (.Call (.Name "isinstance" p) [a, .Name ty pT] [] pos) (tE X.K (e1 (isiE T) f)) :=
  pe_imp (pe_callB call_isi hg hm (by decide +kernel) (pa_cons ha (pa_cons (pe_bltn (v := .ty T) hgT hmT hvT rfl hnT hdT) pa_nil hs2) he) (by decide) (by decide) he hpl) fun σ H Q ⟨F, env, ev, S, e, q⟩ => by
    obtain ⟨x, hx, e⟩ := bind_eq e
    obtain ⟨d, hd, e⟩ := bind_eq e
    obtain ⟨t, ht, e⟩ := bind_eq e
    obtain ⟨b, hb, e⟩ := bind_eq e
    cases e
    refine ⟨F, env, x, S, hx, fun v F1 H1 x1 o1 => ?_⟩
    exact ⟨v, .ty T, .type t, .type T, b, rfl, .ty T, ty_ok (asQ_ok x1.low o1 hd) ht, kit_ty hb, q _ F1 H1 x1 (.bl b)⟩
/-! ### repr of a list or a tuple -/
def rReprD (K : PySem.W.Frag) : List V → Hp → VK → Prop := fun vs H Q => ∃ (a : Addr) (d : D), vs = [.ref a] ∧ Dp K H (.ref a) d ∧ d.showable = true ∧ d.hasDict = false ∧ d.depth ≤ 64 ∧ d.shown.length ≤ sizeLine ∧ Q (.str d.shown) H
theorem call_reprD (hg : X.A.guards = some []) (hu : X.A.units + 65 < cLine) : CallR X (.builtin "repr") (rReprD X.K) := by
  intro pins s σ H vs us Q I r h
  obtain ⟨a, d, rfl, hd, h1, h2, h3, h4, q⟩ := h
  obtain ⟨u, rfl, ru⟩ := vals1 r
  obtain rfl : u = Value.ref a := ru
  obtain ⟨as, hr⟩ := Dp.reads I d (.ref a) (.ref a) hd rfl
  exact repr_of_reads' hr h1 (PyData.noDict_hsm h2) hg (by omega) (fun _ _ z => z) (fun h' u tk hk => ⟨.str d.shown, H, I.kept (t' := tk) hk, ⟨_, rfl⟩, q⟩) h4
def isSeqD : D → Bool | .list _ => true | .tuple _ => true | _ => false
def reprE : List EV → Option EV | [e] => (asQ e).bind fun d => if (d.showable && !d.hasDict && decide (d.depth ≤ 64) && decide (d.shown.length ≤ sizeLine) && isSeqD d) = true then some (.dat (.str d.shown)) else none | _ => none
theorem o_repr : CallE X (rReprD X.K) reprE := by
  intro F H vs es ev Q s ok e q
  match es, e, ok with
  | [x], e, ok =>
    obtain ⟨d, hd, e⟩ := bind_eq (show (asQ x).bind _ = some ev from e)
    by_cases h : (d.showable && !d.hasDict && decide (d.depth ≤ 64) && decide (d.shown.length ≤ sizeLine) && isSeqD d) = true
    · rw [if_pos h] at e
      have e' := Option.some.inj e
      subst e'
      simp only [Bool.and_eq_true, decide_eq_true_eq, Bool.not_eq_true'] at h
      obtain ⟨⟨⟨⟨h1, h2⟩, h3⟩, h4⟩, h5⟩ := h
      obtain ⟨v, rfl, o⟩ := all1 ok
      have hD := asQ_ok s o hd
      have ref : ∃ p, v = .ref p := by
        cases hD with
        | lst hs ha => exact ⟨_, rfl⟩
        | tup hs ha => exact ⟨_, rfl⟩
        | _ => cases h5
      obtain ⟨p, rfl⟩ := ref
      exact ⟨p, d, rfl, hD, h1, h2, h3, h4, q _ F H (Ext.rfl' s) (.str _)⟩
    · rw [if_neg h] at e; cases e
/-! ### slices -/
def cutD {α : Type} (ds : List α) (lo hi : Option Int) : List α := (ds.drop (HT.sIx ds.length 0 lo)).take (HT.sIx ds.length ds.length hi - HT.sIx ds.length 0 lo)
/-- the parts of a slice -/
def pN : En → Option (Option Int) := fun _ => some none
def pS (f : En → Option EV) : En → Option (Option Int) := fun env => ((f env).bind asI).bind fun i => some (some i)
def tO (K : PySem.W.Frag) (f : En → Option (Option Int)) : TO := fun σ H Q => ∃ F env r, StOk K F H σ env ∧ f env = some r ∧ ∀ F' H', Ext F H F' H' → Q r H'
theorem xpN : PO X none (tO X.K pN) := ⟨fun pins s σ H Q I w => by
  obtain ⟨F, env, r, S, e, q⟩ := w
  cases e
  exact po_none.run pins s σ H Q I (q F H (Ext.rfl' S.sub))⟩
theorem xpS (h : PE X e (tE X.K f)) : PO X (some e) (tO X.K (pS f)) := ⟨fun pins s σ H Q I w => by
  obtain ⟨F, env, r, S, e, q⟩ := w
  obtain ⟨i, hi, e⟩ := bind_eq e
  obtain ⟨ev, hev, hi⟩ := bind_eq hi
  cases e
  exact (po_some h).run pins s σ H Q I ⟨F, env, ev, S, hev, fun v F' H' x o => ⟨i, asI_ok o hi, q F' H' x⟩⟩⟩
def cutN (f : En → Option EV) (lo hi : En → Option (Option Int)) : En → Option Ob := fun env => ((f env).bind asL).bind fun ds => (lo env).bind fun l => (hi env).bind fun h => some (.lst (cutD ds l h))
variable {lo hi : Option Expr} {lf hf : En → Option (Option Int)} {p2 : Pos}
theorem xcut (ha : PE X a (tE X.K f)) (hl : PO X lo (tO X.K lf)) (hh : PO X hi (tO X.K hf)) : PE X (.Subscript a (.Slice lo hi none p2) pos) (tN X.K (cutN f lf hf)) :=
  pe_imp (pe_slice sl_list ha hl hh) fun σ H Q ⟨F, env, ob, S, e, q⟩ => by
    obtain ⟨ds, hds, e⟩ := bind_eq e
    obtain ⟨ev, hev, hds⟩ := bind_eq hds
    obtain ⟨l, hl, e⟩ := bind_eq e
    obtain ⟨h, hh, e⟩ := bind_eq e
    cases e
    refine ⟨F, env, ev, S, hev, fun v F1 H1 x1 o1 => ⟨F1, env, l, S.ext x1, hl, fun F2 H2 x2 => ⟨F2, env, h, (S.ext x1).ext x2, hh, fun F3 H3 x3 => ?_⟩⟩⟩
    obtain ⟨pp, xs, rfl, h1, h2⟩ := asL_ok x3.low ((o1.ext x2).ext x3) hds
    refine ⟨pp, xs, rfl, h1, fun r hr => ?_⟩
    have hl := dpAll_len h2
    refine q r _ F3 _ (x1.trans (x2.trans (x3.trans (Ext.allocN x3.low hr)))) (x1.same.free (x2.same.free (x3.same.free hr))) (x3.low.free hr) upd_same ?_
    show DpAll X.K F3 (cutV xs l h) (cutD ds l h)
    unfold cutV cutD
    rw [hl]
    exact dpAll_take _ (dpAll_drop _ h2)
/-! ### constants of the module, defs by their names -/
/-- a module's constant -/
structure Cn (K : PySem.W.Frag) (mg : Str → Option Value) (x : Str) (d : D) : Prop where
  ex : ∃ v u, mg x = some u ∧ RelV v u ∧ ∀ F, Dp K F v d
theorem xgc {d : D} (c : Cn X.K X.mg x d) (hg : Gl X x) (h1 : (x == ("__debug__" : Str)) = false := by decide) : PE X (.Name x pos) (tE X.K (cs d)) := by
  obtain ⟨v, u, h, r, q⟩ := c.ex
  exact xg hg h r q h1
/-- a def of the module that keeps its promise -/
structure Dn (P : Program) (w : World) (K : PySem.W.Frag) (mg : Str → Option Value) (base : Heap) (k : Nat) (x : Str) (ps : List Str) (sp : Sp) : Prop where
  ex : ∃ fa fd, FnOk P w K mg base CX0 k fa fd ps sp ∧ mg x = some (.ref fa) ∧ PySem.W.keepIn K (.ref fa) = true ∧ Binds K fd ps []
/-- .. with keywords behind the first n -/
def gK {α : Type} (n m : Nat) (us ws : List α) : List α := if us.length = n ∧ ws.length = m then us ++ ws else []
structure Dk (P : Program) (w : World) (K : PySem.W.Frag) (mg : Str → Option Value) (base : Heap) (k : Nat) (x : Str) (ps ks : List Str) (n m : Nat) (sp : Sp) : Prop where
  ex : ∃ fa fd, FnOk P w K mg base CX0 k fa fd ps sp ∧ mg x = some (.ref fa) ∧ PySem.W.keepIn K (.ref fa) = true ∧ KBinds K fd ps ks (gK n m) (gK n m)
variable {ps ks : List Str} {M : List D → Option D} {MN : List D → Option Ob}
theorem xcl {j : Nat} (G : Dn X.prog X.w X.K X.mg X.base j x ps (spD X.K M)) (hr : Room k X.A) (hg : Gl X x) (ha : PA X (e :: es) (tA X.K fs)) (hj : j ≤ k := by decide)
    (hdb : (x == ("__debug__" : Str)) = false := by decide) (he : starEach (e :: es) X.env = (false, eval e X.env) :: starEach es X.env := by rfl) (hpl : (backTo pos (starEach es X.env)).any (·.1) = false := by rfl) :
    PE X (.Call (.Name x p) (e :: es) [] pos) (tE X.K (cl M fs)) := by
  obtain ⟨fa, fd, G, hm, hk, hb⟩ := G.ex
  exact xcall G (hr.mono hj) hg hm hk hb ha hdb he hpl
theorem xclN {j : Nat} (G : Dn X.prog X.w X.K X.mg X.base j x ps (spN X.K MN)) (hr : Room k X.A) (hg : Gl X x) (ha : PA X (e :: es) (tA X.K fs)) (hj : j ≤ k := by decide)
    (hdb : (x == ("__debug__" : Str)) = false := by decide) (he : starEach (e :: es) X.env = (false, eval e X.env) :: starEach es X.env := by rfl) (hpl : (backTo pos (starEach es X.env)).any (·.1) = false := by rfl) :
    PE X (.Call (.Name x p) (e :: es) [] pos) (tN X.K (clN MN fs)) := by
  obtain ⟨fa, fd, G, hm, hk, hb⟩ := G.ex
  exact xcallN G (hr.mono hj) hg hm hk hb ha hdb he hpl
/-- the arguments and the keywords' values -/
def aK (n m : Nat) (fs gs : En → Option (List EV)) : En → Option (List EV) := fun env => (fs env).bind fun xs => (gs env).bind fun ys => if xs.length = n ∧ ys.length = m then some (xs ++ ys) else none
theorem evAll_len {K : PySem.W.Frag} {F H : Hp} {vs : List V} {es : List EV} (h : EvAll K F H vs es) : vs.length = es.length := Paired.length h
theorem evAll_append {K : PySem.W.Frag} {F H : Hp} : ∀ {vs ws : List V} {es ds : List EV}, EvAll K F H vs es → EvAll K F H ws ds → EvAll K F H (vs ++ ws) (es ++ ds)
  | _, _, _, _, .nil, h => h
  | _, _, _, _, .cons r t, h => .cons r (evAll_append t h)
theorem xclk {j n m : Nat} {kws : List Keyword} (G : Dk X.prog X.w X.K X.mg X.base j x ps ks n m (spD X.K M)) (hr : Room k X.A) (hg : Gl X x) (ha : PA X (e :: es) (tA X.K fs)) (hkw : PK X kws (tA X.K gs)) (hj : j ≤ k := by decide)
    (hall : (backToKw pos (keywordEach kws X.env)).all (·.1.isSome) = true := by rfl) (hks : (backToKw pos (keywordEach kws X.env)).filterMap (·.1) = ks := by rfl)
    (hdb : (x == ("__debug__" : Str)) = false := by decide) (he : starEach (e :: es) X.env = (false, eval e X.env) :: starEach es X.env := by rfl)
    (hpl : ((backTo pos (starEach (e :: es) X.env)).any (·.1) || (backToKw pos (keywordEach kws X.env)).any (·.1.isNone)) = false := by rfl) :
    PE X (.Call (.Name x p) (e :: es) kws pos) (tE X.K (cl M (aK n m fs gs))) := by
  obtain ⟨fa, fd, G, hm, hk, hb⟩ := G.ex
  refine pe_imp (pe_callK G (hr.mono hj) hg hm hk hb pass0 ha hkw hall hks hdb he hpl) fun σ H Q ⟨F, env, ev, S, e, q⟩ => ?_
  obtain ⟨zs, hz, e1⟩ := bind_eq e
  obtain ⟨xs, hx, hz1⟩ := bind_eq hz
  obtain ⟨ys, hy, hz2⟩ := bind_eq hz1
  obtain ⟨ds, hd, e2⟩ := bind_eq e1
  obtain ⟨d, hM, e3⟩ := bind_eq e2
  by_cases hl : xs.length = n ∧ ys.length = m
  · rw [if_pos hl] at hz2
    have hz3 := Option.some.inj hz2
    subst hz3
    have e4 := Option.some.inj e3
    subst e4
    refine ⟨F, env, xs, S, hx, fun vs F1 H1 x1 o1 => ⟨F1, env, ys, S.ext x1, hy, fun ws F2 H2 x2 o2 => ?_⟩⟩
    have e1 : gK n m vs ws = vs ++ ws := by
      unfold gK
      rw [if_pos ⟨by rw [evAll_len o1]; exact hl.1, by rw [evAll_len o2]; exact hl.2⟩]
    refine ⟨F2, ds, d, x2.low, ?_, hM, fun v F3 H3 x3 o3 => q v F3 H3 (x1.trans (x2.trans x3)) o3⟩
    rw [e1]
    exact asDs_ok (evAll_append (o1.ext x2) o2) hd
  · rw [if_neg hl] at hz2; cases hz2
/-! ### dicts with tuple keys -/
def xdnewT : PE X (.Dict [] [] pos) (tN X.K fun _ => some (.dt [])) := pe_imp pe_dnewT fun σ H Q ⟨F, env, ob, S, e, q⟩ => by
  cases e
  exact fun p hp => q p _ F _ (Ext.allocN S.sub hp) hp (S.sub.free hp) upd_same .nil
def xdnewK : PE X (.Dict [] [] pos) (tN X.K fun _ => some (.dk [])) := pe_imp pe_dnewK fun σ H Q ⟨F, env, ob, S, e, q⟩ => by
  cases e
  exact fun p hp => q p _ F _ (Ext.allocN S.sub hp) hp (S.sub.free hp) upd_same .nil
def keyOf : D → Option L2.Key | .int i => some (.inl i) | .str s => some (.inr s) | _ => none
def keysOf : List D → Option (List L2.Key) | [] => some [] | d :: ds => (keyOf d).bind fun k => (keysOf ds).bind fun ks => some (k :: ks)
def getD' {κ : Type} [DecidableEq κ] (es : List (κ × D)) (k : κ) : Option D := (es.find? fun kv => decide (kv.1 = k)).map (·.2)
def putD {κ : Type} [DecidableEq κ] (es : List (κ × D)) (k : κ) (v : D) : List (κ × D) := if (es.any fun kv => decide (kv.1 = k)) = true then es.map (fun kv => if kv.1 = k then (kv.1, v) else kv) else es ++ [(k, v)]
theorem keysOf_ok {K : PySem.W.Frag} {F : Hp} : ∀ {vs : List V} {ds : List D} {ks : List L2.Key}, DpAll K F vs ds → keysOf ds = some ks → vs = ks.map kV
  | _, _, _, .nil, h => by cases h; rfl
  | _, _, _, .cons (d := d) r t, h => by
    unfold keysOf at h
    obtain ⟨k, h1, h⟩ := bind_eq h
    obtain ⟨js, h2, h⟩ := bind_eq h
    cases h
    rw [keysOf_ok t h2]
    cases d <;> first | cases h1 | skip
    · cases r; rfl
    · cases r; rfl
theorem paired_get {κ : Type} [DecidableEq κ] {K : PySem.W.Frag} {F : Hp} {k : κ} : ∀ {kvs : List (κ × V)} {es : List (κ × D)} {d : D}, Paired (fun (p : κ × V) (q : κ × D) => p.1 = q.1 ∧ Dp K F p.2 q.2) kvs es → getD' es k = some d → ∃ v, valV kvs k = some v ∧ Dp K F v d
  | _, _, _, .nil, h => by cases h
  | _, _, d, .cons (a := p) (b := q) (l₂ := tl) r t, h => by
    by_cases z : q.1 = k
    · have : getD' (q :: tl) k = some q.2 := by unfold getD'; rw [List.find?_cons_of_pos (by simpa using z)]; rfl
      rw [this] at h
      cases h
      exact ⟨p.2, valV_pos (r.1.trans z), r.2⟩
    · have e : getD' (q :: tl) k = getD' tl k := by unfold getD'; rw [List.find?_cons_of_neg (by simpa using z)]
      rw [e] at h
      obtain ⟨v, h1, h2⟩ := paired_get t h
      exact ⟨v, by rw [valV_neg (fun w => z (r.1.symm.trans w))]; exact h1, h2⟩
theorem paired_none {κ : Type} [DecidableEq κ] {K : PySem.W.Frag} {F : Hp} {k : κ} : ∀ {kvs : List (κ × V)} {es : List (κ × D)}, Paired (fun (p : κ × V) (q : κ × D) => p.1 = q.1 ∧ Dp K F p.2 q.2) kvs es → getD' es k = none → valV kvs k = none
  | _, _, .nil, h => rfl
  | _, _, .cons (a := p) (b := q) (l₂ := tl) r t, h => by
    by_cases z : q.1 = k
    · have : getD' (q :: tl) k = some q.2 := by unfold getD'; rw [List.find?_cons_of_pos (by simpa using z)]; rfl
      rw [this] at h
      cases h
    · have e : getD' (q :: tl) k = getD' tl k := by unfold getD'; rw [List.find?_cons_of_neg (by simpa using z)]
      rw [e] at h
      rw [valV_neg (fun w => z (r.1.symm.trans w))]
      exact paired_none t h
theorem paired_any {κ : Type} [DecidableEq κ] {K : PySem.W.Frag} {F : Hp} {k : κ} : ∀ {kvs : List (κ × V)} {es : List (κ × D)}, Paired (fun (p : κ × V) (q : κ × D) => p.1 = q.1 ∧ Dp K F p.2 q.2) kvs es → (kvs.any fun kv => decide (kv.1 = k)) = (es.any fun kv => decide (kv.1 = k))
  | _, _, .nil => rfl
  | _, _, .cons (a := p) (b := q) r t => by rw [List.any_cons, List.any_cons, r.1, paired_any t]
theorem paired_append {α β : Type} {R : α → β → Prop} : ∀ {as : List α} {bs : List β} {cs : List α} {ds : List β}, Paired R as bs → Paired R cs ds → Paired R (as ++ cs) (bs ++ ds)
  | _, _, _, _, .nil, h => h
  | _, _, _, _, .cons r t, h => .cons r (paired_append t h)
theorem paired_put {κ : Type} [DecidableEq κ] {K : PySem.W.Frag} {F : Hp} {k : κ} {v : V} {d : D} (hd : Dp K F v d) {kvs : List (κ × V)} {es : List (κ × D)} (h : Paired (fun (p : κ × V) (q : κ × D) => p.1 = q.1 ∧ Dp K F p.2 q.2) kvs es) :
    Paired (fun (p : κ × V) (q : κ × D) => p.1 = q.1 ∧ Dp K F p.2 q.2) (putK kvs k v) (putD es k d) := by
  unfold putK putD
  rw [paired_any h]
  split
  · have go : ∀ {kvs : List (κ × V)} {es : List (κ × D)}, Paired (fun (p : κ × V) (q : κ × D) => p.1 = q.1 ∧ Dp K F p.2 q.2) kvs es → Paired (fun (p : κ × V) (q : κ × D) => p.1 = q.1 ∧ Dp K F p.2 q.2) (kvs.map fun kv => if kv.1 = k then (kv.1, v) else kv) (es.map fun kv => if kv.1 = k then (kv.1, d) else kv) := by
      intro kvs es h
      induction h with
      | nil => exact .nil
      | cons r t ih =>
        refine .cons ?_ ih
        dsimp only
        rw [r.1]
        split
        · exact ⟨rfl, hd⟩
        · exact ⟨r.1, r.2⟩
    exact go h
  · exact paired_append h (.cons ⟨rfl, hd⟩ .nil)
/-- x[(a, b)], x an owned dict (or one that is walked) with tuple keys -/
def asDt : EV → Option (List (List L2.Key × D)) | .own (.dt es) => some es | .lck (.dt es) => some es | _ => none
def dgT (i : Nat) (fs : En → Option (List EV)) : En → Option EV := fun env => ((vr i env).bind asDt).bind fun es => ((fs env).bind asDs).bind fun ds => if ds.length ≤ 1000000 then (keysOf ds).bind fun ks => (getD' es ks).bind fun d => some (.dat d) else none
theorem asDt_ok {K : PySem.W.Frag} {F H : Hp} {v : V} {ev : EV} {es : List (List L2.Key × D)} (h : EvOk K F H v ev) (e : asDt ev = some es) : ∃ p kvs, v = .ref p ∧ F p = none ∧ Rd H p (.dT kvs) ∧ Paired (fun (p : List L2.Key × V) (q : List L2.Key × D) => p.1 = q.1 ∧ Dp K F p.2 q.2) kvs es := by
  cases ev with
  | dat d => cases e
  | own o =>
    cases o <;> first | cases e | skip
    obtain ⟨p, u, rfl, h1, h2, h3⟩ := h
    cases u <;> first | exact False.elim h3 | skip
    exact ⟨p, _, rfl, h1, .inl h2, h3⟩
  | ktp _ => cases e
  | fdt _ => cases e
  | lck o =>
    cases o <;> first | cases e | skip
    obtain ⟨p, od, u, rfl, h1, h2, h3⟩ := h
    cases u <;> first | exact False.elim h3 | skip
    exact ⟨p, _, rfl, h1, .inr ⟨od, h2⟩, h3⟩
theorem xdgT (i : Nat) {kk : Nat} {tpos : Pos} (hr : Room k X.A) (ha : PA X es (tA X.K fs)) (hN : X.N[i]? = some x := by rfl) (hv : Vis X.env.scope x := by first | exact Or.inl rfl | exact Or.inr (Or.inl rfl) | exact Or.inr (Or.inr rfl)) (hd : (x == ("__debug__" : Str)) = false := by decide)
    (hcd : (x == ("__classdict__" : Str)) = false := by decide) (hs : NoSl (.Tuple es kk tpos) := by intro _ _; rfl) : PE X (.Subscript (.Name x px) (.Tuple es kk tpos) pos) (tE X.K (dgT i fs)) :=
  pe_imp (pe_dget (hr.units |> fun h => by omega) (pe_var hN hv hd hcd) (pe_tup ha) hs) fun σ H Q ⟨F, env, ev, S, e, q⟩ => by
    obtain ⟨es, hes, e⟩ := bind_eq e
    obtain ⟨dv, hdv, hes⟩ := bind_eq hes
    obtain ⟨ds, hds, e⟩ := bind_eq e
    obtain ⟨evs, hev, hds⟩ := bind_eq hds
    by_cases hl : ds.length ≤ 1000000
    · rw [if_pos hl] at e
      obtain ⟨ks, hks, e⟩ := bind_eq e
      obtain ⟨d, hd, e⟩ := bind_eq e
      cases e
      obtain ⟨v, h1, h2⟩ := S.get i _ (vr_eq hdv)
      refine ⟨v, h1, F, env, evs, S, hev, fun vs F1 H1 x1 o1 => ?_⟩
      have hA := asDs_ok o1 hds
      have hlen := dpAll_len hA
      refine ⟨Nat.le_trans (by rw [hlen]; exact hl) (by decide), fun t ht => ?_⟩
      obtain ⟨a, kvs, rfl, h3, h4, h5⟩ := asDt_ok (h2.ext x1) hes
      obtain ⟨w, h6, h7⟩ := paired_get h5 hd
      have x2 := Ext.alloc (o := .tup vs) x1.low ht
      have rd : Rd (upd H1 t (.tup vs)) a (.dT kvs) := by
        rcases h4 with h4 | ⟨od, h4⟩
        · exact .inl (x2.same _ _ h4)
        · exact .inr ⟨od, x2.same _ _ h4⟩
      refine ⟨a, w, rfl, .inr ⟨kvs, ks, t, rd, rfl, ?_, h6.symm⟩, q w _ _ (x1.trans x2) (dp_same x2.fz _ _ h7)⟩
      rw [upd_same, keysOf_ok hA hks]
    · rw [if_neg hl] at e; cases e
/-- x[(a, b)] = e -/
def dpT (i : Nat) (fs : En → Option (List EV)) (f : En → Option EV) : En → Option Out := fun env => ((f env).bind asD).bind fun d => match vr i env with
  | some (.own (.dt es)) => ((fs env).bind asDs).bind fun ds => if ds.length ≤ 1000000 ∧ es.length < 1000000 then (keysOf ds).bind fun ks => some (.nx (env.set i (some (.own (.dt (putD es ks d)))))) else none
  | _ => none
theorem sdpT (i : Nat) {kk : Nat} {tpos spos : Pos} {value : Expr} (hr : Room k X.A) (hval : PE X value (tE X.K f)) (ha : PA X es (tA X.K fs)) (hN : X.N[i]? = some x := by rfl) (hv : Vis X.env.scope x := by first | exact Or.inl rfl | exact Or.inr (Or.inl rfl) | exact Or.inr (Or.inr rfl)) (hd : (x == ("__debug__" : Str)) = false := by decide)
    (hcd : (x == ("__classdict__" : Str)) = false := by decide) (hs : swapsWith value (some (.Subscript (.Name x px) (.Tuple es kk tpos) spos)) pos.line X.env = pure false := by rfl) :
    PS X (.Assign [.Subscript (.Name x px) (.Tuple es kk tpos) spos] value pos) (sE X.K B (dpT i fs f)) :=
  ps_imp (ps_dput (hr.units |> fun h => by omega) (pe_var hN hv hd hcd) (pe_tup ha) hval hs) fun T σ H ⟨F, env, out, S, e, o⟩ => by
    obtain ⟨d, hd, e⟩ := bind_eq e
    obtain ⟨ev, hev, hd⟩ := bind_eq hd
    cases h : vr i env with
    | none => rw [h] at e; cases e
    | some dv =>
      rw [h] at e
      cases dv <;> first | cases e | skip
      rename_i ob
      cases ob <;> first | cases e | skip
      rename_i es0
      obtain ⟨ds, hds, e⟩ := bind_eq (show ((fs env).bind asDs).bind (fun ds => if ds.length ≤ 1000000 ∧ es0.length < 1000000 then (keysOf ds).bind fun ks => some (Out.nx (env.set i (some (.own (.dt (putD es0 ks d)))))) else none) = some out from e)
      obtain ⟨evs, hevs, hds⟩ := bind_eq hds
      by_cases hl : ds.length ≤ 1000000 ∧ es0.length < 1000000
      · rw [if_pos hl] at e
        obtain ⟨ks, hks, e⟩ := bind_eq e
        cases e
        have e' := vr_eq h
        refine ⟨F, env, ev, S.toStOk, hev, fun w F1 H1 x1 o1 => ?_⟩
        have S1 := S.ext x1
        obtain ⟨v, h1, p, u, rfl, h2, h3, h4⟩ := S1.get i _ e'
        refine ⟨.ref p, h1, F1, env, evs, S1.toStOk, hevs, fun vs F2 H2 x2 o2 => ?_⟩
        have hA := asDs_ok o2 hds
        have hlen := dpAll_len hA
        refine ⟨Nat.le_trans (by rw [hlen]; exact hl.1) (by decide), fun t ht => ?_⟩
        have x3 := Ext.alloc (o := .tup vs) x2.low ht
        have x23 := x2.trans x3
        have S3 := S1.ext x23
        cases u <;> first | exact False.elim h4 | skip
        rename_i kvs
        have h5 := Paired.mapP (show Paired _ kvs es0 from h4) (fun p q z => (⟨z.1, dp_same x23.fz _ _ z.2⟩ : p.1 = q.1 ∧ Dp X.K _ p.2 q.2))
        obtain ⟨m1, m2⟩ := S3.mut (u := .dT (putK kvs ks w)) (o' := .dt (putD es0 ks d)) e' h1 (paired_put (dp_same x23.fz _ _ (asD_ok o1 hd)) h5)
        have lenE : kvs.length = es0.length := Paired.length (show Paired _ kvs es0 from h4)
        refine ⟨p, _, rfl, .inr ⟨kvs, ks, t, (x23.keep _ _ h3).1, rfl, ?_, by rw [lenE]; exact Nat.lt_of_lt_of_le hl.2 (by decide), rfl⟩, o σ _ _ (x1.b.trans (x23.b.trans m2)) m1⟩
        rw [upd_same, keysOf_ok hA hks]
      · rw [if_neg hl] at e; cases e
/-- x = y, y owned: the object goes over -/
def movS (i j : Nat) : En → Option Out := fun env => if i ≠ j then match vr j env with
  | some (.own o) => some (.nx ((env.set j none).set i (some (.own o))))
  | _ => none else none
end
end Od

set_option Elab.async false
set_option linter.all false
set_option maxRecDepth 100000
set_option autoImplicit false
/-! Od, seventh part: an owned object goes over, loops over the keys of a dict, the law's own end (with repr). -/
namespace Od
open PySem PySem.Spec PyProof.Rows L2

section
variable {X : Cx} {B : Addr → Prop} {pos : Pos} {e a b c tg iter : Expr} {f g : En → Option EV} {n : En → Option Ob} {es : List Expr} {body : List Stmt} {fs gs : En → Option (List EV)} {x y : Str} {px py p : Pos} {k : Nat}
theorem StB.mov {K : PySem.W.Frag} {F H : Hp} {σ : L2.St} {env : En} {i j : Nat} {o : Ob} {q : Addr} (S : StB K B F H σ env) (hij : i ≠ j) (e : env[j]? = some (some (.own o))) (hq : σ[j]? = some (some (.ref q))) :
    StB K B F H (σ.set i (some (.ref q))) ((env.set j none).set i (some (.own o))) := by
  have cl : ∀ (k : Nat) (ev : EV), ((env.set j none).set i (some (.own o)))[k]? = some (some ev) → (k = i ∧ ev = .own o ∧ i < env.length) ∨ (k ≠ i ∧ k ≠ j ∧ env[k]? = some (some ev)) := fun k ev h => by
    by_cases z : i = k
    · subst z
      have hl : i < (env.set j none).length := by simpa using (List.getElem?_eq_some_iff.mp h).1
      rw [List.getElem?_set_self hl] at h
      cases h
      exact .inl ⟨rfl, rfl, by simpa using hl⟩
    · rw [List.getElem?_set_ne z] at h
      by_cases w : j = k
      · subst w
        have hl : j < env.length := by simpa using (List.getElem?_eq_some_iff.mp h).1
        rw [List.getElem?_set_self hl] at h
        cases h
      · rw [List.getElem?_set_ne w] at h
        exact .inr ⟨fun w => z w.symm, fun z => w z.symm, h⟩
  have len := S.len
  have at_i : i < env.length → (σ.set i (some (V.ref q)))[i]? = some (some (.ref q)) := fun h => List.getElem?_set_self (by omega)
  have ownq := S.get j _ e
  refine ⟨⟨S.sub, by simpa using S.len, fun k ev h => ?_, fun k l o1 o2 a1 e1 e2 q1 q2 => ?_⟩, S.bk, fun k o1 a1 h q1 => ?_⟩
  · rcases cl k ev h with ⟨rfl, rfl, hl⟩ | ⟨h1, h2, h3⟩
    · refine ⟨_, at_i hl, ?_⟩
      obtain ⟨v, w1, w2⟩ := ownq
      rw [hq] at w1
      cases w1
      exact w2
    · rw [List.getElem?_set_ne (Ne.symm h1)]
      exact S.get k ev h3
  · rcases cl k _ e1 with ⟨rfl, _, hl⟩ | ⟨h1, h2, h3⟩
    · rw [at_i hl] at q1
      cases q1
      rcases cl l _ e2 with ⟨rfl, _, _⟩ | ⟨h4, h5, h6⟩
      · rfl
      · rw [List.getElem?_set_ne (Ne.symm h4)] at q2
        exact absurd (S.sep l j _ _ _ h6 e q2 hq) h5
    · rw [List.getElem?_set_ne (Ne.symm h1)] at q1
      rcases cl l _ e2 with ⟨rfl, _, hl⟩ | ⟨h4, h5, h6⟩
      · rw [at_i hl] at q2
        cases q2
        exact absurd (S.sep k j _ _ _ h3 e q1 hq) h2
      · rw [List.getElem?_set_ne (Ne.symm h4)] at q2
        exact S.sep k l _ _ _ h3 h6 q1 q2
  · rcases cl k _ h with ⟨rfl, _, hl⟩ | ⟨h1, h2, h3⟩
    · rw [at_i hl] at q1
      cases q1
      exact S.out j o _ e hq
    · rw [List.getElem?_set_ne (Ne.symm h1)] at q1
      exact S.out k o1 a1 h3 q1
theorem smov {i j : Nat} (hN : X.N.Nodup) (hj : X.N[j]? = some y := by rfl) (hv : Vis X.env.scope y := by first | exact Or.inl rfl | exact Or.inr (Or.inl rfl) | exact Or.inr (Or.inr rfl)) (hd : (y == ("__debug__" : Str)) = false := by decide)
    (hcd : (y == ("__classdict__" : Str)) = false := by decide) (hi : X.N[i]? = some x := by rfl) (hx : Loc X.env.scope x := by first | exact Or.inl rfl | exact Or.inr rfl) (hs : swapsWith (.Name y py) (some (.Name x px)) pos.line X.env = pure false := by rfl) (hf : X.fn x = true ∨ X.env.scope.names.lookup x = some .local := by first | exact .inl rfl | exact .inr rfl | assumption) :
    PS X (.Assign [.Name x px] (.Name y py) pos) (sE X.K B (movS i j)) := ps_imp (ps_set hN hi hx (pe_var hj hv hd hcd) hs hf) fun T σ H ⟨F, env, out, S, e, o⟩ => by
  unfold movS at e
  by_cases hij : i ≠ j
  · rw [if_pos hij] at e
    cases h : vr j env with
    | none => rw [h] at e; cases e
    | some ev =>
      rw [h] at e
      cases ev <;> first | cases e | skip
      have e' := vr_eq h
      obtain ⟨v, h1, q, u, rfl, h2, h3, h4⟩ := S.get j _ e'
      exact ⟨.ref q, h1, o _ F H (ExtB.rfl' S.sub) (S.mov hij e' h1)⟩
  · rw [if_neg hij] at e; cases e

/-! ### for k in d -/
def noLck (env : En) : Bool := env.all fun o => match o with | some (.lck _) => false | _ => true
theorem noLck_at {env : En} (h : noLck env = true) {i : Nat} {o : Ob} : env[i]? ≠ some (some (.lck o)) := fun e => by
  have := List.all_eq_true.mp h _ (List.mem_of_getElem? e)
  cases this
def kD : L2.Key → D | .inl i => .int i | .inr s => .str s
def unl (i : Nat) : Out → Option Out
  | .nx e => if noLck (e.set i none) = true then some (.nx (e.set i none)) else none
  | .rt d => some (.rt d)
  | .rtN o => some (.rtN o)
  | _ => none
theorem unl_nx {i : Nat} {e : En} : unl i (.nx e) = if noLck (e.set i none) = true then some (.nx (e.set i none)) else none := rfl
def forK (i : Nat) (p : Pat) (b : En → Option Out) : En → Option Out := fun env => if noLck env = true then match vr i env with
  | some (.own (.dt es)) => (forGo p b (es.map fun kv => PyData.tuple (kv.1.map kD)) (env.set i (some (.lck (.dt es))))).bind (unl i)
  | some (.own (.dk es)) => (forGo p b (es.map fun kv => kD kv.1) (env.set i (some (.lck (.dk es))))).bind (unl i)
  | _ => none else none
theorem dp_key {K : PySem.W.Frag} {F : Hp} (k : L2.Key) : Dp K F (kV k) (kD k) := by
  cases k with
  | inl i => exact .int i
  | inr s => exact .str s
theorem dp_keys {K : PySem.W.Frag} {F : Hp} : ∀ ks : List L2.Key, DpAll K F (ks.map kV) (ks.map kD)
  | [] => .nil
  | k :: ks => .cons (dp_key k) (dp_keys ks)
/-- a tuple that stands is data -/
theorem Ext.tupd {F H : Hp} {q : Addr} {xs : List V} (s : Same F H) (h : H q = some (.tup xs)) : ∃ F', Ext F H F' H ∧ F' q = some (.tup xs) := by
  cases e : F q with
  | some u =>
    have := s q u e
    rw [h] at this
    cases this
    exact ⟨F, Ext.rfl' s, e⟩
  | none =>
    refine ⟨upd F q (.tup xs), ⟨same_upd e, fun b w hb => ?_, fun a u ha => ⟨ha, fun nt n => ?_⟩⟩, upd_same⟩
    · by_cases z : b = q
      · subst z; rw [upd_same] at hb; cases hb; exact h
      · rw [upd_ne z] at hb; exact s _ _ hb
    · have : a ≠ q := fun z => by
        subst z
        rw [h] at ha
        cases ha
        exact nt xs rfl
      rw [upd_ne this]
      exact n
/-- the keys of a locked dict -/
structure WkL (J : It) (K : PySem.W.Frag) (F0 : Hp) (ds : List D) (d : Addr) (w : HO) : Prop where
  go : ∀ (i : Nat) (H : Hp), H d = some w → i < ds.length → J.go i H
  yld : ∀ (i : Nat) (F H H' : Hp) (x : V) (z : D), Same F0 F → Same F H → H d = some w → J.yld i H x H' → ds[i]? = some z → ∃ F', Ext F H F' H' ∧ Dp K F' x z
  stop : ∀ (i : Nat) (H : Hp), H d = some w → ds.length ≤ i → J.stop i H
theorem wkl_T {K : PySem.W.Frag} {F0 : Hp} {d : Addr} {od : Obj} {kvs : List (List L2.Key × V)} {es : List (List L2.Key × D)} (h : kvs.map (·.1) = es.map (·.1)) : WkL (Itkt d od kvs) K F0 (es.map fun kv => PyData.tuple (kv.1.map kD)) d (.frz od (.dT kvs)) := by
  have hl : kvs.length = es.length := by simpa using congrArg List.length h
  refine ⟨fun i H hH hi => ⟨hH, by rw [List.length_map] at hi; omega⟩, fun i F H H' x z _ s hH y e => ?_, fun i H hH hi => ⟨hH, by rw [List.length_map] at hi; omega⟩⟩
  obtain ⟨rfl, k, v, q, h1, rfl, h2⟩ := y
  rw [List.getElem?_map] at e
  cases e2 : es[i]? with
  | none => rw [e2] at e; cases e
  | some kv =>
    rw [e2] at e
    cases e
    have : k = kv.1 := by
      have w := congrArg (fun l : List (List L2.Key) => l[i]?) h
      simp only [List.getElem?_map, h1, e2, Option.map_some] at w
      exact Option.some.inj w
    subst this
    obtain ⟨F', x1, hq⟩ := Ext.tupd s h2
    exact ⟨F', x1, .tup (SqT.of hq) (dp_keys _)⟩
theorem wkl_K {K : PySem.W.Frag} {F0 : Hp} {d : Addr} {od : Obj} {kvs : List (L2.Key × V)} {es : List (L2.Key × D)} (h : kvs.map (·.1) = es.map (·.1)) : WkL (Itk d od kvs) K F0 (es.map fun kv => kD kv.1) d (.frz od (.dK kvs)) := by
  have hl : kvs.length = es.length := by simpa using congrArg List.length h
  refine ⟨fun i H hH hi => ⟨hH, by rw [List.length_map] at hi; omega⟩, fun i F H H' x z _ s hH y e => ?_, fun i H hH hi => ⟨hH, by rw [List.length_map] at hi; omega⟩⟩
  obtain ⟨rfl, k, v, h1, rfl⟩ := y
  rw [List.getElem?_map] at e
  cases e2 : es[i]? with
  | none => rw [e2] at e; cases e
  | some kv =>
    rw [e2] at e
    cases e
    have : k = kv.1 := by
      have w := congrArg (fun l : List L2.Key => l[i]?) h
      simp only [List.getElem?_map, h1, e2, Option.map_some] at w
      exact Option.some.inj w
    subst this
    exact ⟨F, Ext.rfl' s, dp_key _⟩
theorem paired_keys {κ : Type} {K : PySem.W.Frag} {F : Hp} : ∀ {kvs : List (κ × V)} {es : List (κ × D)}, Paired (fun (p : κ × V) (q : κ × D) => p.1 = q.1 ∧ Dp K F p.2 q.2) kvs es → kvs.map (·.1) = es.map (·.1)
  | _, _, .nil => rfl
  | _, _, .cons r t => by rw [List.map_cons, List.map_cons, r.1, paired_keys t]
/-- what the loop over a locked dict's keys comes to -/
theorem lockloop {K : PySem.W.Frag} {T : Ends} {σ : L2.St} {F H : Hp} {env : En} {i : Nat} {d : Addr} {u : HO} {o : Ob} {od : Obj} {J : It} {ds : List D} {p : Pat} {s : En → Option Out} {out out' : Out} (S : StB K B F H σ env) (nl : noLck env = true) (hi : env[i]? = some (some (.own o))) (hd : σ[i]? = some (some (.ref d)))
    (hu : H d = some u) (ok : ObOk K F u o) (wk : WkL J K F ds d (.frz od u)) (hgo : forGo p s ds (env.set i (some (.lck o))) = some out) (hun : unl i out = some out') (hout : OutOk K B F H T out') :
    ∃ W : Nat → Nat → L2.St → Hp → Prop, (∃ m, W 0 m σ (upd H d (.frz od u))) ∧ ∀ i m σ H, W i m σ H → (J.stop i H ∧ (fun σ' H' => H' d = some (.frz od u) ∧ T.nx σ' (upd H' d u)) σ H) ∨ (J.go i H ∧ ∃ N : L2.St → Hp → Prop, (∀ σ' H', N σ' H' → ∃ m', m' < m ∧ W (i + 1) m' σ' H') ∧
      ∀ x H', J.yld i H x H' → Pat.g K p x σ H' fun σ2 H2 => (fun T' σ3 H3 => ∃ B', sE K B' s T' σ3 H3) { nx := N, rt := fun v H' => H' d = some (.frz od u) ∧ T.rt v (upd H' d u), bk := fun σ' H' => H' d = some (.frz od u) ∧ T.nx σ' (upd H' d u), ct := N } σ2 H2) := by
  have hil : i < env.length := (List.getElem?_eq_some_iff.mp hi).1
  have hFd : F d = none := by
    obtain ⟨v, w1, q, u', rfl, w2, _⟩ := S.get i _ hi
    rw [hd] at w1
    cases w1
    exact w2
  have nB := S.out i o d hi hd
  -- behind the lock
  have low1 : Same F (upd H d (.frz od u)) := fun b w h => by rw [upd_ne (ne_of_none h hFd)]; exact S.sub b w h
  let B1 : Addr → Prop := fun a => B a ∨ a = d
  have cl : ∀ (j : Nat) (ev : EV), (env.set i (some (.lck o)))[j]? = some (some ev) → (j = i ∧ ev = .lck o) ∨ (j ≠ i ∧ env[j]? = some (some ev)) := fun j ev h => by
    by_cases z : i = j
    · subst z
      rw [List.getElem?_set_self hil] at h
      cases h
      exact .inl ⟨rfl, rfl⟩
    · rw [List.getElem?_set_ne z] at h
      exact .inr ⟨fun w => z w.symm, h⟩
  have S1 : StB K B1 F (upd H d (.frz od u)) σ (env.set i (some (.lck o))) := by
    refine ⟨⟨low1, by simpa using S.len, fun j ev h => ?_, fun j k o1 o2 a e1 e2 q1 q2 => ?_⟩, fun a b => ?_, fun j o1 a h q => ?_⟩
    · rcases cl j ev h with ⟨rfl, rfl⟩ | ⟨n, h⟩
      · exact ⟨_, hd, d, od, u, rfl, hFd, upd_same, ok⟩
      · obtain ⟨v, w1, w2⟩ := S.get j ev h
        refine ⟨v, w1, ?_⟩
        cases ev with
        | dat d => exact w2
        | ktp _ => exact w2
        | fdt _ => exact w2
        | lck o2 => exact absurd h (noLck_at nl)
        | own o2 =>
          obtain ⟨q, u', rfl, k1, k2, k3⟩ := w2
          have ne : q ≠ d := fun z => by
            subst z
            exact n (S.sep j i _ _ _ h hi w1 hd)
          exact ⟨q, u', rfl, k1, by rw [upd_ne ne]; exact k2, k3⟩
    · rcases cl j _ e1 with ⟨_, z⟩ | ⟨_, e1⟩
      · cases z
      · rcases cl k _ e2 with ⟨_, z⟩ | ⟨_, e2⟩
        · cases z
        · exact S.sep j k o1 o2 a e1 e2 q1 q2
    · rcases b with b | rfl
      · obtain ⟨w, h⟩ := S.bk a b
        exact ⟨w, by rw [upd_ne (fun z : a = d => nB (by rw [← z]; exact b))]; exact h⟩
      · exact ⟨_, upd_same⟩
    · rcases cl j _ h with ⟨_, z⟩ | ⟨n, h⟩
      · cases z
      · rintro (b | rfl)
        · exact S.out j o1 a h q b
        · exact n (S.sep j i _ _ _ h hi q hd)
  -- the way back: from the locked heap to the heap again
  have back : ∀ {F' H' : Hp}, ExtB B1 F (upd H d (.frz od u)) F' H' → H' d = some (.frz od u) ∧ F' d = none ∧ ExtB B F H F' (upd H' d u) := fun {F' H'} x => by
    have k1 := x.keep d _ (.inr rfl) upd_same
    have hF' : F' d = none := k1.2 (fun _ z => nomatch z) hFd
    refine ⟨k1.1, hF', x.fz, fun b w h => ?_, fun a w b h => ?_⟩
    · rw [upd_ne (ne_of_none h hF')]
      exact x.low b w h
    · have ne : a ≠ d := fun z => nB (by rw [← z]; exact b)
      have := x.keep a w (.inl b) (by rw [upd_ne ne]; exact h)
      exact ⟨by rw [upd_ne ne]; exact this.1, this.2⟩
  have obne : ∀ {F' H' : Hp} {q : Addr} {u' : HO} {o' : Ob}, H' d = some (.frz od u) → H' q = some u' → ObOk K F' u' o' → q ≠ d := fun {F' H' q u' o'} h1 h2 h3 z => by
    subst z
    rw [h1] at h2
    cases h2
    cases o' <;> exact h3
  have fin : ∀ {σ' : L2.St} {F' H' : Hp} {e2 : En}, ExtB B1 F (upd H d (.frz od u)) F' H' → StB K B1 F' H' σ' e2 → noLck (e2.set i none) = true → OutOk K B F H T (.nx (e2.set i none)) → H' d = some (.frz od u) ∧ T.nx σ' (upd H' d u) := fun {σ' F' H' e2} x S' nl' w => by
    obtain ⟨b1, b2, b3⟩ := back x
    refine ⟨b1, w σ' F' _ b3 ?_⟩
    have cl' : ∀ (j : Nat) (ev : EV), (e2.set i none)[j]? = some (some ev) → j ≠ i ∧ e2[j]? = some (some ev) := fun j ev h => by
      by_cases z : i = j
      · subst z
        have hl : i < e2.length := by simpa using (List.getElem?_eq_some_iff.mp h).1
        rw [List.getElem?_set_self hl] at h
        cases h
      · rw [List.getElem?_set_ne z] at h
        exact ⟨fun w => z w.symm, h⟩
    refine ⟨⟨b3.low, by simpa using S'.len, fun j ev h => ?_, fun j k o1 o2 a e1 e2 q1 q2 => S'.sep j k o1 o2 a (cl' j _ e1).2 (cl' k _ e2).2 q1 q2⟩, fun a b => ?_, fun j o1 a h q b => S'.out j o1 a (cl' j _ h).2 q (.inl b)⟩
    · obtain ⟨v, w1, w2⟩ := S'.get j ev (cl' j ev h).2
      refine ⟨v, w1, ?_⟩
      cases ev with
      | dat d => exact w2
      | ktp _ => exact w2
      | fdt _ => exact w2
      | lck o2 => exact absurd h (noLck_at nl')
      | own o2 =>
        obtain ⟨q, u', rfl, k1, k2, k3⟩ := w2
        exact ⟨q, u', rfl, k1, by rw [upd_ne (obne b1 k2 k3)]; exact k2, k3⟩
    · obtain ⟨w, h⟩ := S'.bk a (.inl b)
      exact ⟨w, by rw [upd_ne (fun z : a = d => nB (by rw [← z]; exact b))]; exact h⟩
  refine ⟨fun t m σ2 H2 => m = ds.length - t ∧ t ≤ ds.length ∧ ∃ F2 env2, ExtB B1 F (upd H d (.frz od u)) F2 H2 ∧ StB K B1 F2 H2 σ2 env2 ∧ forGo p s (ds.drop t) env2 = some out,
    ⟨ds.length, rfl, Nat.zero_le _, F, _, ExtB.rfl' low1, S1, by rw [List.drop_zero]; exact hgo⟩, ?_⟩
  rintro t m σ2 H2 ⟨rfl, ht, F2, env2, x2, S2, hg2⟩
  have hd2 := (back x2).1
  by_cases hlt : t < ds.length
  · refine .inr ⟨wk.go t H2 hd2 hlt, _, fun σ' H' h' => ⟨ds.length - (t + 1), by omega, h'⟩, fun x H3 y => ?_⟩
    have hz : ds[t]? = some ds[t] := by simp [hlt]
    obtain ⟨F3, x3, o3⟩ := wk.yld t F2 H2 H3 x _ x2.fz S2.sub hd2 y hz
    rw [List.drop_eq_getElem_cons hlt] at hg2
    unfold forGo at hg2
    obtain ⟨env1, hb1, hg3⟩ := bind_eq hg2
    obtain ⟨ob, hbo, hg4⟩ := bind_eq hg3
    refine pat_okB p σ2 env2 env1 x _ _ (S2.ext x3) o3 hb1 fun σ' S' => ⟨B1, F3, env1, ob, S', hbo, ?_⟩
    cases ob with
    | nx e2 => exact fun σ4 F4 H4 x4 S4 => ⟨rfl, hlt, F4, e2, x2.trans (x3.b.trans x4), S4, hg4⟩
    | ct e2 => exact fun σ4 F4 H4 x4 S4 => ⟨rfl, hlt, F4, e2, x2.trans (x3.b.trans x4), S4, hg4⟩
    | bk e2 =>
      have w := Option.some.inj hg4
      subst w
      rw [unl_nx] at hun
      by_cases nl' : noLck (e2.set i none) = true
      · rw [if_pos nl'] at hun
        cases hun
        exact fun σ4 F4 H4 x4 S4 => fin (x2.trans (x3.b.trans x4)) S4 nl' hout
      · rw [if_neg nl'] at hun; cases hun
    | rt z =>
      have w := Option.some.inj hg4
      subst w
      cases hun
      exact fun v F4 H4 x4 ok4 => ⟨(back (x2.trans (x3.b.trans x4))).1, hout v F4 _ (back (x2.trans (x3.b.trans x4))).2.2 ok4⟩
    | rtN z =>
      have w := Option.some.inj hg4
      subst w
      cases hun
      refine fun q u' F4 H4 x4 nb hf hp ok4 => ?_
      obtain ⟨b1, b2, b3⟩ := back (x2.trans (x3.b.trans x4))
      exact ⟨b1, hout q u' F4 _ b3 (fun b => nb (.inl b)) hf (by rw [upd_ne (obne b1 hp ok4)]; exact hp) ok4⟩
  · have e0 : t = ds.length := by omega
    subst e0
    rw [List.drop_length] at hg2
    have w := Option.some.inj hg2
    subst w
    rw [unl_nx] at hun
    by_cases nl' : noLck (env2.set i none) = true
    · rw [if_pos nl'] at hun
      cases hun
      exact .inl ⟨wk.stop _ H2 hd2 (Nat.le_refl _), fin x2 S2 nl' hout⟩
    · rw [if_neg nl'] at hun; cases hun
theorem sforK (i : Nat) {pt : Pat} {s : En → Option Out} (hc : X.calm = true) (hg : PG X tg (pt.g X.K)) (hb : ∀ B', PSs X body (sE X.K B' s)) (hN : X.N[i]? = some x := by rfl) (hv : Vis X.env.scope x := by first | exact Or.inl rfl | exact Or.inr (Or.inl rfl) | exact Or.inr (Or.inr rfl)) (hd : (x == ("__debug__" : Str)) = false := by decide)
    (hcd : (x == ("__classdict__" : Str)) = false := by decide) (hp : PassesOwn (model X.prog X.w) X.A X.env X.xe := by exact PassesOwn.never)
    (hs : ∀ y, foldedSetIterable (.Name x px) X.env y = pure y := by intro _; rfl) : PS X (.For tg (.Name x px) body [] pos) (sE X.K B (forK i pt s)) := by
  have body' : PSs X body (fun T σ H => ∃ B', sE X.K B' s T σ H) := ⟨fun pins s0 σ H T I ⟨B', w⟩ => (hb B').run pins s0 σ H T I w⟩
  refine ps_imp (ps_lock (ps_for hp hc (pi_keys (pe_var hN hv hd hcd)) hg body' hs)) fun T σ H ⟨F, env, out, S, e, o⟩ => ?_
  unfold forK at e
  by_cases nl : noLck env = true
  · rw [if_pos nl] at e
    cases h : vr i env with
    | none => rw [h] at e; cases e
    | some ev =>
      rw [h] at e
      have e' := vr_eq h
      obtain ⟨v, h1, h2⟩ := S.get i _ e'
      cases ev with
      | dat d => cases e
      | lck ob => cases e
      | ktp _ => cases e
      | fdt _ => cases e
      | own ob =>
        obtain ⟨d, u, rfl, h3, h4, h5⟩ := h2
        cases ob with
        | lst ds => cases e
        | dt es =>
          obtain ⟨out0, w1, w2⟩ := bind_eq e
          cases u <;> first | exact False.elim h5 | skip
          refine ⟨d, _, h4, True.intro, fun od => ⟨.ref d, h1, d, od, rfl, .inr ⟨_, upd_same, ?_⟩⟩⟩
          exact lockloop S nl e' h1 h4 h5 (wkl_T (paired_keys h5)) w1 w2 o
        | dk es =>
          obtain ⟨out0, w1, w2⟩ := bind_eq e
          cases u <;> first | exact False.elim h5 | skip
          refine ⟨d, _, h4, True.intro, fun od => ⟨.ref d, h1, d, od, rfl, .inl ⟨_, upd_same, ?_⟩⟩⟩
          exact lockloop S nl e' h1 h4 h5 (wkl_K (paired_keys h5)) w1 w2 o
  · rw [if_neg nl] at e; cases e
end
end Od

set_option Elab.async false
set_option linter.all false
set_option maxRecDepth 100000
set_option autoImplicit false
/-! Od, eighth part: the law's def where no repr is under way, and the end of a law's row. -/
namespace Od
open PySem PySem.Spec PyProof.Rows L2
section
variable {P : Program} {w : World} {K : PySem.W.Frag} {mg : Str → Option Value} {base : Heap} {x qual : Str} {st : Stmt} {f : Addr} {fd : FuncData} {N ps : List Str} {k : Nat} {b : En → Option Out}
/-- a def that is called where no repr is under way -/
def RunG (P : Program) (w : World) (K : PySem.W.Frag) (mg : Str → Option Value) (base : Heap) (k : Nat) (f : Addr) (fd : FuncData) (ps : List Str) (sp : Sp) : Prop :=
  ∀ (A : Around) (outer : List PySem.Env) (s : Shared) (H : Hp) (args : Args) (us : List Value) (vs : List V) (Q : VK) (E : XK), A.guards = some [] → Room k A → Env0 P w K mg base A outer s H →
    BindsTo s fd args (ps.zip us) → Vals vs us → sp vs H Q E → codeAny (model P w) A (.call (.ref f) args) (CR CX0 outer P w H s Q E) s
theorem ok_defG (F : Fun K x qual st f fd) (S : FnScope N ps (defScope st)) (M : List D → Option D) (hM : ∀ ds d, M ds = some d → fnD ps.length N.length b ds = some d)
    (hb : ∀ (cdv : Value) (A : Around) (outer : List PySem.Env) (s : Shared) (H : Hp) (E : XK) (B : Addr → Prop), A.guards = some [] → Room k (A.deeper (envOfC qual (defScope st) s.heap.objs.size f cdv)) →
      PSs (cxOf CX0 P w K mg base N qual (defScope st) f cdv A outer s H E).nox (defBody st) (sE K B b)) : RunG P w K mg base (k + 1) f fd ps (spD K M) := by
  intro A outer s H args us vs Q E hg hr e0 hbind rv ⟨F0, ds, d, s1, h1, h2, q⟩
  obtain ⟨oc, od, kV, doc, pm, an, cdv, ct, osl, efd, lk, hcd⟩ := F.ex
  subst efd
  have keepb : ∀ b o, base.get? b = some o → s.heap.get? b = some o := fun b o e => (e0.bs b o e).1
  have lenv : vs.length = ps.length := by rw [dpAll_len h1]; exact fnD_len ds d (hM ds d h2)
  have kinds : ((ps.zip us).all fun y => (defScope st).names.lookup y.1 == some .local || (defScope st).names.lookup y.1 == some .cell) = true := by
    rw [List.all_eq_true]
    rintro ⟨n, v⟩ hy
    rcases S.par n (List.of_mem_zip hy).1 with z | z
    · simp [z]
    · simp [z]
  refine Att.call_fn (e0.mod.kin.keeps keepb) (e0.mod.nolimit.keeps keepb) lk hcd hr.depth hbind kinds (fun sE0 xc => ?_) S.co S.gen S.kind
  have inv := inv_start (CX := CX0) (E := E) S hr.hd e0 lenv rv xc
  have run := ((hb cdv A outer s H E (fun a => ∃ u, H a = some u) hg (hr.deeper _)).nox).run [] sE0 (L2.start N vs) H { nx := fun _ H' => Q .non H', rt := Q } inv
    (body_ok (X := cxOf CX0 P w K mg base N qual (defScope st) f cdv A outer s H E) rfl s1 h1 (hM ds d h2) q)
  refine wpAny_mono run (fun fl s' hs => ?_) fun _ _ z => z
  cases fl with
  | ret u =>
    obtain ⟨v, σ', H', J, rv', q'⟩ := hs
    exact ⟨v, H', J.os, J.bare, J.base, J.hok, rv', q'⟩
  | next =>
    obtain ⟨σ', H', J, q'⟩ := hs
    exact ⟨.non, H', J.os, J.bare, J.base, J.hok, rfl, q'⟩
  | brk =>
    obtain ⟨_, _, _, q'⟩ := hs
    exact q'.elim
  | cont =>
    obtain ⟨_, _, _, q'⟩ := hs
    exact q'.elim
/-- the script as data -/
theorem dp_ints {F : Hp} : ∀ ns : List Int, DpAll K F (ns.map V.int) (ns.map PyData.int)
  | [] => .nil
  | n :: ns => .cons (.int n) (dp_ints ns)
/-- the law's call at the heap that the top left: the script is known, nothing else is followed -/
theorem lawrun {mb : Str → Option Value} {fa a : Addr} {s₁ : Shared} {vs : List Value} {ns : List Int} {pn : Str} {M : List D → Option D}
    (KX : K.In s₁.heap) (hns : s₁.heap.Ns mainGlobals mg) (hb : s₁.heap.Ns builtinsNs mb) (hbb : ∀ x : Str, x ≠ "__name__" → mb x = bootBuiltins x) (hlim : s₁.heap.NoLimit) (hg : s₁.gens = #[])
    (ha : s₁.heap.get? a = some { cls := .type "list", data := .seq vs.toArray }) (hi : IntsAre vs ns) (hl : ns.length ≤ sizeLine) (hr : Room k callerA)
    (F : ∀ base : Heap, K.In base → base.Ns mainGlobals mg → RunG P w K mg base k fa fd [pn] (spD K M)) (hbind : ∀ (s : Shared) (u : Value), BindsTo s fd ⟨[u], []⟩ [(pn, u)])
    (hM : M [.list (ns.map .int)] = some (.bool true)) :
    codeAny (model P w) callerA (.call (.ref fa) ⟨[.ref a], []⟩) (fun r s' => r = .ok (.ret (.bool true)) ∧ OldK s₁.heap s'.heap ∧ s'.os = s₁.os ∧ AllBare s'.gens) s₁ := by
  have rv := vals_ints hi
  have lenV := hi.length
  let O : Obj := { cls := .type "list", data := .seq vs.toArray }
  -- what is followed: the script alone, where it is no object of the module
  obtain ⟨H, hA, hK, hS, hok⟩ : ∃ H : Hp, (∀ b u, H b = some u → b = a ∧ u = .frz O (.lst (ns.map V.int))) ∧ (∀ b u, H b = some u → K.lookup b = none) ∧ SqL K H a (ns.map V.int) ∧ HOk P w H s₁.heap := by
    cases hk : K.lookup a with
    | some o =>
      have e := (KX a o hk).symm.trans ha
      cases e
      refine ⟨fun _ => none, (fun b u z => by cases z), (fun b u z => by cases z), .inr ⟨_, vs.toArray, _, hk, rfl, rfl, rfl, ?_, by simpa using rv⟩, fun b u z => by cases z⟩
      rw [List.size_toArray, lenV]
      exact hl
    | none =>
      have one : ∀ b u, (fun b : Addr => if b = a then some (HO.frz O (.lst (ns.map V.int))) else none) b = some u → b = a ∧ u = .frz O (.lst (ns.map V.int)) := fun b u z => by
        by_cases hb : b = a
        · exact ⟨hb, (Option.some.inj ((if_pos hb).symm.trans z)).symm⟩
        · cases (if_neg hb).symm.trans z
      refine ⟨_, one, fun b u z => by rw [(one b u z).1]; exact hk, .inl (.inr ⟨O, if_pos rfl⟩), fun b u z => ?_⟩
      obtain ⟨rfl, rfl⟩ := one b u z
      exact ⟨ha, by rw [List.length_map]; exact hl, vs, _, rv, ha⟩
  have nodict : ∀ {b : Addr} {o : Obj} {es : Array DictEntry} {ep : Nat}, s₁.heap.get? b = some o → o.data = .dict es ep → H b = none := fun {b o es ep} e d => by
    cases q : H b with
    | none => rfl
    | some u =>
      obtain ⟨rfl, _⟩ := hA b u q
      have e2 := e.symm.trans ha
      cases e2
      cases d
  have ns_of : ∀ {b : Addr} {m : Str → Option Value}, s₁.heap.Ns b m → (hidT s₁.heap H).Ns b m := fun {b m} ⟨o, es, ep, e, d, r⟩ => ⟨o, es, ep, hidT_get e (nodict e d), d, r⟩
  have kin : K.In (hidT s₁.heap H) := fun b o e => hidT_get (KX b o e) (by
    cases q : H b with
    | none => rfl
    | some u => rw [hK b u q] at e; cases e)
  have hmod : Mod K mg (hidT s₁.heap H) := ⟨kin, ns_of hns, ⟨mb, ns_of hb, hbb⟩, let ⟨mc, h1, h2⟩ := hlim; ⟨mc, ns_of h1, h2⟩⟩
  have env0 : Env0 P w K mg (hidT s₁.heap H) callerA [] s₁ H :=
    { frames := rfl, mod := hmod, bs := fun b o e => of_hidT e, bsz := Nat.le_of_eq (hidT_size _ _), funs := trivial, frf := (fun b hb => nomatch hb), hok := hok, bare := .of_eq hg }
  have call := F _ kin (ns_of hns) callerA [] s₁ H ⟨[.ref a], []⟩ [.ref a] [.ref a] (fun v _ => v = .bl true) (fun _ _ _ => False) rfl hr env0 (hbind s₁ (.ref a)) (.cons rfl .nil)
    ⟨H, [.list (ns.map .int)], .bool true, Same.refl H, .cons (.lst hS (dp_ints ns)) .nil, hM, fun v F' H' _ hv => by cases hv; rfl⟩
  refine codeAny_mono call fun r s' h => ?_
  cases r with
  | error e => exact h.elim
  | ok fl =>
    cases fl with
    | next => exact False.elim h
    | brk => exact False.elim h
    | cont => exact False.elim h
    | ret u =>
      obtain ⟨v, H', os, bare, un, hok', r', q⟩ := h
      subst q
      obtain rfl : u = Value.bool true := r'
      refine ⟨rfl, OldK.of_keep fun b o e => ?_, os, bare⟩
      cases q : H b with
      | none => exact un.keep b o e q (fun z => nomatch z) (fun z => nomatch z)
      | some u =>
        obtain ⟨rfl, rfl⟩ := hA b u q
        obtain ⟨e2, _⟩ := hok' _ _ (un.frzs _ _ _ q)
        have e3 := e.symm.trans ha
        cases e3
        exact e2
end
/-- the goal that k_head leaves -/
theorem law_end {l : PySem.W.OpenLaw} {n k : Nat} {q : Program} {loose : List Str} {XP : (Str → Option Value) → Heap → Prop} {YP : World → Heap → Prop} {d : DefRec} {K : Params → PySem.W.Frag} {pn : Str} {M : List D → Option D}
    (hn : l.most = some n) (hn2 : n ≤ sizeLine) (hdf : d.params.defaults = []) (hr : Room k callerA)
    (hY : ∀ (w : World) (h : Heap), YP w h → (K w.params).In h)
    (F : ∀ (w : World) (mg : Str → Option Value) (fa : Addr) (h : Heap), (K w.params).In h → h.Ns mainGlobals mg → mg d.name = some (.ref fa) →
      ∃ fd : FuncData, (∀ (s : Shared) (u : Value), BindsTo s fd ⟨[u], []⟩ [(pn, u)]) ∧ ∀ base : Heap, (K w.params).In base → base.Ns mainGlobals mg → RunG l.prog w (K w.params) mg base k fa fd [pn] (spD (K w.params) M))
    (hM : ∀ ns : List Int, ns.length ≤ n → M [.list (ns.map .int)] = some (.bool true)) :
    PySem.W.WalkO q loose XP YP l.row.toRowW d [] (fun f vs => PySem.call f vs) :=
  Att.attach_call hn hdf fun w s₀ s₁ mg mb fa o pm cd doc a vs ns G Y ho hd hcd hmg hobj hints hlen hg => by
    obtain ⟨fd, hb, hF⟩ := F w mg fa _ (hY w _ Y) G.T.g hmg
    exact lawrun (hY w _ Y) G.T.g G.T.b G.T.builtins G.T.nolimit hg hobj hints (Nat.le_trans hlen hn2) hr hF hb (hM ns hlen)
end Od

set_option Elab.async false
set_option linter.all false
set_option maxRecDepth 100000
set_option autoImplicit false
/-! Od, ninth part: what gen.py asks besides. -/
namespace Od
open PySem PySem.Spec PyProof.Rows L2
section
variable {X : Cx} {B : Addr → Prop} {pos : Pos} {e a b c tg iter : Expr} {f g : En → Option EV} {n : En → Option Ob} {es : List Expr} {st : Stmt} {body : List Stmt} {fs gs : En → Option (List EV)} {x y : Str} {px py p : Pos} {k : Nat} {ps ks : List Str} {M : List D → Option D} {MN : List D → Option Ob}
/-- a name as a target -/
theorem gnm (i : Nat) (hN : X.N.Nodup) {xp : Pos} (hi : X.N[i]? = some x := by rfl) (hx : Loc X.env.scope x := by first | exact Or.inl rfl | exact Or.inr rfl) (hf : X.fn x = true ∨ X.env.scope.names.lookup x = some .local := by first | exact .inl rfl | exact .inr rfl | assumption) : PG X (.Name x xp) (Pat.g X.K (.nm i)) :=
  pg_name hN hi hx hf
/-- an owned list becomes data -/
def frzS (j : Nat) (s : En → Option Out) : En → Option Out := fun env => match vr j env with
  | some (.own (.lst ds)) => s (env.set j (some (.dat (.list ds))))
  | _ => none
theorem StB.frz {K : PySem.W.Frag} {F H : Hp} {σ : L2.St} {env : En} {j : Nat} {ds : List D} {q : Addr} {vs : List V} (S : StB K B F H σ env) (e : env[j]? = some (some (.own (.lst ds)))) (hq : σ[j]? = some (some (.ref q))) (hF : F q = none) (hH : H q = some (.lst vs)) (ok : DpAll K F vs ds) :
    StB K B (upd F q (.lst vs)) H σ (env.set j (some (.dat (.list ds)))) ∧ ExtB B F H (upd F q (.lst vs)) H := by
  have hj : j < env.length := (List.getElem?_eq_some_iff.mp e).1
  have nb := S.out j _ q e hq
  have low : Same (upd F q (.lst vs)) H := fun b w h => by
    by_cases z : b = q
    · subst z; rw [upd_same] at h; cases h; exact hH
    · rw [upd_ne z] at h; exact S.sub b w h
  have cl : ∀ (i : Nat) (ev : EV), (env.set j (some (.dat (.list ds))))[i]? = some (some ev) → (i = j ∧ ev = .dat (.list ds)) ∨ (i ≠ j ∧ env[i]? = some (some ev)) := fun i ev h => by
    by_cases z : j = i
    · subst z
      rw [List.getElem?_set_self hj] at h
      cases h
      exact .inl ⟨rfl, rfl⟩
    · rw [List.getElem?_set_ne z] at h
      exact .inr ⟨fun w => z w.symm, h⟩
  refine ⟨⟨⟨low, by simpa using S.len, fun i ev h => ?_, fun i l o o' a e1 e2 q1 q2 => ?_⟩, S.bk, fun i o a h q1 => ?_⟩, ⟨same_upd hF, low, fun a w b h => ⟨h, fun _ n => by rw [upd_ne (fun z : a = q => nb (by rw [← z]; exact b))]; exact n⟩⟩⟩
  · rcases cl i ev h with ⟨rfl, rfl⟩ | ⟨nij, h⟩
    · exact ⟨_, hq, .lst (SqL.of upd_same) (dpAll_same (same_upd hF) _ _ ok)⟩
    · obtain ⟨v, h1, h2⟩ := S.get i ev h
      refine ⟨v, h1, ?_⟩
      cases ev with
      | dat d => exact dp_same (same_upd hF) _ _ h2
      | ktp _ => obtain ⟨p, e, z⟩ := h2; exact ⟨p, e, same_upd hF _ _ z⟩
      | fdt _ => obtain ⟨p, od, kvs, e, z, q⟩ := h2; exact ⟨p, od, kvs, e, same_upd hF _ _ z, q.same (same_upd hF)⟩
      | own o =>
        obtain ⟨q', u, rfl, k1, k2, k3⟩ := h2
        have ne : q' ≠ q := fun z => by
          subst z
          exact nij (S.sep i j _ _ _ h e h1 hq)
        exact ⟨q', u, rfl, by rw [upd_ne ne]; exact k1, k2, k3.same (same_upd hF)⟩
      | lck o =>
        obtain ⟨q', od, u, rfl, k1, k2, k3⟩ := h2
        have ne : q' ≠ q := fun z => by
          subst z
          rw [hH] at k2
          cases k2
        exact ⟨q', od, u, rfl, by rw [upd_ne ne]; exact k1, k2, k3.same (same_upd hF)⟩
  · rcases cl i _ e1 with ⟨_, z⟩ | ⟨_, e1⟩
    · cases z
    · rcases cl l _ e2 with ⟨_, z⟩ | ⟨_, e2⟩
      · cases z
      · exact S.sep i l o o' a e1 e2 q1 q2
  · rcases cl i _ h with ⟨_, z⟩ | ⟨_, h⟩
    · cases z
    · exact S.out i o a h q1
theorem sfrz (j : Nat) {s : En → Option Out} (h : PS X st (sE X.K B s)) : PS X st (sE X.K B (frzS j s)) := ps_imp h fun T σ H ⟨F, env, out, S, e, o⟩ => by
  unfold frzS at e
  cases h : vr j env with
  | none => rw [h] at e; cases e
  | some ev =>
    rw [h] at e
    cases ev <;> first | cases e | skip
    rename_i ob
    cases ob <;> first | cases e | skip
    have e' := vr_eq h
    obtain ⟨v, h1, q, u, rfl, h2, h3, h4⟩ := S.get j _ e'
    cases u <;> first | exact False.elim h4 | skip
    obtain ⟨S', x'⟩ := S.frz e' h1 h2 h3 h4
    exact ⟨_, _, out, S', e, o.ext x'⟩
/-- f(e, .., k = v), handing back a new object -/
theorem xclkN {j n m : Nat} {kws : List Keyword} (G : Dk X.prog X.w X.K X.mg X.base j x ps ks n m (spN X.K MN)) (hr : Room k X.A) (hg : Gl X x) (ha : PA X (e :: es) (tA X.K fs)) (hkw : PK X kws (tA X.K gs)) (hj : j ≤ k := by decide)
    (hall : (backToKw pos (keywordEach kws X.env)).all (·.1.isSome) = true := by rfl) (hks : (backToKw pos (keywordEach kws X.env)).filterMap (·.1) = ks := by rfl)
    (hdb : (x == ("__debug__" : Str)) = false := by decide) (he : starEach (e :: es) X.env = (false, eval e X.env) :: starEach es X.env := by rfl)
    (hpl : ((backTo pos (starEach (e :: es) X.env)).any (·.1) || (backToKw pos (keywordEach kws X.env)).any (·.1.isNone)) = false := by rfl) :
    PE X (.Call (.Name x p) (e :: es) kws pos) (tN X.K (clN MN (aK n m fs gs))) := by
  obtain ⟨fa, fd, G, hm, hk, hb⟩ := G.ex
  refine pe_imp (pe_callK G (hr.mono hj) hg hm hk hb pass0 ha hkw hall hks hdb he hpl) fun σ H Q ⟨F, env, ob, S, w, q⟩ => ?_
  obtain ⟨zs, hz, w1⟩ := bind_eq w
  obtain ⟨xs, hx, hz1⟩ := bind_eq hz
  obtain ⟨ys, hy, hz2⟩ := bind_eq hz1
  obtain ⟨ds, hd, w2⟩ := bind_eq w1
  by_cases hl : xs.length = n ∧ ys.length = m
  · rw [if_pos hl] at hz2
    have hz3 := Option.some.inj hz2
    subst hz3
    refine ⟨F, env, xs, S, hx, fun vs F1 H1 x1 o1 => ⟨F1, env, ys, S.ext x1, hy, fun ws F2 H2 x2 o2 => ?_⟩⟩
    have e1 : gK n m vs ws = vs ++ ws := by
      unfold gK
      rw [if_pos ⟨by rw [evAll_len o1]; exact hl.1, by rw [evAll_len o2]; exact hl.2⟩]
    refine ⟨F2, ds, ob, x2.low, ?_, w2, fun q' u F3 H3 x3 hn hf hp ok => q q' u F3 H3 (x1.trans (x2.trans x3)) (x1.same.free (x2.same.free hn)) hf hp ok⟩
    rw [e1]
    exact asDs_ok (evAll_append (o1.ext x2) o2) hd
  · rw [if_neg hl] at hz2; cases hz2
/-! ### and, or, not as values -/
def andV (f g : En → Option EV) : En → Option EV := fun env => ((f env).bind asB).bind fun b => if b = true then g env else some (.dat (.bool false))
def orV (f g : En → Option EV) : En → Option EV := fun env => ((f env).bind asB).bind fun b => if b = true then some (.dat (.bool true)) else g env
theorem xand1 (h : PE X a (tE X.K f)) : PE X (.BoolOp .And [a] pos) (tE X.K f) := pe_one h
theorem xor1 (h : PE X a (tE X.K f)) : PE X (.BoolOp .Or [a] pos) (tE X.K f) := pe_one h
theorem xand2 {rest : List Expr} (h : PE X a (tE X.K f)) (h2 : PE X (.BoolOp .And (b :: rest) pos) (tE X.K g)) : PE X (.BoolOp .And (a :: b :: rest) pos) (tE X.K (andV f g)) := pe_imp (pe_and h h2) fun σ H Q ⟨F, env, ev, S, e, q⟩ => by
  obtain ⟨k, hk, e⟩ := bind_eq e
  obtain ⟨kv, hkv, hk⟩ := bind_eq hk
  refine ⟨F, env, kv, S, hkv, fun v F1 H1 x1 o1 => ⟨k, asB_ok o1 hk, ?_⟩⟩
  cases k with
  | true =>
    rw [if_pos rfl] at e
    exact iteT ⟨F1, env, ev, S.ext x1, e, fun v F2 H2 x2 => q v F2 H2 (x1.trans x2)⟩
  | false =>
    rw [if_neg Bool.false_ne_true] at e
    have e' := Option.some.inj e
    subst e'
    exact iteF (q _ F1 H1 x1 (.bl false))
theorem xor2 {rest : List Expr} (h : PE X a (tE X.K f)) (h2 : PE X (.BoolOp .Or (b :: rest) pos) (tE X.K g)) : PE X (.BoolOp .Or (a :: b :: rest) pos) (tE X.K (orV f g)) := pe_imp (pe_or h h2) fun σ H Q ⟨F, env, ev, S, e, q⟩ => by
  obtain ⟨k, hk, e⟩ := bind_eq e
  obtain ⟨kv, hkv, hk⟩ := bind_eq hk
  refine ⟨F, env, kv, S, hkv, fun v F1 H1 x1 o1 => ⟨k, asB_ok o1 hk, ?_⟩⟩
  cases k with
  | true =>
    rw [if_pos rfl] at e
    have e' := Option.some.inj e
    subst e'
    exact iteT (q _ F1 H1 x1 (.bl true))
  | false =>
    rw [if_neg Bool.false_ne_true] at e
    exact iteF ⟨F1, env, ev, S.ext x1, e, fun v F2 H2 x2 => q v F2 H2 (x1.trans x2)⟩
theorem xnotv (h : PE X a (tE X.K f)) : PE X (.UnaryOp .Not a pos) (tE X.K (e1 notE f)) := pe_imp (pe_not h) fun σ H Q ⟨F, env, ev, S, e, q⟩ => by
  obtain ⟨x, hx, e⟩ := bind_eq e
  obtain ⟨i, hi, e⟩ := bind_eq e
  have e' := Option.some.inj e
  subst e'
  exact ⟨F, env, x, S, hx, fun v F1 H1 x1 o1 => ⟨i, asB_ok o1 hi, q _ F1 H1 x1 (.bl _)⟩⟩
/-! ### x += e -/
def augS (i : Nat) (o : EV → EV → Option EV) (f : En → Option EV) : En → Option Out := fun env => (vr i env).bind fun x => (f env).bind fun y => ((o x y).bind asD).bind fun d => some (.nx (env.set i (some (.dat d))))
theorem saug {op : Operator} {r : R2} {o : EV → EV → Option EV} (i : Nat) (hN : X.N.Nodup) (ho : OpR X (inplaceOp op) r) (h : OpE X r o) (he : PE X e (tE X.K f)) (hi : X.N[i]? = some x := by rfl) (hx : Loc X.env.scope x := by first | exact Or.inl rfl | exact Or.inr rfl) (hf : X.fn x = true ∨ X.env.scope.names.lookup x = some .local := by first | exact .inl rfl | exact .inr rfl | assumption) :
    PS X (.AugAssign (.Name x px) op e pos) (sE X.K B (augS i o f)) := ps_imp (ps_aug hN hi hx he ho hf) fun T σ H ⟨F, env, out, S, e, q⟩ => by
  obtain ⟨v, hv, e⟩ := bind_eq e
  obtain ⟨w, hw, e⟩ := bind_eq e
  obtain ⟨d, hd, e⟩ := bind_eq e
  obtain ⟨ev, hev, hd⟩ := bind_eq hd
  have e' := Option.some.inj e
  subst e'
  obtain ⟨z, h1, h2⟩ := S.get i _ (vr_eq hv)
  refine ⟨z, h1, F, env, w, S.toStOk, hw, fun y F1 H1 x1 o1 => h F1 H1 z y v w ev _ x1.low (h2.ext x1) o1 hev fun t F2 H2 x2 o2 => ?_⟩
  exact q _ F2 H2 (x1.trans x2).b ((S.ext (x1.trans x2)).setD i (asD_ok o2 hd))
theorem saug_add (i : Nat) (hN : X.N.Nodup) (he : PE X e (tE X.K f)) (hi : X.N[i]? = some x := by rfl) (hx : Loc X.env.scope x := by first | exact Or.inl rfl | exact Or.inr rfl) (hf : X.fn x = true ∨ X.env.scope.names.lookup x = some .local := by first | exact .inl rfl | exact .inr rfl | assumption) :
    PS X (.AugAssign (.Name x px) .Add e pos) (sE X.K B (augS i addE f)) := saug i hN iop_add (i20_ok fun _ _ _ => .int _) he hi hx hf
theorem saug_sub (i : Nat) (hN : X.N.Nodup) (he : PE X e (tE X.K f)) (hi : X.N[i]? = some x := by rfl) (hx : Loc X.env.scope x := by first | exact Or.inl rfl | exact Or.inr rfl) (hf : X.fn x = true ∨ X.env.scope.names.lookup x = some .local := by first | exact .inl rfl | exact .inr rfl | assumption) :
    PS X (.AugAssign (.Name x px) .Sub e pos) (sE X.K B (augS i subE f)) := saug i hN iop_sub (i20_ok fun _ _ _ => .int _) he hi hx hf
/-! ### lists put together -/
def obL : Ob → Option (List D) | .lst ds => some ds | _ => none
def catN (f g : En → Option Ob) : En → Option Ob := fun env => ((f env).bind obL).bind fun xs => ((g env).bind obL).bind fun ys => if xs.length + ys.length ≤ 1000000 then some (.lst (xs ++ ys)) else none
theorem xcat {f g : En → Option Ob} (ha : PE X a (tN X.K f)) (hb : PE X b (tN X.K g)) : PE X (.BinOp a .Add b pos) (tN X.K (catN f g)) := pe_imp (pe_op op_cat ha hb) fun σ H Q ⟨F, env, ob, S, e, q⟩ => by
  obtain ⟨xs, hxs, e⟩ := bind_eq e
  obtain ⟨o1, ho1, hxs⟩ := bind_eq hxs
  obtain ⟨ys, hys, e⟩ := bind_eq e
  obtain ⟨o2, ho2, hys⟩ := bind_eq hys
  by_cases hl : xs.length + ys.length ≤ 1000000
  · rw [if_pos hl] at e
    have e' := Option.some.inj e
    subst e'
    cases o1 <;> first | cases hxs | skip
    cases o2 <;> first | cases hys | skip
    refine ⟨F, env, _, S, ho1, fun p1 u1 F1 H1 x1 hn1 hf1 hp1 ok1 => ⟨F1, env, _, S.ext x1, ho2, fun p2 u2 F2 H2 x2 hn2 hf2 hp2 ok2 => ?_⟩⟩
    cases u1 <;> first | exact False.elim ok1 | skip
    cases u2 <;> first | exact False.elim ok2 | skip
    have l1 := dpAll_len (show DpAll X.K F1 _ _ from ok1)
    have l2 := dpAll_len (show DpAll X.K F2 _ _ from ok2)
    exact ⟨p1, p2, _, _, rfl, rfl, (x2.keep _ _ hp1).1, hp2, Nat.le_trans (by omega) (show 1000000 ≤ sizeLine by decide), fun r hr => q r _ F2 _ (x1.trans (x2.trans (Ext.allocN x2.low hr))) (x1.same.free (x2.same.free hr)) (x2.low.free hr) upd_same (dpAll_append (dpAll_same x2.fz _ _ ok1) ok2)⟩
  · rw [if_neg hl] at e; cases e
end
end Od

set_option Elab.async false
set_option linter.all false
set_option maxRecDepth 100000
set_option autoImplicit false
/-! Od, tenth part: the facts that the top leaves. -/
namespace Od
open PySem PySem.Spec PyProof.Rows L2
section
variable {K : PySem.W.Frag} {mg : Str → Option Value} {h : Heap} {x : Str} {st : Stmt}
/-- a def of the text stands where its name says -/
def DefAt (K : PySem.W.Frag) (mg : Str → Option Value) (x : Str) (st : Stmt) : Prop := ∃ f fd, Fun K x x st f fd ∧ mg x = some (.ref f)
theorem def_at (X : K.In h) (G : h.Ns mainGlobals mg) {f : Addr} {oc kV dc pm cd ct : Value} {od an : Option Addr} {sl : Array (Option Value)} (a : PySem.W.nsIn K mainGlobals x = some (some (.ref f)))
    (l : K.lookup f = some ⟨oc, od, .func (PySem.W.fnOf x x (defArgs st) (defBody st) (defScope st) .none kV dc pm an cd ct), sl⟩) (c : PySem.W.codeIn K cd x = true) (k : PySem.W.keepIn K (.ref f) = true) : DefAt K mg x st :=
  ⟨f, _, fun_mk l c k, PySem.W.mg_of X G a⟩
theorem kbinds {fd : FuncData} {ps ks : List Str} {n m : Nat} (hp : 0 < n + m) (hps : ps.length = n + m) (hb : ∀ us ws : List Value, us.length = n → ws.length = m → bindArgs fd ⟨us, ks.zip ws⟩ = pure (ps.zip (us ++ ws))) :
    KBinds K fd ps ks (gK n m) (gK n m) := by
  refine ⟨fun s us ws _ hl => ?_, fun {vs us zs ws} r1 r2 => ?_⟩
  · unfold gK at hl ⊢
    by_cases q : us.length = n ∧ ws.length = m
    · rw [if_pos q]
      exact .of_eq (hb us ws q.1 q.2)
    · rw [if_neg q, hps] at hl
      have z : (0 : Nat) = n + m := hl
      omega
  · have e1 := r1.length
    have e2 := r2.length
    unfold gK
    rw [e1, e2]
    by_cases q : us.length = n ∧ ws.length = m
    · rw [if_pos q, if_pos q]
      exact r1.append r2
    · rw [if_neg q, if_neg q]
      exact .nil
theorem cn_int (X : K.In h) (G : h.Ns mainGlobals mg) {i : Int} {t : Tok} (a : PySem.W.nsIn K mainGlobals x = some (some (.int i t))) : Cn K mg x (.int i) :=
  ⟨.int i, _, PySem.W.mg_of X G a, ⟨t, rfl⟩, fun _ => .int i⟩
theorem cn_str (X : K.In h) (G : h.Ns mainGlobals mg) {i : Str} {t : Tok} (a : PySem.W.nsIn K mainGlobals x = some (some (.str i t))) : Cn K mg x (.str i) :=
  ⟨.str i, _, PySem.W.mg_of X G a, ⟨t, rfl⟩, fun _ => .str i⟩
def litV : Value → Option (V × D)
  | .int i _ => some (.int i, .int i)
  | .str i _ => some (.str i, .str i)
  | .bool i => some (.bl i, .bool i)
  | .none => some (.non, .none)
  | _ => none
def litL : List Value → Option (List V × List D)
  | [] => some ([], [])
  | v :: vs => (litV v).bind fun p => (litL vs).bind fun q => some (p.1 :: q.1, p.2 :: q.2)
theorem litV_ok {v : Value} {p : V × D} (e : litV v = some p) : RelV p.1 v ∧ ∀ F, Dp K F p.1 p.2 := by
  cases v <;> first | cases e | skip
  · exact ⟨rfl, fun _ => .non⟩
  · exact ⟨rfl, fun _ => .bl _⟩
  · exact ⟨⟨_, rfl⟩, fun _ => .int _⟩
  · exact ⟨⟨_, rfl⟩, fun _ => .str _⟩
theorem litL_ok : ∀ {vs : List Value} {p : List V × List D}, litL vs = some p → Vals p.1 vs ∧ ∀ F, DpAll K F p.1 p.2
  | [], p, e => by cases e; exact ⟨.nil, fun _ => .nil⟩
  | v :: vs, p, e => by
    unfold litL at e
    obtain ⟨q, h1, e⟩ := bind_eq e
    obtain ⟨r, h2, e⟩ := bind_eq e
    cases e
    exact ⟨.cons (litV_ok (K := K) h1).1 (litL_ok h2).1, fun F => .cons ((litV_ok h1).2 F) ((litL_ok h2).2 F)⟩
theorem cn_tup (X : K.In h) (G : h.Ns mainGlobals mg) {a : Addr} {dd : Option Addr} {its : Array Value} {n : Nat} {sl : Array (Option Value)} {vs : List V} {ds : List D} (e : PySem.W.nsIn K mainGlobals x = some (some (.ref a)))
    (l : K.lookup a = some ⟨.type "tuple", dd, .seq its n, sl⟩) (hp : litL its.toList = some (vs, ds)) (hz : its.size ≤ 1000000) : Cn K mg x (.tuple ds) :=
  ⟨.ref a, _, PySem.W.mg_of X G e, rfl, fun F => .tup (.inr ⟨_, its, n, l, rfl, rfl, Nat.le_trans hz (by decide), (litL_ok (K := K) hp).1⟩) ((litL_ok hp).2 F)⟩
end
end Od

set_option Elab.async false
set_option linter.all false
set_option maxRecDepth 100000
set_option autoImplicit false
/-! Od, eleventh part: a call that only reads owned lists. -/
namespace Od
open PySem PySem.Spec PyProof.Rows L2
def flatD : D → Bool | .none => true | .bool _ => true | .int _ => true | .str _ => true | _ => false
theorem dp_flat {K : PySem.W.Frag} {F F' : Hp} {v : V} {d : D} (hf : flatD d = true) (h : Dp K F v d) : Dp K F' v d := by
  cases h with
  | non => exact .non
  | bl b => exact .bl b
  | int i => exact .int i
  | str x => exact .str x
  | lst _ _ => cases hf
  | tup _ _ => cases hf
def asQs : List EV → Option (List D) | [] => some [] | e :: es => (asQ e).bind fun d => (asQs es).bind fun ds => some (d :: ds)
theorem asQs_ok {K : PySem.W.Frag} {F H : Hp} (s : Same F H) : ∀ {vs : List V} {es : List EV} {ds : List D}, EvAll K F H vs es → asQs es = some ds → DpAll K H vs ds
  | _, _, _, .nil, q => by cases q; exact .nil
  | _, _, _, .cons (a := v) (b := e) r t, q => by
    obtain ⟨d, h1, q⟩ := bind_eq q
    obtain ⟨ds', h2, q⟩ := bind_eq q
    cases q
    exact .cons (asQ_ok s r h1) (asQs_ok s t h2)
def clB (M : List D → Option D) (fs : En → Option (List EV)) : En → Option EV := fun env => (fs env).bind fun es => (asQs es).bind fun ds => (M ds).bind fun d => if flatD d = true then some (.dat d) else none
section
variable {X : Cx} {pos : Pos} {e : Expr} {es : List Expr} {fs gs : En → Option (List EV)} {k : Nat} {fa : Addr} {fd : FuncData} {ps ks : List Str} {x : Str} {p : Pos} {M : List D → Option D}
theorem ext_lent {F1 H1 F2 H2 : Hp} (s : Same F1 H1) (y : Ext H1 H1 F2 H2) : Ext F1 H1 F1 H2 :=
  ⟨Same.refl _, s.trans y.same, fun a u h => ⟨(y.keep a u h).1, fun _ n => n⟩⟩
theorem xcallB (G : FnOk X.prog X.w X.K X.mg X.base CX0 k fa fd ps (spD X.K M)) (hr : Room k X.A) (hg : Gl X x) (hm : X.mg x = some (.ref fa)) (hk : PySem.W.keepIn X.K (.ref fa) = true) (hb : Binds X.K fd ps []) (ha : PA X (e :: es) (tA X.K fs))
    (hdb : (x == ("__debug__" : Str)) = false := by decide) (he : starEach (e :: es) X.env = (false, eval e X.env) :: starEach es X.env := by rfl) (hpl : (backTo pos (starEach es X.env)).any (·.1) = false := by rfl) :
    PE X (.Call (.Name x p) (e :: es) [] pos) (tE X.K (clB M fs)) :=
  pe_imp (pe_call G hr hg hm hk hb .nil pass0 ha hdb he hpl) fun σ H Q ⟨F, env, ev, S, w, q⟩ => by
    obtain ⟨xs, hx, w⟩ := bind_eq w
    obtain ⟨ds, hd, w⟩ := bind_eq w
    obtain ⟨d, hM, w⟩ := bind_eq w
    by_cases hf : flatD d = true
    · rw [if_pos hf] at w
      cases w
      refine ⟨F, env, xs, S, hx, fun vs F1 H1 x1 o1 => ⟨H1, ds, d, Same.refl _, ?_, hM, fun v F2 H2 x2 o2 => q v F1 H2 (x1.trans (ext_lent x1.low x2)) (dp_flat hf o2)⟩⟩
      rw [List.append_nil]
      exact asQs_ok x1.low o1 hd
    · rw [if_neg hf] at w
      cases w
theorem xclB {j : Nat} (G : Dn X.prog X.w X.K X.mg X.base j x ps (spD X.K M)) (hr : Room k X.A) (hg : Gl X x) (ha : PA X (e :: es) (tA X.K fs)) (hj : j ≤ k := by decide)
    (hdb : (x == ("__debug__" : Str)) = false := by decide) (he : starEach (e :: es) X.env = (false, eval e X.env) :: starEach es X.env := by rfl) (hpl : (backTo pos (starEach es X.env)).any (·.1) = false := by rfl) :
    PE X (.Call (.Name x p) (e :: es) [] pos) (tE X.K (clB M fs)) := by
  obtain ⟨fa, fd, G, hm, hk, hb⟩ := G.ex
  exact xcallB G (hr.mono hj) hg hm hk hb ha hdb he hpl
theorem xclkB {j n m : Nat} {kws : List Keyword} (G : Dk X.prog X.w X.K X.mg X.base j x ps ks n m (spD X.K M)) (hr : Room k X.A) (hg : Gl X x) (ha : PA X (e :: es) (tA X.K fs)) (hkw : PK X kws (tA X.K gs)) (hj : j ≤ k := by decide)
    (hall : (backToKw pos (keywordEach kws X.env)).all (·.1.isSome) = true := by rfl) (hks : (backToKw pos (keywordEach kws X.env)).filterMap (·.1) = ks := by rfl)
    (hdb : (x == ("__debug__" : Str)) = false := by decide) (he : starEach (e :: es) X.env = (false, eval e X.env) :: starEach es X.env := by rfl)
    (hpl : ((backTo pos (starEach (e :: es) X.env)).any (·.1) || (backToKw pos (keywordEach kws X.env)).any (·.1.isNone)) = false := by rfl) :
    PE X (.Call (.Name x p) (e :: es) kws pos) (tE X.K (clB M (aK n m fs gs))) := by
  obtain ⟨fa, fd, G, hm, hk, hb⟩ := G.ex
  refine pe_imp (pe_callK G (hr.mono hj) hg hm hk hb pass0 ha hkw hall hks hdb he hpl) fun σ H Q ⟨F, env, ev, S, w, q⟩ => ?_
  obtain ⟨zs, hz, w1⟩ := bind_eq w
  obtain ⟨xs, hx, hz1⟩ := bind_eq hz
  obtain ⟨ys, hy, hz2⟩ := bind_eq hz1
  obtain ⟨ds, hd, w2⟩ := bind_eq w1
  obtain ⟨d, hM, w3⟩ := bind_eq w2
  by_cases hf : flatD d = true
  · rw [if_pos hf] at w3
    have w4 := Option.some.inj w3
    subst w4
    by_cases hl : xs.length = n ∧ ys.length = m
    · rw [if_pos hl] at hz2
      have hz3 := Option.some.inj hz2
      subst hz3
      refine ⟨F, env, xs, S, hx, fun vs F1 H1 x1 o1 => ⟨F1, env, ys, S.ext x1, hy, fun ws F2 H2 x2 o2 => ?_⟩⟩
      have e1 : gK n m vs ws = vs ++ ws := by
        unfold gK
        rw [if_pos ⟨(evAll_len o1).trans hl.1, (evAll_len o2).trans hl.2⟩]
      refine ⟨H2, ds, d, Same.refl _, ?_, hM, fun v F3 H3 x3 o3 => q v F2 H3 ((x1.trans x2).trans (ext_lent x2.low x3)) (dp_flat hf o3)⟩
      rw [e1]
      exact asQs_ok x2.low (evAll_append (o1.ext x2) o2) hd
    · rw [if_neg hl] at hz2
      cases hz2
  · rw [if_neg hf] at w3
    cases w3
end
end Od

set_option Elab.async false
set_option linter.all false
set_option maxRecDepth 100000
set_option autoImplicit false
set_option maxHeartbeats 4000000
/-! Od, twelfth part: dicts with tuple keys: the pairs of one, walked. -/
namespace Od
open PySem PySem.Spec PyProof.Rows L2
/-- the pairs of the locked dict at a, each a new tuple -/
def ItP (a : Addr) (ob : Obj) (ps : List (List L2.Key × V)) : It :=
  ⟨fun n H => H a = some (.frz ob (.dT ps)) ∧ n < ps.length,
   fun n H x H' => ∃ (T q : Addr) (k : List L2.Key) (v : V), ps[n]? = some (k, v) ∧ H q = some (.tup (k.map kV)) ∧ x = .ref T ∧ H T = none ∧ H' = upd H T (.tup [.ref q, v]),
   fun n H => H a = some (.frz ob (.dT ps)) ∧ ps.length ≤ n⟩
section
variable {X : Cx} {pins : List (Addr × Obj)} {σ : L2.St} {H : Hp} {s : Shared} {a : Addr} {ob : Obj}
theorem frzP {ps : List (List L2.Key × V)} (I : Inv X pins σ H s) (h : H a = some (.frz ob (.dT ps))) :
    (a == sysModules) = false ∧ s.heap.get? a = some ob ∧ ob.ExactDict ∧ ∃ (es : Array DictEntry) (ep : Nat), ob.data = .dict es ep ∧ es.size = ps.length ∧
      ∀ (n : Nat) (k : List L2.Key) (v : V), ps[n]? = some (k, v) → ∃ (en : DictEntry) (q : Addr), es[n]? = some en ∧ en.key = .ref q ∧ H q = some (.tup (k.map kV)) ∧ RelV v en.val := by
  obtain ⟨h1, h2, h3, xs, pr, ob', es, ep, h4, h5, h6, h7, h8⟩ := I.hok a _ h
  rw [h1] at h4
  cases h4
  refine ⟨h3, h1, h5, es, ep, h6, ?_, fun n k v e => ?_⟩
  · have w1 : es.size = xs.length := size_of_entries h7
    have w2 : ps.length = xs.length := Paired.length pr
    omega
  · obtain ⟨b, hb, e1, e2, e3⟩ := L2.paired_get pr e
    have q := entry_at h7 n
    rw [hb] at q
    exact ⟨_, b.2.1, q, rfl, e2, e3⟩
end
section
variable {P : Program} {w : World} {K : PySem.W.Frag} {a : Addr} {ob : Obj} {es : Array DictEntry} {ep : Nat}
theorem turnP {ps : List (List L2.Key × V)} {el : List Expr} {kk : Nat} {tp : Pos} (it : Addr) (ho : ob.data = .dict es ep) :
    Turn P w K (.Tuple el kk tp) (ItP a ob ps) [it] it (fun n h => ∃ u1 u2, IsItemIter h it a n ps.length ep u1 u2) where
  mem := by simp
  obj := fun n h st b hb => by
    have z : b = it := by simpa using hb
    subst z
    obtain ⟨u1, u2, e⟩ := st
    exact ⟨_, e, fun _ q => nomatch q⟩
  keep := fun n h h' st k => by
    obtain ⟨u1, u2, e⟩ := st
    exact ⟨u1, u2, k it (by simp) _ e⟩
  item := by
    intro X e1 e2 e3 calm n pins s σ H E I fp st gh
    subst e1 e2 e3
    obtain ⟨hd, hi⟩ := gh
    obtain ⟨y1, y2, y3, es2, ep2, y4, y5, y6⟩ := frzP I hd
    obtain ⟨rfl, rfl⟩ := dict_ep ho y4
    obtain ⟨⟨k, v⟩, hkv⟩ : ∃ p, ps[n]? = some p := ⟨ps[n], List.getElem?_eq_getElem hi⟩
    obtain ⟨en, q, z1, z2, z3, z4⟩ := y6 n k v hkv
    obtain ⟨u1, u2, he⟩ := st
    rw [← y5] at he
    have lt : it < s.heap.objs.size := Heap.lt_size he
    have hn : n < es2.size := by omega
    have en_eq : es2[n] = en := by
      have := Array.getElem?_eq_getElem hn
      rw [z1] at this
      exact (Option.some.inj this).symm
    refine DT.nextI he ⟨ob, y2, y3, y4⟩ hn fun h' b1 b2 b3 b4 => ?_
    refine ⟨_, rfl, wpAny_letOwnedTupleGo_items (s := { s with heap := h' }) b1 fun h2 c1 c2 => ?_⟩
    have w2 : h2.get? s.heap.objs.size = some { cls := .type "tuple", data := .seq #[es2[n].key, es2[n].val] } := (c2.2 _ (Nat.ne_of_gt lt)).trans b2
    have nw : ObjOk X.prog X.w (upd H s.heap.objs.size (.tup [.ref q, v])) h2 s.heap.objs.size (.tup [.ref q, v]) :=
      ⟨by show (2 : Nat) ≤ sizeLine; decide, [es2[n].key, es2[n].val], .cons (by rw [en_eq, z2]; rfl) (.cons (by rw [en_eq]; exact z4) .nil), ⟨_, w2, rfl, _, rfl⟩⟩
    have I1 : Inv X pins σ (upd H s.heap.objs.size (.tup [.ref q, v])) { s with heap := h2 } :=
      I.turnedNew (t' := s.toks) (ch := [it]) (fun b o hb z => (c2.2 b (by simpa using hb)).trans (b4 b o (by simpa using hb) z)) fp (Nat.le_refl _) nw
    refine ⟨.ref s.heap.objs.size, _, I1, rfl, ⟨_, q, k, v, hkv, z3, rfl, I.hok.fresh (Nat.le_refl _), rfl⟩, ⟨es2[n].key, es2[n].val, ?_⟩, fun b hb => ?_⟩
    · rw [← y5]; exact c1
    · have z : b = it := by simpa using hb
      rw [z, upd_ne (Nat.ne_of_lt lt)]
      exact (fp it (by simp)).1
  done := by
    intro X e1 e2 e3 calm n pins s σ H E I fp st gh
    subst e1 e2 e3
    obtain ⟨hd, hi⟩ := gh
    obtain ⟨f0, f1, f2, f3, f4, f5⟩ := fp it (by simp)
    obtain ⟨y1, y2, y3, es2, ep2, y4, y5, y6⟩ := frzP I hd
    obtain ⟨rfl, rfl⟩ := dict_ep ho y4
    obtain ⟨u1, u2, he⟩ := st
    rw [← y5] at he
    exact DT.endI (I.ok.hd calm) he ⟨ob, y2, y3, y4⟩ (by omega) fun h' eb => ⟨rfl, I.turned (t' := s.toks) (fun b o hb z => eb b o hb z) f0 f1 f3 f4 f5⟩
  self := fun A n s Q E st h => by
    obtain ⟨u1, u2, e⟩ := st
    exact PySem.W.kcp_self e h
end
/-- the dict is locked -/
def iPairs (td : TE) : TI := fun σ H R => td σ H fun x H1 => ∃ a ob ps, x = .ref a ∧ H1 a = some (.frz ob (.dT ps)) ∧ R (ItP a ob ps) H1
theorem pi_pairs {X : Cx} {e : Expr} {td : TE} {ap cp : Pos} {el : List Expr} {kk : Nat} {tp : Pos} (he : PE X e td) (hbase : attributeBase e "items" X.env (eval e X.env) = eval e X.env := by rfl) (hline : (ap.endLine == cp.line) = true := by rfl) :
    PI X (.Tuple el kk tp) (.Call (.Attribute e "items" ap) [] [] cp) (iPairs td) := by
  refine ⟨fun pins s σ H R I h => ?_⟩
  refine wpAny_Call_method (T := "dict") (id := "dict.items") hbase rfl hline PySem.F.plainAttrs_dict PySem.F.slot_dict_items PySem.F.type_dict_items (thn (he.run pins s σ H _ I h) fun u s1 ⟨x, H1, I1, rx, a, ob, ps, ex, hd, q⟩ => ?_)
  subst ex
  obtain rfl : u = Value.ref a := rx
  obtain ⟨y1, y2, y3, es, ep, y4, y5, y6⟩ := frzP I1 hd
  have raw : DT.Raw s1.heap a es ep := ⟨ob, y2, y3, y4⟩
  refine ⟨raw.typeIs, fun b z => ?_, ?_⟩
  · cases z
    exact ⟨ob, y2, y3.2.1⟩
  have I2 : Inv X pins σ H1 { s1 with heap := s1.heap.push { cls := .type "dict_items", data := .fields #[.ref a] } } := I1.kept (t' := s1.toks) fun b o z => Heap.get?_push_of_some _ z
  have fin : wpAny (model X.prog X.w) X.A (pyIter (.ref s1.heap.objs.size)) (PIE X pins σ (.Tuple el kk tp) R) X.xe { s1 with heap := s1.heap.push { cls := .type "dict_items", data := .fields #[.ref a] } } := by
    refine DT.iterI (d := a) (es := es) (ep := ep) ⟨_, Heap.get?_push_size _ rfl, rfl, rfl⟩ (raw.push _) (pi_one (tk := s1.toks) I2 _ (turnP _ y4) ⟨.none, .none, ?_⟩ q)
    rw [← y5]
    exact Heap.get?_push_size _ rfl
  show wpAny _ _ (callWith cp (.builtin "dict.items") [.ref a] [] []) _ X.xe s1
  exact method_meetsIn PySem.F.slot_dict_items PySem.F.entry_dict_items rfl (PySem.evalArgs_none ⟨rfl, raw.typeIs, PySem.F.args_dict_items_1 _, _, DT.meetsItems (es := es) (ep := ep) y1, ⟨raw, fin⟩⟩)
end Od

set_option Elab.async false
set_option linter.all false
set_option maxRecDepth 100000
set_option autoImplicit false
set_option maxHeartbeats 4000000
/-! Od, thirteenth part: dicts with tuple keys: a display, keys in a variable, the pairs walked. -/
namespace Od
open PySem PySem.Spec PyProof.Rows L2
/-! ### {(a, b): c} -/
def tDisp1 (tk tv : TE) : TE := fun σ H Q => ∀ p, H p = none → tk σ (upd H p (.dT [])) fun x H1 => tv σ H1 fun y H2 => H2 p = some (.dT []) ∧ ∃ (ks : List L2.Key) (b : Addr), x = .ref b ∧ H2 b = some (.tup (ks.map kV)) ∧ Q (.ref p) (upd H2 p (.dT [(ks, y)]))
def one1 (R : V → V → Hp → Prop) : List (V × V) → Hp → Prop | [(x, y)], H => R x y H | _, _ => False
theorem pe_disp1 {X : Cx} {pos : Pos} {k v : Expr} {tk tv : TE} (hu : X.A.units + 1 < cLine) (hk : PE X k tk) (hv : PE X v tv) : PE X (.Dict [some k] [v] pos) (tDisp1 tk tv) := by
  refine ⟨fun pins s σ H Q I q => ?_⟩
  have hn := I.hok.fresh (Nat.le_refl s.heap.objs.size)
  have I1 := I.laid (a := s.heap.objs.size) (o := .dT []) (h' := s.heap.push { cls := .type "dict", data := .dict #[] }) (t' := s.toks) (fun _ _ q => Heap.get?_push_of_some _ q) (Nat.le_refl _) (dt_empty s.heap I.big)
  have pp := (pps_cons (X := X) (pos := pos) hk hv pps_nil).run pins _ σ _ (one1 fun x y H2 => H2 s.heap.objs.size = some (.dT []) ∧ ∃ (ks : List L2.Key) (b : Addr), x = .ref b ∧ H2 b = some (.tup (ks.map kV)) ∧ Q (.ref s.heap.objs.size) (upd H2 s.heap.objs.size (.dT [(ks, y)]))) I1 (q _ hn)
  rw [arm_eval_Dict, zip_pairTrees [some k] [v] X.env pos rfl rfl, dictDisplay_pairs (pairTrees [some k] [v] X.env pos) (by simp [pairTrees]) (by simp [pairTrees])]
  refine wpAny_bind (wpAny_standAt (wpAny_bind (wpAny_subDictH (knd := tupleKind (mixKind X.prog X.w)) (Nat.lt_of_succ_lt hu) (by simp [pairTrees]) (thn pp fun ws s2 hh => ?_))))
  obtain ⟨ps, H2, I2, rel, hq⟩ := hh
  match ps, rel, hq with
  | [(x, y)], rel, hq =>
    obtain ⟨e, ks, b, ex, eb, q2⟩ := hq
    cases rel with
    | @cons _ ww _ ws' r0 rn =>
      cases rn
      obtain ⟨u, r⟩ := ww
      subst ex
      obtain rfl : u = Value.ref b := r0.1
      obtain ⟨z, hd, xs0, rel0, dd⟩ := dt_of I2.hok e
      cases rel0
      refine ⟨[(ks, b, r)], ⟨rfl, rfl, key_of I2.hok eb, True.intro⟩, dd, fun h' tk dd' hs => wpAny_pure ⟨.ref s.heap.objs.size, _, ?_, rfl, q2⟩⟩
      obtain ⟨o, es, ep, ho, h2, h3, h4, _, h5⟩ := dd'
      refine d_write I2 (by rw [e]; exact True.intro) hs ⟨o, ho⟩ ⟨by show (1 : Nat) ≤ sizeLine; decide, hd, [(ks, b, r)], .cons ⟨rfl, ?_, r0.2⟩ .nil, o, es, ep, ho, h2, h3, h4, h5⟩
      show upd H2 s.heap.objs.size _ b = _
      rw [upd_ne (ne_of eb e (fun z => nomatch z))]
      exact eb
section
variable {X : Cx} {B : Addr → Prop} {pos px py ap cp tp : Pos} {e a c tg : Expr} {f g : En → Option EV} {es : List Expr} {fs : En → Option (List EV)} {x y : Str} {k kk : Nat}
/-- {(a, b): c}, owned -/
def dN1 (fs : En → Option (List EV)) (f : En → Option EV) : En → Option Ob := fun env => ((fs env).bind asDs).bind fun ds => if ds.length ≤ 1000000 then (keysOf ds).bind fun ks => ((f env).bind asD).bind fun d => some (.dt [(ks, d)]) else none
theorem xdN1 (hr : Room k X.A) (ha : PA X es (tA X.K fs)) (he : PE X c (tE X.K f)) : PE X (.Dict [some (.Tuple es kk tp)] [c] pos) (tN X.K (dN1 fs f)) :=
  pe_imp (pe_disp1 (hr.units |> fun h => by omega) (pe_tup ha) he) fun σ H Q ⟨F, env, ob, S, w, q⟩ => by
    obtain ⟨ds, hds, w⟩ := bind_eq w
    obtain ⟨evs, hev, hds⟩ := bind_eq hds
    by_cases hl : ds.length ≤ 1000000
    · rw [if_pos hl] at w
      obtain ⟨ks, hks, w⟩ := bind_eq w
      obtain ⟨d, hd, w⟩ := bind_eq w
      obtain ⟨ev, hev2, hd⟩ := bind_eq hd
      cases w
      intro p hp
      have hFp := S.sub.free hp
      have x0 : Ext F H F (upd H p (.dT [])) := Ext.allocN S.sub hp
      refine ⟨F, env, evs, S.ext x0, hev, fun vs F1 H1 x1 o1 => ?_⟩
      have hA := asDs_ok o1 hds
      have hlen := dpAll_len hA
      refine ⟨Nat.le_trans (by rw [hlen]; exact hl) (by decide), fun t ht => ?_⟩
      have x2 := Ext.alloc (o := .tup vs) x1.low ht
      refine ⟨_, env, ev, (S.ext x0).ext (x1.trans x2), hev2, fun v F3 H3 x3 o3 => ?_⟩
      have xa := x1.trans (x2.trans x3)
      have kp := xa.keep p (.dT []) upd_same
      have hF3 := kp.2 (fun _ z => nomatch z) hFp
      refine ⟨kp.1, ks, t, rfl, ?_, q p (.dT [(ks, v)]) F3 _ ⟨xa.fz, fun b w h => by rw [upd_ne (ne_of_none h hF3)]; exact x3.low b w h, fun b w h => ?_⟩ hp hF3 upd_same (.cons ⟨rfl, asD_ok o3 hd⟩ .nil)⟩
      · rw [← keysOf_ok hA hks]
        exact x3.same _ _ upd_same
      · have ne : b ≠ p := ne_of_none h hp
        have := xa.keep b w (by rw [upd_ne ne]; exact h)
        exact ⟨by rw [upd_ne ne]; exact this.1, this.2⟩
    · rw [if_neg hl] at w; cases w
/-! ### a key in a variable -/
def ktS (i : Nat) (fs : En → Option (List EV)) : En → Option Out := fun env => ((fs env).bind asDs).bind fun ds => if ds.length ≤ 1000000 then (keysOf ds).bind fun ks => some (.nx (env.set i (some (.ktp ks)))) else none
theorem StB.setK {K : PySem.W.Frag} {F H : Hp} {σ : L2.St} {env : En} (s : StB K B F H σ env) {t : Addr} {ks : List L2.Key} (i : Nat) (h : F t = some (.tup (ks.map kV))) : StB K B F H (σ.set i (some (.ref t))) (env.set i (some (.ktp ks))) := by
  have own : ∀ (j : Nat) (ev : EV), (env.set i (some (.ktp ks)))[j]? = some (some ev) → (j = i ∧ ev = .ktp ks ∧ i < env.length) ∨ (j ≠ i ∧ env[j]? = some (some ev)) := fun j ev w => by
    by_cases z : i = j
    · subst z
      have hl : i < env.length := by simpa using (List.getElem?_eq_some_iff.mp w).1
      rw [List.getElem?_set_self hl] at w
      cases w
      exact .inl ⟨rfl, rfl, hl⟩
    · rw [List.getElem?_set_ne z] at w
      exact .inr ⟨fun q => z q.symm, w⟩
  have len := s.len
  refine ⟨⟨s.sub, by simpa using s.len, fun j ev w => ?_, fun j l o o' p e1 e2 q1 q2 => ?_⟩, s.bk, fun j o p w q => ?_⟩
  · rcases own j ev w with ⟨rfl, rfl, hl⟩ | ⟨n, w⟩
    · exact ⟨_, List.getElem?_set_self (by omega), t, rfl, h⟩
    · rw [List.getElem?_set_ne (Ne.symm n)]
      exact s.get j ev w
  · rcases own j _ e1 with ⟨_, z, _⟩ | ⟨n1, e1⟩
    · cases z
    · rcases own l _ e2 with ⟨_, z, _⟩ | ⟨n2, e2⟩
      · cases z
      · rw [List.getElem?_set_ne (Ne.symm n1)] at q1
        rw [List.getElem?_set_ne (Ne.symm n2)] at q2
        exact s.sep j l o o' p e1 e2 q1 q2
  · rcases own j _ w with ⟨_, z, _⟩ | ⟨n, w⟩
    · cases z
    · rw [List.getElem?_set_ne (Ne.symm n)] at q
      exact s.out j o p w q
theorem sktS {i : Nat} (hN : X.N.Nodup) (ha : PA X es (tA X.K fs)) (hi : X.N[i]? = some x := by rfl) (hx : Loc X.env.scope x := by first | exact Or.inl rfl | exact Or.inr rfl) (hs : swapsWith (.Tuple es kk tp) (some (.Name x px)) pos.line X.env = pure false := by rfl) (hf : X.fn x = true ∨ X.env.scope.names.lookup x = some .local := by first | exact .inl rfl | exact .inr rfl | assumption) :
    PS X (.Assign [.Name x px] (.Tuple es kk tp) pos) (sE X.K B (ktS i fs)) := ps_imp (ps_set hN hi hx (pe_tup ha) hs hf) fun T σ H ⟨F, env, out, S, w, o⟩ => by
  obtain ⟨ds, hds, w⟩ := bind_eq w
  obtain ⟨evs, hev, hds⟩ := bind_eq hds
  by_cases hl : ds.length ≤ 1000000
  · rw [if_pos hl] at w
    obtain ⟨ks, hks, w⟩ := bind_eq w
    cases w
    refine ⟨F, env, evs, S.toStOk, hev, fun vs F1 H1 x1 o1 => ?_⟩
    have hA := asDs_ok o1 hds
    have hlen := dpAll_len hA
    refine ⟨Nat.le_trans (by rw [hlen]; exact hl) (by decide), fun t ht => ?_⟩
    have x2 := Ext.alloc (o := .tup vs) x1.low ht
    exact o _ _ _ (x1.trans x2).b ((S.ext (x1.trans x2)).setK i (by rw [upd_same, keysOf_ok hA hks]))
  · rw [if_neg hl] at w; cases w
/-- d.get(key, e) -/
def gtV (i j : Nat) (f : En → Option EV) : En → Option EV := fun env => match vr i env, vr j env with
  | some (.own (.dt es)), some (.ktp ks) => ((f env).bind asD).bind fun z => some (.dat ((getD' es ks).getD z))
  | _, _ => none
theorem paired_getN {K : PySem.W.Frag} {F : Hp} {ks : List L2.Key} : ∀ {kvs : List (List L2.Key × V)} {es : List (List L2.Key × D)}, Paired (fun (p : List L2.Key × V) (q : List L2.Key × D) => p.1 = q.1 ∧ Dp K F p.2 q.2) kvs es → getD' es ks = none → valV kvs ks = none
  | _, _, .nil, _ => rfl
  | _, _, .cons (a := p) (b := q) (l₂ := tl) r t, h => by
    unfold getD' at h
    unfold valV
    rw [List.find?_cons] at h ⊢
    rw [r.1]
    by_cases z : q.1 = ks
    · rw [decide_eq_true z] at h
      cases h
    · rw [decide_eq_false z] at h ⊢
      exact paired_getN t h
theorem xgtV (i j : Nat) (hr : Room k X.A) (he : PE X e (tE X.K f)) (hN : X.N[i]? = some x := by rfl) (hv : Vis X.env.scope x := by first | exact Or.inl rfl | exact Or.inr (Or.inl rfl) | exact Or.inr (Or.inr rfl)) (hd : (x == ("__debug__" : Str)) = false := by decide) (hcd : (x == ("__classdict__" : Str)) = false := by decide)
    (hN2 : X.N[j]? = some y := by rfl) (hv2 : Vis X.env.scope y := by first | exact Or.inl rfl | exact Or.inr (Or.inl rfl) | exact Or.inr (Or.inr rfl)) (hd2 : (y == ("__debug__" : Str)) = false := by decide) (hcd2 : (y == ("__classdict__" : Str)) = false := by decide)
    (m : M2 X (.Name x px) "get" ap (.Name y py) e cp := by exact ⟨rfl, rfl, rfl, rfl⟩) : PE X (.Call (.Attribute (.Name x px) "get" ap) [.Name y py, e] [] cp) (tE X.K (gtV i j f)) :=
  pe_imp (pe_dget2 (hr.units |> fun h => by omega) (pe_var hN hv hd hcd) (pe_var hN2 hv2 hd2 hcd2) he m) fun σ H Q ⟨F, env, ev, S, w, q⟩ => by
    unfold gtV at w
    cases h1 : vr i env with
    | none => rw [h1] at w; cases w
    | some dv =>
      rw [h1] at w
      cases h2 : vr j env with
      | none => rw [h2] at w; cases dv <;> first | cases w | (rename_i o; cases o <;> cases w)
      | some kv =>
        rw [h2] at w
        cases dv <;> first | cases w | skip
        rename_i o
        cases o <;> first | cases w | skip
        rename_i es
        cases kv <;> first | cases w | skip
        rename_i ks
        obtain ⟨z, hz, w⟩ := bind_eq (show ((f env).bind asD).bind (fun z => some (EV.dat ((getD' es ks).getD z))) = some ev from w)
        obtain ⟨zv, hzv, hz⟩ := bind_eq hz
        cases w
        obtain ⟨v1, w1, p, u, rfl, g1, g2, g3⟩ := S.get i _ (vr_eq h1)
        obtain ⟨v2, w2, b, rfl, g4⟩ := S.get j _ (vr_eq h2)
        cases u <;> first | exact False.elim g3 | skip
        rename_i kvs
        refine ⟨.ref p, w1, p, rfl, .inr ⟨kvs, .inl g2⟩, .ref b, w2, F, env, zv, S, hzv, fun v F1 H1 x1 o1 => ?_⟩
        have g3' := Paired.mapP (show Paired _ kvs es from g3) (fun p q z => (⟨z.1, dp_same x1.fz _ _ z.2⟩ : p.1 = q.1 ∧ Dp X.K F1 p.2 q.2))
        refine ⟨valV kvs ks, .inr ⟨kvs, ks, b, .inl (x1.same _ _ g2), rfl, x1.low _ _ (x1.fz _ _ g4), rfl⟩, q _ F1 H1 x1 ?_⟩
        cases hg : getD' es ks with
        | none =>
          rw [paired_getN g3' hg]
          exact asD_ok o1 hz
        | some d =>
          obtain ⟨v', a1, a2⟩ := paired_get g3' hg
          rw [a1]
          exact a2
/-- d[key] = e -/
def dpV (i j : Nat) (f : En → Option EV) : En → Option Out := fun env => ((f env).bind asD).bind fun d => match vr i env, vr j env with
  | some (.own (.dt es)), some (.ktp ks) => if es.length < 1000000 then some (.nx (env.set i (some (.own (.dt (putD es ks d)))))) else none
  | _, _ => none
theorem sdpV (i j : Nat) {spos : Pos} {value : Expr} (hr : Room k X.A) (hval : PE X value (tE X.K f)) (hN : X.N[i]? = some x := by rfl) (hv : Vis X.env.scope x := by first | exact Or.inl rfl | exact Or.inr (Or.inl rfl) | exact Or.inr (Or.inr rfl)) (hd : (x == ("__debug__" : Str)) = false := by decide) (hcd : (x == ("__classdict__" : Str)) = false := by decide)
    (hN2 : X.N[j]? = some y := by rfl) (hv2 : Vis X.env.scope y := by first | exact Or.inl rfl | exact Or.inr (Or.inl rfl) | exact Or.inr (Or.inr rfl)) (hd2 : (y == ("__debug__" : Str)) = false := by decide) (hcd2 : (y == ("__classdict__" : Str)) = false := by decide)
    (hs : swapsWith value (some (.Subscript (.Name x px) (.Name y py) spos)) pos.line X.env = pure false := by rfl) :
    PS X (.Assign [.Subscript (.Name x px) (.Name y py) spos] value pos) (sE X.K B (dpV i j f)) :=
  ps_imp (ps_dput (hr.units |> fun h => by omega) (pe_var hN hv hd hcd) (pe_var hN2 hv2 hd2 hcd2) hval hs) fun T σ H ⟨F, env, out, S, w, o⟩ => by
    obtain ⟨d, hd, w⟩ := bind_eq w
    obtain ⟨ev, hev, hd⟩ := bind_eq hd
    cases h1 : vr i env with
    | none => rw [h1] at w; cases w
    | some dv =>
      rw [h1] at w
      cases h2 : vr j env with
      | none => rw [h2] at w; cases dv <;> first | cases w | (rename_i o; cases o <;> cases w)
      | some kv =>
        rw [h2] at w
        cases dv <;> first | cases w | skip
        rename_i ob
        cases ob <;> first | cases w | skip
        rename_i es
        cases kv <;> first | cases w | skip
        rename_i ks
        by_cases hl : es.length < 1000000
        · have w' : some (Out.nx (env.set i (some (.own (.dt (putD es ks d)))))) = some out := by
            have : (if es.length < 1000000 then some (Out.nx (env.set i (some (.own (.dt (putD es ks d)))))) else none) = some out := w
            rwa [if_pos hl] at this
          cases w'
          refine ⟨F, env, ev, S.toStOk, hev, fun v F1 H1 x1 o1 => ?_⟩
          have S1 := S.ext x1
          obtain ⟨v1, w1, p, u, rfl, g1, g2, g3⟩ := S1.get i _ (vr_eq h1)
          obtain ⟨v2, w2, b, rfl, g4⟩ := S1.get j _ (vr_eq h2)
          cases u <;> first | exact False.elim g3 | skip
          rename_i kvs
          have lenE : kvs.length = es.length := Paired.length (show Paired _ kvs es from g3)
          obtain ⟨m1, m2⟩ := S1.mut (u := .dT (putK kvs ks v)) (o' := .dt (putD es ks d)) (vr_eq h1) w1 (paired_put (asD_ok o1 hd) (show Paired _ kvs es from g3))
          exact ⟨.ref p, w1, .ref b, w2, p, _, rfl, .inr ⟨kvs, ks, b, g2, rfl, S1.sub _ _ g4, by rw [lenE]; exact Nat.lt_of_lt_of_le hl (by decide), rfl⟩, o σ _ _ (x1.b.trans m2) m1⟩
        · have : (if es.length < 1000000 then some (Out.nx (env.set i (some (.own (.dt (putD es ks d)))))) else none) = some out := w
          rw [if_neg hl] at this
          cases this
end
end Od

set_option Elab.async false
set_option linter.all false
set_option maxRecDepth 100000
set_option autoImplicit false
set_option maxHeartbeats 4000000
/-! Od, fourteenth part: loops over the pairs of a dict with tuple keys. -/
namespace Od
open PySem PySem.Spec PyProof.Rows L2
def itemD (kv : List L2.Key × D) : D := .tuple [.tuple (kv.1.map kD), kv.2]
theorem same_upd2' {F H : Hp} {p : Addr} {o : HO} (s : Same F H) : Same (upd F p o) (upd H p o) := fun b x e => by
  by_cases q : b = p
  · subst q; rw [upd_same] at e ⊢; exact e
  · rw [upd_ne q] at e ⊢; exact s _ _ e
theorem item_step {K : PySem.W.Frag} {F0 F H H' : Hp} {a : Addr} {ob : Obj} {ps : List (List L2.Key × V)} {es : List (List L2.Key × D)} (h : Paired (fun (p : List L2.Key × V) (q : List L2.Key × D) => p.1 = q.1 ∧ Dp K F0 p.2 q.2) ps es) (s0 : Same F0 F) (s : Same F H) {n : Nat} {x : V} {z : D}
    (y : (ItP a ob ps).yld n H x H') (e : (es.map itemD)[n]? = some z) : ∃ F', Ext F H F' H' ∧ Dp K F' x z := by
  obtain ⟨T, q, k, v, h1, h2, rfl, h3, rfl⟩ := y
  rw [List.getElem?_map] at e
  obtain ⟨kv, hb, e1, e2⟩ := L2.paired_get h h1
  rw [hb] at e
  cases e
  obtain ⟨F1, x1, hq⟩ := Ext.tupd s h2
  have x2 := Ext.alloc (o := .tup [.ref q, v]) x1.low h3
  have sm := x2.fz
  refine ⟨_, x1.trans x2, .tup (SqT.of upd_same) (.cons (.tup (SqT.of (sm _ _ hq)) ?_) (.cons (dp_same sm _ _ (dp_same x1.fz _ _ (dp_same s0 _ _ e2))) .nil))⟩
  have ek : k = kv.1 := e1
  rw [ek]
  exact dp_keys _
theorem wkl_P {K : PySem.W.Frag} {F0 : Hp} {a : Addr} {ob : Obj} {ps : List (List L2.Key × V)} {es : List (List L2.Key × D)} (h : Paired (fun (p : List L2.Key × V) (q : List L2.Key × D) => p.1 = q.1 ∧ Dp K F0 p.2 q.2) ps es) : WkL (ItP a ob ps) K F0 (es.map itemD) a (.frz ob (.dT ps)) := by
  have hl : ps.length = es.length := Paired.length h
  exact ⟨fun n H hH hi => ⟨hH, by rw [List.length_map] at hi; omega⟩, fun n F H H' x z s0 s hH y e => item_step h s0 s y e, fun n H hH hi => ⟨hH, by rw [List.length_map] at hi; omega⟩⟩
theorem wk_P {K : PySem.W.Frag} {F0 : Hp} {a : Addr} {ob : Obj} {ps : List (List L2.Key × V)} {es : List (List L2.Key × D)} (ha : F0 a = some (.frz ob (.dT ps))) (h : Paired (fun (p : List L2.Key × V) (q : List L2.Key × D) => p.1 = q.1 ∧ Dp K F0 p.2 q.2) ps es) : Wk K (ItP a ob ps) (es.map itemD) F0 := by
  have hl : ps.length = es.length := Paired.length h
  exact ⟨fun n F H s0 s hi => ⟨s _ _ (s0 _ _ ha), by rw [List.length_map] at hi; omega⟩, fun n F H H' x z s0 s y e => item_step h s0 s y e, fun n F H s0 s hi => ⟨s _ _ (s0 _ _ ha), by rw [List.length_map] at hi; omega⟩⟩
section
variable {X : Cx} {B : Addr → Prop} {pos px ap cp : Pos} {e tg : Expr} {el : List Expr} {kk : Nat} {tp : Pos} {body : List Stmt} {n : En → Option Ob} {x : Str}
/-- for (..), v in d.items() -/
def forP (i : Nat) (p : Pat) (b : En → Option Out) : En → Option Out := fun env => if noLck env = true then match vr i env with
  | some (.own (.dt es)) => (forGo p b (es.map itemD) (env.set i (some (.lck (.dt es))))).bind (unl i)
  | _ => none else none
theorem sforP (i : Nat) {pt : Pat} {s : En → Option Out} (hc : X.calm = true) (hg : PG X (.Tuple el kk tp) (pt.g X.K)) (hb : ∀ B', PSs X body (sE X.K B' s)) (hN : X.N[i]? = some x := by rfl) (hv : Vis X.env.scope x := by first | exact Or.inl rfl | exact Or.inr (Or.inl rfl) | exact Or.inr (Or.inr rfl)) (hd : (x == ("__debug__" : Str)) = false := by decide)
    (hcd : (x == ("__classdict__" : Str)) = false := by decide) (hp : PassesOwn (model X.prog X.w) X.A X.env X.xe := by exact PassesOwn.never) (hbase : attributeBase (.Name x px) "items" X.env (eval (.Name x px) X.env) = eval (.Name x px) X.env := by rfl) (hline : (ap.endLine == cp.line) = true := by rfl)
    (hs : ∀ y, foldedSetIterable (.Call (.Attribute (.Name x px) "items" ap) [] [] cp) X.env y = pure y := by intro _; rfl) : PS X (.For (.Tuple el kk tp) (.Call (.Attribute (.Name x px) "items" ap) [] [] cp) body [] pos) (sE X.K B (forP i pt s)) := by
  have body' : PSs X body (fun T σ H => ∃ B', sE X.K B' s T σ H) := ⟨fun pins s0 σ H T I ⟨B', w⟩ => (hb B').run pins s0 σ H T I w⟩
  refine ps_imp (ps_lock (ps_for hp hc (pi_pairs (pe_var hN hv hd hcd) hbase hline) hg body' hs)) fun T σ H ⟨F, env, out, S, w, o⟩ => ?_
  unfold forP at w
  by_cases nl : noLck env = true
  · rw [if_pos nl] at w
    cases h : vr i env with
    | none => rw [h] at w; cases w
    | some ev =>
      rw [h] at w
      cases ev <;> first | cases w | skip
      rename_i ob
      cases ob <;> first | cases w | skip
      rename_i es
      have e' := vr_eq h
      obtain ⟨v, h1, d, u, rfl, h3, h4, h5⟩ := S.get i _ e'
      obtain ⟨out0, w1, w2⟩ := bind_eq w
      cases u <;> first | exact False.elim h5 | skip
      refine ⟨d, _, h4, True.intro, fun od => ⟨.ref d, h1, d, od, _, rfl, upd_same, ?_⟩⟩
      exact lockloop S nl e' h1 h4 h5 (wkl_P (show Paired _ _ es from h5)) w1 w2 o
  · rw [if_neg nl] at w; cases w
/-- the pairs of a dict that is read alone -/
def itP (i : Nat) : En → Option (List D) := fun env => match vr i env with | some (.fdt es) => some (es.map itemD) | _ => none
theorem ipairs (i : Nat) (hN : X.N[i]? = some x := by rfl) (hv : Vis X.env.scope x := by first | exact Or.inl rfl | exact Or.inr (Or.inl rfl) | exact Or.inr (Or.inr rfl)) (hd : (x == ("__debug__" : Str)) = false := by decide)
    (hcd : (x == ("__classdict__" : Str)) = false := by decide) (hbase : attributeBase (.Name x px) "items" X.env (eval (.Name x px) X.env) = eval (.Name x px) X.env := by rfl) (hline : (ap.endLine == cp.line) = true := by rfl) :
    PI X (.Tuple el kk tp) (.Call (.Attribute (.Name x px) "items" ap) [] [] cp) (iI X.K (itP i)) := pi_imp (pi_pairs (pe_var hN hv hd hcd) hbase hline) fun σ H R ⟨F, env, ds, S, w, q⟩ => by
  unfold itP at w
  cases h : vr i env with
  | none => rw [h] at w; cases w
  | some ev =>
    rw [h] at w
    cases ev <;> first | cases w | skip
    obtain ⟨v, h1, p, od, kvs, rfl, h2, h3⟩ := S.get i _ (vr_eq h)
    exact ⟨.ref p, h1, p, od, kvs, rfl, S.sub _ _ h2, q _ F H (Ext.rfl' S.sub) (wk_P h2 (show Paired _ kvs _ from h3))⟩
/-! ### a return that reads a dict alone -/
def dropF (F : Hp) (d : Addr) : Hp := fun b => if b = d then none else F b
theorem dropF_ne {F : Hp} {d b : Addr} (h : b ≠ d) : dropF F d b = F b := if_neg h
theorem dropF_same {F : Hp} {d : Addr} : dropF F d d = none := if_pos rfl
theorem rd_drop {F : Hp} {d b : Addr} {od : Obj} {kvs : List (List L2.Key × V)} {u : HO} (hd : F d = some (.frz od (.dT kvs))) (hu : ∀ l, u ≠ .dT l) (hz : ∀ o l, u ≠ .frz o l) (h : Rd F b u) : Rd (dropF F d) b u := by
  have ne : b ≠ d := fun z => by
    subst z
    rcases h with h | ⟨o, h⟩
    · rw [hd] at h; cases h; exact hz _ _ rfl
    · rw [hd] at h; cases h; exact hu _ rfl
  rcases h with h | ⟨o, h⟩
  · exact .inl (by rw [dropF_ne ne]; exact h)
  · exact .inr ⟨o, by rw [dropF_ne ne]; exact h⟩
mutual
theorem dp_drop {K : PySem.W.Frag} {F : Hp} {d : Addr} {od : Obj} {kvs : List (List L2.Key × V)} (hd : F d = some (.frz od (.dT kvs))) : ∀ (z : D) (v : V), Dp K F v z → Dp K (dropF F d) v z
  | .none, _, h => by cases h; exact .non
  | .bool b, _, h => by cases h; exact .bl b
  | .int i, _, h => by cases h; exact .int i
  | .str x, _, h => by cases h; exact .str x
  | .list ds, _, h => by
    cases h with
    | lst hs ha =>
      refine .lst ?_ (dpAll_drop' hd ds _ ha)
      rcases hs with hs | hs
      · exact .inl (rd_drop hd (fun _ q => nomatch q) (fun _ _ q => nomatch q) hs)
      · exact .inr hs
  | .tuple ds, _, h => by
    cases h with
    | tup hs ha =>
      refine .tup ?_ (dpAll_drop' hd ds _ ha)
      rcases hs with hs | hs
      · exact .inl (rd_drop hd (fun _ q => nomatch q) (fun _ _ q => nomatch q) hs)
      · exact .inr hs
  | .dict _, _, h => by cases h
theorem dpAll_drop' {K : PySem.W.Frag} {F : Hp} {d : Addr} {od : Obj} {kvs : List (List L2.Key × V)} (hd : F d = some (.frz od (.dT kvs))) : ∀ (ds : List D) (vs : List V), DpAll K F vs ds → DpAll K (dropF F d) vs ds
  | [], _, h => by cases h; exact .nil
  | z :: ds, _, h => by
    cases h with
    | cons h1 h2 => exact .cons (dp_drop hd z _ h1) (dpAll_drop' hd ds _ h2)
end
theorem ob_drop {K : PySem.W.Frag} {F : Hp} {d : Addr} {od : Obj} {kvs : List (List L2.Key × V)} (hd : F d = some (.frz od (.dT kvs))) {u : HO} {o : Ob} (h : ObOk K F u o) : ObOk K (dropF F d) u o := by
  cases u <;> cases o <;> first
    | exact dpAll_drop' hd _ _ h
    | exact Paired.mapP (show Paired _ _ _ from h) (fun p q z => ⟨z.1, dp_drop hd _ _ z.2⟩)
    | exact False.elim h
def frnS (i : Nat) (n : En → Option Ob) : En → Option Out := fun env => match vr i env with
  | some (.own (.dt es)) => (n (env.set i (some (.fdt es)))).bind fun o => some (.rtN o)
  | _ => none
theorem sfrn (i : Nat) (he : PE X e (tN X.K n)) : PS X (.Return (some e) pos) (sE X.K B (frnS i n)) := ps_imp (ps_lock (ps_ret he)) fun T σ H ⟨F, env, out, S, w, o⟩ => by
  unfold frnS at w
  cases h : vr i env with
  | none => rw [h] at w; cases w
  | some ev =>
    rw [h] at w
    cases ev <;> first | cases w | skip
    rename_i ob
    cases ob <;> first | cases w | skip
    rename_i es
    obtain ⟨o1, w1, w2⟩ := bind_eq w
    cases w2
    have hi := vr_eq h
    obtain ⟨v, hd, d, u, rfl, hF, hH, ok⟩ := S.get i _ hi
    cases u <;> first | exact False.elim ok | skip
    rename_i kvs
    have nB := S.out i _ d hi hd
    refine ⟨d, _, hH, True.intro, fun od => ?_⟩
    have sm : Same F (upd F d (.frz od (.dT kvs))) := same_upd hF
    have low1 : Same (upd F d (.frz od (.dT kvs))) (upd H d (.frz od (.dT kvs))) := same_upd2' S.sub
    have hil : i < env.length := (List.getElem?_eq_some_iff.mp hi).1
    have cl : ∀ (j : Nat) (ev : EV), (env.set i (some (.fdt es)))[j]? = some (some ev) → (j = i ∧ ev = .fdt es) ∨ (j ≠ i ∧ env[j]? = some (some ev)) := fun j ev h => by
      by_cases z : i = j
      · subst z
        rw [List.getElem?_set_self hil] at h
        cases h
        exact .inl ⟨rfl, rfl⟩
      · rw [List.getElem?_set_ne z] at h
        exact .inr ⟨fun w => z w.symm, h⟩
    have S1 : StOk X.K (upd F d (.frz od (.dT kvs))) (upd H d (.frz od (.dT kvs))) σ (env.set i (some (.fdt es))) := by
      refine ⟨low1, by simpa using S.len, fun j ev h => ?_, fun j l o1 o2 a e1 e2 q1 q2 => ?_⟩
      · rcases cl j ev h with ⟨rfl, rfl⟩ | ⟨nj, h⟩
        · exact ⟨_, hd, d, od, kvs, rfl, upd_same, ok.same sm⟩
        · obtain ⟨v, g1, g2⟩ := S.get j ev h
          refine ⟨v, g1, ?_⟩
          cases ev with
          | dat z => exact dp_same sm _ _ g2
          | ktp _ => obtain ⟨p, e, z⟩ := g2; exact ⟨p, e, sm _ _ z⟩
          | fdt _ => obtain ⟨p, od, kvs, e, z, q⟩ := g2; exact ⟨p, od, kvs, e, sm _ _ z, q.same sm⟩
          | lck o2 =>
            obtain ⟨p, od2, u2, rfl, k1, k2, k3⟩ := g2
            have ne : p ≠ d := fun z => by subst z; rw [hH] at k2; cases k2
            exact ⟨p, od2, u2, rfl, by rw [upd_ne ne]; exact k1, by rw [upd_ne ne]; exact k2, k3.same sm⟩
          | own o2 =>
            obtain ⟨p, u2, rfl, k1, k2, k3⟩ := g2
            have ne : p ≠ d := fun z => by
              subst z
              exact nj (S.sep j i _ _ _ h hi g1 hd)
            exact ⟨p, u2, rfl, by rw [upd_ne ne]; exact k1, by rw [upd_ne ne]; exact k2, k3.same sm⟩
      · rcases cl j _ e1 with ⟨_, z⟩ | ⟨_, e1⟩
        · cases z
        · rcases cl l _ e2 with ⟨_, z⟩ | ⟨_, e2⟩
          · cases z
          · exact S.sep j l o1 o2 a e1 e2 q1 q2
    refine ⟨_, _, o1, S1, w1, fun p u' F' H' y hn hf hp ok' => ?_⟩
    have hF'd : F' d = some (.frz od (.dT kvs)) := y.fz _ _ upd_same
    have hH'd := y.low _ _ hF'd
    refine ⟨hH'd, ?_⟩
    have npd : p ≠ d := fun z => by rw [z, hF'd] at hf; cases hf
    refine o p u' (dropF F' d) (upd H' d (.dT kvs)) ⟨fun a z h => ?_, fun a z h => ?_, fun a z b h => ?_⟩ (fun b => ?_) (by rw [dropF_ne npd]; exact hf) (by rw [upd_ne npd]; exact hp) (ob_drop hF'd ok')
    · have ne : a ≠ d := ne_of_none h hF
      rw [dropF_ne ne]
      exact y.fz _ _ (sm _ _ h)
    · by_cases ne : a = d
      · subst ne; rw [dropF_same] at h; cases h
      · rw [dropF_ne ne] at h
        rw [upd_ne ne]
        exact y.low _ _ h
    · have ne : a ≠ d := fun z => nB (by rw [← z]; exact b)
      have k := y.keep a z (by rw [upd_ne ne]; exact h)
      exact ⟨by rw [upd_ne ne]; exact k.1, fun t f => by rw [dropF_ne ne]; exact k.2 t (by rw [upd_ne ne]; exact f)⟩
    · obtain ⟨z, hz⟩ := S.bk p b
      rw [upd_ne npd] at hn
      rw [hz] at hn
      cases hn
end
end Od

set_option Elab.async false
set_option linter.all false
set_option autoImplicit false
set_option maxRecDepth 100000
/-! Ev: how the meanings of bodies are reckoned. -/
namespace Od
open PySem PySem.Spec PyProof.Rows L2

/-! ### equations -/
@[simp] theorem vr_ (i : Nat) (env : En) : vr i env = (env[i]?).join := rfl
@[simp] theorem cs_ (d : D) (env : En) : cs d env = some (.dat d) := rfl
@[simp] theorem a0_ (env : En) : a0 env = some [] := rfl
@[simp] theorem ac_ (f : En → Option EV) (g : En → Option (List EV)) (env : En) : ac f g env = (f env).bind fun x => (g env).bind fun xs => some (x :: xs) := rfl
@[simp] theorem e1_ (o : EV → Option EV) (f : En → Option EV) (env : En) : e1 o f env = (f env).bind o := rfl
@[simp] theorem e2_ (o : EV → EV → Option EV) (f g : En → Option EV) (env : En) : e2 o f g env = (f env).bind fun x => (g env).bind fun y => o x y := rfl
@[simp] theorem eA_ (o : List EV → Option EV) (f : En → Option (List EV)) (env : En) : eA o f env = (f env).bind o := rfl
@[simp] theorem nA_ (o : List EV → Option Ob) (f : En → Option (List EV)) (env : En) : nA o f env = (f env).bind o := rfl
@[simp] theorem ifE_ (t : En → Option Bool) (f g : En → Option EV) (env : En) : ifE t f g env = (t env).bind fun b => if b = true then f env else g env := rfl
@[simp] theorem tb_ (f : En → Option EV) (env : En) : tb f env = (f env).bind asB := rfl
@[simp] theorem tr_ (f : En → Option EV) (env : En) : tr f env = (f env).bind truE := rfl
@[simp] theorem tn_ (f : En → Option Bool) (env : En) : tn f env = (f env).map (!·) := rfl
@[simp] theorem tnd_ (f g : En → Option Bool) (env : En) : tnd f g env = (f env).bind fun b => if b = true then g env else some false := rfl
@[simp] theorem tor_ (f g : En → Option Bool) (env : En) : tor f g env = (f env).bind fun b => if b = true then some true else g env := rfl
@[simp] theorem tyes_ (env : En) : tyes env = some true := rfl
@[simp] theorem andV_ (f g : En → Option EV) (env : En) : andV f g env = ((f env).bind asB).bind fun b => if b = true then g env else some (.dat (.bool false)) := rfl
@[simp] theorem orV_ (f g : En → Option EV) (env : En) : orV f g env = ((f env).bind asB).bind fun b => if b = true then some (.dat (.bool true)) else g env := rfl
@[simp] theorem asI_int (i : Int) : asI (.dat (.int i)) = some i := rfl
@[simp] theorem asB_bool (i : Bool) : asB (.dat (.bool i)) = some i := rfl
@[simp] theorem asD_dat (d : D) : asD (.dat d) = some d := rfl
@[simp] theorem asL_list (ds : List D) : asL (.dat (.list ds)) = some ds := rfl
@[simp] theorem asL_own (ds : List D) : asL (.own (.lst ds)) = some ds := rfl
@[simp] theorem asDL_list (ds : List D) : asDL (.dat (.list ds)) = some ds := rfl
@[simp] theorem asT_tuple (ds : List D) : asT (.dat (.tuple ds)) = some ds := rfl
@[simp] theorem asSeq_list (ds : List D) : asSeq (.dat (.list ds)) = some ds := rfl
@[simp] theorem asSeq_tuple (ds : List D) : asSeq (.dat (.tuple ds)) = some ds := rfl
@[simp] theorem asSeq_own (ds : List D) : asSeq (.own (.lst ds)) = some ds := rfl
@[simp] theorem asQ_dat (d : D) : asQ (.dat d) = some d := rfl
@[simp] theorem asQ_own (ds : List D) : asQ (.own (.lst ds)) = some (.list ds) := rfl
@[simp] theorem asDs_nil : asDs [] = some [] := rfl
@[simp] theorem asDs_cons (d : D) (es : List EV) : asDs (.dat d :: es) = (asDs es).bind fun ds => some (d :: ds) := rfl
@[simp] theorem asDt_own (es : List (List L2.Key × D)) : asDt (.own (.dt es)) = some es := rfl
@[simp] theorem asDt_lck (es : List (List L2.Key × D)) : asDt (.lck (.dt es)) = some es := rfl
@[simp] theorem truE_none : truE (.dat .none) = some false := rfl
@[simp] theorem truE_bool (b : Bool) : truE (.dat (.bool b)) = some b := rfl
@[simp] theorem truE_int (i : Int) : truE (.dat (.int i)) = some (i != 0) := rfl
@[simp] theorem truE_list (ds : List D) : truE (.dat (.list ds)) = some (!ds.isEmpty) := rfl
@[simp] theorem truE_own (ds : List D) : truE (.own (.lst ds)) = some (!ds.isEmpty) := rfl
@[simp] theorem addE_ (i j : Int) : addE (.dat (.int i)) (.dat (.int j)) = some (.dat (.int (i + j))) := rfl
@[simp] theorem subE_ (i j : Int) : subE (.dat (.int i)) (.dat (.int j)) = some (.dat (.int (i - j))) := rfl
@[simp] theorem mulE_ (i j : Int) : mulE (.dat (.int i)) (.dat (.int j)) = if mulC i j = true then some (.dat (.int (i * j))) else none := rfl
@[simp] theorem divE_ (i j : Int) : divE (.dat (.int i)) (.dat (.int j)) = if divC i j = true then some (.dat (.int (i / j))) else none := rfl
@[simp] theorem modE_ (i j : Int) : modE (.dat (.int i)) (.dat (.int j)) = if modC i j = true then some (.dat (.int (i % j))) else none := rfl
@[simp] theorem powE_ (i j : Int) : powE (.dat (.int i)) (.dat (.int j)) = if powC i j = true then some (.dat (.int (i ^ j.toNat))) else none := rfl
@[simp] theorem negE_ (i : Int) : negE (.dat (.int i)) = some (.dat (.int (-i))) := rfl
@[simp] theorem ltE_ (i j : Int) : ltE (.dat (.int i)) (.dat (.int j)) = some (.dat (.bool (decide (i < j)))) := rfl
@[simp] theorem leE_ (i j : Int) : leE (.dat (.int i)) (.dat (.int j)) = some (.dat (.bool (decide (i ≤ j)))) := rfl
@[simp] theorem gtE_ (i j : Int) : gtE (.dat (.int i)) (.dat (.int j)) = some (.dat (.bool (decide (j < i)))) := rfl
@[simp] theorem geE_ (i j : Int) : geE (.dat (.int i)) (.dat (.int j)) = some (.dat (.bool (decide (j ≤ i)))) := rfl
@[simp] theorem notE_ (b : Bool) : notE (.dat (.bool b)) = some (.dat (.bool (!b))) := rfl
theorem eqE_ (x y : EV) : eqE x y = (asQ x).bind fun d => (asQ y).bind fun e => if (SeqAt.shaped d && SeqAt.shaped e) = true then some (.dat (.bool (PyData.eqv d e))) else none := rfl
theorem neE_ (x y : EV) : neE x y = (asQ x).bind fun d => (asQ y).bind fun e => if (SeqAt.shaped d && SeqAt.shaped e) = true then some (.dat (.bool (!PyData.eqv d e))) else none := rfl
@[simp] theorem shaped_int (i : Int) : SeqAt.shaped (.int i) = true := rfl
@[simp] theorem shaped_bool (i : Bool) : SeqAt.shaped (.bool i) = true := rfl
@[simp] theorem shaped_none : SeqAt.shaped .none = true := rfl
@[simp] theorem shaped_draw : SeqAt.shaped (.str "draw") = true := by decide +kernel
@[simp] theorem shaped_ours : SeqAt.shaped (.str "ours") = true := by decide +kernel
@[simp] theorem shaped_theirs : SeqAt.shaped (.str "theirs") = true := by decide +kernel
@[simp] theorem eqE_int (i j : Int) : eqE (.dat (.int i)) (.dat (.int j)) = some (.dat (.bool (i == j))) := rfl
@[simp] theorem eqE_str (i j : Str) (h1 : SeqAt.shaped (.str i) = true) (h2 : SeqAt.shaped (.str j) = true) : eqE (.dat (.str i)) (.dat (.str j)) = some (.dat (.bool (i == j))) := by
  rw [eqE_]
  simp only [asQ_dat, Option.bind_some, h1, h2, Bool.and_self, if_true, PyData.eqv]
@[simp] theorem neE_int (i j : Int) : neE (.dat (.int i)) (.dat (.int j)) = some (.dat (.bool (!(i == j)))) := rfl
@[simp] theorem neE_str (i j : Str) (h1 : SeqAt.shaped (.str i) = true) (h2 : SeqAt.shaped (.str j) = true) : neE (.dat (.str i)) (.dat (.str j)) = some (.dat (.bool (!(i == j)))) := by
  rw [neE_]
  simp only [asQ_dat, Option.bind_some, h1, h2, Bool.and_self, if_true, PyData.eqv]
@[simp] theorem ixE_list (ds : List D) (i : Int) : ixE (.dat (.list ds)) (.dat (.int i)) = (atI ds i).bind fun d => some (.dat d) := rfl
@[simp] theorem ixE_tuple (ds : List D) (i : Int) : ixE (.dat (.tuple ds)) (.dat (.int i)) = (atI ds i).bind fun d => some (.dat d) := rfl
@[simp] theorem ixE_own (ds : List D) (i : Int) : ixE (.own (.lst ds)) (.dat (.int i)) = (atI ds i).bind fun d => some (.dat d) := rfl
theorem atI_ofNat {α : Type} (ds : List α) (j : Nat) : atI ds (j : Int) = ds[j]? := by
  unfold atI ixN
  by_cases h : j < ds.length
  · rw [if_pos (by omega), if_pos (by omega)]
    simp
  · rw [if_pos (by omega), if_neg (by omega)]
    simp only [Option.bind_none]
    rw [List.getElem?_eq_none (by omega)]
@[simp] theorem atI_0 {α : Type} (a : α) (ds : List α) : atI (a :: ds) 0 = some a := atI_ofNat (a :: ds) 0
@[simp] theorem atI_1 {α : Type} (a b : α) (ds : List α) : atI (a :: b :: ds) 1 = some b := atI_ofNat (a :: b :: ds) 1
@[simp] theorem atI_2 {α : Type} (a b c : α) (ds : List α) : atI (a :: b :: c :: ds) 2 = some c := atI_ofNat (a :: b :: c :: ds) 2
@[simp] theorem lenE_ (ds : List D) : lenE [.dat (.list ds)] = some (.dat (.int ds.length)) := rfl
@[simp] theorem lenE_own (ds : List D) : lenE [.own (.lst ds)] = some (.dat (.int ds.length)) := rfl
@[simp] theorem lenE_tuple (ds : List D) : lenE [.dat (.tuple ds)] = some (.dat (.int ds.length)) := rfl
@[simp] theorem absE_ (i : Int) : absE [.dat (.int i)] = some (.dat (.int (if i < 0 then -i else i))) := rfl
@[simp] theorem maxE_ (i j : Int) : maxE [.dat (.int i), .dat (.int j)] = some (.dat (.int (if j > i then j else i))) := rfl
@[simp] theorem intE_int (i : Int) : intE [.dat (.int i)] = some (.dat (.int i)) := rfl
@[simp] theorem intE_bool (i : Bool) : intE [.dat (.bool i)] = some (.dat (.int (if i = true then 1 else 0))) := rfl
@[simp] theorem gcdE_ (i j : Int) : gcdE [.dat (.int i), .dat (.int j)] = some (.dat (.int ((Nat.gcd i.natAbs j.natAbs : Nat) : Int))) := rfl
@[simp] theorem tupE_ (es : List EV) : tupE es = (asDs es).bind fun ds => if ds.length ≤ 1000000 then some (.dat (.tuple ds)) else none := rfl
@[simp] theorem lstE_ (es : List EV) : lstE es = (asDs es).bind fun ds => if ds.length ≤ 1000000 then some (.lst ds) else none := rfl
@[simp] theorem listN_ (ds : List D) : listN [.dat (.list ds)] = some (.lst ds) := rfl
@[simp] theorem cl_ (M : List D → Option D) (fs : En → Option (List EV)) (env : En) : cl M fs env = (fs env).bind fun es => (asDs es).bind fun ds => (M ds).bind fun d => some (.dat d) := rfl
@[simp] theorem clN_ (M : List D → Option Ob) (fs : En → Option (List EV)) (env : En) : clN M fs env = (fs env).bind fun es => (asDs es).bind M := rfl
@[simp] theorem aK_ (n m : Nat) (fs gs : En → Option (List EV)) (env : En) : aK n m fs gs env = (fs env).bind fun xs => (gs env).bind fun ys => if xs.length = n ∧ ys.length = m then some (xs ++ ys) else none := rfl
theorem fz_ (f : En → Option Ob) (env : En) : fz f env = (f env).bind fun o => (frz o).bind fun d => some (.dat d) := by
  unfold fz
  cases f env with
  | none => rfl
  | some o => cases o <;> rfl
@[simp] theorem frz_lst (ds : List D) : frz (.lst ds) = some (.list ds) := rfl
@[simp] theorem skip_ (env : En) : skip env = some (.nx env) := rfl
@[simp] theorem seqS_ (f g : En → Option Out) (env : En) : seqS f g env = (f env).bind fun o => match o with | .nx e => g e | o => some o := rfl
@[simp] theorem setS_ (i : Nat) (f : En → Option EV) (env : En) : setS i f env = ((f env).bind asD).bind fun d => some (.nx (env.set i (some (.dat d)))) := rfl
@[simp] theorem setN_ (i : Nat) (f : En → Option Ob) (env : En) : setN i f env = (f env).bind fun o => some (.nx (env.set i (some (.own o)))) := rfl
@[simp] theorem unpS_ (p : Pat) (f : En → Option EV) (env : En) : unpS p f env = ((f env).bind asD).bind fun d => (p.bind d env).bind fun e => some (.nx e) := rfl
@[simp] theorem parS_ (i j : Nat) (fs : En → Option (List EV)) (env : En) : parS i j fs env = ((fs env).bind asDs).bind fun ds => match ds with | [d, d'] => some (.nx ((env.set i (some (.dat d))).set j (some (.dat d')))) | _ => none := rfl
@[simp] theorem ifS_ (t : En → Option Bool) (f g : En → Option Out) (env : En) : ifS t f g env = (t env).bind fun b => if b = true then f env else g env := rfl
@[simp] theorem retS_ (f : En → Option EV) (env : En) : retS f env = ((f env).bind asD).bind fun d => some (.rt d) := rfl
@[simp] theorem retN_ (f : En → Option Ob) (env : En) : retN f env = (f env).bind fun o => some (.rtN o) := rfl
@[simp] theorem retO_ (i : Nat) (env : En) : retO i env = match vr i env with | some (.own o) => some (.rtN o) | _ => none := rfl
@[simp] theorem retZ_ (env : En) : retZ env = some (.rt .none) := rfl
@[simp] theorem brkS_ (env : En) : brkS env = some (.bk env) := rfl
@[simp] theorem cntS_ (env : En) : cntS env = some (.ct env) := rfl
@[simp] theorem appS_ (i : Nat) (f : En → Option EV) (env : En) : appS i f env = match vr i env with
  | some (.own (.lst ds)) => ((f env).bind asD).bind fun d => if ds.length < 1000000 then some (.nx (env.set i (some (.own (.lst (ds ++ [d])))))) else none
  | _ => none := rfl
@[simp] theorem putS_ (i : Nat) (k f : En → Option EV) (env : En) : putS i k f env = ((f env).bind asD).bind fun d => match vr i env with
  | some (.own (.lst ds)) => ((k env).bind asI).bind fun z => (ixN ds.length z).bind fun j => some (.nx (env.set i (some (.own (.lst (ds.set j d))))))
  | _ => none := rfl
@[simp] theorem frzS_ (j : Nat) (s : En → Option Out) (env : En) : frzS j s env = match vr j env with
  | some (.own (.lst ds)) => s (env.set j (some (.dat (.list ds))))
  | _ => none := rfl
@[simp] theorem bind_nm (i : Nat) (d : D) (env : En) : (Pat.nm i).bind d env = some (env.set i (some (.dat d))) := by simp only [Pat.bind]
@[simp] theorem bind_tp (ps : Pats) (ds : List D) (env : En) : (Pat.tp ps).bind (.tuple ds) env = ps.bind ds env := by simp only [Pat.bind]
@[simp] theorem binds_nil (env : En) : Pats.nil.bind [] env = some env := by simp only [Pats.bind]
@[simp] theorem binds_cons (p : Pat) (ps : Pats) (d : D) (ds : List D) (env : En) : (Pats.cons p ps).bind (d :: ds) env = (p.bind d env).bind (ps.bind ds) := by simp only [Pats.bind]
@[simp] theorem itL_ (f : En → Option EV) (env : En) : itL f env = (f env).bind asDL := rfl
@[simp] theorem itT_ (f : En → Option EV) (env : En) : itT f env = (f env).bind asT := rfl
@[simp] theorem itA_ (o : List EV → Option (List D)) (f : En → Option (List EV)) (env : En) : itA o f env = (f env).bind o := rfl
theorem rg1E_eq (j : Int) : rg1E [.dat (.int j)] = if -(2 ^ 62) ≤ j ∧ j < 2 ^ 62 then some (upTo 0 j.toNat) else none := rfl
theorem rg2E_eq (i j : Int) : rg2E [.dat (.int i), .dat (.int j)] = if -(2 ^ 62) ≤ i ∧ i < 2 ^ 62 ∧ -(2 ^ 62) ≤ j ∧ j < 2 ^ 62 then some (upTo i (j - i).toNat) else none := rfl
theorem rg1c (n : Nat) (h : n < 1000000000) : -(2 ^ 62) ≤ (n : Int) ∧ (n : Int) < 2 ^ 62 := ⟨by omega, by omega⟩
theorem rg1_ (n : Nat) (h : n < 1000000000) : rg1E [.dat (.int n)] = some (upTo 0 n) := by
  rw [rg1E_eq, if_pos (rg1c n h), Int.toNat_natCast]
theorem upTo0 (n : Nat) : upTo 0 n = (List.range n).map fun (k : Nat) => PyData.int (k : Int) := by
  unfold upTo
  simp only [Int.zero_add]
theorem rg2_ (m n : Nat) (hm : m < 1000000000) (h : n < 1000000000) : rg2E [.dat (.int m), .dat (.int n)] = some (upTo m (n - m)) := by
  have e : ((n : Int) - (m : Int)).toNat = n - m := by omega
  rw [rg2E_eq, if_pos ⟨(rg1c m hm).1, (rg1c m hm).2, rg1c n h⟩, e]
theorem upToN (m n : Nat) : upTo m n = (List.range n).map fun (k : Nat) => PyData.int ((m + k : Nat) : Int) := by
  unfold upTo
  simp only [Int.natCast_add]
theorem enE_ (ds : List D) : enE [.dat (.list ds)] = some (enumD ds) := rfl
theorem zpE_ (ds es : List D) : zpE [.dat (.list ds), .dat (.list es)] = some (zipD ds es) := rfl

/-! ### loops and comprehensions over lists of things -/
section
variable {α : Type} {enc : α → D} {p : Pat} {b : En → Option Out} {t : En → Option Bool} {f : En → Option EV}
theorem for_wp {xs : List α} (Rel : List α → En → Prop) (Post : Out → Prop)
    (step : ∀ pre a post, xs = pre ++ a :: post → ∀ env, Rel pre env → ∃ env1, p.bind (enc a) env = some env1 ∧ ∃ o, b env1 = some o ∧ (match o with | .nx e => Rel (pre ++ [a]) e | .ct e => Rel (pre ++ [a]) e | .bk e => Post (.nx e) | .rt d => Post (.rt d) | .rtN o => Post (.rtN o)))
    (fin : ∀ env, Rel xs env → Post (.nx env)) {env : En} (h0 : Rel [] env) : ∃ o, forGo p b (xs.map enc) env = some o ∧ Post o := by
  have go : ∀ (post pre : List α) (env : En), xs = pre ++ post → Rel pre env → ∃ o, forGo p b (post.map enc) env = some o ∧ Post o := by
    intro post
    induction post with
    | nil =>
      intro pre env hx h
      rw [List.append_nil] at hx
      subst hx
      exact ⟨_, rfl, fin env h⟩
    | cons a post ih =>
      intro pre env hx h
      obtain ⟨env1, h1, o, h2, h3⟩ := step pre a post hx env h
      rw [List.map_cons]
      unfold forGo
      rw [h1, Option.bind_some, h2, Option.bind_some]
      have hx' : xs = (pre ++ [a]) ++ post := by rw [hx, List.append_assoc]; rfl
      cases o with
      | nx e => exact ih _ e hx' h3
      | ct e => exact ih _ e hx' h3
      | bk e => exact ⟨_, rfl, h3⟩
      | rt d => exact ⟨_, rfl, h3⟩
      | rtN o => exact ⟨_, rfl, h3⟩
  exact go xs [] env rfl h0
/-- a loop that runs through -/
theorem for_nx {xs : List α} (Rel : List α → En → Prop) (step : ∀ pre a post, xs = pre ++ a :: post → ∀ env, Rel pre env → ∃ env1, p.bind (enc a) env = some env1 ∧ ∃ e, b env1 = some (.nx e) ∧ Rel (pre ++ [a]) e)
    {env : En} (h0 : Rel [] env) : ∃ e, forGo p b (xs.map enc) env = some (.nx e) ∧ Rel xs e := by
  obtain ⟨o, h1, h2⟩ := for_wp (enc := enc) (p := p) (b := b) Rel (fun o => ∃ e, o = .nx e ∧ Rel xs e) (fun pre a post hx env h => by
    obtain ⟨env1, h1, e, h2, h3⟩ := step pre a post hx env h
    exact ⟨env1, h1, _, h2, h3⟩) (fun env h => ⟨env, rfl, h⟩) h0
  obtain ⟨e, rfl, h3⟩ := h2
  exact ⟨e, h1, h3⟩
theorem lc_map {env : En} {g : α → D} : ∀ {xs : List α}, (∀ a ∈ xs, ∃ e, p.bind (enc a) env = some e ∧ (f e).bind asD = some (g a)) → lcGo p tyes f env (xs.map enc) = some (xs.map g)
  | [], _ => rfl
  | a :: xs, h => by
    obtain ⟨e, h1, h2⟩ := h a List.mem_cons_self
    rw [List.map_cons]
    unfold lcGo
    rw [h1, Option.bind_some, tyes_, Option.bind_some, if_pos rfl, h2, Option.bind_some, lc_map fun b hb => h b (List.mem_cons_of_mem _ hb)]
    rfl
theorem lc_filter {env : En} {q : α → Bool} {g : α → D} : ∀ {xs : List α}, (∀ a ∈ xs, ∃ e, p.bind (enc a) env = some e ∧ t e = some (q a) ∧ (q a = true → (f e).bind asD = some (g a))) → lcGo p t f env (xs.map enc) = some ((xs.filter q).map g)
  | [], _ => rfl
  | a :: xs, h => by
    obtain ⟨e, h1, h2, h3⟩ := h a List.mem_cons_self
    rw [List.map_cons]
    unfold lcGo
    rw [h1, Option.bind_some, h2, Option.bind_some, lc_filter fun b hb => h b (List.mem_cons_of_mem _ hb)]
    cases e : q a with
    | true => rw [if_pos rfl, h3 e, List.filter_cons_of_pos e]; rfl
    | false => rw [if_neg Bool.false_ne_true, List.filter_cons_of_neg (by simp [e])]
theorem lcN_map {it : En → Option (List D)} {vs : List Nat} {env : En} {g : α → D} {xs : List α} (h0 : it env = some (xs.map enc)) (hl : xs.length ≤ 1000000) (h : ∀ a ∈ xs, ∃ e, p.bind (enc a) (wipeE env vs) = some e ∧ (f e).bind asD = some (g a)) :
    lcN it p tyes f vs env = some (.lst (xs.map g)) := by
  unfold lcN
  rw [h0, Option.bind_some, if_pos (by simpa using hl), lc_map h]
  rfl
theorem lcN_filter {it : En → Option (List D)} {vs : List Nat} {env : En} {q : α → Bool} {g : α → D} {xs : List α} (h0 : it env = some (xs.map enc)) (hl : xs.length ≤ 1000000) (h : ∀ a ∈ xs, ∃ e, p.bind (enc a) (wipeE env vs) = some e ∧ t e = some (q a) ∧ (q a = true → (f e).bind asD = some (g a))) :
    lcN it p t f vs env = some (.lst ((xs.filter q).map g)) := by
  unfold lcN
  rw [h0, Option.bind_some, if_pos (by simpa using hl), lc_filter h]
  rfl
end
end Od

set_option Elab.async false
set_option linter.all false
set_option maxRecDepth 100000
set_option autoImplicit false
set_option maxHeartbeats 4000000
namespace Od
open PySem PySem.Spec PyProof.Rows L2
def F_number : En → Option Out :=
  seqS (ifS (tb (e2 ltE (vr 1) (cs (.int 0)))) (parS 0 1 (ac (e1 negE (vr 0)) (ac (e1 negE (vr 1)) (a0)))) (skip)) (seqS (setS 2 (eA gcdE (ac (vr 0) (ac (vr 1) (a0))))) (retS (eA tupE (ac (e2 divE (vr 0) (vr 2)) (ac (e2 divE (vr 1) (vr 2)) (a0))))))
def R_number : List D → Option D := fnD 2 3 F_number
def F_plus : En → Option Out :=
  retS (cl R_number (ac (e2 addE (e2 mulE (e2 ixE (vr 0) (cs (.int 0))) (e2 ixE (vr 1) (cs (.int 1)))) (e2 mulE (e2 ixE (vr 1) (cs (.int 0))) (e2 ixE (vr 0) (cs (.int 1))))) (ac (e2 mulE (e2 ixE (vr 0) (cs (.int 1))) (e2 ixE (vr 1) (cs (.int 1)))) (a0))))
def R_plus : List D → Option D := fnD 2 2 F_plus
def F_times : En → Option Out :=
  retS (cl R_number (ac (e2 mulE (e2 ixE (vr 0) (cs (.int 0))) (e2 ixE (vr 1) (cs (.int 0)))) (ac (e2 mulE (e2 ixE (vr 0) (cs (.int 1))) (e2 ixE (vr 1) (cs (.int 1)))) (a0))))
def R_times : List D → Option D := fnD 2 2 F_times
def L_total_1 : En → Option Out :=
  setS 1 (cl R_plus (ac (vr 1) (ac (vr 2) (a0))))
def F_total : En → Option Out :=
  seqS (setS 1 (cs (.tuple [(.int 0), (.int 1)]))) (seqS (forS (itL (vr 0)) (.nm 2) (L_total_1)) (retS (vr 1)))
def R_total : List D → Option D := fnD 1 3 F_total
def L_first_marks_1 : En → Option Out :=
  seqS (ktS 11 (ac (vr 10) (ac (eA maxE (ac (vr 7) (ac (e2 ixE (e2 ixE (vr 0) (vr 10)) (cs (.int 0))) (a0)))) (a0)))) (dpV 5 11 (cl R_plus (ac (gtV 5 11 (cs (.tuple [(.int 0), (.int 1)]))) (ac (cl R_times (ac (vr 8) (ac (vr 9) (a0)))) (a0)))))
def L_first_marks_2 : En → Option Out :=
  forS (itL (e2 ixE (e2 ixE (vr 0) (vr 6)) (cs (.int 2)))) (.tp (.cons (.nm 9) (.cons (.nm 10) .nil))) (L_first_marks_1)
def L_first_marks_3 : En → Option Out :=
  seqS (setN 5 (fun _ => some (.dt []))) (seqS (forP 3 (.tp (.cons (.tp (.cons (.nm 6) (.cons (.nm 7) .nil))) (.cons (.nm 8) .nil))) (L_first_marks_2)) (movS 3 5))
def F_first_marks : En → Option Out :=
  seqS (setN 3 (dN1 (ac (vr 1) (ac (e2 ixE (e2 ixE (vr 0) (vr 1)) (cs (.int 0))) (a0))) (cs (.tuple [(.int 1), (.int 1)])))) (seqS (forS (itA rg1E (ac (vr 2) (a0))) (.nm 4) (L_first_marks_3)) (frnS 3 (lcN (itA rg1E (ac (cs (.int 10)) (a0))) (.nm 12) (tyes) (cl R_total (ac (fz (lcN (itP 3) (.tp (.cons (.tp (.cons (.nm 4) (.cons (.nm 7) .nil))) (.cons (.nm 8) .nil))) (tb (e2 eqE (vr 7) (vr 12))) (vr 8) [4, 7, 8])) (a0))) [12])))
def R_first_marks : List D → Option Ob := fnN 3 13 F_first_marks
def L_law_draws_1 : En → Option Out :=
  seqS (setS 6 (cs (.int 0))) (seqS (ifS (tb (e2 gtE (eA lenE (ac (vr 2) (a0))) (cs (.int 0)))) (seqS (setS 7 (e2 modE (eA intE (ac (vr 5) (a0))) (eA lenE (ac (vr 2) (a0))))) (ifS (tb (e2 geE (e2 ixE (vr 2) (vr 7)) (e2 powE (cs (.int 10)) (cs (.int 18))))) (seqS (setS 6 (e2 modE (eA intE (ac (e2 ixE (vr 2) (vr 7)) (a0))) (cs (.int 1000)))) (putS 2 (vr 7) (e2 divE (e2 ixE (vr 2) (vr 7)) (cs (.int 1000))))) (seqS (setS 8 (e2 modE (eA intE (ac (e2 addE (e2 addE (e2 mulE (e2 ixE (vr 2) (vr 7)) (cs (.int 48271))) (e2 mulE (vr 5) (cs (.int 69621)))) (cs (.int 11))) (a0))) (cs (.int 2147483647)))) (seqS (setS 8 (e2 modE (eA intE (ac (e2 addE (e2 mulE (vr 8) (cs (.int 16807))) (vr 7)) (a0))) (cs (.int 2147483629)))) (setS 6 (e2 modE (eA intE (ac (e2 divE (vr 8) (cs (.int 7))) (a0))) (cs (.int 1000)))))))) (skip)) (appS 4 (vr 6)))
def F_law_draws : En → Option Out :=
  seqS (setN 2 (lcN (itL (vr 0)) (.nm 3) (tyes) (vr 3) [3])) (seqS (setN 4 (nA lstE (a0))) (seqS (forS (itA rg1E (ac (vr 1) (a0))) (.nm 5) (L_law_draws_1)) (retO 4)))
def R_law_draws : List D → Option D := fnD 2 9 F_law_draws
def L_law_gcd_1 : En → Option Out :=
  seqS (ifS (tb (e2 eqE (vr 1) (cs (.int 0)))) (brkS) (skip)) (seqS (setS 3 (e2 modE (eA intE (ac (vr 0) (a0))) (vr 1))) (seqS (setS 0 (vr 1)) (setS 1 (vr 3))))
def F_law_gcd : En → Option Out :=
  seqS (setS 0 (eA absE (ac (vr 0) (a0)))) (seqS (setS 1 (eA absE (ac (vr 1) (a0)))) (seqS (forS (itA rg1E (ac (cs (.int 4000)) (a0))) (.nm 2) (L_law_gcd_1)) (retS (vr 0))))
def R_law_gcd : List D → Option D := fnD 2 4 F_law_gcd
def F_law_number : En → Option Out :=
  seqS (ifS (tb (e2 ltE (vr 1) (cs (.int 0)))) (seqS (setS 0 (e1 negE (vr 0))) (setS 1 (e1 negE (vr 1)))) (skip)) (seqS (setS 2 (cl R_law_gcd (ac (vr 0) (ac (vr 1) (a0))))) (retS (eA tupE (ac (e2 divE (vr 0) (vr 2)) (ac (e2 divE (vr 1) (vr 2)) (a0))))))
def R_law_number : List D → Option D := fnD 2 3 F_law_number
def F_law_plus : En → Option Out :=
  retS (cl R_law_number (ac (e2 addE (e2 mulE (e2 ixE (vr 0) (cs (.int 0))) (e2 ixE (vr 1) (cs (.int 1)))) (e2 mulE (e2 ixE (vr 1) (cs (.int 0))) (e2 ixE (vr 0) (cs (.int 1))))) (ac (e2 mulE (e2 ixE (vr 0) (cs (.int 1))) (e2 ixE (vr 1) (cs (.int 1)))) (a0))))
def R_law_plus : List D → Option D := fnD 2 2 F_law_plus
def F_law_times : En → Option Out :=
  retS (cl R_law_number (ac (e2 mulE (e2 ixE (vr 0) (cs (.int 0))) (e2 ixE (vr 1) (cs (.int 0)))) (ac (e2 mulE (e2 ixE (vr 0) (cs (.int 1))) (e2 ixE (vr 1) (cs (.int 1)))) (a0))))
def R_law_times : List D → Option D := fnD 2 2 F_law_times
def L_law_total_1 : En → Option Out :=
  setS 1 (cl R_law_plus (ac (vr 1) (ac (vr 2) (a0))))
def F_law_total : En → Option Out :=
  seqS (setS 1 (eA tupE (ac (cs (.int 0)) (ac (cs (.int 1)) (a0))))) (seqS (forS (itL (vr 0)) (.nm 2) (L_law_total_1)) (retS (vr 1)))
def R_law_total : List D → Option D := fnD 1 3 F_law_total
def L_law_is_number_1 : En → Option Out :=
  ifS (tor (tn (tr (e1 (isiE "int") (vr 1)))) (tr (e1 (isiE "bool") (vr 1)))) (retS (cs (.bool false))) (skip)
def F_law_is_number : En → Option Out :=
  seqS (ifS (tor (tn (tr (e1 (isiE "tuple") (vr 0)))) (tb (e2 neE (eA lenE (ac (vr 0) (a0))) (cs (.int 2))))) (retS (cs (.bool false))) (skip)) (seqS (forS (itT (vr 0)) (.nm 1) (L_law_is_number_1)) (retS (andV (e2 geE (e2 ixE (vr 0) (cs (.int 1))) (cs (.int 1))) (e2 eqE (cl R_law_gcd (ac (e2 ixE (vr 0) (cs (.int 0))) (ac (e2 ixE (vr 0) (cs (.int 1))) (a0)))) (cs (.int 1))))))
def R_law_is_number : List D → Option D := fnD 1 2 F_law_is_number
def F_law_is_numbers : En → Option Out :=
  retS (andV (e1 (isiE "list") (vr 0)) (eA allE (ac (fz (lcN (itL (vr 0)) (.nm 1) (tyes) (cl R_law_is_number (ac (vr 1) (a0))) [1])) (a0))))
def R_law_is_numbers : List D → Option D := fnD 1 2 F_law_is_numbers
def L_law_chain_1 : En → Option Out :=
  seqS (setS 11 (e2 subE (vr 5) (e2 modE (eA intE (ac (vr 5) (a0))) (vr 3)))) (appS 10 (eA tupE (ac (cl R_law_number (ac (e2 ixE (vr 8) (vr 9)) (ac (eA sumE (ac (vr 8) (a0))) (a0)))) (ac (e2 addE (vr 11) (e2 modE (eA intE (ac (e2 ixE (vr 6) (e2 addE (cs (.int 3)) (vr 9))) (a0))) (e2 subE (vr 2) (vr 11)))) (a0)))))
def L_law_chain_2 : En → Option Out :=
  seqS (setS 6 (fz (cutN (vr 0) (pS (e2 addE (cs (.int 2)) (e2 mulE (cs (.int 9)) (vr 5)))) (pS (e2 addE (cs (.int 11)) (e2 mulE (cs (.int 9)) (vr 5))))))) (seqS (setS 7 (e2 ixE (fz (nA lstE (ac (cs (.int 1)) (ac (cs (.int 2)) (ac (cs (.int 3)) (ac (cs (.int 1)) (ac (cs (.int 2)) (ac (cs (.int 6)) (a0))))))))) (e2 modE (eA intE (ac (e2 ixE (vr 6) (cs (.int 0))) (a0))) (cs (.int 6))))) (seqS (setS 8 (fz (lcN (itA rg1E (ac (vr 7) (a0))) (.nm 9) (tyes) (e2 addE (cs (.int 1)) (e2 modE (eA intE (ac (e2 divE (e2 ixE (vr 6) (e2 addE (cs (.int 1)) (e2 divE (vr 9) (cs (.int 2))))) (e2 addE (cs (.int 1)) (e2 mulE (cs (.int 9)) (eA intE (ac (e2 modE (vr 9) (cs (.int 2))) (a0)))))) (a0))) (cs (.int 5)))) [9]))) (seqS (setN 10 (nA lstE (a0))) (seqS (forS (itA rg1E (ac (vr 7) (a0))) (.nm 9) (L_law_chain_1)) (frzS 10 (appS 4 (eA tupE (ac (e2 modE (eA intE (ac (e2 ixE (vr 6) (cs (.int 2))) (a0))) (cs (.int 10))) (ac (cs (.str "draw")) (ac (vr 10) (a0)))))))))))
def F_law_chain : En → Option Out :=
  seqS (setS 2 (e2 addE (cs (.int 1)) (e2 modE (eA intE (ac (e2 ixE (vr 0) (cs (.int 0))) (a0))) (vr 1)))) (seqS (setS 3 (e2 ixE (fz (nA lstE (ac (vr 2) (ac (cs (.int 1)) (ac (cs (.int 2)) (ac (cs (.int 3)) (a0))))))) (e2 modE (eA intE (ac (e2 ixE (vr 0) (cs (.int 1))) (a0))) (cs (.int 4))))) (seqS (setN 4 (nA lstE (a0))) (seqS (forS (itA rg1E (ac (vr 2) (a0))) (.nm 5) (L_law_chain_2)) (retO 4))))
def R_law_chain : List D → Option D := fnD 2 12 F_law_chain
def L_law_below_1 : En → Option Out :=
  seqS (setS 11 (eA tupE (ac (cs (.int 0)) (ac (cs (.int 1)) (a0))))) (seqS (ifS (tb (e2 leE (vr 8) (vr 2))) (setS 11 (cl R_law_total (ac (fz (lcN (itL (vr 10)) (.tp (.cons (.nm 12) (.cons (.nm 13) .nil))) (tyes) (cl R_law_times (ac (vr 12) (ac (e2 ixE (vr 4) (vr 13)) (a0)))) [12, 13])) (a0)))) (skip)) (appS 7 (vr 11)))
def L_law_below_2 : En → Option Out :=
  seqS (setN 7 (nA lstE (a0))) (seqS (forS (itL (vr 0)) (.tp (.cons (.nm 8) (.cons (.nm 9) (.cons (.nm 10) .nil)))) (L_law_below_1)) (frzS 7 (setS 4 (vr 7))))
def F_law_below : En → Option Out :=
  seqS (setS 4 (fz (lcN (itA rg1E (ac (eA lenE (ac (vr 0) (a0))) (a0))) (.nm 5) (tyes) (eA tupE (ac (eA intE (ac (e2 leE (e2 ixE (e2 ixE (vr 0) (vr 5)) (cs (.int 0))) (vr 2)) (a0))) (ac (cs (.int 1)) (a0)))) [5]))) (seqS (forS (itA rg1E (ac (vr 3) (a0))) (.nm 6) (L_law_below_2)) (retS (e2 ixE (vr 4) (vr 1))))
def R_law_below : List D → Option D := fnD 4 14 F_law_below
def L_law_1 : En → Option Out :=
  seqS (setN 11 (clN R_first_marks (aK 2 1 (ac (vr 2) (ac (vr 3) (a0))) (ac (vr 4) (a0))))) (seqS (ifS (tor (tn (tr (clB R_law_is_numbers (ac (vr 11) (a0))))) (tb (e2 neE (vr 11) (vr 6)))) (retS (cs (.bool false))) (skip)) (appS 11 (eA tupE (ac (cs (.int 0)) (ac (cs (.int 1)) (a0))))))
def L_law_2 : En → Option Out :=
  seqS (setS 9 (cl R_law_below (ac (vr 2) (ac (vr 3) (ac (vr 8) (ac (vr 4) (a0))))))) (seqS (appS 6 (cl R_law_plus (ac (vr 9) (ac (eA tupE (ac (e1 negE (e2 ixE (vr 7) (cs (.int 0)))) (ac (e2 ixE (vr 7) (cs (.int 1))) (a0)))) (a0))))) (setS 7 (vr 9)))
def F_law : En → Option Out :=
  seqS (setS 1 (cl R_law_draws (ac (vr 0) (ac (cs (.int 90)) (a0))))) (seqS (setS 2 (cl R_law_chain (ac (vr 1) (ac (cs (.int 8)) (a0))))) (seqS (setS 3 (e2 modE (eA intE (ac (e2 ixE (vr 1) (cs (.int 80))) (a0))) (eA lenE (ac (vr 2) (a0))))) (seqS (setS 4 (e2 ixE (fz (nA lstE (ac (e2 modE (eA intE (ac (e2 ixE (vr 1) (cs (.int 81))) (a0))) (cs (.int 6))) (ac (e2 modE (eA intE (ac (e2 ixE (vr 1) (cs (.int 81))) (a0))) (cs (.int 31))) (a0))))) (e2 modE (eA intE (ac (e2 ixE (vr 1) (cs (.int 82))) (a0))) (cs (.int 2))))) (seqS (setS 5 (eA reprE (ac (vr 2) (a0)))) (seqS (setN 6 (nA lstE (a0))) (seqS (setS 7 (eA tupE (ac (cs (.int 0)) (ac (cs (.int 1)) (a0))))) (seqS (forS (itA rg1E (ac (cs (.int 10)) (a0))) (.nm 8) (L_law_2)) (seqS (forS (itA rg1E (ac (cs (.int 2)) (a0))) (.nm 10) (L_law_1)) (retS (e2 eqE (eA reprE (ac (vr 2) (a0))) (vr 5)))))))))))
def R_law : List D → Option D := fnD 1 12 F_law
end Od

set_option Elab.async false
set_option linter.all false
set_option autoImplicit false
set_option maxRecDepth 100000
/-! Nm: the program's numbers are rational numbers. -/
namespace Od
open PySem PySem.Spec PyProof.Rows L2

def encR (r : Rat) : D := .tuple [.int r.num, .int (r.den : Int)]
theorem encR_inj {a b : Rat} (h : encR a = encR b) : a = b := by
  unfold encR at h
  injection h with h
  injection h with h1 h
  injection h with h2 _
  injection h1 with h1
  injection h2 with h2
  exact Rat.ext h1 (by omega)
theorem lt_of_log2 {n k : Nat} (h0 : 0 < k) (h : n < 2 ^ k) : n.log2 < k := by
  rcases Nat.eq_zero_or_pos n with e | e
  · subst e; simpa using h0
  · exact (Nat.log2_lt (by omega)).mpr h
theorem mulC_of {i j : Int} {a b : Nat} (ha : i.natAbs < 2 ^ a) (hb : j.natAbs < 2 ^ b) (h0 : 0 < a) (h1 : 0 < b) (h : a + b ≤ 1000000) : mulC i j = true := by
  have x := lt_of_log2 h0 ha
  have y := lt_of_log2 h1 hb
  unfold mulC
  rw [Bool.or_eq_true, Bool.or_eq_true]
  exact .inl (.inl (decide_eq_true (by omega)))
theorem divC_of {i j : Int} {b : Nat} (h : 0 < j) (hb : j.natAbs < 2 ^ b) (h0 : 0 < b) (h9 : b ≤ 9000) : divC i j = true := by
  have y := lt_of_log2 h0 hb
  unfold divC
  rw [Bool.and_eq_true]
  exact ⟨decide_eq_true h, decide_eq_true (by omega)⟩
/-- both parts below 2 ^ k -/
def Bd (k : Nat) (r : Rat) : Prop := r.num.natAbs < 2 ^ k ∧ r.den < 2 ^ k
theorem Bd.mono {j k : Nat} {r : Rat} (h : Bd j r) (hk : j ≤ k) : Bd k r :=
  ⟨Nat.lt_of_lt_of_le h.1 (Nat.pow_le_pow_right (by decide) hk), Nat.lt_of_lt_of_le h.2 (Nat.pow_le_pow_right (by decide) hk)⟩

/-- number(n, d), d above 0 -/
theorem R_number_pos {n : Int} {d : Nat} (hd : d ≠ 0) (hb : d < 2 ^ 9000) : R_number [.int n, .int (d : Int)] = some (encR (mkRat n d)) := by
  have g0 : 0 < n.natAbs.gcd d := Nat.gcd_pos_of_pos_right _ (by omega)
  have gle : n.natAbs.gcd d ≤ d := Nat.gcd_le_right _ (by omega)
  have gd : n.natAbs.gcd d < 2 ^ 9000 := Nat.lt_of_le_of_lt gle hb
  have c : ∀ i : Int, divC i ((n.natAbs.gcd d : Nat) : Int) = true := fun i => divC_of (b := 9000) (by omega) (by simpa using gd) (by decide) (by decide)
  have q1 : (mkRat n d).num = n / (n.natAbs.gcd d : Nat) := by rw [← Rat.normalize_eq_mkRat hd, Rat.num_normalize]
  have q2 : (((mkRat n d).den : Nat) : Int) = (d : Int) / (n.natAbs.gcd d : Nat) := by rw [← Rat.normalize_eq_mkRat hd, Rat.den_normalize, Int.natCast_ediv]
  have neg : decide ((d : Int) < 0) = false := decide_eq_false (by omega)
  simp [R_number, fnD, F_number, startE, neg, c, q1, q2, encR]
theorem R_number_int {n d : Int} (hd : 0 < d) (hb : d.natAbs < 2 ^ 9000) : R_number [.int n, .int d] = some (encR (mkRat n d.toNat)) := by
  have e : ((d.toNat : Nat) : Int) = d := Int.toNat_of_nonneg (by omega)
  have := R_number_pos (n := n) (d := d.toNat) (by omega) (by have : d.toNat = d.natAbs := by omega
                                                              rw [this]; exact hb)
  rw [e] at this
  exact this
theorem natAbs_lt {k : Nat} (r : Rat) (h : r.den < 2 ^ k) : ((r.den : Nat) : Int).natAbs < 2 ^ k := by rw [Int.natAbs_natCast]; exact h
theorem den_pos (r : Rat) : 0 < r.den := r.den_pos
theorem mul_lt {a b j k : Nat} (h1 : a < 2 ^ j) (h2 : b < 2 ^ k) : a * b < 2 ^ (j + k) := by
  rw [Nat.pow_add]
  exact Nat.mul_lt_mul'' h1 h2
section
variable {a b : Rat}
theorem R_plus_ok (ha : Bd 4000 a) (hb : Bd 4000 b) : R_plus [encR a, encR b] = some (encR (a + b)) := by
  have m1 : mulC a.num (b.den : Int) = true := mulC_of ha.1 (natAbs_lt b hb.2) (by decide) (by decide) (by decide)
  have m2 : mulC b.num (a.den : Int) = true := mulC_of hb.1 (natAbs_lt a ha.2) (by decide) (by decide) (by decide)
  have m3 : mulC (a.den : Int) (b.den : Int) = true := mulC_of (natAbs_lt a ha.2) (natAbs_lt b hb.2) (by decide) (by decide) (by decide)
  have p : 0 < a.den * b.den := Nat.mul_pos a.den_pos b.den_pos
  have n1 := R_number_pos (n := a.num * b.den + b.num * a.den) (d := a.den * b.den) (by omega) (Nat.lt_of_lt_of_le (mul_lt ha.2 hb.2) (Nat.pow_le_pow_right (by decide) (by decide)))
  rw [Int.natCast_mul] at n1
  rw [Rat.add_def']
  simp [R_plus, fnD, F_plus, startE, encR, m1, m2, m3, n1]
theorem R_times_ok (ha : Bd 4000 a) (hb : Bd 4000 b) : R_times [encR a, encR b] = some (encR (a * b)) := by
  have m1 : mulC a.num b.num = true := mulC_of ha.1 hb.1 (by decide) (by decide) (by decide)
  have m3 : mulC (a.den : Int) (b.den : Int) = true := mulC_of (natAbs_lt a ha.2) (natAbs_lt b hb.2) (by decide) (by decide) (by decide)
  have p : 0 < a.den * b.den := Nat.mul_pos a.den_pos b.den_pos
  have n1 := R_number_pos (n := a.num * b.num) (d := a.den * b.den) (by omega) (Nat.lt_of_lt_of_le (mul_lt ha.2 hb.2) (Nat.pow_le_pow_right (by decide) (by decide)))
  rw [Int.natCast_mul] at n1
  rw [Rat.mul_def']
  simp [R_times, fnD, F_times, startE, encR, m1, m3, n1]
theorem bd_zero : Bd 4000 0 := ⟨by decide +kernel, by decide +kernel⟩
theorem R_total_ok {xs : List Rat} (h : ∀ pre a post, xs = pre ++ a :: post → Bd 4000 pre.sum ∧ Bd 4000 a) : R_total [.list (xs.map encR)] = some (encR xs.sum) := by
  obtain ⟨e, h1, x, h2⟩ := for_nx (enc := encR) (p := .nm 2) (b := L_total_1) (xs := xs) (fun pre env => ∃ x, env = [some (.dat (.list (xs.map encR))), some (.dat (encR pre.sum)), x]) (fun pre a post hx env ⟨x, he⟩ => by
    obtain ⟨b1, b2⟩ := h pre a post hx
    subst he
    refine ⟨_, rfl, _, ?_, ⟨some (.dat (encR a)), rfl⟩⟩
    have s : (pre ++ [a]).sum = pre.sum + a := by simp [Rat.add_zero]
    rw [s]
    simp [L_total_1, R_plus_ok b1 b2, Rat.add_zero]) (env := [some (.dat (.list (xs.map encR))), some (.dat (encR 0)), none]) ⟨none, by simp⟩
  have z : encR 0 = .tuple [.int 0, .int 1] := rfl
  rw [z] at h1
  simp [R_total, fnD, F_total, startE, forS, h1, h2]
end
/-! ### the law's own numbers -/
/-- Fibonacci's numbers -/
def fibP : Nat → Nat × Nat | 0 => (0, 1) | n + 1 => ((fibP n).2, (fibP n).1 + (fibP n).2)
def fib (n : Nat) : Nat := (fibP n).1
theorem fib2 (n : Nat) : fib (n + 2) = fib n + fib (n + 1) := rfl
theorem fib_pos : ∀ n, 0 < fib (n + 1)
  | 0 => by decide
  | n + 1 => by rw [fib2]; have := fib_pos n; omega
theorem fib13 (n : Nat) : 256 * fib n ≤ fib (n + 13) := by
  have e0 : fib (n + 2) = fib n + fib (n + 1) := fib2 n
  have e1 : fib (n + 3) = fib (n + 1) + fib (n + 2) := fib2 (n + 1)
  have e2 : fib (n + 4) = fib (n + 2) + fib (n + 3) := fib2 (n + 2)
  have e3 : fib (n + 5) = fib (n + 3) + fib (n + 4) := fib2 (n + 3)
  have e4 : fib (n + 6) = fib (n + 4) + fib (n + 5) := fib2 (n + 4)
  have e5 : fib (n + 7) = fib (n + 5) + fib (n + 6) := fib2 (n + 5)
  have e6 : fib (n + 8) = fib (n + 6) + fib (n + 7) := fib2 (n + 6)
  have e7 : fib (n + 9) = fib (n + 7) + fib (n + 8) := fib2 (n + 7)
  have e8 : fib (n + 10) = fib (n + 8) + fib (n + 9) := fib2 (n + 8)
  have e9 : fib (n + 11) = fib (n + 9) + fib (n + 10) := fib2 (n + 9)
  have e10 : fib (n + 12) = fib (n + 10) + fib (n + 11) := fib2 (n + 10)
  have e11 : fib (n + 13) = fib (n + 11) + fib (n + 12) := fib2 (n + 11)
  have m : fib n ≤ fib (n + 1) := by
    cases n with
    | zero => decide
    | succ n => rw [fib2 n]; exact Nat.le_add_left _ _
  omega
theorem fib_pow : ∀ k, 256 ^ k ≤ fib (13 * k + 1)
  | 0 => by decide
  | k + 1 => by
    have h := fib_pow k
    have g := fib13 (13 * k + 1)
    rw [Nat.pow_succ, show 13 * (k + 1) + 1 = 13 * k + 1 + 13 by omega]
    omega
theorem fib_mono : ∀ m n, fib m ≤ fib (m + n)
  | _, 0 => Nat.le_refl _
  | m, n + 1 => by
    have h := fib_mono m n
    have g : fib (m + n) ≤ fib (m + n + 1) := by
      cases m + n with
      | zero => decide
      | succ n => rw [fib2 n]; exact Nat.le_add_left _ _
    exact Nat.le_trans h g
theorem fib_big : 2 ^ 2400 ≤ fib 3999 := by
  have h := fib_pow 300
  have e : (256 : Nat) ^ 300 = 2 ^ 2400 := by rw [show (256 : Nat) = 2 ^ 8 by decide, ← Nat.pow_mul]
  rw [e] at h
  exact Nat.le_trans h (fib_mono 3901 98)
/-- the greatest common divisor is found in so many steps -/
def Ends' : Nat → Nat → Nat → Prop | 0, _, y => y = 0 | n + 1, x, y => y = 0 ∨ Ends' n y (x % y)
theorem ends_fib : ∀ n, (∀ x y, y < fib n → y < x → Ends' n x y) ∧ ∀ x y, y < fib (n + 1) → y < x → Ends' (n + 1) x y
  | 0 => ⟨fun x y h => absurd h (Nat.not_lt_zero _), fun x y h _ => .inl (by have : fib (0 + 1) = 1 := rfl; omega)⟩
  | n + 1 => by
    obtain ⟨h1, h2⟩ := ends_fib n
    refine ⟨h2, fun x y h hx => ?_⟩
    by_cases hy : y = 0
    · exact .inl hy
    · have hr : x % y < y := Nat.mod_lt _ (by omega)
      refine .inr ?_
      by_cases hf : x % y < fib (n + 1)
      · exact h2 y (x % y) hf hr
      · have hp := fib_pos n
        have hr2 : y % (x % y) < x % y := Nat.mod_lt _ (by omega)
        have hs : y % (x % y) + x % y ≤ y := by
          have h3 := Nat.mod_add_div y (x % y)
          have h4 : 1 ≤ y / (x % y) := (Nat.one_le_div_iff (by omega)).mpr (by omega)
          have h5 : (x % y) * 1 ≤ (x % y) * (y / (x % y)) := Nat.mul_le_mul_left _ h4
          omega
        have e : fib (n + 1 + 1) = fib n + fib (n + 1) := fib2 n
        exact .inr (h1 (x % y) (y % (x % y)) (by omega) hr2)
theorem R_law_gcd_ok {a b : Int} (hb : b.natAbs < 2 ^ 2400) : R_law_gcd [.int a, .int b] = some (.int ((Nat.gcd a.natAbs b.natAbs : Nat) : Int)) := by
  have abs1 : ∀ i : Int, (if i < 0 then -i else i) = ((i.natAbs : Nat) : Int) := fun i => by
    by_cases h : i < 0
    · rw [if_pos h]; omega
    · rw [if_neg h]; omega
  have e0 : Ends' 4000 a.natAbs b.natAbs := by
    by_cases hy : b.natAbs = 0
    · exact .inl hy
    · have hr : a.natAbs % b.natAbs < b.natAbs := Nat.mod_lt _ (by omega)
      exact .inr ((ends_fib 3999).1 _ _ (Nat.lt_of_lt_of_le (Nat.lt_trans hr hb) fib_big) hr)
  obtain ⟨o, h1, h2⟩ := for_wp (enc := fun k : Nat => PyData.int (k : Int)) (p := .nm 2) (b := L_law_gcd_1) (xs := List.range 4000)
    (fun pre env => ∃ (x y m : Nat) (u v : Option EV), env = [some (.dat (.int (x : Int))), some (.dat (.int (y : Int))), u, v] ∧ Nat.gcd x y = Nat.gcd a.natAbs b.natAbs ∧ m + pre.length = 4000 ∧ Ends' m x y)
    (fun o => ∃ u v w, o = .nx [some (.dat (.int ((Nat.gcd a.natAbs b.natAbs : Nat) : Int))), u, v, w])
    (fun pre k post hx env ⟨x, y, m, u, v, he, hg, hm, hen⟩ => by
      subst he
      have hl := congrArg List.length hx
      rw [List.length_range, List.length_append, List.length_cons] at hl
      refine ⟨_, rfl, ?_⟩
      by_cases hy : y = 0
      · subst hy
        rw [Nat.gcd_zero_right] at hg
        refine ⟨.bk [some (.dat (.int (x : Int))), some (.dat (.int ((0 : Nat) : Int))), some (.dat (.int (k : Int))), v], by simp [L_law_gcd_1], ⟨_, _, _, by rw [hg]⟩⟩
      · have hy' : ((y : Int) == 0) = false := by simp [hy]
        have hmo : modC (x : Int) (y : Int) = true := by unfold modC; exact decide_eq_true (by omega)
        obtain ⟨m', rfl⟩ : ∃ m', m = m' + 1 := ⟨m - 1, by omega⟩
        have hen' : Ends' m' y (x % y) := by
          rcases hen with h | h
          · exact absurd h hy
          · exact h
        refine ⟨.nx [some (.dat (.int (y : Int))), some (.dat (.int ((x % y : Nat) : Int))), some (.dat (.int (k : Int))), some (.dat (.int ((x % y : Nat) : Int)))], ?_, ⟨y, x % y, m', _, _, rfl, ?_, ?_, hen'⟩⟩
        · simp [L_law_gcd_1, hy', hmo]
        · rw [← hg, Nat.gcd_comm x y, Nat.gcd_rec y x, Nat.gcd_comm]
        · rw [List.length_append, List.length_singleton]; omega)
    (fun env ⟨x, y, m, u, v, he, hg, hm, hen⟩ => by
      rw [List.length_range] at hm
      have m0 : m = 0 := by omega
      subst m0
      have hy : y = 0 := hen
      subst hy
      rw [Nat.gcd_zero_right] at hg
      subst he
      exact ⟨_, _, _, by rw [hg]⟩)
    (env := [some (.dat (.int (a.natAbs : Int))), some (.dat (.int (b.natAbs : Int))), none, none]) ⟨a.natAbs, b.natAbs, 4000, _, _, rfl, rfl, rfl, e0⟩
  obtain ⟨u, v, w, rfl⟩ := h2
  have r : rg1E [.dat (.int 4000)] = some ((List.range 4000).map fun k : Nat => PyData.int (k : Int)) := by
    rw [← upTo0]
    exact rg1_ 4000 (by decide)
  have l : startE 4 [PyData.int a, .int b] = [some (.dat (.int a)), some (.dat (.int b)), none, none] := rfl
  unfold R_law_gcd fnD F_law_gcd
  simp only [l, List.length_cons, List.length_nil, if_true, seqS_, setS_, eA_, ac_, a0_, vr_, List.getElem?_cons_zero, List.getElem?_cons_succ, Option.join_some, Option.bind_some, absE_, abs1, asD_dat, List.set_cons_zero, List.set_cons_succ, forS, itA_, cs_, r, h1, retS_]
theorem R_law_number_pos {n : Int} {d : Nat} (hd : d ≠ 0) (hb : d < 2 ^ 2400) : R_law_number [.int n, .int (d : Int)] = some (encR (mkRat n d)) := by
  have g0 : 0 < n.natAbs.gcd d := Nat.gcd_pos_of_pos_right _ (by omega)
  have gle : n.natAbs.gcd d ≤ d := Nat.gcd_le_right _ (by omega)
  have gd : n.natAbs.gcd d < 2 ^ 2400 := Nat.lt_of_le_of_lt gle hb
  have c : ∀ i : Int, divC i ((n.natAbs.gcd d : Nat) : Int) = true := fun i => divC_of (b := 2400) (by omega) (by simpa using gd) (by decide) (by decide)
  have q1 : (mkRat n d).num = n / (n.natAbs.gcd d : Nat) := by rw [← Rat.normalize_eq_mkRat hd, Rat.num_normalize]
  have q2 : (((mkRat n d).den : Nat) : Int) = (d : Int) / (n.natAbs.gcd d : Nat) := by rw [← Rat.normalize_eq_mkRat hd, Rat.den_normalize, Int.natCast_ediv]
  have neg : decide ((d : Int) < 0) = false := decide_eq_false (by omega)
  have g := R_law_gcd_ok (a := n) (b := (d : Int)) (by rw [Int.natAbs_natCast]; exact hb)
  rw [Int.natAbs_natCast] at g
  simp [R_law_number, fnD, F_law_number, startE, neg, c, q1, q2, encR, g]
section
variable {a b : Rat}
theorem R_law_plus_ok (ha : Bd 1200 a) (hb : Bd 1200 b) : R_law_plus [encR a, encR b] = some (encR (a + b)) := by
  have m1 : mulC a.num (b.den : Int) = true := mulC_of ha.1 (natAbs_lt b hb.2) (by decide) (by decide) (by decide)
  have m2 : mulC b.num (a.den : Int) = true := mulC_of hb.1 (natAbs_lt a ha.2) (by decide) (by decide) (by decide)
  have m3 : mulC (a.den : Int) (b.den : Int) = true := mulC_of (natAbs_lt a ha.2) (natAbs_lt b hb.2) (by decide) (by decide) (by decide)
  have p : 0 < a.den * b.den := Nat.mul_pos a.den_pos b.den_pos
  have n1 := R_law_number_pos (n := a.num * b.den + b.num * a.den) (d := a.den * b.den) (by omega) (Nat.lt_of_lt_of_le (mul_lt ha.2 hb.2) (Nat.pow_le_pow_right (by decide) (by decide)))
  rw [Int.natCast_mul] at n1
  rw [Rat.add_def']
  simp [R_law_plus, fnD, F_law_plus, startE, encR, m1, m2, m3, n1]
theorem R_law_times_ok (ha : Bd 1200 a) (hb : Bd 1200 b) : R_law_times [encR a, encR b] = some (encR (a * b)) := by
  have m1 : mulC a.num b.num = true := mulC_of ha.1 hb.1 (by decide) (by decide) (by decide)
  have m3 : mulC (a.den : Int) (b.den : Int) = true := mulC_of (natAbs_lt a ha.2) (natAbs_lt b hb.2) (by decide) (by decide) (by decide)
  have p : 0 < a.den * b.den := Nat.mul_pos a.den_pos b.den_pos
  have n1 := R_law_number_pos (n := a.num * b.num) (d := a.den * b.den) (by omega) (Nat.lt_of_lt_of_le (mul_lt ha.2 hb.2) (Nat.pow_le_pow_right (by decide) (by decide)))
  rw [Int.natCast_mul] at n1
  rw [Rat.mul_def']
  simp [R_law_times, fnD, F_law_times, startE, encR, m1, m3, n1]
theorem R_law_total_ok {xs : List Rat} (h : ∀ pre a post, xs = pre ++ a :: post → Bd 1200 pre.sum ∧ Bd 1200 a) : R_law_total [.list (xs.map encR)] = some (encR xs.sum) := by
  obtain ⟨e, h1, x, h2⟩ := for_nx (enc := encR) (p := .nm 2) (b := L_law_total_1) (xs := xs) (fun pre env => ∃ x, env = [some (.dat (.list (xs.map encR))), some (.dat (encR pre.sum)), x]) (fun pre a post hx env ⟨x, he⟩ => by
    obtain ⟨b1, b2⟩ := h pre a post hx
    subst he
    refine ⟨_, rfl, _, ?_, ⟨some (.dat (encR a)), rfl⟩⟩
    have s : (pre ++ [a]).sum = pre.sum + a := by simp [Rat.add_zero]
    rw [s]
    simp [L_law_total_1, R_law_plus_ok b1 b2, Rat.add_zero]) (env := [some (.dat (.list (xs.map encR))), some (.dat (encR 0)), none]) ⟨none, by simp⟩
  have z : encR 0 = .tuple [.int 0, .int 1] := rfl
  rw [z] at h1
  simp [R_law_total, fnD, F_law_total, startE, forS, h1, h2]
end
end Od

set_option Elab.async false
set_option linter.all false
set_option autoImplicit false
set_option maxRecDepth 100000
/-! Gm: the law's draws and games. -/
namespace Od
open PySem PySem.Spec PyProof.Rows L2

def encN (d : Nat) : D := .int (d : Int)
theorem mulC_r {i j : Int} (h : -(2 ^ 64) < j ∧ j < 2 ^ 64) : mulC i j = true := by
  unfold mulC
  rw [Bool.or_eq_true]
  exact .inr (decide_eq_true h)
theorem mulC_l {i j : Int} (h : -(2 ^ 64) < i ∧ i < 2 ^ 64) : mulC i j = true := by
  unfold mulC
  rw [Bool.or_eq_true, Bool.or_eq_true]
  exact .inl (.inr (decide_eq_true h))
theorem modC_p {i j : Int} (h : 0 < j) : modC i j = true := by unfold modC; exact decide_eq_true h
theorem divC_k {i : Int} (j : Nat) (h : 0 < j) (h2 : j < 2 ^ 60) : divC i (j : Int) = true := divC_of (b := 60) (by omega) (by rw [Int.natAbs_natCast]; exact h2) (by decide) (by decide)
theorem ixN_ofNat {n j : Nat} (h : j < n) : ixN n (j : Int) = some j := by
  unfold ixN
  rw [if_pos (by omega), if_pos (by omega)]
  simp
theorem atI_map {α : Type} (enc : α → D) {xs : List α} {j : Nat} {a : α} (h : xs[j]? = some a) : atI (xs.map enc) (j : Int) = some (enc a) := by
  rw [atI_ofNat, List.getElem?_map, h]
  rfl
/-- one draw -/
theorem law_draw {s c x v5 v6 v7 v8 : Option EV} {rs : List Int} {ds : List Nat} (k : Nat) (hd : ds.length < 1000) (hr : rs.length ≤ 1000) :
    ∃ (rs' : List Int) (d : Nat) (w6 w7 w8 : Option EV), rs'.length = rs.length ∧ d < 1000 ∧
      L_law_draws_1 [s, c, some (.own (.lst (rs.map .int))), x, some (.own (.lst (ds.map encN))), some (.dat (.int (k : Int))), v6, v7, v8] =
        some (.nx [s, c, some (.own (.lst (rs'.map .int))), x, some (.own (.lst ((ds ++ [d]).map encN))), some (.dat (.int (k : Int))), w6, w7, w8]) := by
  have hl : ds.length < 1000000 := by omega
  by_cases h0 : rs.length = 0
  · refine ⟨rs, 0, some (.dat (.int 0)), v7, v8, rfl, by decide, ?_⟩
    have e : rs = [] := List.length_eq_zero_iff.mp h0
    subst e
    simp [L_law_draws_1, hl, encN]
  · have hat : k % rs.length < rs.length := Nat.mod_lt _ (by omega)
    obtain ⟨r, hr'⟩ : ∃ r, rs[k % rs.length]? = some r := ⟨rs[k % rs.length], by simp [hat]⟩
    have a1 := atI_map PyData.int hr'
    have c1 : (0 : Int) < (rs.length : Int) := by omega
    have c2 : 0 < rs.length := by omega
    have m1 : modC (k : Int) (rs.length : Int) = true := modC_p c1
    have k1 : ((k : Int) % (rs.length : Int)) = ((k % rs.length : Nat) : Int) := (Int.natCast_emod _ _).symm
    have p1 : powC 10 18 = true := by decide +kernel
    have i1 : ixN rs.length ((k % rs.length : Nat) : Int) = some (k % rs.length) := ixN_ofNat hat
    rw [Int.natCast_emod] at a1 i1
    have q1 : divC r 1000 = true := divC_k 1000 (by decide) (by decide)
    have n1 : modC r 1000 = true := modC_p (by decide)
    have u1 : mulC r 48271 = true := mulC_r (by decide)
    have u2 : mulC (k : Int) 69621 = true := mulC_r (by decide)
    have ten : (10 : Int) ^ 18 = 1000000000000000000 := by decide +kernel
    by_cases hb : (10 : Int) ^ 18 ≤ r
    · have hb' := hb
      rw [ten] at hb'
      have z : ((r % 1000).toNat : Int) = r % 1000 := by omega
      refine ⟨rs.set (k % rs.length) (r / 1000), (r % 1000).toNat, some (.dat (.int (r % 1000))), some (.dat (.int ((k : Int) % (rs.length : Int)))), v8, by simp, by omega, ?_⟩
      simp [L_law_draws_1, hl, c1, c2, m1, p1, a1, ten, hb', n1, q1, i1, encN, z, List.map_set]
    · have hb' := hb
      rw [ten] at hb'
      have n2 : ∀ i : Int, modC i 2147483647 = true := fun i => modC_p (by decide)
      have n3 : ∀ i : Int, modC i 2147483629 = true := fun i => modC_p (by decide)
      have n4 : ∀ i : Int, modC i 1000 = true := fun i => modC_p (by decide)
      have q2 : ∀ i : Int, divC i 7 = true := fun i => divC_k 7 (by decide) (by decide)
      have u3 : ∀ i : Int, mulC i 16807 = true := fun i => mulC_r (by decide)
      have z : ∀ i : Int, ((i % 1000).toNat : Int) = i % 1000 := fun i => by omega
      refine ⟨rs, (((r * 48271 + (k : Int) * 69621 + 11) % 2147483647 * 16807 + (k : Int) % (rs.length : Int)) % 2147483629 / 7 % 1000).toNat, some (.dat (.int (((r * 48271 + (k : Int) * 69621 + 11) % 2147483647 * 16807 + (k : Int) % (rs.length : Int)) % 2147483629 / 7 % 1000))), some (.dat (.int ((k : Int) % (rs.length : Int)))), some (.dat (.int (((r * 48271 + (k : Int) * 69621 + 11) % 2147483647 * 16807 + (k : Int) % (rs.length : Int)) % 2147483629))), rfl, by omega, ?_⟩
      simp [L_law_draws_1, hl, c1, c2, m1, p1, a1, ten, hb', n2, n3, n4, q2, u1, u2, u3, encN, z]
end Od

set_option Elab.async false
set_option linter.all false
set_option autoImplicit false
set_option maxRecDepth 100000
/-! Gm: the law's draws and games. -/
namespace Od
open PySem PySem.Spec PyProof.Rows L2

theorem lstE_nil : lstE [] = some (.lst []) := by
  rw [lstE_, asDs_nil, Option.bind_some]
  exact if_pos (Nat.zero_le _)
/-- the draws of a law -/
theorem law_draws_it (c : Nat) (hc : c < 1000) : rg1E [.dat (.int (c : Int))] = some ((List.range c).map fun k : Nat => PyData.int (k : Int)) := by
  rw [← upTo0]
  exact rg1_ c (Nat.lt_trans hc (by decide))
theorem law_draws_ok (ns : List Int) (c : Nat) (hc : c < 1000) (hn : ns.length ≤ 63) : ∃ ds : List Nat, ds.length = c ∧ (∀ d ∈ ds, d < 1000) ∧ R_law_draws [.list (ns.map .int), .int (c : Int)] = some (.list (ds.map encN)) := by
  obtain ⟨e, h1, rs, ds, x, v5, v6, v7, v8, rfl, g1, g2, g3⟩ := for_nx (enc := fun k : Nat => PyData.int (k : Int)) (p := .nm 5) (b := L_law_draws_1) (xs := List.range c)
    (fun pre env => ∃ (rs : List Int) (ds : List Nat) (x v5 v6 v7 v8 : Option EV), env = [some (.dat (.list (ns.map .int))), some (.dat (.int (c : Int))), some (.own (.lst (rs.map .int))), x, some (.own (.lst (ds.map encN))), v5, v6, v7, v8] ∧
      rs.length = ns.length ∧ ds.length = pre.length ∧ ∀ d ∈ ds, d < 1000)
    (fun pre k post hx env ⟨rs, ds, x, v5, v6, v7, v8, he, g1, g2, g3⟩ => by
      subst he
      have hp : pre.length < c := by
        have := congrArg List.length hx
        simp at this
        omega
      obtain ⟨rs', d, w6, w7, w8, f1, f2, f3⟩ := law_draw (s := some (.dat (.list (ns.map .int)))) (c := some (.dat (.int (c : Int)))) (x := x) (v5 := v5) (v6 := v6) (v7 := v7) (v8 := v8) (rs := rs) (ds := ds) k (by omega) (by omega)
      refine ⟨[some (.dat (.list (ns.map .int))), some (.dat (.int (c : Int))), some (.own (.lst (rs.map .int))), x, some (.own (.lst (ds.map encN))), some (.dat (.int (k : Int))), v6, v7, v8], by simp, _, f3, rs', ds ++ [d], x, _, w6, w7, w8, rfl, by omega, by simp [g2], fun y hy => ?_⟩
      rcases List.mem_append.mp hy with h | h
      · exact g3 y h
      · rw [List.mem_singleton.mp h]; exact f2)
    (env := [some (.dat (.list (ns.map .int))), some (.dat (.int (c : Int))), some (.own (.lst (ns.map .int))), none, some (.own (.lst [])), none, none, none, none]) ⟨ns, [], none, none, none, none, none, rfl, rfl, rfl, fun _ h => nomatch h⟩
  refine ⟨ds, by simpa using g2, g3, ?_⟩
  have l : lcN (itL (vr 0)) (.nm 3) tyes (vr 3) [3] [some (.dat (.list (ns.map .int))), some (.dat (.int (c : Int))), none, none, none, none, none, none, none] = some (.lst (ns.map .int)) :=
    lcN_map (enc := PyData.int) (g := PyData.int) (by simp) (by omega) (fun a _ => ⟨_, rfl, by simp [wipeE]⟩)
  have r := law_draws_it c hc
  have st : startE 9 [.list (ns.map .int), .int (c : Int)] = [some (.dat (.list (ns.map .int))), some (.dat (.int (c : Int))), none, none, none, none, none, none, none] := rfl
  unfold R_law_draws fnD F_law_draws
  simp -implicitDefEqProofs only [st, List.length_cons, List.length_nil, if_true, seqS_, setN_, l, Option.bind_some, List.set_cons_zero, List.set_cons_succ, nA_, a0_, lstE_nil, forS, itA_, ac_, vr_, List.getElem?_cons_zero, List.getElem?_cons_succ, Option.join_some, r, h1, retO_]
end Od

set_option Elab.async false
set_option linter.all false
set_option autoImplicit false
set_option maxRecDepth 100000
/-! Gr: small data can be shown and compared. -/
namespace Od
open PySem PySem.Spec PyProof.Rows L2

theorem ok_app (a b : Str) : PyData.strOk (a ++ b) = (PyData.strOk a && PyData.strOk b) := by
  show (a.cps ++ b.cps).all (fun c => decide (c < 0x110000)) = _
  rw [Array.all_append]
  rfl
theorem ok_from : ∀ (ts : List Str) (k : Nat) (acc : Str), PyData.strOk acc = true → (∀ t ∈ ts, PyData.strOk t = true) → PyData.strOk (textFrom k acc ts) = true
  | [], _, acc, h, _ => h
  | t :: r, k, acc, h, ht => by
    show PyData.strOk (textFrom (k + 1) (acc ++ (if k > 0 then ", " else "" : String) ++ t) r) = true
    refine ok_from r _ _ ?_ fun x hx => ht x (List.mem_cons_of_mem _ hx)
    rw [ok_app, ok_app, h, ht t List.mem_cons_self]
    by_cases z : k > 0
    · rw [if_pos z]; decide +kernel
    · rw [if_neg z]; decide +kernel
theorem ok_join : ∀ ts : List Str, (∀ t ∈ ts, PyData.strOk t = true) → PyData.strOk (Str.join ", " ts) = true
  | [], _ => by decide +kernel
  | [x], h => h x List.mem_cons_self
  | x :: y :: r, h => by
    show PyData.strOk (x ++ ", " ++ Str.join ", " (y :: r)) = true
    rw [ok_app, ok_app, h x List.mem_cons_self, ok_join (y :: r) fun z hz => h z (List.mem_cons_of_mem _ hz)]
    decide +kernel
theorem ok_listText {ts : List Str} (h : ∀ t ∈ ts, PyData.strOk t = true) : PyData.strOk (listText ts) = true := by
  show PyData.strOk (textFrom 0 "[" ts ++ "]") = true
  rw [ok_app, ok_from ts 0 "[" (by decide +kernel) h]
  decide +kernel
theorem ok_tupleText {ts : List Str} (h : ∀ t ∈ ts, PyData.strOk t = true) : PyData.strOk (tupleText ts) = true := by
  unfold tupleText
  rw [ok_app, ok_app, ok_join ts h]
  by_cases z : (ts.length == 1) = true
  · rw [if_pos z]; decide +kernel
  · rw [if_neg z]; decide +kernel
structure Sm (k w : Nat) (d : D) : Prop where
  lay : d.canLay0 = true
  sho : d.showable = true
  dep : d.depth ≤ k
  lea : d.leavesShort 13 = true
  wei : d.weight ≤ w
  txt : PyData.strOk d.shown = true
theorem sm_nat {n : Nat} (h : n < 100) : Sm 0 10 (.int (n : Int)) := by
  have all : (List.range 100).all (fun n => (PyData.showable (.int (n : Int))) && decide (PyData.depth (.int (n : Int)) ≤ 0) && (PyData.leavesShort 13 (.int (n : Int))) && decide (PyData.weight (.int (n : Int)) ≤ 10) && PyData.strOk (PyData.shown (.int (n : Int)))) = true := by decide +kernel
  have z := List.all_eq_true.mp all n (List.mem_range.mpr h)
  simp only [Bool.and_eq_true, decide_eq_true_eq] at z
  exact ⟨rfl, z.1.1.1.1, z.1.1.1.2, z.1.1.2, z.1.2, z.2⟩
theorem sm_int {i : Int} (h0 : 0 ≤ i) (h : i < 100) : Sm 0 10 (.int i) := by
  have := sm_nat (n := i.toNat) (by omega)
  rwa [Int.toNat_of_nonneg h0] at this
theorem sm_draw : Sm 0 10 (.str "draw") := ⟨by decide +kernel, by decide +kernel, by decide +kernel, by decide +kernel, by decide +kernel, by decide +kernel⟩
theorem sm_ours : Sm 0 10 (.str "ours") := ⟨by decide +kernel, by decide +kernel, by decide +kernel, by decide +kernel, by decide +kernel, by decide +kernel⟩
theorem sm_theirs : Sm 0 10 (.str "theirs") := ⟨by decide +kernel, by decide +kernel, by decide +kernel, by decide +kernel, by decide +kernel, by decide +kernel⟩
theorem sm_all {k w : Nat} : ∀ {ds : List D}, (∀ d ∈ ds, Sm k w d) → PyData.canLayAll0 ds = true ∧ PyData.showableAll ds = true ∧ PyData.depthAll ds ≤ k ∧ PyData.leavesShortAll 13 ds = true ∧ PyData.weightAll ds ≤ ds.length * (w + 1) ∧ ∀ t ∈ PyData.shownAll ds, PyData.strOk t = true
  | [], _ => ⟨rfl, rfl, Nat.zero_le _, rfl, Nat.zero_le _, fun _ h => nomatch h⟩
  | d :: ds, h => by
    obtain ⟨a1, a2, a3, a4, a5, a6⟩ := sm_all (ds := ds) (fun e he => h e (List.mem_cons_of_mem _ he))
    obtain ⟨b1, b2, b3, b4, b5, b6⟩ := h d List.mem_cons_self
    refine ⟨?_, ?_, ?_, ?_, ?_, ?_⟩
    · simp only [PyData.canLayAll0, b1, a1, Bool.and_self]
    · simp only [PyData.showableAll, b2, a2, Bool.and_self]
    · simp only [PyData.depthAll]; omega
    · simp only [PyData.leavesShortAll, b4, a4, Bool.and_self]
    · simp only [PyData.weightAll, List.length_cons, Nat.add_mul, Nat.one_mul]; omega
    · intro t ht
      simp only [PyData.shownAll, List.mem_cons] at ht
      rcases ht with rfl | ht
      · exact b6
      · exact a6 t ht
theorem Sm.list {k w n : Nat} {ds : List D} (h : ∀ d ∈ ds, Sm k w d) (hn : ds.length ≤ n) : Sm (k + 1) (n * (w + 1)) (.list ds) := by
  obtain ⟨a1, a2, a3, a4, a5, a6⟩ := sm_all h
  have z : ds.length * (w + 1) ≤ n * (w + 1) := Nat.mul_le_mul_right _ hn
  exact ⟨by simpa only [PyData.canLay0] using a1, by simpa only [PyData.showable] using a2, by simp only [PyData.depth]; omega, by simpa only [PyData.leavesShort] using a4, by simp only [PyData.weight]; omega, by simp only [PyData.shown]; exact ok_listText a6⟩
theorem Sm.tuple {k w n : Nat} {ds : List D} (h : ∀ d ∈ ds, Sm k w d) (hn : ds.length ≤ n) : Sm (k + 1) (n * (w + 1)) (.tuple ds) := by
  obtain ⟨a1, a2, a3, a4, a5, a6⟩ := sm_all h
  have z : ds.length * (w + 1) ≤ n * (w + 1) := Nat.mul_le_mul_right _ hn
  exact ⟨by simpa only [PyData.canLay0] using a1, by simpa only [PyData.showable] using a2, by simp only [PyData.depth]; omega, by simpa only [PyData.leavesShort] using a4, by simp only [PyData.weight]; omega, by simp only [PyData.shown]; exact ok_tupleText a6⟩
theorem Sm.mono {k w k' w' : Nat} {d : D} (h : Sm k w d) (hk : k ≤ k') (hw : w ≤ w') : Sm k' w' d := ⟨h.lay, h.sho, Nat.le_trans h.dep hk, h.lea, Nat.le_trans h.wei hw, h.txt⟩
theorem Sm.shaped {k w : Nat} {d : D} (h : Sm k w d) (hk : k ≤ 64) : SeqAt.shaped d = true := by
  unfold SeqAt.shaped
  rw [h.lay, Bool.true_and]
  exact decide_eq_true (Nat.le_trans h.dep hk)
theorem Sm.repr {k w : Nat} {d : D} (h : Sm k w d) (hk : k ≤ 64) (hw : w ≤ 2 ^ 20) (hs : isSeqD d = true) : reprE [.dat d] = some (.dat (.str d.shown)) := by
  have e : (d.showable && !d.hasDict && decide (d.depth ≤ 64) && decide (d.shown.length ≤ sizeLine) && isSeqD d) = true := by
    rw [h.sho, PyData.hasDict_of_canLay d h.lay, decide_eq_true (Nat.le_trans h.dep hk), decide_eq_true (PyData.shown_fits (by decide) (by decide) h.lea (Nat.le_trans h.wei hw)), hs]
    rfl
  unfold reprE
  simp only [asQ_dat, Option.bind_some]
  rw [if_pos e]
/-! ### equality of data -/
theorem eqE_same {k w : Nat} {d : D} (h : Sm k w d) (hk : k ≤ 64) : eqE (.dat d) (.dat d) = some (.dat (.bool true)) := by
  rw [eqE_, asQ_dat, Option.bind_some, Option.bind_some, h.shaped hk, Bool.and_self, if_pos rfl, SeqAt.eqv_refl d h.lay]
theorem eqE_shown {k w : Nat} {d : D} (h : Sm k w d) : eqE (.dat (.str d.shown)) (.dat (.str d.shown)) = some (.dat (.bool true)) := by
  have e : SeqAt.shaped (.str d.shown) = true := by
    unfold SeqAt.shaped
    simp [PyData.canLay0, h.txt, PyData.depth]
  rw [eqE_str _ _ e e, beq_self_eq_true]
theorem shaped_list {ds : List D} {k w : Nat} (h : ∀ d ∈ ds, Sm k w d) (hk : k < 64) : SeqAt.shaped (.list ds) = true := (Sm.list h (Nat.le_refl _)).shaped hk
end Od

set_option Elab.async false
set_option linter.all false
set_option autoImplicit false
set_option maxRecDepth 100000
/-! Gp: games, as the laws make them. -/
namespace Od
open PySem PySem.Spec PyProof.Rows L2

inductive Kd | draw | ours | theirs
deriving DecidableEq
def Kd.str : Kd → Str | .draw => "draw" | .ours => "ours" | .theirs => "theirs"
structure Pl where
  mark : Nat
  kd : Kd
  bs : List (Rat × Nat)
def encB (b : Rat × Nat) : D := .tuple [encR b.1, encN b.2]
def encBs (k : Kd) (bs : List (Rat × Nat)) : List D := bs.map fun b => if k = .draw then encB b else encN b.2
def encP (p : Pl) : D := .tuple [encN p.mark, .str p.kd.str, .list (encBs p.kd p.bs)]
def encG (g : List Pl) : D := .list (g.map encP)
/-- a chance of a draw: above 0, a part of s -/
structure GoodPl (n top : Nat) (p : Pl) : Prop where
  hm : p.mark ≤ top
  ne : p.bs ≠ []
  len : p.bs.length ≤ 6
  tg : ∀ b ∈ p.bs, b.2 < n
  ch : p.kd = .draw → ∃ s : Nat, 0 < s ∧ s ≤ 30 ∧ (∀ b ∈ p.bs, ∃ w : Nat, 0 < w ∧ w ≤ s ∧ b.1 = mkRat w s) ∧ (p.bs.map (·.1)).sum = 1
theorem seqS_nx {f g : En → Option Out} {env e : En} (h : f env = some (.nx e)) : seqS f g env = g e := by rw [seqS_, h]; rfl
theorem seqS_rt {f g : En → Option Out} {env : En} {d : D} (h : f env = some (.rt d)) : seqS f g env = some (.rt d) := by rw [seqS_, h]; rfl
theorem seqS_rtN {f g : En → Option Out} {env : En} {o : Ob} (h : f env = some (.rtN o)) : seqS f g env = some (.rtN o) := by rw [seqS_, h]; rfl
theorem ifS_t {t : En → Option Bool} {f g : En → Option Out} {env : En} (h : t env = some true) : ifS t f g env = f env := by rw [ifS_, h]; rfl
theorem ifS_f {t : En → Option Bool} {f g : En → Option Out} {env : En} (h : t env = some false) : ifS t f g env = g env := by rw [ifS_, h]; rfl
theorem tup2i (a b : D) : tupE [.dat a, .dat b] = some (.dat (.tuple [a, b])) := by
  simp -implicitDefEqProofs
theorem tup3 {f g h : En → Option EV} {env : En} {a b c : D} (h1 : f env = some (.dat a)) (h2 : g env = some (.dat b)) (h3 : h env = some (.dat c)) : eA tupE (ac f (ac g (ac h a0))) env = some (.dat (.tuple [a, b, c])) := by
  simp -implicitDefEqProofs [h1, h2, h3]
theorem fz_lst {f : En → Option Ob} {env : En} {ds : List D} (h : f env = some (.lst ds)) : fz f env = some (.dat (.list ds)) := by rw [fz_, h]; rfl
theorem setS_dat {i : Nat} {f : En → Option EV} {env : En} {d : D} (h : f env = some (.dat d)) : setS i f env = some (.nx (env.set i (some (.dat d)))) := by rw [setS_, h]; rfl
theorem setN_own {i : Nat} {f : En → Option Ob} {env : En} {o : Ob} (h : f env = some o) : setN i f env = some (.nx (env.set i (some (.own o)))) := by rw [setN_, h]; rfl
theorem retS_dat {f : En → Option EV} {env : En} {d : D} (h : f env = some (.dat d)) : retS f env = some (.rt d) := by rw [retS_, h]; rfl
theorem retN_own {f : En → Option Ob} {env : En} {o : Ob} (h : f env = some o) : retN f env = some (.rtN o) := by rw [retN_, h]; rfl
theorem fnD_rt {np n : Nat} {b : En → Option Out} {ds : List D} {d : D} (hl : ds.length = np) (h : b (startE n ds) = some (.rt d)) : fnD np n b ds = some d := by
  unfold fnD
  rw [if_pos hl, h]
  rfl
theorem fnD_rtN {np n : Nat} {b : En → Option Out} {ds es : List D} (hl : ds.length = np) (h : b (startE n ds) = some (.rtN (.lst es))) : fnD np n b ds = some (.list es) := by
  unfold fnD
  rw [if_pos hl, h]
  rfl
theorem fnN_rtN {np n : Nat} {b : En → Option Out} {ds : List D} {o : Ob} (hl : ds.length = np) (h : b (startE n ds) = some (.rtN o)) : fnN np n b ds = some o := by
  unfold fnN
  rw [if_pos hl, h]
  rfl
theorem sum_cast : ∀ ws : List Nat, (ws.map fun w : Nat => (w : Int)).sum = ((ws.sum : Nat) : Int)
  | [] => rfl
  | w :: ws => by rw [List.map_cons, List.sum_cons, sum_cast ws, List.sum_cons, Int.natCast_add]
theorem sumE_nat (ws : List Nat) : sumE [.dat (.list (ws.map encN))] = some (.dat (encN ws.sum)) := by
  have e : ws.map encN = (ws.map fun w : Nat => (w : Int)).map PyData.int := by rw [List.map_map]; rfl
  have s := sum_cast ws
  show ((asL (.dat (.list (ws.map encN)))).bind fun ds => (intsD ds).bind fun is => some (EV.dat (.int is.sum))) = _
  rw [asL_list, Option.bind_some, e, ints_map, Option.bind_some, s]
  rfl
/-- the value of the list at j, 0 behind its end -/
def at' (ds : List Nat) (j : Nat) : Nat := (ds[j]?).getD 0
theorem at_ok {ds : List Nat} {j : Nat} (h : j < ds.length) : atI (ds.map encN) (j : Int) = some (encN (at' ds j)) :=
  atI_map encN (by rw [at', List.getElem?_eq_getElem h]; rfl)
theorem rg1_nat {n : Nat} (h : n < 1000000) : rg1E [.dat (encN n)] = some ((List.range n).map encN) := by
  have := rg1_ n (by omega)
  rw [upTo0] at this
  exact this
theorem sum_chances (s : Nat) (hs : 0 < s) : ∀ ws : List Nat, (ws.map fun w : Nat => mkRat (w : Int) s).sum = mkRat (ws.sum : Nat) s
  | [] => by simp
  | w :: ws => by
    rw [List.map_cons, List.sum_cons, sum_chances s hs ws, List.sum_cons]
    simp only [Rat.mkRat_eq_div, Int.natCast_add, Rat.intCast_add]
    rw [Rat.div_def, Rat.div_def, Rat.div_def, Rat.add_mul]
theorem sum_bd : ∀ ws : List Nat, (∀ w ∈ ws, 1 ≤ w ∧ w ≤ 5) → ws.length ≤ ws.sum ∧ ws.sum ≤ 5 * ws.length ∧ ∀ w ∈ ws, w ≤ ws.sum
  | [], _ => ⟨Nat.le_refl _, Nat.le_refl _, fun _ h => nomatch h⟩
  | w :: ws, h => by
    obtain ⟨a, b, c⟩ := sum_bd ws (fun x hx => h x (List.mem_cons_of_mem _ hx))
    obtain ⟨e, f⟩ := h w List.mem_cons_self
    rw [List.sum_cons, List.length_cons]
    refine ⟨by omega, by omega, fun x hx => ?_⟩
    rcases List.mem_cons.mp hx with r | r
    · omega
    · have := c x r; omega
theorem mkRat_one {s : Nat} (h : 0 < s) : mkRat (s : Int) s = 1 := by
  rw [Rat.mkRat_eq_div]
  have : ((s : Int) : Rat) ≠ 0 := by
    intro e
    have := Rat.intCast_eq_zero_iff.mp e
    omega
  rw [Rat.div_def]
  exact Rat.mul_inv_cancel _ this
def sizes : List Nat := [1, 2, 3, 1, 2, 3, 4, 5, 6]
def wts (ds : List Nat) (sz : Nat) : List Nat := (List.range sz).map fun k => 1 + at' ds (9 + k) % 5
end Od

set_option Elab.async false
set_option linter.all false
set_option autoImplicit false
set_option maxRecDepth 100000
/-! Gw: numbers from 0 to 1 with a known denominator. -/
namespace Od
open PySem PySem.Spec PyProof.Rows L2
/-- a whole multiple of 1 / M -/
def Whole (M : Nat) (r : Rat) : Prop := ∃ k : Int, r * (M : Rat) = (k : Rat)
theorem Whole.zero (M : Nat) : Whole M 0 := ⟨0, by simp [Rat.zero_mul]⟩
theorem Whole.one (M : Nat) : Whole M 1 := ⟨M, by rw [Rat.one_mul]; rfl⟩
theorem Whole.add {M : Nat} {a b : Rat} : Whole M a → Whole M b → Whole M (a + b)
  | ⟨j, h⟩, ⟨k, i⟩ => ⟨j + k, by rw [Rat.add_mul, h, i, Rat.intCast_add]⟩
theorem Whole.mul {M N : Nat} {a b : Rat} : Whole M a → Whole N b → Whole (M * N) (a * b)
  | ⟨j, h⟩, ⟨k, i⟩ => ⟨j * k, by rw [Rat.intCast_mul, ← h, ← i, Rat.natCast_mul]; grind⟩
theorem Whole.dvd {M N : Nat} {a : Rat} : Whole M a → M ∣ N → Whole N a
  | ⟨j, h⟩, ⟨c, e⟩ => ⟨j * c, by subst e; rw [Rat.natCast_mul, ← Rat.mul_assoc, h, Rat.intCast_mul]; rfl⟩
theorem whole_part {w s : Nat} (hs : 0 < s) : Whole s (mkRat (w : Int) s) := ⟨w, by
  rw [Rat.mkRat_eq_div]
  have : ((s : Nat) : Rat) ≠ 0 := by
    intro e
    have := Rat.natCast_eq_zero_iff.mp e
    omega
  rw [Rat.div_def]
  rw [Rat.mul_assoc, Rat.inv_mul_cancel _ this, Rat.mul_one]⟩
theorem Whole.den {M : Nat} (hM : 0 < M) {r : Rat} : Whole M r → r.den ≤ M
  | ⟨k, h⟩ => by
    have n0 : ((M : Nat) : Rat) ≠ 0 := by
      intro e
      have := Rat.natCast_eq_zero_iff.mp e
      omega
    have e : r = mkRat k M := by
      rw [Rat.mkRat_eq_div, ← h, Rat.div_def]
      rw [Rat.mul_assoc, Rat.mul_inv_cancel _ n0, Rat.mul_one]
    rw [e, Rat.den_mkRat, if_neg (by omega)]
    exact Nat.div_le_self _ _
/-- from 0 to 1, a whole multiple of 1 / M -/
structure Fr (M : Nat) (r : Rat) : Prop where
  w : Whole M r
  lo : 0 ≤ r
  hi : r ≤ 1
theorem Fr.bd {M k : Nat} {r : Rat} (h : Fr M r) (hM : 0 < M) (hk : M < 2 ^ k) : Bd k r := by
  have d := h.w.den hM
  have n0 : 0 ≤ r.num := Rat.num_nonneg.mpr h.lo
  have n1 : r.num ≤ r.den := by
    have := (Rat.le_iff r 1).mp h.hi
    simpa using this
  exact ⟨by omega, by omega⟩
theorem Fr.dvd {M N : Nat} {a : Rat} (h : Fr M a) (d : M ∣ N) : Fr N a := ⟨h.w.dvd d, h.lo, h.hi⟩
theorem Fr.mul {M N : Nat} {a b : Rat} (h : Fr M a) (i : Fr N b) : Fr (M * N) (a * b) :=
  ⟨h.w.mul i.w, Rat.mul_nonneg h.lo i.lo, by
    have h1 := Rat.mul_le_mul_of_nonneg_left i.hi h.lo
    rw [Rat.mul_one] at h1
    exact Rat.le_trans h1 h.hi⟩
theorem fr_part {w s : Nat} (h0 : 0 < s) (h1 : w ≤ s) : Fr s (mkRat (w : Int) s) := by
  have sp : (0 : Rat) < ((s : Nat) : Rat) := Rat.natCast_pos.mpr h0
  have e : mkRat (w : Int) s * ((s : Nat) : Rat) = ((w : Nat) : Rat) := by
    have n0 : ((s : Nat) : Rat) ≠ 0 := by
      intro e
      have := Rat.natCast_eq_zero_iff.mp e
      omega
    rw [Rat.mkRat_eq_div, Rat.div_def]
    rw [Rat.mul_assoc, Rat.inv_mul_cancel _ n0, Rat.mul_one]
    rfl
  refine ⟨whole_part h0, ?_, ?_⟩
  · refine Rat.le_of_mul_le_mul_right (c := ((s : Nat) : Rat)) ?_ sp
    rw [e, Rat.zero_mul]
    exact Rat.natCast_nonneg
  · refine Rat.le_of_mul_le_mul_right (c := ((s : Nat) : Rat)) ?_ sp
    rw [e, Rat.one_mul]
    exact Rat.natCast_le_natCast.mpr h1
theorem sum_parts {α : Type} (c x : α → Rat) : ∀ {bs : List α}, (∀ b ∈ bs, 0 ≤ c b ∧ 0 ≤ x b ∧ x b ≤ 1) → 0 ≤ (bs.map fun b => c b * x b).sum ∧ (bs.map fun b => c b * x b).sum ≤ (bs.map c).sum
  | [], _ => ⟨by simp, by simp⟩
  | b :: bs, h => by
    obtain ⟨i1, i2⟩ := sum_parts c x (bs := bs) (fun a ha => h a (List.mem_cons_of_mem _ ha))
    obtain ⟨h1, h2, h3⟩ := h b List.mem_cons_self
    have m1 := Rat.mul_nonneg h1 h2
    have m2 := Rat.mul_le_mul_of_nonneg_left h3 h1
    simp only [List.map_cons, List.sum_cons]
    constructor <;> grind
theorem sum_whole {α : Type} {M : Nat} (y : α → Rat) : ∀ {bs : List α}, (∀ b ∈ bs, Whole M (y b)) → Whole M (bs.map y).sum
  | [], _ => Whole.zero M
  | b :: bs, h => by
    rw [List.map_cons, List.sum_cons]
    exact (h b List.mem_cons_self).add (sum_whole y fun a ha => h a (List.mem_cons_of_mem _ ha))
theorem sum_nn {α : Type} (c : α → Rat) : ∀ {bs : List α}, (∀ b ∈ bs, 0 ≤ c b) → 0 ≤ (bs.map c).sum
  | [], _ => by simp
  | b :: bs, h => by
    rw [List.map_cons, List.sum_cons]
    exact Rat.add_nonneg (h b List.mem_cons_self) (sum_nn c fun a ha => h a (List.mem_cons_of_mem _ ha))
end Od

set_option Elab.async false
set_option linter.all false
set_option autoImplicit false
set_option maxRecDepth 100000
/-! Gy: games can be shown. -/
namespace Od
open PySem PySem.Spec PyProof.Rows L2
theorem sm_encN {n : Nat} (h : n < 100) : Sm 0 10 (encN n) := sm_nat h
theorem sm_kd (k : Kd) : Sm 0 10 (.str k.str) := by cases k; exact sm_draw; exact sm_ours; exact sm_theirs
theorem sm_encR {s : Nat} {r : Rat} (h : Fr s r) (h0 : 0 < s) (hs : s ≤ 30) : Sm 1 22 (encR r) := by
  have d := h.w.den h0
  have n0 : 0 ≤ r.num := Rat.num_nonneg.mpr h.lo
  have n1 : r.num ≤ r.den := by
    have := (Rat.le_iff r 1).mp h.hi
    simpa using this
  refine Sm.tuple (k := 0) (w := 10) (n := 2) (fun d hd => ?_) (Nat.le_refl _)
  simp only [List.mem_cons, List.not_mem_nil, or_false] at hd
  rcases hd with rfl | rfl
  · exact sm_int n0 (by omega)
  · exact sm_nat (by omega)
theorem sm_place {n top : Nat} {p : Pl} (G : GoodPl n top p) (ht : top ≤ 9) (hn : n ≤ 100) : Sm 4 849 (encP p) := by
  have hb : Sm 3 282 (.list (encBs p.kd p.bs)) := by
    refine Sm.list (k := 2) (w := 46) (n := 6) (fun d hd => ?_) (by simpa [encBs] using G.len)
    obtain ⟨b, hb, rfl⟩ := List.mem_map.mp hd
    have t := G.tg b hb
    by_cases hd : p.kd = .draw
    · rw [if_pos hd]
      obtain ⟨s, s0, s1, s2, _⟩ := G.ch hd
      obtain ⟨w, _, w1, w2⟩ := s2 b hb
      refine Sm.tuple (k := 1) (w := 22) (n := 2) (fun d hd => ?_) (Nat.le_refl _)
      simp only [List.mem_cons, List.not_mem_nil, or_false] at hd
      rcases hd with rfl | rfl
      · rw [w2]; exact sm_encR (fr_part s0 w1) s0 s1
      · exact (sm_encN (by omega)).mono (by decide) (by decide)
    · rw [if_neg hd]
      exact (sm_encN (by omega)).mono (by decide) (by decide)
  have hm := G.hm
  refine Sm.tuple (k := 3) (w := 282) (n := 3) (fun d hd => ?_) (Nat.le_refl _)
  simp only [List.mem_cons, List.not_mem_nil, or_false] at hd
  rcases hd with rfl | rfl | rfl
  · exact (sm_encN (by omega)).mono (by decide) (by decide)
  · exact (sm_kd _).mono (by decide) (by decide)
  · exact hb
theorem sm_game {g : List Pl} {top : Nat} (h : ∀ p ∈ g, GoodPl g.length top p) (ht : top ≤ 9) (hl : g.length ≤ 100) : Sm 5 85000 (encG g) :=
  Sm.list (k := 4) (w := 849) (n := 100) (fun d hd => by
    obtain ⟨p, hp, rfl⟩ := List.mem_map.mp hd
    exact sm_place (h p hp) ht hl) (by simpa using hl)
theorem GoodPl.mono {n top top' : Nat} {p : Pl} (G : GoodPl n top p) (h : top ≤ top') : GoodPl n top' p := ⟨Nat.le_trans G.hm h, G.ne, G.len, G.tg, G.ch⟩
theorem shaped_nats (xs : List Nat) : SeqAt.shaped (.list (xs.map encN)) = true := by
  have all : ∀ xs : List Nat, PyData.canLayAll0 (xs.map encN) = true ∧ PyData.depthAll (xs.map encN) = 0 := by
    intro xs
    induction xs with
    | nil => exact ⟨rfl, rfl⟩
    | cons x xs ih => exact ⟨by simp [PyData.canLayAll0, encN, PyData.canLay0, ih.1], by simp [PyData.depthAll, encN, PyData.depth, ih.2]⟩
  obtain ⟨h1, h2⟩ := all xs
  unfold SeqAt.shaped
  simp [PyData.canLay0, PyData.depth, h1, h2]
theorem eqv_nats (xs : List Nat) : PyData.eqv (.list (xs.map encN)) (.list (xs.map encN)) = true :=
  SeqAt.eqv_refl _ (by have := shaped_nats xs; unfold SeqAt.shaped at this; exact (Bool.and_eq_true_iff.mp this).1)
theorem neE_own (xs : List Nat) : neE (.own (.lst (xs.map encN))) (.dat (.list (xs.map encN))) = some (.dat (.bool false)) := by
  rw [neE_, asQ_own, asQ_dat, Option.bind_some, Option.bind_some, shaped_nats, Bool.and_self, if_pos rfl, eqv_nats]
  rfl
theorem neE_lst (xs : List Nat) : neE (.dat (.list (xs.map encN))) (.dat (.list (xs.map encN))) = some (.dat (.bool false)) := by
  rw [neE_, asQ_dat, Option.bind_some, Option.bind_some, shaped_nats, Bool.and_self, if_pos rfl, eqv_nats]
  rfl
theorem isiE_list (ds : List D) : isiE "list" (.own (.lst ds)) = some (.dat (.bool true)) := by
  rfl
end Od

set_option Elab.async false
set_option linter.all false
set_option autoImplicit false
set_option maxRecDepth 100000
/-! Hc: the chain that a law makes. -/
namespace Od
open PySem PySem.Spec PyProof.Rows L2
theorem lt_2400 : 30 < 2 ^ 2400 := Nat.lt_of_lt_of_le (by decide : 30 < 2 ^ 5) (Nat.pow_le_pow_right (by decide) (by decide))
def cut9 (ds : List Nat) (k : Nat) : List Nat := (ds.drop (2 + 9 * k)).take 9
theorem cut9_ok {ds : List Nat} {k : Nat} (h : 11 + 9 * k ≤ ds.length) : cutD (ds.map encN) (some ((2 : Int) + 9 * (k : Int))) (some ((11 : Int) + 9 * (k : Int))) = (cut9 ds k).map encN := by
  have e1 : ((2 : Int) + 9 * (k : Int)) = ((2 + 9 * k : Nat) : Int) := by omega
  have e2 : ((11 : Int) + 9 * (k : Int)) = ((11 + 9 * k : Nat) : Int) := by omega
  unfold cutD
  rw [e1, e2, HT.sIx_nat, HT.sIx_nat, List.length_map, Nat.min_eq_left (by omega), Nat.min_eq_left (by omega), cut9, List.map_take, List.map_drop]
  congr 1
  omega
theorem cut9_len {ds : List Nat} {k : Nat} (h : 11 + 9 * k ≤ ds.length) : (cut9 ds k).length = 9 := by
  simp only [cut9, List.length_take, List.length_drop]
  omega
def csizes : List Nat := [1, 2, 3, 1, 2, 6]
theorem csizes_at {x : Nat} (h : x < 6) : 1 ≤ at' csizes x ∧ at' csizes x ≤ 6 := by
  have all : ((List.range 6).all fun x => decide (1 ≤ at' csizes x ∧ at' csizes x ≤ 6)) = true := by decide +kernel
  exact of_decide_eq_true (List.all_eq_true.mp all x (List.mem_range.mpr h))
def cwt (part : List Nat) (n : Nat) : Nat := 1 + at' part (1 + n / 2) / (1 + 9 * (n % 2)) % 5
def cwts (part : List Nat) (sz : Nat) : List Nat := (List.range sz).map (cwt part)
theorem cwts_ok (part : List Nat) {sz : Nat} (h1 : 1 ≤ sz) (h6 : sz ≤ 6) : 0 < (cwts part sz).sum ∧ (cwts part sz).sum ≤ 30 ∧ ∀ n < sz, at' (cwts part sz) n = cwt part n ∧ 0 < at' (cwts part sz) n ∧ at' (cwts part sz) n ≤ (cwts part sz).sum := by
  have hb : ∀ w ∈ cwts part sz, 1 ≤ w ∧ w ≤ 5 := fun w hw => by
    obtain ⟨k, _, rfl⟩ := List.mem_map.mp hw
    unfold cwt
    omega
  obtain ⟨a, b, c⟩ := sum_bd _ hb
  have l : (cwts part sz).length = sz := by simp [cwts]
  refine ⟨by omega, by omega, fun n hn => ?_⟩
  have e : (cwts part sz)[n]? = some (cwt part n) := by simp [cwts, hn]
  have f : at' (cwts part sz) n = cwt part n := by rw [at', e]; rfl
  refine ⟨f, by rw [f]; unfold cwt; omega, ?_⟩
  rw [f]
  exact c _ (List.mem_of_getElem? e)
def cbr (part : List Nat) (many low sz n : Nat) : Rat × Nat := (mkRat (at' (cwts part sz) n : Nat) (cwts part sz).sum, low + at' part (3 + n) % (many - low))
def chPl (part : List Nat) (many block k : Nat) : Pl :=
  { mark := at' part 2 % 10
    kd := .draw
    bs := (List.range (at' csizes (at' part 0 % 6))).map (cbr part many (k - k % block) (at' csizes (at' part 0 % 6))) }
theorem chPl_good (part : List Nat) {many block k : Nat} (hk : k < many) : GoodPl many 9 (chPl part many block k) := by
  obtain ⟨s1, s6⟩ := csizes_at (Nat.mod_lt (at' part 0) (by decide : 0 < 6))
  obtain ⟨w0, w3, wk⟩ := cwts_ok part s1 s6
  refine ⟨?_, ?_, ?_, ?_, ?_⟩
  · have := Nat.mod_lt (at' part 2) (by decide : 0 < 10)
    show at' part 2 % 10 ≤ 9
    omega
  · intro e
    have := congrArg List.length e
    simp [chPl] at this
    omega
  · simp [chPl]; exact s6
  · intro b hb
    simp only [chPl, List.mem_map] at hb
    obtain ⟨n, _, rfl⟩ := hb
    have := Nat.mod_lt (at' part (3 + n)) (by omega : 0 < many - (k - k % block))
    show (k - k % block) + at' part (3 + n) % (many - (k - k % block)) < many
    omega
  · intro _
    refine ⟨_, w0, w3, ?_, ?_⟩
    · intro b hb
      simp only [chPl, List.mem_map, List.mem_range] at hb
      obtain ⟨n, hn, rfl⟩ := hb
      exact ⟨_, (wk n hn).2.1, (wk n hn).2.2, rfl⟩
    · have e : ((chPl part many block k).bs.map (·.1)) = (cwts part (at' csizes (at' part 0 % 6))).map fun w : Nat => mkRat (w : Int) (cwts part (at' csizes (at' part 0 % 6))).sum := by
        unfold chPl
        rw [List.map_map]
        conv => rhs; rw [cwts]
        rw [List.map_map]
        refine List.map_congr_left fun n hn => ?_
        have := (wk n (List.mem_range.mp hn)).1
        simp only [Function.comp, cbr, this]
        rfl
      rw [e, sum_chances _ w0, mkRat_one w0]
theorem chain_1 {part : List Nat} (hl : part.length = 9) {many block k sz n : Nat} (hb : 0 < block) (hk : k < many) (h1 : 1 ≤ sz) (h6 : sz ≤ 6) (hn : n < sz) (a0' a1' x4 x11 : Option EV) {acc : List D} (ha : acc.length < 1000) :
    L_law_chain_1 [a0', a1', some (.dat (encN many)), some (.dat (encN block)), x4, some (.dat (encN k)), some (.dat (.list (part.map encN))), some (.dat (encN sz)), some (.dat (.list ((cwts part sz).map encN))), some (.dat (encN n)), some (.own (.lst acc)), x11] =
      some (.nx [a0', a1', some (.dat (encN many)), some (.dat (encN block)), x4, some (.dat (encN k)), some (.dat (.list (part.map encN))), some (.dat (encN sz)), some (.dat (.list ((cwts part sz).map encN))), some (.dat (encN n)), some (.own (.lst (acc ++ [encB (cbr part many (k - k % block) sz n)]))), some (.dat (encN (k - k % block)))]) := by
  obtain ⟨w0, w3, wk⟩ := cwts_ok part h1 h6
  have mb : modC (k : Int) (block : Int) = true := modC_p (by omega)
  have lowle : k % block ≤ k := Nat.mod_le _ _
  have e1 : (k : Int) - (k : Int) % (block : Int) = ((k - k % block : Nat) : Int) := by rw [Int.natCast_sub lowle, Int.natCast_emod]
  have e2 : (many : Int) - ((k - k % block : Nat) : Int) = ((many - (k - k % block) : Nat) : Int) := by omega
  have m2 : modC ((at' part (3 + n) : Nat) : Int) ((many - (k - k % block) : Nat) : Int) = true := modC_p (by omega)
  have e3 : (3 : Int) + (n : Int) = ((3 + n : Nat) : Int) := by omega
  have a3 : atI (part.map encN) ((3 + n : Nat) : Int) = some (.int ((at' part (3 + n) : Nat) : Int)) := at_ok (by omega)
  have aw : atI ((cwts part sz).map encN) (n : Int) = some (.int ((at' (cwts part sz) n : Nat) : Int)) := at_ok (by simpa [cwts] using hn)
  have nm := R_law_number_pos (n := (at' (cwts part sz) n : Nat)) (d := (cwts part sz).sum) (by omega) (Nat.lt_of_le_of_lt w3 lt_2400)
  have ha' : acc.length < 1000000 := by omega
  have e4 : ((at' part (3 + n) : Nat) : Int) % ((many - (k - k % block) : Nat) : Int) = ((at' part (3 + n) % (many - (k - k % block)) : Nat) : Int) := (Int.natCast_emod _ _).symm
  have e5 : ((k - k % block : Nat) : Int) + ((at' part (3 + n) % (many - (k - k % block)) : Nat) : Int) = ((k - k % block + at' part (3 + n) % (many - (k - k % block)) : Nat) : Int) := (Int.natCast_add _ _).symm
  have sn : sumE [.dat (.list ((cwts part sz).map encN))] = some (.dat (.int (((cwts part sz).sum : Nat) : Int))) := sumE_nat (cwts part sz)
  unfold L_law_chain_1
  refine (seqS_nx (e := [a0', a1', some (.dat (encN many)), some (.dat (encN block)), x4, some (.dat (encN k)), some (.dat (.list (part.map encN))), some (.dat (encN sz)), some (.dat (.list ((cwts part sz).map encN))), some (.dat (encN n)), some (.own (.lst acc)), some (.dat (encN (k - k % block)))]) (setS_dat ?_)).trans ?_
  · simp -implicitDefEqProofs only [e2_, eA_, ac_, a0_, vr_, List.getElem?_cons_zero, List.getElem?_cons_succ, Option.join_some, Option.bind_some, encN, intE_int, modE_, if_pos mb, subE_, e1]
  · simp -implicitDefEqProofs only [appS_, e2_, eA_, cl_, ac_, a0_, cs_, vr_, List.getElem?_cons_zero, List.getElem?_cons_succ, Option.join_some, Option.bind_some, encN, ixE_list, aw, sn, asDs_cons, asDs_nil, nm, addE_, e3, a3, intE_int, subE_, e2, modE_, if_pos m2, e4, e5, tup2i, asD_dat, if_pos ha', List.set_cons_zero, List.set_cons_succ]
    rfl
theorem chain_2 {ds : List Nat} {many block k : Nat} (hl : 11 + 9 * k ≤ ds.length) (hb : 0 < block) (hk : k < many) (a1' x6 x7 x8 x9 x10 x11 : Option EV) {found : List D} (hf : found.length < 1000) : ∃ y6 y7 y8 y9 y10 y11,
    L_law_chain_2 [some (.dat (.list (ds.map encN))), a1', some (.dat (encN many)), some (.dat (encN block)), some (.own (.lst found)), some (.dat (encN k)), x6, x7, x8, x9, x10, x11] =
      some (.nx [some (.dat (.list (ds.map encN))), a1', some (.dat (encN many)), some (.dat (encN block)), some (.own (.lst (found ++ [encP (chPl (cut9 ds k) many block k)]))), some (.dat (encN k)), y6, y7, y8, y9, y10, y11]) := by
  have pl := cut9_len hl
  have cv := cut9_ok hl
  generalize cut9 ds k = part at pl cv
  obtain ⟨s1, s6⟩ := csizes_at (Nat.mod_lt (at' part 0) (by decide : 0 < 6))
  generalize hsz : at' csizes (at' part 0 % 6) = sz at s1 s6
  have aq0 : atI (part.map encN) 0 = some (.int ((at' part 0 : Nat) : Int)) := at_ok (j := 0) (by omega)
  have a2 : atI (part.map encN) 2 = some (.int ((at' part 2 : Nat) : Int)) := at_ok (j := 2) (by omega)
  have m6 : modC ((at' part 0 : Nat) : Int) 6 = true := modC_p (by decide)
  have m10 : modC ((at' part 2 : Nat) : Int) 10 = true := modC_p (by decide)
  have mk : ∀ i : Int, mulC 9 i = true := fun i => mulC_l (by decide)
  have as : atI [PyData.int 1, .int 2, .int 3, .int 1, .int 2, .int 6] (((at' part 0 : Nat) : Int) % 6) = some (.int (sz : Int)) := by
    have := at_ok (ds := csizes) (j := at' part 0 % 6) (Nat.mod_lt _ (by decide))
    rw [Int.natCast_emod, hsz] at this
    exact this
  have rg : rg1E [.dat (.int (sz : Int))] = some ((List.range sz).map encN) := rg1_nat (by omega)
  have cc : cutN (vr 0) (pS (e2 addE (cs (.int 2)) (e2 mulE (cs (.int 9)) (vr 5)))) (pS (e2 addE (cs (.int 11)) (e2 mulE (cs (.int 9)) (vr 5)))) [some (.dat (.list (ds.map encN))), a1', some (.dat (encN many)), some (.dat (encN block)), some (.own (.lst found)), some (.dat (encN k)), x6, x7, x8, x9, x10, x11] = some (.lst (part.map encN)) := by
    unfold cutN pS
    simp -implicitDefEqProofs [encN, mk, cv]
  obtain ⟨e, h1, y9, y11, rfl⟩ := for_nx (enc := encN) (p := .nm 9) (b := L_law_chain_1) (xs := List.range sz) (fun pre env => ∃ y9 y11, env = [some (.dat (.list (ds.map encN))), a1', some (.dat (encN many)), some (.dat (encN block)), some (.own (.lst found)), some (.dat (encN k)), some (.dat (.list (part.map encN))), some (.dat (encN sz)), some (.dat (.list ((cwts part sz).map encN))), y9, some (.own (.lst (pre.map fun n => encB (cbr part many (k - k % block) sz n)))), y11])
    (fun pre n post hx env ⟨y9, y11, he⟩ => by
      subst he
      have hn : n < sz := List.mem_range.mp (by rw [hx]; exact List.mem_append_right _ List.mem_cons_self)
      have hlx := congrArg List.length hx
      simp at hlx
      have q := chain_1 pl hb hk s1 s6 hn (some (.dat (.list (ds.map encN)))) a1' (some (.own (.lst found))) y11 (acc := pre.map fun n => encB (cbr part many (k - k % block) sz n)) (by simp; omega)
      exact ⟨[some (.dat (.list (ds.map encN))), a1', some (.dat (encN many)), some (.dat (encN block)), some (.own (.lst found)), some (.dat (encN k)), some (.dat (.list (part.map encN))), some (.dat (encN sz)), some (.dat (.list ((cwts part sz).map encN))), some (.dat (encN n)), some (.own (.lst (pre.map fun n => encB (cbr part many (k - k % block) sz n)))), y11], by simp, _, q, by rw [List.map_append]; exact ⟨_, _, rfl⟩⟩)
    (env := [some (.dat (.list (ds.map encN))), a1', some (.dat (encN many)), some (.dat (encN block)), some (.own (.lst found)), some (.dat (encN k)), some (.dat (.list (part.map encN))), some (.dat (encN sz)), some (.dat (.list ((cwts part sz).map encN))), x9, some (.own (.lst [])), x11]) ⟨_, _, rfl⟩
  have ep : encP (chPl part many block k) = .tuple [encN (at' part 2 % 10), .str "draw", .list ((List.range sz).map fun n => encB (cbr part many (k - k % block) sz n))] := by
    unfold encP chPl encBs
    simp only [hsz, if_true, List.map_map]
    rfl
  have ff : found.length < 1000000 := by omega
  have e2' : ((at' part 2 : Nat) : Int) % 10 = ((at' part 2 % 10 : Nat) : Int) := (Int.natCast_emod _ _).symm
  refine ⟨some (.dat (.list (part.map encN))), some (.dat (encN sz)), some (.dat (.list ((cwts part sz).map encN))), y9, some (.dat (.list ((List.range sz).map fun n => encB (cbr part many (k - k % block) sz n)))), y11, ?_⟩
  unfold L_law_chain_2
  refine (seqS_nx (e := [some (.dat (.list (ds.map encN))), a1', some (.dat (encN many)), some (.dat (encN block)), some (.own (.lst found)), some (.dat (encN k)), some (.dat (.list (part.map encN))), x7, x8, x9, x10, x11]) (setS_dat (fz_lst cc))).trans ?_
  refine (seqS_nx (e := [some (.dat (.list (ds.map encN))), a1', some (.dat (encN many)), some (.dat (encN block)), some (.own (.lst found)), some (.dat (encN k)), some (.dat (.list (part.map encN))), some (.dat (encN sz)), x8, x9, x10, x11]) (by simp -implicitDefEqProofs [fz_, encN, aq0, m6, as])).trans ?_
  refine (seqS_nx (e := [some (.dat (.list (ds.map encN))), a1', some (.dat (encN many)), some (.dat (encN block)), some (.own (.lst found)), some (.dat (encN k)), some (.dat (.list (part.map encN))), some (.dat (encN sz)), some (.dat (.list ((cwts part sz).map encN))), x9, x10, x11]) ?_).trans ?_
  · have ew : (cwts part sz).map encN = (List.range sz).map fun n => encN (cwt part n) := by unfold cwts; rw [List.map_map]; rfl
    rw [ew]
    refine setS_dat (fz_lst (lcN_map (enc := encN) (xs := List.range sz) ?_ ?_ ?_))
    · simp -implicitDefEqProofs only [itA_, ac_, a0_, vr_, List.getElem?_cons_zero, List.getElem?_cons_succ, Option.join_some, Option.bind_some, encN, rg]
    · rw [List.length_range]; omega
    · intro n hn
      have hn' := List.mem_range.mp hn
      refine ⟨[some (.dat (.list (ds.map encN))), a1', some (.dat (encN many)), some (.dat (encN block)), some (.own (.lst found)), some (.dat (encN k)), some (.dat (.list (part.map encN))), some (.dat (encN sz)), x8, some (.dat (encN n)), x10, x11], by simp -implicitDefEqProofs [wipeE], ?_⟩
      have a1 : atI (part.map encN) (1 + (n : Int) / 2) = some (.int ((at' part (1 + n / 2) : Nat) : Int)) := by
        have := at_ok (ds := part) (j := 1 + n / 2) (by omega)
        have e : ((1 + n / 2 : Nat) : Int) = 1 + (n : Int) / 2 := by omega
        rw [e] at this
        exact this
      have d2 : divC (n : Int) 2 = true := divC_k 2 (by decide) (by decide)
      have m2 : modC (n : Int) 2 = true := modC_p (by decide)
      have m9 : mulC 9 ((n : Int) % 2) = true := mk _
      have dd : divC ((at' part (1 + n / 2) : Nat) : Int) (1 + 9 * ((n : Int) % 2)) = true := by
        have e : (1 + 9 * ((n : Int) % 2)) = ((1 + 9 * (n % 2) : Nat) : Int) := by omega
        rw [e]
        refine divC_k _ (by omega) ?_
        have : 1 + 9 * (n % 2) ≤ 10 := by omega
        exact Nat.lt_of_le_of_lt this (by decide)
      have m5 : ∀ i : Int, modC i 5 = true := fun i => modC_p (by decide)
      have ec : (1 : Int) + ((at' part (1 + n / 2) : Nat) : Int) / (1 + 9 * ((n : Int) % 2)) % 5 = ((cwt part n : Nat) : Int) := by
        unfold cwt
        simp only [Int.natCast_add, Int.natCast_emod, Int.natCast_ediv, Int.natCast_mul]
        rfl
      simp -implicitDefEqProofs only [e2_, eA_, ac_, a0_, cs_, vr_, List.getElem?_cons_zero, List.getElem?_cons_succ, Option.join_some, Option.bind_some, encN, divE_, if_pos d2, addE_, ixE_list, a1, modE_, if_pos m2, intE_int, mulE_, if_pos m9, if_pos dd, if_pos (m5 _), ec, asD_dat]
  refine (seqS_nx (e := [some (.dat (.list (ds.map encN))), a1', some (.dat (encN many)), some (.dat (encN block)), some (.own (.lst found)), some (.dat (encN k)), some (.dat (.list (part.map encN))), some (.dat (encN sz)), some (.dat (.list ((cwts part sz).map encN))), x9, some (.own (.lst [])), x11]) (setN_own (by simp -implicitDefEqProofs only [nA_, a0_, Option.bind_some, lstE_nil]))).trans ?_
  refine (seqS_nx (e := _) (Eq.trans ?_ h1)).trans ?_
  · simp -implicitDefEqProofs only [forS, itA_, ac_, a0_, vr_, List.getElem?_cons_zero, List.getElem?_cons_succ, Option.join_some, Option.bind_some, encN, rg]
  · rw [ep, frzS_]
    simp -implicitDefEqProofs only [vr_, List.getElem?_cons_zero, List.getElem?_cons_succ, Option.join_some, List.set_cons_zero, List.set_cons_succ]
    have tt : eA tupE (ac (e2 modE (eA intE (ac (e2 ixE (vr 6) (cs (.int 2))) (a0))) (cs (.int 10))) (ac (cs (.str "draw")) (ac (vr 10) (a0)))) [some (.dat (.list (ds.map encN))), a1', some (.dat (encN many)), some (.dat (encN block)), some (.own (.lst found)), some (.dat (encN k)), some (.dat (.list (part.map encN))), some (.dat (encN sz)), some (.dat (.list ((cwts part sz).map encN))), y9, some (.dat (.list ((List.range sz).map fun n => encB (cbr part many (k - k % block) sz n)))), y11] = some (.dat (.tuple [encN (at' part 2 % 10), .str "draw", .list ((List.range sz).map fun n => encB (cbr part many (k - k % block) sz n))])) := by
      refine tup3 ?_ rfl rfl
      simp -implicitDefEqProofs only [e2_, eA_, ac_, a0_, cs_, vr_, List.getElem?_cons_zero, List.getElem?_cons_succ, Option.join_some, Option.bind_some, ixE_list, a2, intE_int, modE_, if_pos m10, e2', encN]
    rw [appS_, tt]
    simp -implicitDefEqProofs only [vr_, List.getElem?_cons_zero, List.getElem?_cons_succ, Option.join_some, Option.bind_some, asD_dat, if_pos ff, List.set_cons_zero, List.set_cons_succ]
def chainOf (ds : List Nat) (most : Nat) : List Pl :=
  let many := 1 + at' ds 0 % most
  (List.range many).map fun k => chPl (cut9 ds k) many (at' [many, 1, 2, 3] (at' ds 1 % 4)) k
theorem law_chain_ok {ds : List Nat} {most : Nat} (hl : 2 + 9 * most ≤ ds.length) (hn : 0 < most) (hn9 : most ≤ 100) : R_law_chain [.list (ds.map encN), encN most] = some (encG (chainOf ds most)) := by
  have lt := Nat.mod_lt (at' ds 0) hn
  generalize hm : 1 + at' ds 0 % most = many
  have aq0 : atI (ds.map encN) 0 = some (.int ((at' ds 0 : Nat) : Int)) := at_ok (j := 0) (by omega)
  have a1 : atI (ds.map encN) 1 = some (.int ((at' ds 1 : Nat) : Int)) := at_ok (j := 1) (by omega)
  have m0 : modC ((at' ds 0 : Nat) : Int) (most : Int) = true := modC_p (by omega)
  have m4 : modC ((at' ds 1 : Nat) : Int) 4 = true := modC_p (by decide)
  have e0 : (1 : Int) + ((at' ds 0 : Nat) : Int) % (most : Int) = (many : Int) := by rw [← hm, Int.natCast_add, Int.natCast_emod]; rfl
  generalize hb : at' [many, 1, 2, 3] (at' ds 1 % 4) = block
  have hb0 : 0 < block := by
    have h4 := Nat.mod_lt (at' ds 1) (by decide : 0 < 4)
    generalize at' ds 1 % 4 = x at hb h4
    rcases x with _ | _ | _ | _ | x
    · rw [← hb]; show 0 < many; omega
    · rw [← hb]; show 0 < 1; decide
    · rw [← hb]; show 0 < 2; decide
    · rw [← hb]; show 0 < 3; decide
    · omega
  have ab : atI [PyData.int (many : Int), .int 1, .int 2, .int 3] (((at' ds 1 : Nat) : Int) % 4) = some (.int (block : Int)) := by
    have := at_ok (ds := [many, 1, 2, 3]) (j := at' ds 1 % 4) (Nat.mod_lt _ (by decide))
    rw [Int.natCast_emod, hb] at this
    exact this
  have rn : rg1E [.dat (.int (many : Int))] = some ((List.range many).map encN) := rg1_nat (by omega)
  have eg : (chainOf ds most).map encP = (List.range many).map fun k => encP (chPl (cut9 ds k) many block k) := by
    unfold chainOf
    simp only [hm, hb, List.map_map]
    rfl
  obtain ⟨e, h1, y5, y6, y7, y8, y9, y10, y11, rfl⟩ := for_nx (enc := encN) (p := .nm 5) (b := L_law_chain_2) (xs := List.range many) (fun pre env => ∃ y5 y6 y7 y8 y9 y10 y11, env = [some (.dat (.list (ds.map encN))), some (.dat (encN most)), some (.dat (encN many)), some (.dat (encN block)), some (.own (.lst (pre.map fun k => encP (chPl (cut9 ds k) many block k)))), y5, y6, y7, y8, y9, y10, y11])
    (fun pre k post hx env ⟨y5, y6, y7, y8, y9, y10, y11, he⟩ => by
      subst he
      have hk : k < many := List.mem_range.mp (by rw [hx]; exact List.mem_append_right _ List.mem_cons_self)
      have hlx := congrArg List.length hx
      simp at hlx
      have z : 11 + 9 * k ≤ ds.length := by
        have : 9 * (k + 1) ≤ 9 * most := Nat.mul_le_mul_left 9 (by omega)
        omega
      obtain ⟨z6, z7, z8, z9, z10, z11, q⟩ := chain_2 z hb0 hk (some (.dat (encN most))) y6 y7 y8 y9 y10 y11 (found := pre.map fun k => encP (chPl (cut9 ds k) many block k)) (by simp; omega)
      exact ⟨[some (.dat (.list (ds.map encN))), some (.dat (encN most)), some (.dat (encN many)), some (.dat (encN block)), some (.own (.lst (pre.map fun k => encP (chPl (cut9 ds k) many block k)))), some (.dat (encN k)), y6, y7, y8, y9, y10, y11], by simp, _, q, by rw [List.map_append]; exact ⟨_, _, _, _, _, _, _, rfl⟩⟩)
    (env := [some (.dat (.list (ds.map encN))), some (.dat (encN most)), some (.dat (encN many)), some (.dat (encN block)), some (.own (.lst [])), none, none, none, none, none, none, none]) ⟨_, _, _, _, _, _, _, rfl⟩
  refine fnD_rtN (es := (chainOf ds most).map encP) rfl ?_
  show F_law_chain [some (.dat (.list (ds.map encN))), some (.dat (encN most)), none, none, none, none, none, none, none, none, none, none] = _
  unfold F_law_chain
  rw [eg]
  refine (seqS_nx (e := [some (.dat (.list (ds.map encN))), some (.dat (encN most)), some (.dat (encN many)), none, none, none, none, none, none, none, none, none]) (setS_dat ?_)).trans ?_
  · simp -implicitDefEqProofs only [e2_, eA_, ac_, a0_, cs_, vr_, List.getElem?_cons_zero, List.getElem?_cons_succ, Option.join_some, Option.bind_some, encN, ixE_list, aq0, intE_int, modE_, if_pos m0, addE_, e0]
  refine (seqS_nx (e := [some (.dat (.list (ds.map encN))), some (.dat (encN most)), some (.dat (encN many)), some (.dat (encN block)), none, none, none, none, none, none, none, none]) (by simp -implicitDefEqProofs [fz_, encN, a1, m4, ab])).trans ?_
  refine (seqS_nx (e := [some (.dat (.list (ds.map encN))), some (.dat (encN most)), some (.dat (encN many)), some (.dat (encN block)), some (.own (.lst [])), none, none, none, none, none, none, none]) (setN_own (by simp -implicitDefEqProofs only [nA_, a0_, Option.bind_some, lstE_nil]))).trans ?_
  refine (seqS_nx (e := _) (Eq.trans ?_ h1)).trans ?_
  · simp -implicitDefEqProofs only [forS, itA_, ac_, a0_, vr_, List.getElem?_cons_zero, List.getElem?_cons_succ, Option.join_some, Option.bind_some, encN, rn]
  · rfl
theorem chainOf_good {ds : List Nat} {most : Nat} (hn : 0 < most) : let g := chainOf ds most; 0 < g.length ∧ g.length ≤ most ∧ ∀ p ∈ g, GoodPl g.length 9 p ∧ p.kd = .draw := by
  have lt := Nat.mod_lt (at' ds 0) hn
  have l : (chainOf ds most).length = 1 + at' ds 0 % most := by simp [chainOf]
  refine ⟨by omega, by omega, fun p hp => ?_⟩
  rw [l]
  obtain ⟨k, hk, rfl⟩ := List.mem_map.mp hp
  exact ⟨chPl_good _ (List.mem_range.mp hk), rfl⟩
end Od

set_option Elab.async false
set_option linter.all false
set_option autoImplicit false
set_option maxRecDepth 100000
/-! Hb: the chances that no mark is above one, backwards. -/
namespace Od
open PySem PySem.Spec PyProof.Rows L2
structure GoodC (g : List Pl) (L : Nat) : Prop where
  len : g.length ≤ 8
  pl : ∀ p ∈ g, GoodPl g.length 9 p
  dr : ∀ p ∈ g, p.kd = .draw
  L0 : 0 < L
  hL : L < 2 ^ 40
  ch : ∀ p ∈ g, ∀ b ∈ p.bs, Fr L b.1
theorem goodC_of {g : List Pl} (hl : g.length ≤ 8) (h : ∀ p ∈ g, GoodPl g.length 9 p ∧ p.kd = .draw) : ∃ L, GoodC g L := by
  have go : ∀ ps : List Pl, (∀ p ∈ ps, GoodPl g.length 9 p ∧ p.kd = .draw) → ∃ L, 0 < L ∧ L ≤ 30 ^ ps.length ∧ ∀ p ∈ ps, ∀ b ∈ p.bs, Fr L b.1 := by
    intro ps
    induction ps with
    | nil => intro _; exact ⟨1, by decide, by decide, fun _ h => nomatch h⟩
    | cons p ps ih =>
      intro h
      obtain ⟨L, l1, l2, l3⟩ := ih fun q hq => h q (List.mem_cons_of_mem _ hq)
      obtain ⟨gp, hd⟩ := h p List.mem_cons_self
      obtain ⟨s, s0, s1, s2, s3⟩ := gp.ch hd
      refine ⟨L * s, Nat.mul_pos l1 s0, ?_, fun q hq b hb => ?_⟩
      · rw [List.length_cons, Nat.pow_succ]
        exact Nat.mul_le_mul l2 s1
      · rcases List.mem_cons.mp hq with e | e
        · subst e
          obtain ⟨w, w0, w1, w2⟩ := s2 b hb
          rw [w2]
          exact (fr_part s0 w1).dvd ⟨L, Nat.mul_comm _ _⟩
        · exact (l3 q e b hb).dvd ⟨s, rfl⟩
  obtain ⟨L, l1, l2, l3⟩ := go g h
  have e : (30 : Nat) ^ g.length ≤ 30 ^ 8 := Nat.pow_le_pow_right (by decide) hl
  exact ⟨L, hl, fun p hp => (h p hp).1, fun p hp => (h p hp).2, l1, Nat.lt_of_le_of_lt (Nat.le_trans l2 e) (by decide), l3⟩
theorem frc_bd {L t k : Nat} {r : Rat} (h : Fr (L ^ t) r) (h0 : 0 < L) (hL : L < 2 ^ 40) (ht : t ≤ 30) (hk : 1200 ≤ k) : Bd k r := by
  refine Bd.mono (h.bd (k := 1200) (Nat.pow_pos h0) ?_) hk
  rcases Nat.eq_zero_or_pos t with e | e
  · subst e
    exact Nat.one_lt_two_pow (by decide)
  · have a : L ^ t < (2 ^ 40) ^ t := Nat.pow_lt_pow_left hL (by omega)
    rw [← Nat.pow_mul] at a
    exact Nat.lt_of_lt_of_le a (Nat.pow_le_pow_right (by decide) (by omega))
def below (g : List Pl) (m : Nat) : Nat → Nat → Rat
  | 0, s => match g[s]? with
    | none => 0
    | some p => if p.mark ≤ m then 1 else 0
  | j + 1, s => match g[s]? with
    | none => 0
    | some p => if p.mark ≤ m then (p.bs.map fun b => b.1 * below g m j b.2).sum else 0
def bstep (f : Nat → Rat) (m : Nat) (p : Pl) : Rat := if p.mark ≤ m then (p.bs.map fun b => b.1 * f b.2).sum else 0
def encRow (n : Nat) (f : Nat → Rat) : D := .list ((List.range n).map fun s => encR (f s))
theorem encRow_at {n s : Nat} (h : s < n) (f : Nat → Rat) : atI ((List.range n).map fun s => encR (f s)) (s : Int) = some (encR (f s)) := by
  rw [atI_ofNat]; simp [h]
theorem game_at {g : List Pl} {s : Nat} {p : Pl} (h : g[s]? = some p) : atI (g.map encP) (s : Int) = some (encP p) := atI_map encP h
section
variable {g : List Pl} {L : Nat} (G : GoodC g L)
include G
theorem cdraw_fr {p : Pl} (hp : p ∈ g) {M : Nat} {f : Nat → Rat} (hf : ∀ s, Fr M (f s)) {pre post : List (Rat × Nat)} (he : p.bs = pre ++ post) : Fr (L * M) (pre.map fun b => b.1 * f b.2).sum := by
  obtain ⟨s, _, _, _, hs⟩ := (G.pl p hp).ch (G.dr p hp)
  have hb : ∀ b ∈ p.bs, Fr L b.1 := G.ch p hp
  have hpre : ∀ b ∈ pre, Fr L b.1 := fun b hb' => hb b (by rw [he]; exact List.mem_append_left _ hb')
  have hpost : ∀ b ∈ post, Fr L b.1 := fun b hb' => hb b (by rw [he]; exact List.mem_append_right _ hb')
  obtain ⟨s1, s2⟩ := sum_parts (fun b : Rat × Nat => b.1) (fun b => f b.2) (bs := pre) (fun b hb' => ⟨(hpre b hb').lo, (hf _).lo, (hf _).hi⟩)
  have s3 := sum_nn (fun b : Rat × Nat => b.1) (bs := post) (fun b hb' => (hpost b hb').lo)
  rw [he, List.map_append, List.sum_append] at hs
  refine ⟨sum_whole _ fun b hb' => (hpre b hb').w.mul (hf _).w, s1, ?_⟩
  grind
theorem below_fr (m : Nat) : ∀ j s, Fr (L ^ j) (below g m j s)
  | 0, s => by
    unfold below
    cases h : g[s]? with
    | none => exact ⟨Whole.zero _, Rat.le_refl, (by decide : (0 : Rat) ≤ 1)⟩
    | some p =>
      show Fr (L ^ 0) (if p.mark ≤ m then 1 else 0)
      by_cases q : p.mark ≤ m
      · rw [if_pos q]; exact ⟨Whole.one _, by decide, Rat.le_refl⟩
      · rw [if_neg q]; exact ⟨Whole.zero _, Rat.le_refl, by decide⟩
  | j + 1, s => by
    unfold below
    cases h : g[s]? with
    | none => exact ⟨Whole.zero _, Rat.le_refl, (by decide : (0 : Rat) ≤ 1)⟩
    | some p =>
      show Fr (L ^ (j + 1)) (if p.mark ≤ m then (p.bs.map fun b => b.1 * below g m j b.2).sum else 0)
      by_cases q : p.mark ≤ m
      · rw [if_pos q, Nat.pow_succ']
        exact cdraw_fr G (List.mem_of_getElem? h) (below_fr m j) (post := []) (by simp)
      · rw [if_neg q]; exact ⟨Whole.zero _, Rat.le_refl, by decide⟩
theorem cpart_bd {p : Pl} (hp : p ∈ g) {t : Nat} (ht : t ≤ 29) {f : Nat → Rat} (hf : ∀ s, Fr (L ^ t) (f s)) {pre post : List Rat} {a : Rat} (he : (p.bs.map fun b => b.1 * f b.2) = pre ++ a :: post) : Bd 1200 pre.sum ∧ Bd 1200 a := by
  obtain ⟨l1, l2, e, e1, e2⟩ := List.map_eq_append_iff.mp he
  have h1 := cdraw_fr G hp hf e
  rw [e1, ← Nat.pow_succ'] at h1
  obtain ⟨b, l3, e3, e4, e5⟩ := List.map_eq_cons_iff.mp e2
  have hb : b ∈ p.bs := by rw [e, e3]; exact List.mem_append_right _ List.mem_cons_self
  have f2 := (G.ch p hp b hb).mul (hf b.2)
  rw [← Nat.pow_succ', e4] at f2
  exact ⟨frc_bd h1 G.L0 G.hL (by omega) (Nat.le_refl _), frc_bd f2 G.L0 G.hL (by omega) (Nat.le_refl _)⟩
theorem cch_bd {p : Pl} (hp : p ∈ g) {b : Rat × Nat} (hb : b ∈ p.bs) {k : Nat} (hk : 1200 ≤ k) : Bd k b.1 := by
  have := G.ch p hp b hb
  rw [← Nat.pow_one L] at this
  exact frc_bd this G.L0 G.hL (by decide) hk
theorem enc_bs {p : Pl} (hp : p ∈ g) : encBs p.kd p.bs = p.bs.map encB := by unfold encBs; simp [G.dr p hp]
theorem below_1 {p : Pl} (hp : p ∈ g) {t : Nat} (ht : t ≤ 29) {f : Nat → Rat} (hf : ∀ s, Fr (L ^ t) (f s)) (m : Nat) (x1 x3 x5 x6 x9 x11 x12 x13 : Option EV) {acc : List D} (ha : acc.length < 1000) :
    L_law_below_1 [some (.dat (encG g)), x1, some (.dat (encN m)), x3, some (.dat (encRow g.length f)), x5, x6, some (.own (.lst acc)), some (.dat (encN p.mark)), x9, some (.dat (.list (p.bs.map encB))), x11, x12, x13] =
      some (.nx [some (.dat (encG g)), x1, some (.dat (encN m)), x3, some (.dat (encRow g.length f)), x5, x6, some (.own (.lst (acc ++ [encR (bstep f m p)]))), some (.dat (encN p.mark)), x9, some (.dat (.list (p.bs.map encB))), some (.dat (encR (bstep f m p))), x12, x13]) := by
  have gp := G.pl p hp
  have ha' : acc.length < 1000000 := by omega
  have z : encR 0 = .tuple [.int 0, .int 1] := rfl
  unfold L_law_below_1
  refine (seqS_nx (e := [some (.dat (encG g)), x1, some (.dat (encN m)), x3, some (.dat (encRow g.length f)), x5, x6, some (.own (.lst acc)), some (.dat (encN p.mark)), x9, some (.dat (.list (p.bs.map encB))), some (.dat (encR 0)), x12, x13]) (setS_dat ?_)).trans ?_
  · simp -implicitDefEqProofs only [eA_, ac_, a0_, cs_, Option.bind_some, tup2i, z]
  by_cases q : p.mark ≤ m
  · have q' : decide ((p.mark : Int) ≤ (m : Int)) = true := decide_eq_true (by omega)
    rw [show bstep f m p = (p.bs.map fun b => b.1 * f b.2).sum from if_pos q]
    have tt := R_law_total_ok (xs := p.bs.map fun b => b.1 * f b.2) (fun pre a post he => cpart_bd G hp ht hf he)
    rw [List.map_map] at tt
    have tt' : R_law_total [.list (p.bs.map fun b => encR (b.1 * f b.2))] = some (encR (p.bs.map fun b => b.1 * f b.2).sum) := tt
    have lc := lcN_map (it := itL (vr 10)) (p := .tp (.cons (.nm 12) (.cons (.nm 13) .nil))) (f := cl R_law_times (ac (vr 12) (ac (e2 ixE (vr 4) (vr 13)) (a0)))) (vs := [12, 13]) (env := [some (.dat (encG g)), x1, some (.dat (encN m)), x3, some (.dat (encRow g.length f)), x5, x6, some (.own (.lst acc)), some (.dat (encN p.mark)), x9, some (.dat (.list (p.bs.map encB))), some (.dat (encR 0)), x12, x13]) (enc := encB) (g := fun b => encR (b.1 * f b.2)) (xs := p.bs) (by simp -implicitDefEqProofs) (by have := gp.len; omega) (fun b hb => ⟨[some (.dat (encG g)), x1, some (.dat (encN m)), x3, some (.dat (encRow g.length f)), x5, x6, some (.own (.lst acc)), some (.dat (encN p.mark)), x9, some (.dat (.list (p.bs.map encB))), some (.dat (encR 0)), some (.dat (encR b.1)), some (.dat (encN b.2))], by simp -implicitDefEqProofs [encB, wipeE], by
      have a1 := encRow_at (gp.tg b hb) f
      have tm := R_law_times_ok (cch_bd G hp hb (k := 1200) (by decide)) (frc_bd (hf b.2) G.L0 G.hL (by omega) (Nat.le_refl 1200))
      simp -implicitDefEqProofs only [cl_, e2_, ac_, a0_, vr_, List.getElem?_cons_zero, List.getElem?_cons_succ, Option.join_some, Option.bind_some, encRow, encN, ixE_list, a1, asDs_cons, asDs_nil, tm, asD_dat]⟩)
    have fl := fz_lst lc
    refine (seqS_nx (e := [some (.dat (encG g)), x1, some (.dat (encN m)), x3, some (.dat (encRow g.length f)), x5, x6, some (.own (.lst acc)), some (.dat (encN p.mark)), x9, some (.dat (.list (p.bs.map encB))), some (.dat (encR (p.bs.map fun b => b.1 * f b.2).sum)), x12, x13]) ((ifS_t ?_).trans (setS_dat ?_))).trans ?_
    · simp -implicitDefEqProofs [encN, q]
    · rw [cl_, ac_, fl]
      simp -implicitDefEqProofs only [a0_, Option.bind_some, asDs_cons, asDs_nil, tt']
    · simp -implicitDefEqProofs only [appS_, vr_, List.getElem?_cons_zero, List.getElem?_cons_succ, Option.join_some, Option.bind_some, asD_dat, if_pos ha', List.set_cons_zero, List.set_cons_succ]
  · rw [show bstep f m p = 0 from if_neg q]
    refine (seqS_nx (e := [some (.dat (encG g)), x1, some (.dat (encN m)), x3, some (.dat (encRow g.length f)), x5, x6, some (.own (.lst acc)), some (.dat (encN p.mark)), x9, some (.dat (.list (p.bs.map encB))), some (.dat (encR 0)), x12, x13]) ((ifS_f ?_).trans (skip_ _))).trans ?_
    · simp -implicitDefEqProofs [encN]
      omega
    · simp -implicitDefEqProofs only [appS_, vr_, List.getElem?_cons_zero, List.getElem?_cons_succ, Option.join_some, Option.bind_some, asD_dat, if_pos ha', List.set_cons_zero, List.set_cons_succ]
theorem below_2 {t : Nat} (ht : t ≤ 29) {f : Nat → Rat} (hf : ∀ s, Fr (L ^ t) (f s)) (m : Nat) (x1 x3 x5 x6 x7 x8 x9 x10 x11 x12 x13 : Option EV) (f' : Nat → Rat) (hf' : ∀ s p, g[s]? = some p → f' s = bstep f m p) : ∃ y7 y8 y9 y10 y11,
    L_law_below_2 [some (.dat (encG g)), x1, some (.dat (encN m)), x3, some (.dat (encRow g.length f)), x5, x6, x7, x8, x9, x10, x11, x12, x13] =
      some (.nx [some (.dat (encG g)), x1, some (.dat (encN m)), x3, some (.dat (encRow g.length f')), x5, x6, y7, y8, y9, y10, y11, x12, x13]) := by
  obtain ⟨e, h1, y8, y9, y10, y11, rfl⟩ := for_nx (enc := encP) (p := .tp (.cons (.nm 8) (.cons (.nm 9) (.cons (.nm 10) .nil)))) (b := L_law_below_1) (xs := g) (fun pre env => ∃ y8 y9 y10 y11, env = [some (.dat (encG g)), x1, some (.dat (encN m)), x3, some (.dat (encRow g.length f)), x5, x6, some (.own (.lst (pre.map fun p => encR (bstep f m p)))), y8, y9, y10, y11, x12, x13])
    (fun pre p post hs env ⟨y8, y9, y10, y11, he⟩ => by
      subst he
      have hl := congrArg List.length hs
      simp at hl
      have hg := G.len
      have hp : p ∈ g := by rw [hs]; exact List.mem_append_right _ List.mem_cons_self
      have eb := enc_bs G hp
      have q := below_1 G hp ht hf m x1 x3 x5 x6 (some (.dat (.str p.kd.str))) y11 x12 x13 (acc := pre.map fun p => encR (bstep f m p)) (by simp; omega)
      exact ⟨[some (.dat (encG g)), x1, some (.dat (encN m)), x3, some (.dat (encRow g.length f)), x5, x6, some (.own (.lst (pre.map fun p => encR (bstep f m p)))), some (.dat (encN p.mark)), some (.dat (.str p.kd.str)), some (.dat (.list (p.bs.map encB))), y11, x12, x13], by simp -implicitDefEqProofs [encP, eb], _, q, by rw [List.map_append, List.map_singleton]; exact ⟨_, _, _, _, rfl⟩⟩)
    (env := [some (.dat (encG g)), x1, some (.dat (encN m)), x3, some (.dat (encRow g.length f)), x5, x6, some (.own (.lst [])), x8, x9, x10, x11, x12, x13]) ⟨_, _, _, _, rfl⟩
  have er : .list (g.map fun p => encR (bstep f m p)) = encRow g.length f' := by
    unfold encRow
    refine congrArg PyData.list (List.ext_getElem (by simp) fun i h1 h2 => ?_)
    have hi : i < g.length := by simpa using h1
    have hp : g[i]? = some g[i] := by simp [hi]
    simp only [List.getElem_map, List.getElem_range]
    rw [hf' i _ hp]
  refine ⟨some (.dat (encRow g.length f')), y8, y9, y10, y11, ?_⟩
  unfold L_law_below_2
  refine (seqS_nx (e := [some (.dat (encG g)), x1, some (.dat (encN m)), x3, some (.dat (encRow g.length f)), x5, x6, some (.own (.lst [])), x8, x9, x10, x11, x12, x13]) (setN_own (by simp -implicitDefEqProofs only [nA_, a0_, Option.bind_some, lstE_nil]))).trans ?_
  refine (seqS_nx (e := _) (Eq.trans ?_ h1)).trans ?_
  · simp -implicitDefEqProofs only [forS, itL_, vr_, List.getElem?_cons_zero, List.getElem?_cons_succ, Option.join_some, Option.bind_some, encG, asDL_list]
  · simp -implicitDefEqProofs only [frzS_, setS_, vr_, List.getElem?_cons_zero, List.getElem?_cons_succ, Option.join_some, Option.bind_some, List.set_cons_zero, List.set_cons_succ, asD_dat, er]
theorem law_below_ok {place m T : Nat} (hp : place < g.length) (hT : T ≤ 30) : R_law_below [encG g, encN place, encN m, encN T] = some (encR (below g m T place)) := by
  have gl := G.len
  have rt := rg1_nat (n := T) (by omega)
  obtain ⟨e, h1, y6, y7, y8, y9, y10, y11, rfl⟩ := for_nx (enc := encN) (p := .nm 6) (b := L_law_below_2) (xs := List.range T) (fun pre env => ∃ y6 y7 y8 y9 y10 y11, env = [some (.dat (encG g)), some (.dat (encN place)), some (.dat (encN m)), some (.dat (encN T)), some (.dat (encRow g.length (below g m pre.length))), none, y6, y7, y8, y9, y10, y11, none, none])
    (fun pre a post hx env ⟨y6, y7, y8, y9, y10, y11, he⟩ => by
      subst he
      have hlx := congrArg List.length hx
      simp at hlx
      obtain ⟨z7, z8, z9, z10, z11, q⟩ := below_2 G (t := pre.length) (by omega) (below_fr G m pre.length) m (some (.dat (encN place))) (some (.dat (encN T))) none (some (.dat (encN a))) y7 y8 y9 y10 y11 none none (below g m (pre.length + 1)) (fun s p hp => by rw [below, hp]; rfl)
      exact ⟨[some (.dat (encG g)), some (.dat (encN place)), some (.dat (encN m)), some (.dat (encN T)), some (.dat (encRow g.length (below g m pre.length))), none, some (.dat (encN a)), y7, y8, y9, y10, y11, none, none], by simp, _, q, by rw [List.length_append, List.length_singleton]; exact ⟨_, _, _, _, _, _, rfl⟩⟩)
    (env := [some (.dat (encG g)), some (.dat (encN place)), some (.dat (encN m)), some (.dat (encN T)), some (.dat (encRow g.length (below g m 0))), none, none, none, none, none, none, none, none, none]) ⟨_, _, _, _, _, _, rfl⟩
  rw [List.length_range] at h1
  have rn := rg1_nat (n := g.length) (by omega)
  have rn' : rg1E [.dat (.int ((g.map encP).length : Nat))] = some ((List.range g.length).map encN) := by rw [List.length_map]; exact rn
  refine fnD_rt rfl ?_
  show F_law_below [some (.dat (encG g)), some (.dat (encN place)), some (.dat (encN m)), some (.dat (encN T)), none, none, none, none, none, none, none, none, none, none] = _
  unfold F_law_below
  refine (seqS_nx (e := [some (.dat (encG g)), some (.dat (encN place)), some (.dat (encN m)), some (.dat (encN T)), some (.dat (encRow g.length (below g m 0))), none, none, none, none, none, none, none, none, none]) ?_).trans ?_
  · unfold encRow
    refine setS_dat (fz_lst (lcN_map (enc := encN) (xs := List.range g.length) ?_ ?_ ?_))
    · simp -implicitDefEqProofs only [itA_, eA_, ac_, a0_, vr_, List.getElem?_cons_zero, List.getElem?_cons_succ, Option.join_some, Option.bind_some, encG, lenE_, rn']
    · rw [List.length_range]; omega
    · intro s hs
      have hs' := List.mem_range.mp hs
      have hp : g[s]? = some g[s] := by simp [hs']
      have a1 := game_at hp
      refine ⟨[some (.dat (encG g)), some (.dat (encN place)), some (.dat (encN m)), some (.dat (encN T)), none, some (.dat (encN s)), none, none, none, none, none, none, none, none], by simp -implicitDefEqProofs [wipeE], ?_⟩
      have eb : below g m 0 s = if g[s].mark ≤ m then 1 else 0 := by rw [below, hp]
      rw [eb]
      have z : encR 0 = .tuple [.int 0, .int 1] := rfl
      have o : encR 1 = .tuple [.int 1, .int 1] := rfl
      by_cases q : g[s].mark ≤ m
      · have q' : decide ((g[s].mark : Int) ≤ (m : Int)) = true := decide_eq_true (by omega)
        rw [if_pos q, o]
        simp -implicitDefEqProofs only [e2_, eA_, ac_, a0_, cs_, vr_, List.getElem?_cons_zero, List.getElem?_cons_succ, Option.join_some, Option.bind_some, encG, encN, ixE_list, a1, encP, ixE_tuple, atI_0, leE_, q', intE_bool, if_true, tup2i, asD_dat]
      · have q' : decide ((g[s].mark : Int) ≤ (m : Int)) = false := decide_eq_false (by omega)
        rw [if_neg q, z]
        simp -implicitDefEqProofs only [e2_, eA_, ac_, a0_, cs_, vr_, List.getElem?_cons_zero, List.getElem?_cons_succ, Option.join_some, Option.bind_some, encG, encN, ixE_list, a1, encP, ixE_tuple, atI_0, leE_, q', intE_bool, Bool.false_eq_true, if_false, tup2i, asD_dat]
  refine (seqS_nx (e := _) (Eq.trans ?_ h1)).trans ?_
  · simp -implicitDefEqProofs only [forS, itA_, ac_, a0_, vr_, List.getElem?_cons_zero, List.getElem?_cons_succ, Option.join_some, Option.bind_some, rt]
  · refine retS_dat ?_
    have a2 := encRow_at hp (below g m T)
    simp -implicitDefEqProofs only [e2_, vr_, List.getElem?_cons_zero, List.getElem?_cons_succ, Option.join_some, Option.bind_some, encRow, encN, ixE_list, a2]
end
end Od

set_option Elab.async false
set_option linter.all false
set_option autoImplicit false
set_option maxRecDepth 100000
/-! Hf: masses that go forward. -/
namespace Od
open PySem PySem.Spec PyProof.Rows L2
abbrev MT := List ((Nat × Nat) × Rat)
def ky (q : Nat × Nat) : List L2.Key := [.inl (q.1 : Int), .inl (q.2 : Int)]
theorem ky_inj {a b : Nat × Nat} (h : ky a = ky b) : a = b := by
  unfold ky at h
  injection h with h1 h2
  injection h2 with h2 _
  injection h1 with h1
  injection h2 with h2
  exact Prod.ext (by omega) (by omega)
def tabR (es : MT) : List (List L2.Key × D) := es.map fun e => (ky e.1, encR e.2)
def getT : MT → Nat × Nat → Rat
  | [], _ => 0
  | e :: r, k => if e.1 = k then e.2 else getT r k
def putT : MT → Nat × Nat → Rat → MT
  | [], k, v => [(k, v)]
  | e :: r, k, v => if e.1 = k then (k, v) :: r else e :: putT r k v
theorem getT_ok : ∀ (es : MT) (k : Nat × Nat), (getD' (tabR es) (ky k)).getD (encR 0) = encR (getT es k)
  | [], _ => rfl
  | e :: r, k => by
    unfold getD' tabR getT
    rw [List.map_cons, List.find?_cons]
    by_cases h : e.1 = k
    · rw [decide_eq_true (by rw [h]), if_pos h]; rfl
    · rw [decide_eq_false (fun z => h (ky_inj z)), if_neg h]
      exact getT_ok r k
def keysT (es : MT) : List (Nat × Nat) := es.map (·.1)
theorem putD_none {es : List (List L2.Key × D)} {k : List L2.Key} {d : D} (h : ∀ e ∈ es, e.1 ≠ k) : es.map (fun kv => if kv.1 = k then (kv.1, d) else kv) = es := by
  rw [List.map_congr_left (g := id) fun e he => by rw [if_neg (h e he)]; rfl, List.map_id]
theorem putT_ok : ∀ {es : MT} {k : Nat × Nat} {v : Rat}, (keysT es).Nodup → putD (tabR es) (ky k) (encR v) = tabR (putT es k v)
  | [], k, v, _ => by unfold putD tabR putT; simp
  | e :: r, k, v, hn => by
    have hn' : e.1 ∉ keysT r ∧ (keysT r).Nodup := List.nodup_cons.mp hn
    have ih := putT_ok (k := k) (v := v) hn'.2
    unfold putT
    by_cases h : e.1 = k
    · rw [if_pos h]
      unfold putD tabR
      rw [List.map_cons, List.any_cons, decide_eq_true (by rw [h]), Bool.true_or, if_pos rfl, List.map_cons, if_pos (by rw [h]), List.map_cons, h]
      rw [putD_none fun q hq z => ?_]
      obtain ⟨q', hq', rfl⟩ := List.mem_map.mp hq
      have := ky_inj z
      rw [h] at hn'
      exact hn'.1 (List.mem_map.mpr ⟨q', hq', this⟩)
    · rw [if_neg h]
      unfold putD tabR at ih ⊢
      rw [List.map_cons, List.any_cons, decide_eq_false (fun z => h (ky_inj z)), Bool.false_or, List.map_cons, if_neg (fun z => h (ky_inj z)), List.map_cons, ← ih]
      split <;> rfl
theorem putT_keys : ∀ (es : MT) (k : Nat × Nat) (v : Rat) (q : Nat × Nat), q ∈ keysT (putT es k v) → q ∈ keysT es ∨ q = k
  | [], k, v, q, h => by
    have : q ∈ [k] := h
    exact .inr (List.mem_singleton.mp this)
  | e :: r, k, v, q, h => by
    unfold putT at h
    by_cases z : e.1 = k
    · rw [if_pos z] at h
      have h' : q ∈ k :: keysT r := h
      rcases List.mem_cons.mp h' with w | w
      · exact .inr w
      · exact .inl (List.mem_cons_of_mem _ w)
    · rw [if_neg z] at h
      have h' : q ∈ e.1 :: keysT (putT r k v) := h
      rcases List.mem_cons.mp h' with w | w
      · exact .inl (by rw [w]; exact List.mem_cons_self)
      · rcases putT_keys r k v q w with u | u
        · exact .inl (List.mem_cons_of_mem _ u)
        · exact .inr u
theorem putT_nodup : ∀ {es : MT} {k : Nat × Nat} {v : Rat}, (keysT es).Nodup → (keysT (putT es k v)).Nodup
  | [], k, v, _ => by show [k].Nodup; simp
  | e :: r, k, v, hn => by
    have hn' : e.1 ∉ keysT r ∧ (keysT r).Nodup := List.nodup_cons.mp hn
    unfold putT
    by_cases z : e.1 = k
    · rw [if_pos z]
      show (k :: keysT r).Nodup
      rw [← z]
      exact List.nodup_cons.mpr hn'
    · rw [if_neg z]
      refine List.nodup_cons.mpr ⟨fun w => ?_, putT_nodup hn'.2⟩
      rcases putT_keys r k v _ w with u | u
      · exact hn'.1 u
      · exact z u
theorem putT_mem : ∀ (es : MT) (k : Nat × Nat) (v : Rat) (q : (Nat × Nat) × Rat), q ∈ putT es k v → q ∈ es ∨ q = (k, v)
  | [], k, v, q, h => .inr (List.mem_singleton.mp h)
  | e :: r, k, v, q, h => by
    unfold putT at h
    by_cases z : e.1 = k
    · rw [if_pos z] at h
      rcases List.mem_cons.mp h with w | w
      · exact .inr w
      · exact .inl (List.mem_cons_of_mem _ w)
    · rw [if_neg z] at h
      rcases List.mem_cons.mp h with w | w
      · exact .inl (by rw [w]; exact List.mem_cons_self)
      · rcases putT_mem r k v q w with u | u
        · exact .inl (List.mem_cons_of_mem _ u)
        · exact .inr u
theorem getT_mem : ∀ (es : MT) (k : Nat × Nat), getT es k = 0 ∨ ∃ e ∈ es, getT es k = e.2
  | [], _ => .inl rfl
  | e :: r, k => by
    unfold getT
    by_cases z : e.1 = k
    · rw [if_pos z]; exact .inr ⟨e, List.mem_cons_self, rfl⟩
    · rw [if_neg z]
      rcases getT_mem r k with w | ⟨q, w1, w2⟩
      · exact .inl w
      · exact .inr ⟨q, List.mem_cons_of_mem _ w1, w2⟩
def Phi (φ : Nat × Nat → Rat) (es : MT) : Rat := (es.map fun e => φ e.1 * e.2).sum
theorem Phi_cons (φ : Nat × Nat → Rat) (e : (Nat × Nat) × Rat) (r : MT) : Phi φ (e :: r) = φ e.1 * e.2 + Phi φ r := by unfold Phi; rw [List.map_cons, List.sum_cons]
theorem Phi_nil (φ : Nat × Nat → Rat) : Phi φ [] = 0 := rfl
theorem Phi_put (φ : Nat × Nat → Rat) (x : Rat) : ∀ {es : MT} {k : Nat × Nat}, Phi φ (putT es k (getT es k + x)) = Phi φ es + φ k * x
  | [], k => by
    show Phi φ [(k, (0 : Rat) + x)] = _
    rw [Phi_cons, Phi_nil]
    grind
  | e :: r, k => by
    unfold putT getT
    by_cases z : e.1 = k
    · rw [if_pos z, if_pos z, Phi_cons, Phi_cons, z]
      grind
    · rw [if_neg z, if_neg z, Phi_cons, Phi_cons, Phi_put φ x]
      grind
theorem Phi_one_ge : ∀ {es : MT}, (∀ e ∈ es, 0 ≤ e.2) → 0 ≤ Phi (fun _ => 1) es ∧ ∀ e ∈ es, e.2 ≤ Phi (fun _ => 1) es
  | [], _ => ⟨Rat.le_refl, fun _ h => nomatch h⟩
  | e :: r, h => by
    obtain ⟨i1, i2⟩ := Phi_one_ge (es := r) fun q hq => h q (List.mem_cons_of_mem _ hq)
    have h0 := h e List.mem_cons_self
    rw [Phi_cons]
    refine ⟨by grind, fun q hq => ?_⟩
    rcases List.mem_cons.mp hq with w | w
    · subst w; grind
    · have := i2 q w; grind
end Od

set_option Elab.async false
set_option linter.all false
set_option autoImplicit false
set_option maxRecDepth 100000
/-! Hg: one step of the masses. -/
namespace Od
open PySem PySem.Spec PyProof.Rows L2
def mkA (g : List Pl) (s : Nat) : Nat := ((g[s]?).map (·.mark)).getD 0
def bsA (g : List Pl) (s : Nat) : List (Rat × Nat) := ((g[s]?).map (·.bs)).getD []
abbrev EM := (Nat × Nat) × Rat
def keyB (g : List Pl) (e : EM) (b : Rat × Nat) : Nat × Nat := (b.2, max e.1.2 (mkA g b.2))
def addB (g : List Pl) (e : EM) (l : MT) (b : Rat × Nat) : MT := putT l (keyB g e b) (getT l (keyB g e b) + e.2 * b.1)
def addI (g : List Pl) (l : MT) (e : EM) : MT := (bsA g e.1.1).foldl (addB g e) l
def stepF (g : List Pl) (es : MT) : MT := es.foldl (addI g) []
def massF (g : List Pl) (s : Nat) : Nat → MT
  | 0 => [((s, mkA g s), 1)]
  | t + 1 => stepF g (massF g s t)
structure OkT (g : List Pl) (M : Nat) (l : MT) : Prop where
  nd : (keysT l).Nodup
  lo : ∀ e ∈ l, 0 ≤ e.2
  w : ∀ e ∈ l, Whole M e.2
  pl : ∀ e ∈ l, e.1.1 < g.length
  m9 : ∀ e ∈ l, e.1.2 ≤ 9
  mm : ∀ e ∈ l, mkA g e.1.1 ≤ e.1.2
theorem OkT.nil (g : List Pl) (M : Nat) : OkT g M [] := ⟨List.nodup_nil, fun _ h => (nomatch h), fun _ h => (nomatch h), fun _ h => (nomatch h), fun _ h => (nomatch h), fun _ h => nomatch h⟩
theorem OkT.fr {g : List Pl} {M : Nat} {l : MT} (h : OkT g M l) (h1 : Phi (fun _ => 1) l ≤ 1) : ∀ e ∈ l, Fr M e.2 := fun e he =>
  ⟨h.w e he, h.lo e he, Rat.le_trans ((Phi_one_ge h.lo).2 e he) h1⟩
theorem OkT.get {g : List Pl} {M : Nat} {l : MT} (h : OkT g M l) (h1 : Phi (fun _ => 1) l ≤ 1) (k : Nat × Nat) : Fr M (getT l k) := by
  rcases getT_mem l k with e | ⟨e, he, q⟩
  · rw [e]; exact ⟨Whole.zero _, Rat.le_refl, by decide⟩
  · rw [q]; exact h.fr h1 e he
section
variable {g : List Pl} {L : Nat} (G : GoodC g L)
include G
theorem mkA_le (s : Nat) : mkA g s ≤ 9 := by
  unfold mkA
  cases h : g[s]? with
  | none => exact Nat.zero_le _
  | some p => exact (G.pl p (List.mem_of_getElem? h)).hm
theorem bsA_of {s : Nat} {b : Rat × Nat} (h : b ∈ bsA g s) : Fr L b.1 ∧ b.2 < g.length := by
  unfold bsA at h
  cases e : g[s]? with
  | none => rw [e] at h; exact nomatch h
  | some p =>
    rw [e] at h
    have hp := List.mem_of_getElem? e
    exact ⟨G.ch p hp b h, (G.pl p hp).tg b h⟩
theorem bsA_sum {s : Nat} (hs : s < g.length) : ((bsA g s).map (·.1)).sum = 1 := by
  have e : g[s]? = some g[s] := by simp [hs]
  unfold bsA
  rw [e]
  have hp := List.mem_of_getElem? e
  obtain ⟨_, _, _, _, h⟩ := (G.pl _ hp).ch (G.dr _ hp)
  exact h
theorem addB_ok {M : Nat} {l : MT} (h : OkT g (L * M) l) {e : EM} (h0 : 0 ≤ e.2) (hw : Whole M e.2) (h9 : e.1.2 ≤ 9) {b : Rat × Nat} (hb : Fr L b.1) (ht : b.2 < g.length) : OkT g (L * M) (addB g e l b) := by
  have m := mkA_le G b.2
  have new : ∀ q ∈ addB g e l b, q ∈ l ∨ q = (keyB g e b, getT l (keyB g e b) + e.2 * b.1) := fun q hq => putT_mem _ _ _ _ hq
  have g0 : 0 ≤ getT l (keyB g e b) ∧ Whole (L * M) (getT l (keyB g e b)) := by
    rcases getT_mem l (keyB g e b) with w | ⟨q, hq, w⟩
    · rw [w]; exact ⟨Rat.le_refl, Whole.zero _⟩
    · rw [w]; exact ⟨h.lo q hq, h.w q hq⟩
  refine ⟨putT_nodup h.nd, fun q hq => ?_, fun q hq => ?_, fun q hq => ?_, fun q hq => ?_, fun q hq => ?_⟩
  · rcases new q hq with w | rfl
    · exact h.lo q w
    · exact Rat.add_nonneg g0.1 (Rat.mul_nonneg h0 hb.lo)
  · rcases new q hq with w | rfl
    · exact h.w q w
    · refine g0.2.add ?_
      have := hw.mul hb.w
      rwa [Nat.mul_comm M L] at this
  · rcases new q hq with w | rfl
    · exact h.pl q w
    · exact ht
  · rcases new q hq with w | rfl
    · exact h.m9 q w
    · exact Nat.max_le.mpr ⟨h9, m⟩
  · rcases new q hq with w | rfl
    · exact h.mm q w
    · exact Nat.le_max_right _ _
theorem Phi_addB (φ : Nat × Nat → Rat) (e : EM) (l : MT) (b : Rat × Nat) : Phi φ (addB g e l b) = Phi φ l + φ (keyB g e b) * (e.2 * b.1) := Phi_put φ _
theorem Phi_foldB (φ : Nat × Nat → Rat) (e : EM) : ∀ (bs : List (Rat × Nat)) (l : MT), Phi φ (bs.foldl (addB g e) l) = Phi φ l + e.2 * (bs.map fun b => b.1 * φ (keyB g e b)).sum
  | [], l => by simp [Rat.mul_zero, Rat.add_zero]
  | b :: bs, l => by
    rw [List.foldl_cons, Phi_foldB φ e bs, Phi_addB G, List.map_cons, List.sum_cons]
    grind
def SE (g : List Pl) (φ : Nat × Nat → Rat) (e : EM) : Rat := ((bsA g e.1.1).map fun b => b.1 * φ (keyB g e b)).sum
theorem Phi_foldE (φ : Nat × Nat → Rat) : ∀ (es : MT) (l : MT), Phi φ (es.foldl (addI g) l) = Phi φ l + (es.map fun e => e.2 * SE g φ e).sum
  | [], l => by simp [Rat.add_zero]
  | e :: es, l => by
    rw [List.foldl_cons, Phi_foldE φ es, List.map_cons, List.sum_cons]
    unfold addI
    rw [Phi_foldB G]
    show _ + _ + _ = _ + (e.2 * SE g φ e + _)
    unfold SE
    grind
theorem foldB_ok {M : Nat} {e : EM} (h0 : 0 ≤ e.2) (hw : Whole M e.2) (h9 : e.1.2 ≤ 9) : ∀ {bs : List (Rat × Nat)} {l : MT}, (∀ b ∈ bs, Fr L b.1 ∧ b.2 < g.length) → OkT g (L * M) l → OkT g (L * M) (bs.foldl (addB g e) l)
  | [], _, _, h => h
  | b :: bs, l, hb, h => by rw [List.foldl_cons]; exact foldB_ok h0 hw h9 (show ∀ c ∈ bs, Fr L c.1 ∧ c.2 < g.length from fun c hc => hb c (List.mem_cons_of_mem _ hc)) (addB_ok G h h0 hw h9 (hb b List.mem_cons_self).1 (hb b List.mem_cons_self).2)
theorem foldE_ok {M : Nat} : ∀ {es l : MT}, (∀ e ∈ es, 0 ≤ e.2 ∧ Whole M e.2 ∧ e.1.2 ≤ 9) → OkT g (L * M) l → OkT g (L * M) (es.foldl (addI g) l)
  | [], _, _, h => h
  | e :: es, l, he, h => by rw [List.foldl_cons]; exact foldE_ok (show ∀ c ∈ es, 0 ≤ c.2 ∧ Whole M c.2 ∧ c.1.2 ≤ 9 from fun c hc => he c (List.mem_cons_of_mem _ hc)) (foldB_ok G (he e List.mem_cons_self).1 (he e List.mem_cons_self).2.1 (he e List.mem_cons_self).2.2 (fun b hb => bsA_of G hb) h)
theorem SE_one {e : EM} (he : e.1.1 < g.length) : SE g (fun _ => 1) e = 1 := by
  unfold SE
  have : ((bsA g e.1.1).map fun b => b.1 * (1 : Rat)) = (bsA g e.1.1).map (·.1) := List.map_congr_left fun b _ => Rat.mul_one _
  rw [this]
  exact bsA_sum G he
theorem sum_SE_one : ∀ {es : MT}, (∀ e ∈ es, e.1.1 < g.length) → (es.map fun e => e.2 * SE g (fun _ => 1) e).sum = Phi (fun _ => 1) es
  | [], _ => rfl
  | e :: es, h => by
    rw [List.map_cons, List.sum_cons, Phi_cons, sum_SE_one (fun q hq => h q (List.mem_cons_of_mem _ hq)), SE_one G (h e List.mem_cons_self)]
    grind
/-- a part of the work of a step: no more than 1 -/
theorem part_le {es ipre ipost : MT} {e : EM} {bpre bpost : List (Rat × Nat)} (ho : ∀ q ∈ es, 0 ≤ q.2 ∧ q.1.1 < g.length) (h1 : Phi (fun _ => 1) es = 1) (hi : es = ipre ++ e :: ipost) (hb : bsA g e.1.1 = bpre ++ bpost) :
    Phi (fun _ => 1) (bpre.foldl (addB g e) (ipre.foldl (addI g) [])) ≤ 1 := by
  rw [Phi_foldB G, Phi_foldE G, Phi_nil]
  have he : e ∈ es := by rw [hi]; exact List.mem_append_right _ List.mem_cons_self
  have p0 := sum_SE_one G (es := ipre) (fun q hq => (ho q (by rw [hi]; exact List.mem_append_left _ hq)).2)
  rw [p0]
  have b0 : (bpre.map fun b => b.1 * (1 : Rat)) = bpre.map (·.1) := List.map_congr_left fun b _ => Rat.mul_one _
  rw [b0]
  have bs := bsA_sum G (ho e he).2
  rw [hb, List.map_append, List.sum_append] at bs
  have bp := sum_nn (fun b : Rat × Nat => b.1) (bs := bpost) (fun b hb' => (bsA_of G (s := e.1.1) (by rw [hb]; exact List.mem_append_right _ hb')).1.lo)
  have split : Phi (fun _ => 1) es = Phi (fun _ => 1) ipre + (e.2 + Phi (fun _ => 1) ipost) := by
    rw [hi]
    unfold Phi
    rw [List.map_append, List.sum_append, List.map_cons, List.sum_cons, Rat.one_mul]
  have post0 := (Phi_one_ge (es := ipost) (fun q hq => (ho q (by rw [hi]; exact List.mem_append_right _ (List.mem_cons_of_mem _ hq))).1)).1
  rw [h1] at split
  have e0 := (ho e he).1
  have m1 := Rat.mul_nonneg e0 bp
  have ee : e.2 * ((bpre.map (·.1)).sum + (bpost.map (·.1)).sum) = e.2 := by rw [bs, Rat.mul_one]
  rw [Rat.mul_add] at ee
  grind
end
end Od

set_option Elab.async false
set_option linter.all false
set_option autoImplicit false
set_option maxRecDepth 100000
/-! Hh: first_marks. -/
namespace Od
open PySem PySem.Spec PyProof.Rows L2
def nlk : Option EV → Bool | some (.lck _) => false | _ => true
theorem noLck_cons (x : Option EV) (env : En) : noLck (x :: env) = (nlk x && noLck env) := by cases x with
  | none => rfl
  | some e => cases e <;> rfl
theorem noLck_nil : noLck [] = true := rfl
theorem nlk_map (o : Option D) : nlk (o.map EV.dat) = true := by cases o <;> rfl
theorem nlk_ktp (o : Option (List L2.Key)) : nlk (o.map EV.ktp) = true := by cases o <;> rfl
theorem nlk_dat (d : D) : nlk (some (.dat d)) = true := rfl
theorem nlk_own (d : Ob) : nlk (some (.own d)) = true := rfl
theorem nlk_none : nlk none = true := rfl
theorem forP_dt {i : Nat} {p : Pat} {b : En → Option Out} {env : En} {es : List (List L2.Key × D)} (h : vr i env = some (.own (.dt es))) (hn : noLck env = true) :
    forP i p b env = (forGo p b (es.map itemD) (env.set i (some (.lck (.dt es))))).bind (unl i) := by
  unfold forP
  rw [if_pos hn, h]
def encE (e : EM) : D := .tuple [.tuple [encN e.1.1, encN e.1.2], encR e.2]
theorem items_tab (es : MT) : (tabR es).map itemD = es.map encE := by
  unfold tabR
  rw [List.map_map]
  rfl
theorem mkA_of {g : List Pl} {s : Nat} {p : Pl} (h : g[s]? = some p) : mkA g s = p.mark := by simp [mkA, h]
theorem max_nat (a b : Nat) : maxE [.dat (.int (a : Int)), .dat (.int (b : Int))] = some (.dat (encN (max a b))) := by
  rw [maxE_]
  unfold encN
  by_cases h : a < b
  · rw [if_pos (by omega), Nat.max_eq_right (by omega)]
  · rw [if_neg (by omega), Nat.max_eq_left (by omega)]
theorem nodup_len : ∀ (n : Nat) (l : List Nat), l.Nodup → (∀ x ∈ l, x < n) → l.length ≤ n
  | 0, l, _, h => by
    cases l with
    | nil => exact Nat.le_refl _
    | cons x l => exact absurd (h x List.mem_cons_self) (Nat.not_lt_zero _)
  | n + 1, l, nd, h => by
    have ih := nodup_len n (l.erase n) (nd.erase n) (fun x hx => by
      have h1 := (List.Nodup.mem_erase_iff nd).mp hx
      have h2 := h x h1.2
      have h3 : x ≠ n := h1.1
      omega)
    rw [List.length_erase] at ih
    split at ih <;> omega
theorem OkT.len {g : List Pl} {M : Nat} {l : MT} (h : OkT g M l) (hg : g.length ≤ 8) : l.length ≤ 80 := by
  have nd : (l.map fun e => e.1.1 * 10 + e.1.2).Nodup := by
    have h1 : l.Pairwise fun a b => a.1 ≠ b.1 := List.pairwise_map.mp h.nd
    refine List.pairwise_map.mpr (List.Pairwise.imp_of_mem (fun {a b} ha hb ne e => ne ?_) h1)
    have a9 := h.m9 a ha
    have b9 := h.m9 b hb
    exact Prod.ext (by omega) (by omega)
  have := nodup_len 80 _ nd (fun x hx => by
    obtain ⟨e, he, rfl⟩ := List.mem_map.mp hx
    have h1 := h.pl e he
    have h2 := h.m9 e he
    omega)
  simpa using this
section
variable {g : List Pl} {L : Nat} (G : GoodC g L) {t : Nat} (ht : t ≤ 29)
include G ht
theorem fm_1 {e : EM} (he : Fr (L ^ t) e.2) {b : Rat × Nat} (hb : Fr L b.1) (hb2 : b.2 < g.length) {l : MT} (hl : OkT g (L ^ (t + 1)) l) (h1 : Phi (fun _ => 1) l ≤ 1) (hlen : l.length < 1000) (x1 x2 x3 x4 x6 x11 x12 : Option EV) :
    L_first_marks_1 [some (.dat (encG g)), x1, x2, x3, x4, some (.own (.dt (tabR l))), x6, some (.dat (encN e.1.2)), some (.dat (encR e.2)), some (.dat (encR b.1)), some (.dat (encN b.2)), x11, x12] =
      some (.nx [some (.dat (encG g)), x1, x2, x3, x4, some (.own (.dt (tabR (addB g e l b)))), x6, some (.dat (encN e.1.2)), some (.dat (encR e.2)), some (.dat (encR b.1)), some (.dat (encN b.2)), some (.ktp (ky (keyB g e b))), x12]) := by
  obtain ⟨p, hp⟩ : ∃ p, g[b.2]? = some p := ⟨g[b.2], by simp [hb2]⟩
  have a1 := game_at hp
  have mk := mkA_of hp
  have mx := max_nat e.1.2 p.mark
  have kk : keysOf [encN b.2, encN (max e.1.2 p.mark)] = some (ky (keyB g e b)) := by unfold keyB; rw [mk]; rfl
  have be : Bd 4000 e.2 := frc_bd he G.L0 G.hL (by omega) (by decide)
  have hb' : Fr (L ^ 1) b.1 := by rw [Nat.pow_one]; exact hb
  have bb : Bd 4000 b.1 := frc_bd hb' G.L0 G.hL (by decide) (by decide)
  have bg : Bd 4000 (getT l (keyB g e b)) := frc_bd (hl.get h1 _) G.L0 G.hL (by omega) (by decide)
  have pr := he.mul hb
  rw [← Nat.pow_succ] at pr
  have bp : Bd 4000 (e.2 * b.1) := frc_bd pr G.L0 G.hL (by omega) (by decide)
  have tm := R_times_ok be bb
  have pl := R_plus_ok bg bp
  have gt := getT_ok l (keyB g e b)
  have pt := putT_ok (k := keyB g e b) (v := getT l (keyB g e b) + e.2 * b.1) hl.nd
  have z : encR 0 = .tuple [.int 0, .int 1] := rfl
  rw [z] at gt
  unfold L_first_marks_1
  refine (seqS_nx (e := [some (.dat (encG g)), x1, x2, x3, x4, some (.own (.dt (tabR l))), x6, some (.dat (encN e.1.2)), some (.dat (encR e.2)), some (.dat (encR b.1)), some (.dat (encN b.2)), some (.ktp (ky (keyB g e b))), x12]) ?_).trans ?_
  · have fs : (ac (vr 10) (ac (eA maxE (ac (vr 7) (ac (e2 ixE (e2 ixE (vr 0) (vr 10)) (cs (.int 0))) (a0)))) (a0))) [some (.dat (encG g)), x1, x2, x3, x4, some (.own (.dt (tabR l))), x6, some (.dat (encN e.1.2)), some (.dat (encR e.2)), some (.dat (encR b.1)), some (.dat (encN b.2)), x11, x12] = some [.dat (encN b.2), .dat (encN (max e.1.2 p.mark))] := by
      simp -implicitDefEqProofs only [e2_, eA_, ac_, a0_, cs_, vr_, List.getElem?_cons_zero, List.getElem?_cons_succ, Option.join_some, Option.bind_some, encG, encN, ixE_list, ixE_tuple, a1, encP, atI_0, mx]
    unfold ktS
    rw [fs]
    simp -implicitDefEqProofs only [Option.bind_some, asDs_cons, asDs_nil, kk, List.set_cons_zero, List.set_cons_succ]
    rw [if_pos (by show (2 : Nat) ≤ 1000000; decide)]
  · have vv : (cl R_plus (ac (gtV 5 11 (cs (.tuple [(.int 0), (.int 1)]))) (ac (cl R_times (ac (vr 8) (ac (vr 9) (a0)))) (a0)))) [some (.dat (encG g)), x1, x2, x3, x4, some (.own (.dt (tabR l))), x6, some (.dat (encN e.1.2)), some (.dat (encR e.2)), some (.dat (encR b.1)), some (.dat (encN b.2)), some (.ktp (ky (keyB g e b))), x12] = some (.dat (encR (getT l (keyB g e b) + e.2 * b.1))) := by
      have gv : gtV 5 11 (cs (.tuple [(.int 0), (.int 1)])) [some (.dat (encG g)), x1, x2, x3, x4, some (.own (.dt (tabR l))), x6, some (.dat (encN e.1.2)), some (.dat (encR e.2)), some (.dat (encR b.1)), some (.dat (encN b.2)), some (.ktp (ky (keyB g e b))), x12] = some (.dat (encR (getT l (keyB g e b)))) := by
        unfold gtV
        simp -implicitDefEqProofs only [vr_, List.getElem?_cons_zero, List.getElem?_cons_succ, Option.join_some, cs_, Option.bind_some, asD_dat, gt]
      rw [cl_, ac_, gv]
      simp -implicitDefEqProofs only [ac_, cl_, a0_, vr_, List.getElem?_cons_zero, List.getElem?_cons_succ, Option.join_some, Option.bind_some, asDs_cons, asDs_nil, tm, pl]
    have tl : (tabR l).length < 1000000 := by unfold tabR; rw [List.length_map]; omega
    unfold dpV
    rw [vv]
    simp -implicitDefEqProofs only [Option.bind_some, asD_dat, vr_, List.getElem?_cons_zero, List.getElem?_cons_succ, Option.join_some, if_pos tl, pt, List.set_cons_zero, List.set_cons_succ]
    rfl
/-- what holds of the masses before a step -/
structure Full (g : List Pl) (M : Nat) (es : MT) : Prop where
  ok : OkT g M es
  one : Phi (fun _ => 1) es = 1
theorem fm_2 {es ipre ipost : MT} {e : EM} (F : Full g (L ^ t) es) (hi : es = ipre ++ e :: ipost) (x1 x2 x3 x4 x9 x10 x12 : Option EV) (o11 : Option (List L2.Key)) : ∃ (y9 y10 : Option D) (y11 : Option (List L2.Key)),
    L_first_marks_2 [some (.dat (encG g)), x1, x2, x3, x4, some (.own (.dt (tabR (ipre.foldl (addI g) [])))), some (.dat (encN e.1.1)), some (.dat (encN e.1.2)), some (.dat (encR e.2)), x9, x10, o11.map .ktp, x12] =
      some (.nx [some (.dat (encG g)), x1, x2, x3, x4, some (.own (.dt (tabR ((ipre ++ [e]).foldl (addI g) [])))), some (.dat (encN e.1.1)), some (.dat (encN e.1.2)), some (.dat (encR e.2)), y9.map .dat, y10.map .dat, y11.map .ktp, x12]) ∨ (bsA g e.1.1 = []) := by
  have he : e ∈ es := by rw [hi]; exact List.mem_append_right _ List.mem_cons_self
  by_cases hne : bsA g e.1.1 = []
  · exact ⟨none, none, none, .inr hne⟩
  have fe : Fr (L ^ t) e.2 := F.ok.fr (by rw [F.one]; exact Rat.le_refl) e he
  have hpl := F.ok.pl e he
  have hg8 := G.len
  have hp : g[e.1.1]? = some g[e.1.1] := by simp [hpl]
  have hpm := List.mem_of_getElem? hp
  have a1 := game_at hp
  have eb := enc_bs G hpm
  have bq : bsA g e.1.1 = g[e.1.1].bs := by simp [bsA, hp]
  have ho : ∀ q ∈ es, 0 ≤ q.2 ∧ q.1.1 < g.length := fun q hq => ⟨F.ok.lo q hq, F.ok.pl q hq⟩
  have base : OkT g (L ^ (t + 1)) (ipre.foldl (addI g) []) := by
    rw [Nat.pow_succ']
    exact foldE_ok G (fun q hq => by
      have hq' : q ∈ es := by rw [hi]; exact List.mem_append_left _ hq
      exact ⟨F.ok.lo q hq', F.ok.w q hq', F.ok.m9 q hq'⟩) (OkT.nil g _)
  obtain ⟨ev, h1, y9, y10, y11, z, rfl⟩ := for_nx (enc := encB) (p := .tp (.cons (.nm 9) (.cons (.nm 10) .nil))) (b := L_first_marks_1) (xs := bsA g e.1.1) (fun pre env => ∃ (y9 y10 : Option EV) (y11 : Option EV), (pre ≠ [] → ∃ (z9 z10 : Option D) (z11 : Option (List L2.Key)), y9 = z9.map .dat ∧ y10 = z10.map .dat ∧ y11 = z11.map .ktp) ∧ env = [some (.dat (encG g)), x1, x2, x3, x4, some (.own (.dt (tabR (pre.foldl (addB g e) (ipre.foldl (addI g) []))))), some (.dat (encN e.1.1)), some (.dat (encN e.1.2)), some (.dat (encR e.2)), y9, y10, y11, x12])
    (fun pre b post hs env ⟨y9, y10, y11, _, he'⟩ => by
      subst he'
      have hb := bsA_of G (s := e.1.1) (b := b) (by rw [hs]; exact List.mem_append_right _ List.mem_cons_self)
      have okl : OkT g (L ^ (t + 1)) (pre.foldl (addB g e) (ipre.foldl (addI g) [])) := by
        rw [Nat.pow_succ'] at base ⊢
        exact foldB_ok G fe.lo fe.w (F.ok.m9 e he) (fun c hc => bsA_of G (s := e.1.1) (by rw [hs]; exact List.mem_append_left _ hc)) base
      have le1 := part_le G ho F.one hi hs
      have ln := okl.len hg8
      have q := fm_1 G ht fe hb.1 hb.2 okl le1 (by omega) x1 x2 x3 x4 (some (.dat (encN e.1.1))) y11 x12
      refine ⟨[some (.dat (encG g)), x1, x2, x3, x4, some (.own (.dt (tabR (pre.foldl (addB g e) (ipre.foldl (addI g) []))))), some (.dat (encN e.1.1)), some (.dat (encN e.1.2)), some (.dat (encR e.2)), some (.dat (encR b.1)), some (.dat (encN b.2)), y11, x12], by simp -implicitDefEqProofs [encB], _, q, _, _, _, fun _ => ⟨some (encR b.1), some (encN b.2), some (ky (keyB g e b)), rfl, rfl, rfl⟩, ?_⟩
      rw [List.foldl_append]
      rfl)
    (env := [some (.dat (encG g)), x1, x2, x3, x4, some (.own (.dt (tabR (ipre.foldl (addI g) [])))), some (.dat (encN e.1.1)), some (.dat (encN e.1.2)), some (.dat (encR e.2)), x9, x10, o11.map .ktp, x12]) ⟨_, _, _, fun h => absurd rfl h, rfl⟩
  obtain ⟨z9, z10, z11, rfl, rfl, rfl⟩ := z hne
  refine ⟨z9, z10, z11, .inl ?_⟩
  have ef : (ipre ++ [e]).foldl (addI g) [] = (bsA g e.1.1).foldl (addB g e) (ipre.foldl (addI g) []) := by rw [List.foldl_append]; rfl
  rw [ef, ← h1]
  unfold L_first_marks_2
  simp -implicitDefEqProofs only [forS, itL_, e2_, cs_, vr_, List.getElem?_cons_zero, List.getElem?_cons_succ, Option.join_some, Option.bind_some, encG, encN, ixE_list, a1, encP, ixE_tuple, atI_2, asDL_list, eb, bq]
end
end Od

set_option Elab.async false
set_option linter.all false
set_option autoImplicit false
set_option maxRecDepth 100000
/-! Hi: first_marks, all of it. -/
namespace Od
open PySem PySem.Spec PyProof.Rows L2
def markMass (es : MT) (d : Nat) : Rat := ((es.filter fun e => decide (e.1.2 = d)).map (·.2)).sum
section
variable {g : List Pl} {L : Nat} (G : GoodC g L)
include G
theorem Full.step {t : Nat} {es : MT} (F : Full g (L ^ t) es) : Full g (L ^ (t + 1)) (stepF g es) := by
  refine ⟨?_, ?_⟩
  · rw [Nat.pow_succ']
    exact foldE_ok G (fun q hq => ⟨F.ok.lo q hq, F.ok.w q hq, F.ok.m9 q hq⟩) (OkT.nil g _)
  · unfold stepF
    rw [Phi_foldE G, Phi_nil, sum_SE_one G F.ok.pl, F.one]
    exact Rat.zero_add 1
theorem massF_full {s : Nat} (hs : s < g.length) : ∀ t, Full g (L ^ t) (massF g s t)
  | 0 => by
    have m := mkA_le G s
    refine ⟨⟨?_, ?_, ?_, ?_, ?_, ?_⟩, ?_⟩
    · show [((s, mkA g s) : Nat × Nat)].Nodup
      simp
    all_goals try (intro e he; have he' : e = ((s, mkA g s), 1) := List.mem_singleton.mp he; subst he')
    · exact (by decide : (0 : Rat) ≤ 1)
    · exact Whole.one _
    · exact hs
    · exact m
    · exact Nat.le_refl _
    · show Phi (fun _ => 1) [((s, mkA g s), (1 : Rat))] = 1
      rw [Phi_cons, Phi_nil]
      show (1 : Rat) * 1 + 0 = 1
      decide +kernel
  | t + 1 => Full.step G (massF_full hs t)
theorem fm_3 {t : Nat} (ht : t ≤ 29) {es : MT} (F : Full g (L ^ t) es) (d1 d2 : D) (o4 o6 o7 o8 o9 o10 o12 : Option D) (o11 : Option (List L2.Key)) (x5 : Option EV) : ∃ (y6 y7 y8 y9 y10 : Option D) (y11 : Option (List L2.Key)),
    L_first_marks_3 [some (.dat (encG g)), some (.dat d1), some (.dat d2), some (.own (.dt (tabR es))), o4.map .dat, x5, o6.map .dat, o7.map .dat, o8.map .dat, o9.map .dat, o10.map .dat, o11.map .ktp, o12.map .dat] =
      some (.nx [some (.dat (encG g)), some (.dat d1), some (.dat d2), some (.own (.dt (tabR (stepF g es)))), o4.map .dat, none, y6.map .dat, y7.map .dat, y8.map .dat, y9.map .dat, y10.map .dat, y11.map .ktp, o12.map .dat]) := by
  obtain ⟨ev, h1, y6, y7, y8, y9, y10, y11, rfl⟩ := for_nx (enc := encE) (p := .tp (.cons (.tp (.cons (.nm 6) (.cons (.nm 7) .nil))) (.cons (.nm 8) .nil))) (b := L_first_marks_2) (xs := es) (fun pre env => ∃ (y6 y7 y8 y9 y10 : Option D) (y11 : Option (List L2.Key)), env = [some (.dat (encG g)), some (.dat d1), some (.dat d2), some (.lck (.dt (tabR es))), o4.map .dat, some (.own (.dt (tabR (pre.foldl (addI g) [])))), y6.map .dat, y7.map .dat, y8.map .dat, y9.map .dat, y10.map .dat, y11.map .ktp, o12.map .dat])
    (fun pre e post hs env ⟨y6, y7, y8, y9, y10, y11, he⟩ => by
      subst he
      have hem : e ∈ es := by rw [hs]; exact List.mem_append_right _ List.mem_cons_self
      obtain ⟨z9, z10, z11, q⟩ := fm_2 G ht F hs (some (.dat d1)) (some (.dat d2)) (some (.lck (.dt (tabR es)))) (o4.map .dat) (y9.map .dat) (y10.map .dat) (o12.map .dat) y11
      rcases q with q | q
      · exact ⟨[some (.dat (encG g)), some (.dat d1), some (.dat d2), some (.lck (.dt (tabR es))), o4.map .dat, some (.own (.dt (tabR (pre.foldl (addI g) [])))), some (.dat (encN e.1.1)), some (.dat (encN e.1.2)), some (.dat (encR e.2)), y9.map .dat, y10.map .dat, y11.map .ktp, o12.map .dat], by simp -implicitDefEqProofs [encE], _, q, some (encN e.1.1), some (encN e.1.2), some (encR e.2), z9, z10, z11, rfl⟩
      · exfalso
        have hpl := F.ok.pl e hem
        have hp : g[e.1.1]? = some g[e.1.1] := by simp [hpl]
        have bq : bsA g e.1.1 = g[e.1.1].bs := by simp [bsA, hp]
        exact (G.pl _ (List.mem_of_getElem? hp)).ne (bq ▸ q))
    (env := [some (.dat (encG g)), some (.dat d1), some (.dat d2), some (.lck (.dt (tabR es))), o4.map .dat, some (.own (.dt [])), o6.map .dat, o7.map .dat, o8.map .dat, o9.map .dat, o10.map .dat, o11.map .ktp, o12.map .dat]) ⟨_, _, _, _, _, _, rfl⟩
  refine ⟨y6, y7, y8, y9, y10, y11, ?_⟩
  unfold L_first_marks_3
  refine (seqS_nx (e := [some (.dat (encG g)), some (.dat d1), some (.dat d2), some (.own (.dt (tabR es))), o4.map .dat, some (.own (.dt [])), o6.map .dat, o7.map .dat, o8.map .dat, o9.map .dat, o10.map .dat, o11.map .ktp, o12.map .dat]) (setN_own rfl)).trans ?_
  refine (seqS_nx (e := [some (.dat (encG g)), some (.dat d1), some (.dat d2), none, o4.map .dat, some (.own (.dt (tabR (stepF g es)))), y6.map .dat, y7.map .dat, y8.map .dat, y9.map .dat, y10.map .dat, y11.map .ktp, o12.map .dat]) ?_).trans ?_
  · refine (forP_dt rfl ?_).trans ?_
    · simp -implicitDefEqProofs only [noLck_cons, noLck_nil, nlk_map, nlk_dat, nlk_own, nlk_none, nlk_ktp, Bool.and_self]
    · rw [items_tab]
      simp -implicitDefEqProofs only [List.set_cons_zero, List.set_cons_succ, h1, Option.bind_some, unl_nx]
      rw [if_pos]
      · rfl
      · simp -implicitDefEqProofs only [noLck_cons, noLck_nil, nlk_map, nlk_dat, nlk_own, nlk_none, nlk_ktp, Bool.and_self]
  · rfl
theorem filter_le (q : EM → Bool) : ∀ {es : MT}, (∀ e ∈ es, 0 ≤ e.2) → ((es.filter q).map (·.2)).sum ≤ Phi (fun _ => 1) es
  | [], _ => Rat.le_refl
  | e :: es, h => by
    have ih := filter_le q (es := es) fun c hc => h c (List.mem_cons_of_mem _ hc)
    have h0 := h e List.mem_cons_self
    rw [Phi_cons]
    by_cases z : q e = true
    · rw [List.filter_cons_of_pos z, List.map_cons, List.sum_cons]; grind
    · rw [List.filter_cons_of_neg z]; grind
theorem mass_part {T : Nat} (hT : T ≤ 30) {es : MT} (F : Full g (L ^ T) es) (q : EM → Bool) {pre post : List Rat} {a : Rat} (he : (es.filter q).map (·.2) = pre ++ a :: post) : Bd 4000 pre.sum ∧ Bd 4000 a := by
  have all : ∀ r ∈ pre ++ a :: post, 0 ≤ r ∧ Whole (L ^ T) r := fun r hr => by
    rw [← he] at hr
    obtain ⟨e, hm, rfl⟩ := List.mem_map.mp hr
    have hm' := (List.mem_filter.mp hm).1
    exact ⟨F.ok.lo e hm', F.ok.w e hm'⟩
  have tot := filter_le G q (es := es) F.ok.lo
  rw [he, F.one, List.sum_append, List.sum_cons] at tot
  have hpre : ∀ r ∈ pre, 0 ≤ r ∧ Whole (L ^ T) r := fun r hr => all r (List.mem_append_left _ hr)
  have ha := all a (List.mem_append_right _ List.mem_cons_self)
  have hpost : ∀ r ∈ post, 0 ≤ r := fun r hr => (all r (List.mem_append_right _ (List.mem_cons_of_mem _ hr))).1
  have s1 := sum_nn (fun r : Rat => r) (bs := pre) (fun r hr => (hpre r hr).1)
  have s2 := sum_nn (fun r : Rat => r) (bs := post) hpost
  have w1 := sum_whole (M := L ^ T) (fun r : Rat => r) (bs := pre) (fun r hr => (hpre r hr).2)
  rw [List.map_id'] at s1 s2 w1
  exact ⟨frc_bd ⟨w1, s1, by grind⟩ G.L0 G.hL hT (by decide), frc_bd ⟨ha.2, ha.1, by grind⟩ G.L0 G.hL hT (by decide)⟩
theorem first_marks_ok {place T : Nat} (hp : place < g.length) (hT : T ≤ 30) : R_first_marks [encG g, encN place, encN T] = some (.lst ((List.range 10).map fun d => encR (markMass (massF g place T) d))) := by
  have rt := rg1_nat (n := T) (by omega)
  have r10 : rg1E [.dat (.int 10)] = some ((List.range 10).map encN) := rg1_nat (n := 10) (by decide)
  have hp' : g[place]? = some g[place] := by simp [hp]
  have a1 := game_at hp'
  have mk := mkA_of hp'
  obtain ⟨ev, h1, y4, y6, y7, y8, y9, y10, y11, rfl⟩ := for_nx (enc := encN) (p := .nm 4) (b := L_first_marks_3) (xs := List.range T) (fun pre env => ∃ (y4 y6 y7 y8 y9 y10 : Option D) (y11 : Option (List L2.Key)), env = [some (.dat (encG g)), some (.dat (encN place)), some (.dat (encN T)), some (.own (.dt (tabR (massF g place pre.length)))), y4.map .dat, none, y6.map .dat, y7.map .dat, y8.map .dat, y9.map .dat, y10.map .dat, y11.map .ktp, none])
    (fun pre a post hx env ⟨y4, y6, y7, y8, y9, y10, y11, he⟩ => by
      subst he
      have hlx := congrArg List.length hx
      simp at hlx
      obtain ⟨z6, z7, z8, z9, z10, z11, q⟩ := fm_3 G (t := pre.length) (by omega) (massF_full G hp pre.length) (encN place) (encN T) (some (encN a)) y6 y7 y8 y9 y10 none y11 none
      exact ⟨[some (.dat (encG g)), some (.dat (encN place)), some (.dat (encN T)), some (.own (.dt (tabR (massF g place pre.length)))), some (.dat (encN a)), none, y6.map .dat, y7.map .dat, y8.map .dat, y9.map .dat, y10.map .dat, y11.map .ktp, none], by simp, _, q, by rw [List.length_append, List.length_singleton]; exact ⟨some (encN a), z6, z7, z8, z9, z10, z11, rfl⟩⟩)
    (env := [some (.dat (encG g)), some (.dat (encN place)), some (.dat (encN T)), some (.own (.dt (tabR (massF g place 0)))), none, none, none, none, none, none, none, none, none]) ⟨none, none, none, none, none, none, none, rfl⟩
  rw [List.length_range] at h1
  have F := massF_full G hp T
  refine fnN_rtN rfl ?_
  show F_first_marks [some (.dat (encG g)), some (.dat (encN place)), some (.dat (encN T)), none, none, none, none, none, none, none, none, none, none] = _
  unfold F_first_marks
  refine (seqS_nx (e := [some (.dat (encG g)), some (.dat (encN place)), some (.dat (encN T)), some (.own (.dt (tabR (massF g place 0)))), none, none, none, none, none, none, none, none, none]) (setN_own ?_)).trans ?_
  · have fs : (ac (vr 1) (ac (e2 ixE (e2 ixE (vr 0) (vr 1)) (cs (.int 0))) (a0))) [some (.dat (encG g)), some (.dat (encN place)), some (.dat (encN T)), none, none, none, none, none, none, none, none, none, none] = some [.dat (encN place), .dat (encN (mkA g place))] := by
      rw [mk]
      simp -implicitDefEqProofs only [e2_, ac_, a0_, cs_, vr_, List.getElem?_cons_zero, List.getElem?_cons_succ, Option.join_some, Option.bind_some, encG, encN, ixE_list, ixE_tuple, a1, encP, atI_0]
    have kk : keysOf [encN place, encN (mkA g place)] = some (ky (place, mkA g place)) := rfl
    unfold dN1
    rw [fs]
    simp -implicitDefEqProofs only [Option.bind_some, asDs_cons, asDs_nil, kk, cs_, asD_dat]
    rw [if_pos (by show (2 : Nat) ≤ 1000000; decide)]
    rfl
  refine (seqS_nx (e := _) (Eq.trans ?_ h1)).trans ?_
  · simp -implicitDefEqProofs only [forS, itA_, ac_, a0_, vr_, List.getElem?_cons_zero, List.getElem?_cons_succ, Option.join_some, Option.bind_some, rt]
  · generalize massF g place T = es at F
    have fz0 : vr 3 [some (.dat (encG g)), some (.dat (encN place)), some (.dat (encN T)), some (.own (.dt (tabR es))), y4.map .dat, none, y6.map .dat, y7.map .dat, y8.map .dat, y9.map .dat, y10.map .dat, y11.map .ktp, none] = some (.own (.dt (tabR es))) := rfl
    unfold frnS
    rw [fz0]
    simp -implicitDefEqProofs only [List.set_cons_zero, List.set_cons_succ]
    rw [lcN_map (enc := encN) (xs := List.range 10) (g := fun d => encR (markMass es d)) ?_ (by decide) ?_]
    · rfl
    · simp -implicitDefEqProofs only [itA_, ac_, a0_, cs_, Option.bind_some, r10]
    · intro d hd
      refine ⟨[some (.dat (encG g)), some (.dat (encN place)), some (.dat (encN T)), some (.fdt (tabR es)), y4.map .dat, none, y6.map .dat, y7.map .dat, y8.map .dat, y9.map .dat, y10.map .dat, y11.map .ktp, some (.dat (encN d))], by simp -implicitDefEqProofs [wipeE], ?_⟩
      have inner := lcN_filter (it := itP 3) (p := .tp (.cons (.tp (.cons (.nm 4) (.cons (.nm 7) .nil))) (.cons (.nm 8) .nil))) (t := tb (e2 eqE (vr 7) (vr 12))) (f := vr 8) (vs := [4, 7, 8]) (env := [some (.dat (encG g)), some (.dat (encN place)), some (.dat (encN T)), some (.fdt (tabR es)), y4.map .dat, none, y6.map .dat, y7.map .dat, y8.map .dat, y9.map .dat, y10.map .dat, y11.map .ktp, some (.dat (encN d))]) (enc := encE) (q := fun e => decide (e.1.2 = d)) (g := fun e => encR e.2) (xs := es) (by
          have : vr 3 [some (.dat (encG g)), some (.dat (encN place)), some (.dat (encN T)), some (.fdt (tabR es)), y4.map .dat, none, y6.map .dat, y7.map .dat, y8.map .dat, y9.map .dat, y10.map .dat, y11.map .ktp, some (.dat (encN d))] = some (.fdt (tabR es)) := rfl
          unfold itP
          rw [this, ← items_tab]) (by have := F.ok.len G.len; omega) (fun e he => by
          refine ⟨[some (.dat (encG g)), some (.dat (encN place)), some (.dat (encN T)), some (.fdt (tabR es)), some (.dat (encN e.1.1)), none, y6.map .dat, some (.dat (encN e.1.2)), some (.dat (encR e.2)), y9.map .dat, y10.map .dat, y11.map .ktp, some (.dat (encN d))], by simp -implicitDefEqProofs [encE, wipeE], ?_, fun _ => rfl⟩
          have eq : ((e.1.2 : Int) == (d : Int)) = decide (e.1.2 = d) := by
            by_cases z : e.1.2 = d
            · simp [z]
            · rw [decide_eq_false z, beq_eq_false_iff_ne]; omega
          simp -implicitDefEqProofs only [tb_, e2_, vr_, List.getElem?_cons_zero, List.getElem?_cons_succ, Option.join_some, Option.bind_some, encN, eqE_int, asB_bool, eq])
      have fl := fz_lst inner
      have tt := R_total_ok (xs := (es.filter fun e => decide (e.1.2 = d)).map (·.2)) (fun pre a post he => mass_part G hT F _ he)
      rw [List.map_map] at tt
      have tt' : R_total [.list ((es.filter fun e => decide (e.1.2 = d)).map fun e => encR e.2)] = some (encR (markMass es d)) := tt
      rw [cl_, ac_, fl]
      simp -implicitDefEqProofs only [a0_, Option.bind_some, asDs_cons, asDs_nil, tt', asD_dat]
end
end Od

set_option Elab.async false
set_option linter.all false
set_option autoImplicit false
set_option maxRecDepth 100000
/-! Hj: forward and backward. -/
namespace Od
open PySem PySem.Spec PyProof.Rows L2
theorem canLay_nums (xs : List Rat) : PyData.canLayAll0 (xs.map encR) = true ∧ PyData.depthAll (xs.map encR) ≤ 1 := by
  induction xs with
  | nil => exact ⟨rfl, Nat.zero_le _⟩
  | cons x xs ih => exact ⟨by simp [PyData.canLayAll0, encR, PyData.canLay0, ih.1], by simp [PyData.depthAll, encR, PyData.depth]; exact Nat.max_le.mpr ⟨Nat.le_refl _, ih.2⟩⟩
theorem shaped_nums (xs : List Rat) : SeqAt.shaped (.list (xs.map encR)) = true := by
  obtain ⟨h1, h2⟩ := canLay_nums xs
  unfold SeqAt.shaped
  rw [Bool.and_eq_true]
  exact ⟨by simpa only [PyData.canLay0] using h1, decide_eq_true (by simp only [PyData.depth]; omega)⟩
theorem law_is_number_ok {r : Rat} (h : r.den < 2 ^ 2400) : R_law_is_number [encR r] = some (.bool true) := by
  obtain ⟨e, h1, y, rfl⟩ := for_nx (enc := fun i : Int => PyData.int i) (p := .nm 1) (b := L_law_is_number_1) (xs := [r.num, (r.den : Int)]) (fun pre env => ∃ y, env = [some (.dat (encR r)), y])
    (fun pre a post hx env ⟨y, he⟩ => by
      subst he
      have i1 : isiE "int" (.dat (.int a)) = some (.dat (.bool true)) := rfl
      have i2 : isiE "bool" (.dat (.int a)) = some (.dat (.bool false)) := rfl
      exact ⟨[some (.dat (encR r)), some (.dat (.int a))], by simp, [some (.dat (encR r)), some (.dat (.int a))], by simp -implicitDefEqProofs [L_law_is_number_1, i1, i2], _, rfl⟩)
    (env := [some (.dat (encR r)), none]) ⟨none, rfl⟩
  have i3 : isiE "tuple" (.dat (encR r)) = some (.dat (.bool true)) := rfl
  have gc := R_law_gcd_ok (a := r.num) (b := (r.den : Int)) (by rw [Int.natAbs_natCast]; exact h)
  rw [Int.natAbs_natCast] at gc
  have cp : Nat.gcd r.num.natAbs r.den = 1 := r.reduced
  rw [cp] at gc
  have dp := r.den_pos
  refine fnD_rt rfl ?_
  show F_law_is_number [some (.dat (encR r)), none] = _
  unfold F_law_is_number
  refine (seqS_nx (e := [some (.dat (encR r)), none]) ((ifS_f ?_).trans (skip_ _))).trans ?_
  · simp -implicitDefEqProofs [i3]
    simp -implicitDefEqProofs [encR]
  refine (seqS_nx (e := _) (Eq.trans ?_ h1)).trans ?_
  · simp -implicitDefEqProofs only [forS, itT_, vr_, List.getElem?_cons_zero, List.getElem?_cons_succ, Option.join_some, Option.bind_some]
    rfl
  refine retS_dat ?_
  have d1 : decide ((1 : Int) ≤ (r.den : Int)) = true := decide_eq_true (by omega)
  simp -implicitDefEqProofs only [andV_, e2_, cl_, ac_, a0_, cs_, vr_, List.getElem?_cons_zero, List.getElem?_cons_succ, Option.join_some, Option.bind_some, encR, ixE_tuple, atI_0, atI_1, geE_, d1, asB_bool, if_true, asDs_cons, asDs_nil, gc, eqE_int]
  rfl
theorem allE_true (n : Nat) : allE [.dat (.list (List.replicate n (.bool true)))] = some (.dat (.bool true)) := by
  have b : ∀ n, blsD (List.replicate n (.bool true)) = some (List.replicate n true) := by
    intro n
    induction n with
    | zero => rfl
    | succ n ih => rw [List.replicate_succ, blsD, ih]; rfl
  show ((asL (.dat (.list (List.replicate n (.bool true))))).bind fun ds => (blsD ds).bind fun is => some (EV.dat (.bool (is.all id)))) = _
  rw [asL_list, Option.bind_some, b, Option.bind_some]
  have a : (List.replicate n true).all id = true := by simp
  rw [a]
theorem law_is_numbers_ok {xs : List Rat} (hl : xs.length < 1000) (h : ∀ r ∈ xs, r.den < 2 ^ 2400) : R_law_is_numbers [.list (xs.map encR)] = some (.bool true) := by
  have lc := lcN_map (it := itL (vr 0)) (p := .nm 1) (f := cl R_law_is_number (ac (vr 1) (a0))) (vs := [1]) (env := [some (.dat (.list (xs.map encR))), none]) (enc := encR) (g := fun _ => .bool true) (xs := xs) (by simp -implicitDefEqProofs) (by omega) (fun r hr => ⟨[some (.dat (.list (xs.map encR))), some (.dat (encR r))], by simp -implicitDefEqProofs [wipeE], by
    have q := law_is_number_ok (h r hr)
    simp -implicitDefEqProofs only [cl_, ac_, a0_, vr_, List.getElem?_cons_zero, List.getElem?_cons_succ, Option.join_some, Option.bind_some, asDs_cons, asDs_nil, q, asD_dat]⟩)
  have er : (xs.map fun _ => PyData.bool true) = List.replicate xs.length (.bool true) := by
    rw [List.map_const']
  rw [er] at lc
  have fl := fz_lst lc
  have i3 : isiE "list" (.dat (.list (xs.map encR))) = some (.dat (.bool true)) := rfl
  refine fnD_rt rfl ?_
  show F_law_is_numbers [some (.dat (.list (xs.map encR))), none] = _
  unfold F_law_is_numbers
  refine retS_dat ?_
  rw [andV_, eA_, ac_, fl]
  simp -implicitDefEqProofs only [e1_, a0_, vr_, List.getElem?_cons_zero, List.getElem?_cons_succ, Option.join_some, Option.bind_some, i3, asB_bool, if_true, allE_true]
theorem neE_oo (xs : List Rat) : neE (.own (.lst (xs.map encR))) (.own (.lst (xs.map encR))) = some (.dat (.bool false)) := by
  rw [neE_, asQ_own, Option.bind_some, Option.bind_some, shaped_nums, Bool.and_self, if_pos rfl, SeqAt.eqv_refl _ (by simp only [PyData.canLay0]; exact (canLay_nums xs).1)]
  rfl
theorem range_mid {n a : Nat} {pre post : List Nat} (h : List.range n = pre ++ a :: post) : a = pre.length := by
  have h1 : (List.range n)[pre.length]? = some a := by rw [h]; simp
  have hl := congrArg List.length h
  simp at hl
  rw [List.getElem?_range (by omega)] at h1
  exact (Option.some.inj h1).symm
def phiM (g : List Pl) (m j : Nat) (q : Nat × Nat) : Rat := if q.2 ≤ m then below g m j q.1 else 0
theorem sum_zero {α : Type} (f : α → Rat) : ∀ {bs : List α}, (∀ b ∈ bs, f b = 0) → (bs.map f).sum = 0
  | [], _ => rfl
  | b :: bs, h => by
    rw [List.map_cons, List.sum_cons, h b List.mem_cons_self, sum_zero f fun c hc => h c (List.mem_cons_of_mem _ hc)]
    exact Rat.zero_add 0
section
variable {g : List Pl} {L : Nat} (G : GoodC g L)
include G
theorem below_zero {m s : Nat} (h : m < mkA g s) : ∀ j, below g m j s = 0 := by
  intro j
  unfold mkA at h
  cases e : g[s]? with
  | none => cases j <;> (unfold below; rw [e])
  | some p =>
    rw [e] at h
    have h' : ¬ p.mark ≤ m := Nat.not_le.mpr h
    cases j with
    | zero => rw [below, e]; exact if_neg h'
    | succ j => rw [below, e]; exact if_neg h'
theorem SE_phi {m j : Nat} {e : EM} (he : e.1.1 < g.length) (hm : mkA g e.1.1 ≤ e.1.2) : SE g (phiM g m j) e = phiM g m (j + 1) e.1 := by
  have hp : g[e.1.1]? = some g[e.1.1] := by simp [he]
  have bq : bsA g e.1.1 = g[e.1.1].bs := by simp [bsA, hp]
  have mq := mkA_of hp
  unfold SE
  by_cases h : e.1.2 ≤ m
  · have e1 : phiM g m (j + 1) e.1 = (g[e.1.1].bs.map fun b => b.1 * below g m j b.2).sum := by
      unfold phiM
      rw [if_pos h, below, hp]
      exact if_pos (by omega)
    rw [e1, bq]
    refine congrArg List.sum (List.map_congr_left fun b _ => ?_)
    unfold phiM keyB
    by_cases k : mkA g b.2 ≤ m
    · rw [if_pos (Nat.max_le.mpr ⟨h, k⟩)]
    · rw [if_neg (fun z => k (Nat.max_le.mp z).2), below_zero G (by omega)]
  · have e1 : phiM g m (j + 1) e.1 = 0 := if_neg h
    rw [e1]
    refine sum_zero _ fun b _ => ?_
    unfold phiM keyB
    rw [if_neg (fun z => h (Nat.max_le.mp z).1)]
    exact Rat.mul_zero _
theorem sum_SE_phi {m j : Nat} : ∀ {es : MT}, (∀ e ∈ es, e.1.1 < g.length ∧ mkA g e.1.1 ≤ e.1.2) → (es.map fun e => e.2 * SE g (phiM g m j) e).sum = Phi (phiM g m (j + 1)) es
  | [], _ => rfl
  | e :: es, h => by
    obtain ⟨h1, h2⟩ := h e List.mem_cons_self
    rw [List.map_cons, List.sum_cons, Phi_cons, sum_SE_phi (fun q hq => h q (List.mem_cons_of_mem _ hq)), SE_phi G h1 h2]
    grind
theorem Phi_mass {m s : Nat} (hs : s < g.length) : ∀ T j, Phi (phiM g m j) (massF g s T) = below g m (j + T) s
  | 0, j => by
    show Phi (phiM g m j) [((s, mkA g s), (1 : Rat))] = _
    rw [Phi_cons, Phi_nil, Rat.mul_one, Rat.add_zero, Nat.add_zero]
    unfold phiM
    by_cases h : mkA g s ≤ m
    · exact if_pos h
    · rw [if_neg h, below_zero G (by omega)]
  | T + 1, j => by
    have F := massF_full G hs T
    show Phi (phiM g m j) (stepF g (massF g s T)) = _
    unfold stepF
    rw [Phi_foldE G, Phi_nil, sum_SE_phi G (fun e he => ⟨F.ok.pl e he, F.ok.mm e he⟩), Phi_mass hs T (j + 1), Rat.zero_add]
    congr 1
    omega
theorem Phi_congr {φ ψ : Nat × Nat → Rat} : ∀ {es : MT}, (∀ e ∈ es, φ e.1 = ψ e.1) → Phi φ es = Phi ψ es
  | [], _ => rfl
  | e :: es, h => by rw [Phi_cons, Phi_cons, h e List.mem_cons_self, Phi_congr fun c hc => h c (List.mem_cons_of_mem _ hc)]
theorem Phi_add (φ ψ : Nat × Nat → Rat) : ∀ es : MT, Phi (fun q => φ q + ψ q) es = Phi φ es + Phi ψ es
  | [] => by rw [Phi_nil, Phi_nil, Phi_nil]; exact (Rat.zero_add 0).symm
  | e :: es => by rw [Phi_cons, Phi_cons, Phi_cons, Phi_add φ ψ es]; grind
theorem mark_Phi (d : Nat) : ∀ es : MT, markMass es d = Phi (fun q => if q.2 = d then 1 else 0) es
  | [] => rfl
  | e :: es => by
    have ih := mark_Phi d es
    rw [Phi_cons, ← ih]
    unfold markMass
    by_cases h : e.1.2 = d
    · rw [List.filter_cons_of_pos (by simpa using h), List.map_cons, List.sum_cons, if_pos h, Rat.one_mul]
    · rw [List.filter_cons_of_neg (by simpa using h), if_neg h, Rat.zero_mul, Rat.zero_add]
theorem upTo_mass {m s : Nat} (hs : s < g.length) (T : Nat) : Phi (fun q => if q.2 ≤ m then 1 else 0) (massF g s T) = below g m T s := by
  have F := massF_full G hs T
  have h := Phi_mass G (m := m) hs T 0
  rw [Nat.zero_add] at h
  rw [← h]
  refine Phi_congr G fun e he => ?_
  unfold phiM
  by_cases q : e.1.2 ≤ m
  · rw [if_pos q, if_pos q]
    have hpl := F.ok.pl e he
    have hp : g[e.1.1]? = some g[e.1.1] := by simp [hpl]
    have mq := mkA_of hp
    have mm := F.ok.mm e he
    rw [below, hp]
    exact (if_pos (by omega)).symm
  · rw [if_neg q, if_neg q]
def bef (g : List Pl) (T s : Nat) : Nat → Rat | 0 => 0 | d + 1 => below g d T s
theorem mark_ok {s : Nat} (hs : s < g.length) (T d : Nat) : markMass (massF g s T) d = below g d T s + -bef g T s d := by
  rw [mark_Phi G, ← upTo_mass G hs T]
  cases d with
  | zero =>
    have e : Phi (fun q : Nat × Nat => if q.2 ≤ 0 then (1 : Rat) else 0) (massF g s T) = Phi (fun q => if q.2 = 0 then 1 else 0) (massF g s T) := Phi_congr G fun e _ => by simp
    rw [e]
    unfold bef
    grind
  | succ d =>
    have e : Phi (fun q : Nat × Nat => if q.2 ≤ d + 1 then (1 : Rat) else 0) (massF g s T) = Phi (fun q => (if q.2 ≤ d then 1 else 0) + if q.2 = d + 1 then 1 else 0) (massF g s T) := Phi_congr G fun e _ => by
      by_cases h : e.1.2 ≤ d
      · have h1 : e.1.2 ≤ d + 1 := by omega
        have h2 : ¬ e.1.2 = d + 1 := by omega
        rw [if_pos h1, if_pos h, if_neg h2, Rat.add_zero]
      · by_cases k : e.1.2 = d + 1
        · rw [if_pos (by omega), if_neg h, if_pos k, Rat.zero_add]
        · rw [if_neg (by omega), if_neg h, if_neg k, Rat.zero_add]
    rw [e, Phi_add G, upTo_mass G hs T]
    unfold bef
    grind
end
end Od

set_option Elab.async false
set_option linter.all false
set_option autoImplicit false
set_option maxRecDepth 100000
/-! Lk81: the law comes out true. -/
namespace Od
open PySem PySem.Spec PyProof.Rows L2
def dueR (g : List Pl) (T s d : Nat) : Rat := below g d T s + -bef g T s d
section
variable {g : List Pl} {L : Nat} (G : GoodC g L) {T s : Nat} (hT : T ≤ 30) (hs : s < g.length)
include G hT hs
theorem bef_fr (d : Nat) : Fr (L ^ T) (bef g T s d) := by
  cases d with
  | zero => exact ⟨Whole.zero _, Rat.le_refl, (by decide : (0 : Rat) ≤ 1)⟩
  | succ d => exact below_fr G d T s
theorem law_2 {d : Nat} (hd : d < 10) (x0 x1 x5 x9 x10 x11 : Option EV) {acc : List D} (ha : acc.length < 1000) :
    L_law_2 [x0, x1, some (.dat (encG g)), some (.dat (encN s)), some (.dat (encN T)), x5, some (.own (.lst acc)), some (.dat (encR (bef g T s d))), some (.dat (encN d)), x9, x10, x11] =
      some (.nx [x0, x1, some (.dat (encG g)), some (.dat (encN s)), some (.dat (encN T)), x5, some (.own (.lst (acc ++ [encR (dueR g T s d)]))), some (.dat (encR (bef g T s (d + 1)))), some (.dat (encN d)), some (.dat (encR (below g d T s))), x10, x11]) := by
  have lb := law_below_ok G (m := d) hs hT
  have b1 : Bd 1200 (below g d T s) := frc_bd (below_fr G d T s) G.L0 G.hL hT (Nat.le_refl _)
  have b2 : Bd 1200 (bef g T s d) := frc_bd (bef_fr G hT hs d) G.L0 G.hL hT (Nat.le_refl _)
  have b3 : Bd 1200 (-bef g T s d) := ⟨by rw [Rat.neg_num, Int.natAbs_neg]; exact b2.1, by rw [Rat.neg_den]; exact b2.2⟩
  have pl := R_law_plus_ok b1 b3
  have en : encR (-bef g T s d) = .tuple [.int (-(bef g T s d).num), .int ((bef g T s d).den : Int)] := by
    unfold encR
    rw [Rat.neg_num, Rat.neg_den]
  have ha' : acc.length < 1000000 := by omega
  unfold L_law_2
  refine (seqS_nx (e := [x0, x1, some (.dat (encG g)), some (.dat (encN s)), some (.dat (encN T)), x5, some (.own (.lst acc)), some (.dat (encR (bef g T s d))), some (.dat (encN d)), some (.dat (encR (below g d T s))), x10, x11]) (setS_dat ?_)).trans ?_
  · simp -implicitDefEqProofs only [cl_, ac_, a0_, vr_, List.getElem?_cons_zero, List.getElem?_cons_succ, Option.join_some, Option.bind_some, asDs_cons, asDs_nil, lb]
  refine (seqS_nx (e := [x0, x1, some (.dat (encG g)), some (.dat (encN s)), some (.dat (encN T)), x5, some (.own (.lst (acc ++ [encR (dueR g T s d)]))), some (.dat (encR (bef g T s d))), some (.dat (encN d)), some (.dat (encR (below g d T s))), x10, x11]) ?_).trans ?_
  · have tp : eA tupE (ac (e1 negE (e2 ixE (vr 7) (cs (.int 0)))) (ac (e2 ixE (vr 7) (cs (.int 1))) (a0))) [x0, x1, some (.dat (encG g)), some (.dat (encN s)), some (.dat (encN T)), x5, some (.own (.lst acc)), some (.dat (encR (bef g T s d))), some (.dat (encN d)), some (.dat (encR (below g d T s))), x10, x11] = some (.dat (encR (-bef g T s d))) := by
      rw [en]
      generalize bef g T s d = r
      simp -implicitDefEqProofs only [eA_, e1_, e2_, ac_, a0_, cs_, vr_, List.getElem?_cons_zero, List.getElem?_cons_succ, Option.join_some, Option.bind_some, encR, ixE_tuple, atI_0, atI_1, negE_, tup2i]
    have vv : cl R_law_plus (ac (vr 9) (ac (eA tupE (ac (e1 negE (e2 ixE (vr 7) (cs (.int 0)))) (ac (e2 ixE (vr 7) (cs (.int 1))) (a0)))) (a0))) [x0, x1, some (.dat (encG g)), some (.dat (encN s)), some (.dat (encN T)), x5, some (.own (.lst acc)), some (.dat (encR (bef g T s d))), some (.dat (encN d)), some (.dat (encR (below g d T s))), x10, x11] = some (.dat (encR (dueR g T s d))) := by
      rw [cl_, ac_, ac_, tp]
      simp -implicitDefEqProofs only [a0_, vr_, List.getElem?_cons_zero, List.getElem?_cons_succ, Option.join_some, Option.bind_some, asDs_cons, asDs_nil, pl]
      rfl
    rw [appS_, vv]
    simp -implicitDefEqProofs only [vr_, List.getElem?_cons_zero, List.getElem?_cons_succ, Option.join_some, Option.bind_some, asD_dat, if_pos ha', List.set_cons_zero, List.set_cons_succ]
  · refine setS_dat ?_
    simp -implicitDefEqProofs only [vr_, List.getElem?_cons_zero, List.getElem?_cons_succ, Option.join_some]
    rfl
def dues (g : List Pl) (T s : Nat) : List Rat := (List.range 10).map fun d => dueR g T s d
theorem told_ok : R_first_marks [encG g, encN s, encN T] = some (.lst ((dues g T s).map encR)) := by
  rw [first_marks_ok G hs hT]
  unfold dues
  rw [List.map_map]
  refine congrArg (fun l => some (Ob.lst l)) (List.map_congr_left fun d _ => ?_)
  rw [mark_ok G hs]
  rfl
theorem dues_den : ∀ r ∈ dues g T s, r.den < 2 ^ 2400 := fun r hr => by
  obtain ⟨d, _, rfl⟩ := List.mem_map.mp hr
  have w : Whole (L ^ T) (dueR g T s d) := by
    obtain ⟨k, hk⟩ := (bef_fr G hT hs d).w
    refine (below_fr G d T s).w.add ⟨-k, ?_⟩
    rw [Rat.neg_mul, hk, Rat.intCast_neg]
  have h1 := w.den (Nat.pow_pos G.L0)
  have h2 : L ^ T < 2 ^ 1200 := by
    have := (frc_bd (r := 1) (t := T) ⟨Whole.one _, by decide, Rat.le_refl⟩ G.L0 G.hL hT (Nat.le_refl 1200))
    rcases Nat.eq_zero_or_pos T with e | e
    · subst e
      exact Nat.one_lt_two_pow (by decide)
    · have a : L ^ T < (2 ^ 40) ^ T := Nat.pow_lt_pow_left G.hL (by omega)
      rw [← Nat.pow_mul] at a
      exact Nat.lt_of_lt_of_le a (Nat.pow_le_pow_right (by decide) (by omega))
  exact Nat.lt_of_lt_of_le (Nat.lt_of_le_of_lt h1 h2) (Nat.pow_le_pow_right (by decide) (by decide))
theorem law_1 (x0 x1 x5 x7 x8 x9 x10 x11 : Option EV) : ∃ y11,
    L_law_1 [x0, x1, some (.dat (encG g)), some (.dat (encN s)), some (.dat (encN T)), x5, some (.own (.lst ((dues g T s).map encR))), x7, x8, x9, x10, x11] =
      some (.nx [x0, x1, some (.dat (encG g)), some (.dat (encN s)), some (.dat (encN T)), x5, some (.own (.lst ((dues g T s).map encR))), x7, x8, x9, x10, y11]) := by
  have vs := told_ok G hT hs
  have nn := law_is_numbers_ok (xs := dues g T s) (by simp [dues]) (dues_den G hT hs)
  have ll : ((dues g T s).map encR).length < 1000000 := by simp [dues]
  refine ⟨some (.own (.lst ((dues g T s).map encR ++ [.tuple [.int 0, .int 1]]))), ?_⟩
  unfold L_law_1
  refine (seqS_nx (e := [x0, x1, some (.dat (encG g)), some (.dat (encN s)), some (.dat (encN T)), x5, some (.own (.lst ((dues g T s).map encR))), x7, x8, x9, x10, some (.own (.lst ((dues g T s).map encR)))]) (setN_own ?_)).trans ?_
  · simp -implicitDefEqProofs [vs]
  refine (seqS_nx (e := [x0, x1, some (.dat (encG g)), some (.dat (encN s)), some (.dat (encN T)), x5, some (.own (.lst ((dues g T s).map encR))), x7, x8, x9, x10, some (.own (.lst ((dues g T s).map encR)))]) ((ifS_f ?_).trans (skip_ _))).trans ?_
  · have lb : clB R_law_is_numbers (ac (vr 11) (a0)) [x0, x1, some (.dat (encG g)), some (.dat (encN s)), some (.dat (encN T)), x5, some (.own (.lst ((dues g T s).map encR))), x7, x8, x9, x10, some (.own (.lst ((dues g T s).map encR)))] = some (.dat (.bool true)) := by
      unfold clB
      simp -implicitDefEqProofs only [ac_, a0_, vr_, List.getElem?_cons_zero, List.getElem?_cons_succ, Option.join_some, Option.bind_some, asQs, asQ_own, nn, flatD, if_true]
    simp -implicitDefEqProofs only [tor_, tn_, tr_, tb_, e2_, lb, vr_, List.getElem?_cons_zero, List.getElem?_cons_succ, Option.join_some, Option.bind_some, truE_bool, Option.map_some, Bool.not_true, Bool.false_eq_true, if_false, neE_oo, asB_bool]
  · simp -implicitDefEqProofs only [appS_, eA_, ac_, a0_, cs_, vr_, List.getElem?_cons_zero, List.getElem?_cons_succ, Option.join_some, Option.bind_some, tup2i, asD_dat, if_pos ll, List.set_cons_zero, List.set_cons_succ]
end
theorem law_true (ns : List Int) (hn : ns.length ≤ 63) : R_law [.list (ns.map .int)] = some (.bool true) := by
  obtain ⟨ds, dl, dm, dq⟩ := law_draws_ok ns 90 (by decide) hn
  have dq' : R_law_draws [.list (ns.map .int), .int 90] = some (.list (ds.map encN)) := dq
  have a80 : atI (ds.map encN) 80 = some (.int ((at' ds 80 : Nat) : Int)) := at_ok (j := 80) (by omega)
  have a81 : atI (ds.map encN) 81 = some (encN (at' ds 81)) := at_ok (j := 81) (by omega)
  have a82 : atI (ds.map encN) 82 = some (encN (at' ds 82)) := at_ok (j := 82) (by omega)
  have m6 : modC (at' ds 81 : Nat) 6 = true := modC_p (by decide)
  have m31 : modC (at' ds 81 : Nat) 31 = true := modC_p (by decide)
  have m2 : modC (at' ds 82 : Nat) 2 = true := modC_p (by decide)
  have cok := law_chain_ok (ds := ds) (most := 8) (by omega) (by decide) (by decide)
  obtain ⟨g0, g8, gp⟩ := chainOf_good (ds := ds) (most := 8) (by decide)
  generalize hg : chainOf ds 8 = g at cok g0 g8 gp
  obtain ⟨L, G⟩ := goodC_of g8 gp
  have sm := sm_game (g := g) (top := 9) (fun p hp => (gp p hp).1) (by decide) (by omega)
  have rep := sm.repr (by decide) (by decide) rfl
  let s := at' ds 80 % g.length
  have hs : s < g.length := Nat.mod_lt _ g0
  let T := if at' ds 82 % 2 = 0 then at' ds 81 % 6 else at' ds 81 % 31
  have hT : T ≤ 30 := by
    show (if at' ds 82 % 2 = 0 then at' ds 81 % 6 else at' ds 81 % 31) ≤ 30
    have := Nat.mod_lt (at' ds 81) (by decide : 0 < 6)
    have := Nat.mod_lt (at' ds 81) (by decide : 0 < 31)
    split <;> omega
  have ml : modC (at' ds 80 : Nat) ((g.map encP).length : Nat) = true := modC_p (by rw [List.length_map]; omega)
  obtain ⟨e, h1, y8, y9, rfl⟩ := for_nx (enc := encN) (p := .nm 8) (b := L_law_2) (xs := List.range 10) (fun pre env => ∃ y8 y9, env = [some (.dat (.list (ns.map .int))), some (.dat (.list (ds.map encN))), some (.dat (encG g)), some (.dat (encN s)), some (.dat (encN T)), some (.dat (.str (encG g).shown)), some (.own (.lst (pre.map fun d => encR (dueR g T s d)))), some (.dat (encR (bef g T s pre.length))), y8, y9, none, none])
    (fun pre a post hx env ⟨y8, y9, he⟩ => by
      subst he
      have ha := range_mid hx
      have hlx := congrArg List.length hx
      simp at hlx
      have q := law_2 G hT hs (d := a) (by omega) (some (.dat (.list (ns.map .int)))) (some (.dat (.list (ds.map encN)))) (some (.dat (.str (encG g).shown))) y9 none none (acc := pre.map fun d => encR (dueR g T s d)) (by simp; omega)
      refine ⟨[some (.dat (.list (ns.map .int))), some (.dat (.list (ds.map encN))), some (.dat (encG g)), some (.dat (encN s)), some (.dat (encN T)), some (.dat (.str (encG g).shown)), some (.own (.lst (pre.map fun d => encR (dueR g T s d)))), some (.dat (encR (bef g T s pre.length))), some (.dat (encN a)), y9, none, none], by simp, _, by rw [← ha]; exact q, ?_⟩
      rw [List.map_append, List.map_singleton, List.length_append, List.length_singleton, ← ha]
      exact ⟨_, _, rfl⟩)
    (env := [some (.dat (.list (ns.map .int))), some (.dat (.list (ds.map encN))), some (.dat (encG g)), some (.dat (encN s)), some (.dat (encN T)), some (.dat (.str (encG g).shown)), some (.own (.lst [])), some (.dat (encR 0)), none, none, none, none]) ⟨none, none, rfl⟩
  have ed : ((List.range 10).map fun d => encR (dueR g T s d)) = (dues g T s).map encR := by
    unfold dues
    rw [List.map_map]
    rfl
  rw [ed] at h1
  obtain ⟨e, h2, z10, z11, rfl⟩ := for_nx (enc := encN) (p := .nm 10) (b := L_law_1) (xs := List.range 2) (fun pre env => ∃ y10 y11, env = [some (.dat (.list (ns.map .int))), some (.dat (.list (ds.map encN))), some (.dat (encG g)), some (.dat (encN s)), some (.dat (encN T)), some (.dat (.str (encG g).shown)), some (.own (.lst ((dues g T s).map encR))), some (.dat (encR (bef g T s (List.range 10).length))), y8, y9, y10, y11])
    (fun pre a post hx env ⟨y10, y11, he⟩ => by
      subst he
      obtain ⟨w11, q⟩ := law_1 G hT hs (some (.dat (.list (ns.map .int)))) (some (.dat (.list (ds.map encN)))) (some (.dat (.str (encG g).shown))) (some (.dat (encR (bef g T s (List.range 10).length)))) y8 y9 (some (.dat (encN a))) y11
      exact ⟨[some (.dat (.list (ns.map .int))), some (.dat (.list (ds.map encN))), some (.dat (encG g)), some (.dat (encN s)), some (.dat (encN T)), some (.dat (.str (encG g).shown)), some (.own (.lst ((dues g T s).map encR))), some (.dat (encR (bef g T s (List.range 10).length))), y8, y9, some (.dat (encN a)), y11], by simp, _, q, _, _, rfl⟩)
    (env := [some (.dat (.list (ns.map .int))), some (.dat (.list (ds.map encN))), some (.dat (encG g)), some (.dat (encN s)), some (.dat (encN T)), some (.dat (.str (encG g).shown)), some (.own (.lst ((dues g T s).map encR))), some (.dat (encR (bef g T s (List.range 10).length))), y8, y9, none, none]) ⟨none, none, rfl⟩
  refine fnD_rt rfl ?_
  show F_law [some (.dat (.list (ns.map .int))), none, none, none, none, none, none, none, none, none, none, none] = _
  unfold F_law
  refine (seqS_nx (e := [some (.dat (.list (ns.map .int))), some (.dat (.list (ds.map encN))), none, none, none, none, none, none, none, none, none, none]) (setS_dat ?_)).trans ?_
  · simp -implicitDefEqProofs only [cl_, ac_, a0_, cs_, vr_, List.getElem?_cons_zero, List.getElem?_cons_succ, Option.join_some, Option.bind_some, asDs_cons, asDs_nil, dq']
  refine (seqS_nx (e := [some (.dat (.list (ns.map .int))), some (.dat (.list (ds.map encN))), some (.dat (encG g)), none, none, none, none, none, none, none, none, none]) (setS_dat ?_)).trans ?_
  · have cok' : R_law_chain [.list (ds.map encN), .int 8] = some (encG g) := cok
    simp -implicitDefEqProofs only [cl_, ac_, a0_, cs_, vr_, List.getElem?_cons_zero, List.getElem?_cons_succ, Option.join_some, Option.bind_some, asDs_cons, asDs_nil, cok']
  refine (seqS_nx (e := [some (.dat (.list (ns.map .int))), some (.dat (.list (ds.map encN))), some (.dat (encG g)), some (.dat (encN s)), none, none, none, none, none, none, none, none]) (setS_dat ?_)).trans ?_
  · have es : ((at' ds 80 : Nat) : Int) % ((g.map encP).length : Nat) = ((s : Nat) : Int) := by rw [List.length_map]; exact (Int.natCast_emod _ _).symm
    simp -implicitDefEqProofs only [e2_, eA_, ac_, a0_, cs_, vr_, List.getElem?_cons_zero, List.getElem?_cons_succ, Option.join_some, Option.bind_some, encG, ixE_list, a80, intE_int, lenE_, modE_, if_pos ml, es, encN]
  refine (seqS_nx (e := [some (.dat (.list (ns.map .int))), some (.dat (.list (ds.map encN))), some (.dat (encG g)), some (.dat (encN s)), some (.dat (encN T)), none, none, none, none, none, none, none]) ?_).trans ?_
  · refine setS_dat ?_
    by_cases q : at' ds 82 % 2 = 0
    · have q' : ((at' ds 82 : Nat) : Int) % 2 = 0 := by omega
      have et : T = at' ds 81 % 6 := if_pos q
      rw [et]
      simp -implicitDefEqProofs [fz_, encN, a81, a82, m6, m31, m2, q']
    · have q' : ((at' ds 82 : Nat) : Int) % 2 = 1 := by omega
      have et : T = at' ds 81 % 31 := if_neg q
      rw [et]
      simp -implicitDefEqProofs [fz_, encN, a81, a82, m6, m31, m2, q']
  refine (seqS_nx (e := [some (.dat (.list (ns.map .int))), some (.dat (.list (ds.map encN))), some (.dat (encG g)), some (.dat (encN s)), some (.dat (encN T)), some (.dat (.str (encG g).shown)), none, none, none, none, none, none]) (setS_dat ?_)).trans ?_
  · simp -implicitDefEqProofs only [eA_, ac_, a0_, vr_, List.getElem?_cons_zero, List.getElem?_cons_succ, Option.join_some, Option.bind_some, rep]
  refine (seqS_nx (e := [some (.dat (.list (ns.map .int))), some (.dat (.list (ds.map encN))), some (.dat (encG g)), some (.dat (encN s)), some (.dat (encN T)), some (.dat (.str (encG g).shown)), some (.own (.lst [])), none, none, none, none, none]) (setN_own (by simp -implicitDefEqProofs only [nA_, a0_, Option.bind_some, lstE_nil]))).trans ?_
  refine (seqS_nx (e := [some (.dat (.list (ns.map .int))), some (.dat (.list (ds.map encN))), some (.dat (encG g)), some (.dat (encN s)), some (.dat (encN T)), some (.dat (.str (encG g).shown)), some (.own (.lst [])), some (.dat (encR 0)), none, none, none, none]) (setS_dat ?_)).trans ?_
  · have z : encR 0 = .tuple [.int 0, .int 1] := rfl
    simp -implicitDefEqProofs only [eA_, ac_, a0_, cs_, Option.bind_some, tup2i, z]
  refine (seqS_nx (e := _) (Eq.trans ?_ h1)).trans ?_
  · have r10 : rg1E [.dat (.int 10)] = some ((List.range 10).map encN) := rg1_nat (n := 10) (by decide)
    simp -implicitDefEqProofs only [forS, itA_, ac_, a0_, cs_, Option.bind_some, r10]
  refine (seqS_nx (e := _) (Eq.trans ?_ h2)).trans ?_
  · have r2 : rg1E [.dat (.int 2)] = some ((List.range 2).map encN) := rg1_nat (n := 2) (by decide)
    simp -implicitDefEqProofs only [forS, itA_, ac_, a0_, cs_, Option.bind_some, r2]
  refine retS_dat ?_
  have sh := eqE_shown sm
  simp -implicitDefEqProofs only [e2_, eA_, ac_, a0_, vr_, List.getElem?_cons_zero, List.getElem?_cons_succ, Option.join_some, Option.bind_some, rep, sh]
end Od

set_option Elab.async false
set_option linter.all false
set_option maxRecDepth 100000
set_option autoImplicit false
set_option maxHeartbeats 4000000
namespace Od
open PySem PySem.Spec PyProof.Rows L2
abbrev s_number : Stmt := PySem.Challenge.pw_oddcrown_k81_marks_of_the_first_steps.main.body.getD 4 (.Pass ⟨0, 0, 0, 0⟩)
theorem sc_number : FnScope ["n", "d", "common"] ["n", "d"] (defScope s_number) := ⟨rfl, rfl, rfl, by decide +kernel, rfl, by decide +kernel, by decide +kernel⟩
theorem ok_number {P : Program} {w : World} {K : PySem.W.Frag} {mg : Str → Option Value} {base : Heap} {f : Addr} {fd : FuncData} (F : Fun K "number" "number" s_number f fd) (f_gcd : mg "gcd" = some (.builtin "math.gcd")) : FnOk P w K mg base CX0 1 f fd ["n", "d"] (spD K R_number) :=
  ok_def (b := F_number) F sc_number _ (fun _ _ h => h) (fun cdv A outer s H E B hr =>
    (scons (sif (tcm op_lt o_lt (xv 1) xint (nomark _)) (sone (spar rfl sc_number.nd (xac (xneg (xv 0)) (xac (xneg (xv 1)) xa0)))) snil)
      (scons (sset sc_number.nd (xcf cr_gcd o_gcd (by rfl) f_gcd (xac (xv 0) (xac (xv 1) xa0))))
      (sone (sret (xtup (xac (xdiv (xv 0) (xv 2)) (xac (xdiv (xv 1) (xv 2)) xa0))))))))
abbrev s_plus : Stmt := PySem.Challenge.pw_oddcrown_k81_marks_of_the_first_steps.main.body.getD 5 (.Pass ⟨0, 0, 0, 0⟩)
theorem sc_plus : FnScope ["a", "b"] ["a", "b"] (defScope s_plus) := ⟨rfl, rfl, rfl, by decide +kernel, rfl, by decide +kernel, by decide +kernel⟩
theorem ok_plus {P : Program} {w : World} {K : PySem.W.Frag} {mg : Str → Option Value} {base : Heap} {f : Addr} {fd : FuncData} (F : Fun K "plus" "plus" s_plus f fd) (g_number : Dn P w K mg base 1 "number" ["n", "d"] (spD K R_number)) : FnOk P w K mg base CX0 2 f fd ["a", "b"] (spD K R_plus) :=
  ok_def (b := F_plus) F sc_plus _ (fun _ _ h => h) (fun cdv A outer s H E B hr =>
    (sone (sret (xcl g_number hr (by rfl) (xac (xadd (xmul (xix (xv 0) xint) (xix (xv 1) xint)) (xmul (xix (xv 1) xint) (xix (xv 0) xint))) (xac (xmul (xix (xv 0) xint) (xix (xv 1) xint)) xa0))))))
abbrev s_times : Stmt := PySem.Challenge.pw_oddcrown_k81_marks_of_the_first_steps.main.body.getD 6 (.Pass ⟨0, 0, 0, 0⟩)
theorem sc_times : FnScope ["a", "b"] ["a", "b"] (defScope s_times) := ⟨rfl, rfl, rfl, by decide +kernel, rfl, by decide +kernel, by decide +kernel⟩
theorem ok_times {P : Program} {w : World} {K : PySem.W.Frag} {mg : Str → Option Value} {base : Heap} {f : Addr} {fd : FuncData} (F : Fun K "times" "times" s_times f fd) (g_number : Dn P w K mg base 1 "number" ["n", "d"] (spD K R_number)) : FnOk P w K mg base CX0 2 f fd ["a", "b"] (spD K R_times) :=
  ok_def (b := F_times) F sc_times _ (fun _ _ h => h) (fun cdv A outer s H E B hr =>
    (sone (sret (xcl g_number hr (by rfl) (xac (xmul (xix (xv 0) xint) (xix (xv 1) xint)) (xac (xmul (xix (xv 0) xint) (xix (xv 1) xint)) xa0))))))
abbrev s_total : Stmt := PySem.Challenge.pw_oddcrown_k81_marks_of_the_first_steps.main.body.getD 7 (.Pass ⟨0, 0, 0, 0⟩)
theorem sc_total : FnScope ["numbers", "found", "one"] ["numbers"] (defScope s_total) := ⟨rfl, rfl, rfl, by decide +kernel, rfl, by decide +kernel, by decide +kernel⟩
theorem ok_total {P : Program} {w : World} {K : PySem.W.Frag} {mg : Str → Option Value} {base : Heap} {f : Addr} {fd : FuncData} (F : Fun K "total" "total" s_total f fd) (c_NOUGHT : Cn K mg "NOUGHT" (.tuple [(.int 0), (.int 1)])) (g_plus : Dn P w K mg base 2 "plus" ["a", "b"] (spD K R_plus)) : FnOk P w K mg base CX0 3 f fd ["numbers"] (spD K R_total) :=
  ok_def (b := F_total) F sc_total _ (fun _ _ h => h) (fun cdv A outer s H E B hr =>
    (scons (sset sc_total.nd (xgc c_NOUGHT (by rfl)))
      (scons (sfor (p := (.nm 2)) rfl (ilist (xv 0)) (gnm 2 sc_total.nd) (sone (sset sc_total.nd (xcl g_plus hr (by rfl) (xac (xv 1) (xac (xv 2) xa0))))))
      (sone (sret (xv 1))))))
abbrev s_first_marks : Stmt := PySem.Challenge.pw_oddcrown_k81_marks_of_the_first_steps.main.body.getD 10 (.Pass ⟨0, 0, 0, 0⟩)
theorem sc_first_marks : FnScope ["chain", "place", "steps", "masses", "_", "later", "here", "mark", "mass", "chance", "target", "key", "due"] ["chain", "place", "steps"] (defScope s_first_marks) := ⟨rfl, rfl, rfl, by decide +kernel, rfl, by decide +kernel, by decide +kernel⟩
theorem ok_first_marks {P : Program} {w : World} {K : PySem.W.Frag} {mg : Str → Option Value} {base : Heap} {f : Addr} {fd : FuncData} (F : Fun K "first_marks" "first_marks" s_first_marks f fd) (c_MARKS : Cn K mg "MARKS" (.int 10)) (c_NOUGHT : Cn K mg "NOUGHT" (.tuple [(.int 0), (.int 1)])) (c_ONE : Cn K mg "ONE" (.tuple [(.int 1), (.int 1)])) (m_range : mg "range" = none) (m_max : mg "max" = none) (g_total : Dn P w K mg base 3 "total" ["numbers"] (spD K R_total)) (g_plus : Dn P w K mg base 2 "plus" ["a", "b"] (spD K R_plus)) (g_times : Dn P w K mg base 2 "times" ["a", "b"] (spD K R_times)) : FnOk P w K mg base CX0 4 f fd ["chain", "place", "steps"] (spN K R_first_marks) :=
  ok_defN (b := F_first_marks) F sc_first_marks _ (fun _ _ h => h) (fun cdv A outer s H E B hr =>
    (scons (ssetN sc_first_marks.nd (xdN1 hr (xac (xv 1) (xac (xix (xix (xv 0) (xv 1)) xint) xa0)) (xgc c_ONE (by rfl))))
      (scons (sfor (p := (.nm 4)) rfl (irg1 (by rfl) m_range (xac (xv 2) xa0)) (gnm 4 sc_first_marks.nd) (scons (ssetN sc_first_marks.nd xdnewT)
      (scons (sforP 3 (pt := (.tp (.cons (.tp (.cons (.nm 6) (.cons (.nm 7) .nil))) (.cons (.nm 8) .nil)))) rfl (pg_tup rfl (pgs_cons (pg_tup rfl (pgs_cons (gnm 6 sc_first_marks.nd) (pgs_cons (gnm 7 sc_first_marks.nd) pgs_nil))) (pgs_cons (gnm 8 sc_first_marks.nd) pgs_nil))) (fun _ => (sone (sfor (p := (.tp (.cons (.nm 9) (.cons (.nm 10) .nil)))) rfl (ilist (xix (xix (xv 0) (xv 6)) xint)) (pg_tup rfl (pgs_cons (gnm 9 sc_first_marks.nd) (pgs_cons (gnm 10 sc_first_marks.nd) pgs_nil))) (scons (sktS sc_first_marks.nd (xac (xv 10) (xac (xcb (call_max2 rfl) o_max (by rfl) m_max (by decide +kernel) (xac (xv 7) (xac (xix (xix (xv 0) (xv 10)) xint) xa0))) xa0)))
      (sone (sdpV 5 11 hr (xcl g_plus hr (by rfl) (xac (xgtV 5 11 hr (xgc c_NOUGHT (by rfl))) (xac (xcl g_times hr (by rfl) (xac (xv 8) (xac (xv 9) xa0))) xa0))))))))))
      (sone (smov sc_first_marks.nd)))))
      (sone (sfrn 3 (xlc (own := [("due", 12)]) (p := (.nm 12)) rfl sc_first_marks.nd (irg1 (by rfl) m_range (xac (xgc c_MARKS (by rfl)) xa0)) (blkOk_by (by kernel_rfl)) (by decide) (fun _ _ _ _ _ => (gnm 12 sc_first_marks.nd)) (fun _ _ _ _ _ => tnoT) (fun _ _ _ _ _ => (xcl g_total hr (by rfl) (xac (xfz (xlc (own := [("_", 4), ("mark", 7), ("mass", 8)]) (p := (.tp (.cons (.tp (.cons (.nm 4) (.cons (.nm 7) .nil))) (.cons (.nm 8) .nil)))) rfl sc_first_marks.nd (ipairs 3) (blkOk_by (by kernel_rfl)) (by decide) (fun _ _ _ _ _ => (pg_tup rfl (pgs_cons (pg_tup rfl (pgs_cons (gnm 4 sc_first_marks.nd) (pgs_cons (gnm 7 sc_first_marks.nd) pgs_nil))) (pgs_cons (gnm 8 sc_first_marks.nd) pgs_nil)))) (fun _ _ _ _ _ => pts_one (tcm (op_eqD hr.units) o_eq (xv 7) (xv 12) (nomark _))) (fun _ _ _ _ _ => (xv 8)))) xa0)))))))))
abbrev s_law_draws : Stmt := PySem.Challenge.pw_oddcrown_k81_marks_of_the_first_steps.main.body.getD 12 (.Pass ⟨0, 0, 0, 0⟩)
theorem sc_law_draws : FnScope ["_law_script", "_law_count", "_law_rests", "_law_cell", "_law_draws_here", "_law_k", "_law_value", "_law_at", "_law_mixed"] ["_law_script", "_law_count"] (defScope s_law_draws) := ⟨rfl, rfl, rfl, by decide +kernel, rfl, by decide +kernel, by decide +kernel⟩
theorem ok_law_draws {P : Program} {w : World} {K : PySem.W.Frag} {mg : Str → Option Value} {base : Heap} {f : Addr} {fd : FuncData} (F : Fun K "_law_draws" "_law_draws" s_law_draws f fd) (m_range : mg "range" = none) (m_len : mg "len" = none) (m_int : mg "int" = none) : FnOk P w K mg base CX0 1 f fd ["_law_script", "_law_count"] (spD K R_law_draws) :=
  ok_def (b := F_law_draws) F sc_law_draws _ (fun _ _ h => h) (fun cdv A outer s H E B hr =>
    (scons (ssetLcN (own := [("_law_cell", 3)]) (p := (.nm 3)) rfl sc_law_draws.nd rfl rfl (sw_true rfl rfl rfl (by decide +kernel)) (ilist (xv 0)) (blkOk_by (by kernel_rfl)) (by decide) (fun _ _ _ _ _ => (gnm 3 sc_law_draws.nd)) (fun _ _ _ _ _ => tnoT) (fun _ _ _ _ _ => (xv 3)))
      (scons (ssetN sc_law_draws.nd (xlst xa0))
      (scons (sfor (p := (.nm 5)) rfl (irg1 (by rfl) m_range (xac (xv 1) xa0)) (gnm 5 sc_law_draws.nd) (scons (sset sc_law_draws.nd xint)
      (scons (sif (tcm op_gt o_gt (xcb call_len_seq o_len (by rfl) m_len PySem.boot_len (xac (xv 2) xa0)) xint (nomark _)) (scons (sset sc_law_draws.nd (xmod (xct call_int1 o_int (by rfl) m_int boot_int (xac (xv 5) xa0)) (xcb call_len_seq o_len (by rfl) m_len PySem.boot_len (xac (xv 2) xa0))))
      (sone (sif (tcm op_ge o_ge (xix (xv 2) (xv 7)) (xpow xint xint) (nomark _)) (scons (sset sc_law_draws.nd (xmod (xct call_int1 o_int (by rfl) m_int boot_int (xac (xix (xv 2) (xv 7)) xa0)) xint))
      (sone (sput 2 (xdiv (xix (xv 2) (xv 7)) xint) (xv 7)))) (scons (sset sc_law_draws.nd (xmod (xct call_int1 o_int (by rfl) m_int boot_int (xac (xadd (xadd (xmul (xix (xv 2) (xv 7)) xint) (xmul (xv 5) xint)) xint) xa0)) xint))
      (scons (sset sc_law_draws.nd (xmod (xct call_int1 o_int (by rfl) m_int boot_int (xac (xadd (xmul (xv 8) xint) (xv 7)) xa0)) xint))
      (sone (sset sc_law_draws.nd (xmod (xct call_int1 o_int (by rfl) m_int boot_int (xac (xdiv (xv 8) xint) xa0)) xint)))))))) snil)
      (sone (sapp 4 (xv 6))))))
      (sone (sretO 4))))))
abbrev s_law_gcd : Stmt := PySem.Challenge.pw_oddcrown_k81_marks_of_the_first_steps.main.body.getD 13 (.Pass ⟨0, 0, 0, 0⟩)
theorem sc_law_gcd : FnScope ["_law_a", "_law_b", "_law_step", "_law_rest"] ["_law_a", "_law_b"] (defScope s_law_gcd) := ⟨rfl, rfl, rfl, by decide +kernel, rfl, by decide +kernel, by decide +kernel⟩
theorem ok_law_gcd {P : Program} {w : World} {K : PySem.W.Frag} {mg : Str → Option Value} {base : Heap} {f : Addr} {fd : FuncData} (F : Fun K "_law_gcd" "_law_gcd" s_law_gcd f fd) (m_range : mg "range" = none) (m_int : mg "int" = none) (m_abs : mg "abs" = none) : FnOk P w K mg base CX0 1 f fd ["_law_a", "_law_b"] (spD K R_law_gcd) :=
  ok_def (b := F_law_gcd) F sc_law_gcd _ (fun _ _ h => h) (fun cdv A outer s H E B hr =>
    (scons (sset sc_law_gcd.nd (xcb call_abs o_abs (by rfl) m_abs (by decide +kernel) (xac (xv 0) xa0)))
      (scons (sset sc_law_gcd.nd (xcb call_abs o_abs (by rfl) m_abs (by decide +kernel) (xac (xv 1) xa0)))
      (scons (sfor (p := (.nm 2)) rfl (irg1 (by rfl) m_range (xac xint xa0)) (gnm 2 sc_law_gcd.nd) (scons (sif (tcm (op_eqD hr.units) o_eq (xv 1) xint (nomark _)) (sone sbrk) snil)
      (scons (sset sc_law_gcd.nd (xmod (xct call_int1 o_int (by rfl) m_int boot_int (xac (xv 0) xa0)) (xv 1)))
      (scons (sset sc_law_gcd.nd (xv 1))
      (sone (sset sc_law_gcd.nd (xv 3)))))))
      (sone (sret (xv 0)))))))
abbrev s_law_number : Stmt := PySem.Challenge.pw_oddcrown_k81_marks_of_the_first_steps.main.body.getD 14 (.Pass ⟨0, 0, 0, 0⟩)
theorem sc_law_number : FnScope ["_law_n", "_law_d", "_law_common"] ["_law_n", "_law_d"] (defScope s_law_number) := ⟨rfl, rfl, rfl, by decide +kernel, rfl, by decide +kernel, by decide +kernel⟩
theorem ok_law_number {P : Program} {w : World} {K : PySem.W.Frag} {mg : Str → Option Value} {base : Heap} {f : Addr} {fd : FuncData} (F : Fun K "_law_number" "_law_number" s_law_number f fd) (g_law_gcd : Dn P w K mg base 1 "_law_gcd" ["_law_a", "_law_b"] (spD K R_law_gcd)) : FnOk P w K mg base CX0 2 f fd ["_law_n", "_law_d"] (spD K R_law_number) :=
  ok_def (b := F_law_number) F sc_law_number _ (fun _ _ h => h) (fun cdv A outer s H E B hr =>
    (scons (sif (tcm op_lt o_lt (xv 1) xint (nomark _)) (scons (sset sc_law_number.nd (xneg (xv 0)))
      (sone (sset sc_law_number.nd (xneg (xv 1))))) snil)
      (scons (sset sc_law_number.nd (xcl g_law_gcd hr (by rfl) (xac (xv 0) (xac (xv 1) xa0))))
      (sone (sret (xtup (xac (xdiv (xv 0) (xv 2)) (xac (xdiv (xv 1) (xv 2)) xa0))))))))
abbrev s_law_plus : Stmt := PySem.Challenge.pw_oddcrown_k81_marks_of_the_first_steps.main.body.getD 15 (.Pass ⟨0, 0, 0, 0⟩)
theorem sc_law_plus : FnScope ["_law_a", "_law_b"] ["_law_a", "_law_b"] (defScope s_law_plus) := ⟨rfl, rfl, rfl, by decide +kernel, rfl, by decide +kernel, by decide +kernel⟩
theorem ok_law_plus {P : Program} {w : World} {K : PySem.W.Frag} {mg : Str → Option Value} {base : Heap} {f : Addr} {fd : FuncData} (F : Fun K "_law_plus" "_law_plus" s_law_plus f fd) (g_law_number : Dn P w K mg base 2 "_law_number" ["_law_n", "_law_d"] (spD K R_law_number)) : FnOk P w K mg base CX0 3 f fd ["_law_a", "_law_b"] (spD K R_law_plus) :=
  ok_def (b := F_law_plus) F sc_law_plus _ (fun _ _ h => h) (fun cdv A outer s H E B hr =>
    (sone (sret (xcl g_law_number hr (by rfl) (xac (xadd (xmul (xix (xv 0) xint) (xix (xv 1) xint)) (xmul (xix (xv 1) xint) (xix (xv 0) xint))) (xac (xmul (xix (xv 0) xint) (xix (xv 1) xint)) xa0))))))
abbrev s_law_times : Stmt := PySem.Challenge.pw_oddcrown_k81_marks_of_the_first_steps.main.body.getD 16 (.Pass ⟨0, 0, 0, 0⟩)
theorem sc_law_times : FnScope ["_law_a", "_law_b"] ["_law_a", "_law_b"] (defScope s_law_times) := ⟨rfl, rfl, rfl, by decide +kernel, rfl, by decide +kernel, by decide +kernel⟩
theorem ok_law_times {P : Program} {w : World} {K : PySem.W.Frag} {mg : Str → Option Value} {base : Heap} {f : Addr} {fd : FuncData} (F : Fun K "_law_times" "_law_times" s_law_times f fd) (g_law_number : Dn P w K mg base 2 "_law_number" ["_law_n", "_law_d"] (spD K R_law_number)) : FnOk P w K mg base CX0 3 f fd ["_law_a", "_law_b"] (spD K R_law_times) :=
  ok_def (b := F_law_times) F sc_law_times _ (fun _ _ h => h) (fun cdv A outer s H E B hr =>
    (sone (sret (xcl g_law_number hr (by rfl) (xac (xmul (xix (xv 0) xint) (xix (xv 1) xint)) (xac (xmul (xix (xv 0) xint) (xix (xv 1) xint)) xa0))))))
abbrev s_law_total : Stmt := PySem.Challenge.pw_oddcrown_k81_marks_of_the_first_steps.main.body.getD 17 (.Pass ⟨0, 0, 0, 0⟩)
theorem sc_law_total : FnScope ["_law_numbers", "_law_found", "_law_one"] ["_law_numbers"] (defScope s_law_total) := ⟨rfl, rfl, rfl, by decide +kernel, rfl, by decide +kernel, by decide +kernel⟩
theorem ok_law_total {P : Program} {w : World} {K : PySem.W.Frag} {mg : Str → Option Value} {base : Heap} {f : Addr} {fd : FuncData} (F : Fun K "_law_total" "_law_total" s_law_total f fd) (g_law_plus : Dn P w K mg base 3 "_law_plus" ["_law_a", "_law_b"] (spD K R_law_plus)) : FnOk P w K mg base CX0 4 f fd ["_law_numbers"] (spD K R_law_total) :=
  ok_def (b := F_law_total) F sc_law_total _ (fun _ _ h => h) (fun cdv A outer s H E B hr =>
    (scons (sset sc_law_total.nd (xtup (xac xint (xac xint xa0))))
      (scons (sfor (p := (.nm 2)) rfl (ilist (xv 0)) (gnm 2 sc_law_total.nd) (sone (sset sc_law_total.nd (xcl g_law_plus hr (by rfl) (xac (xv 1) (xac (xv 2) xa0))))))
      (sone (sret (xv 1))))))
abbrev s_law_is_number : Stmt := PySem.Challenge.pw_oddcrown_k81_marks_of_the_first_steps.main.body.getD 18 (.Pass ⟨0, 0, 0, 0⟩)
theorem sc_law_is_number : FnScope ["_law_actual", "_law_one"] ["_law_actual"] (defScope s_law_is_number) := ⟨rfl, rfl, rfl, by decide +kernel, rfl, by decide +kernel, by decide +kernel⟩
theorem ok_law_is_number {P : Program} {w : World} {K : PySem.W.Frag} {mg : Str → Option Value} {base : Heap} {f : Addr} {fd : FuncData} (F : Fun K "_law_is_number" "_law_is_number" s_law_is_number f fd) (m_isinstance : mg "isinstance" = none) (m_bool : mg "bool" = none) (m_int : mg "int" = none) (m_len : mg "len" = none) (m_tuple : mg "tuple" = none) (g_law_gcd : Dn P w K mg base 1 "_law_gcd" ["_law_a", "_law_b"] (spD K R_law_gcd)) : FnOk P w K mg base CX0 2 f fd ["_law_actual"] (spD K R_law_is_number) :=
  ok_def (b := F_law_is_number) F sc_law_is_number _ (fun _ _ h => h) (fun cdv A outer s H E B hr =>
    (scons (sif (PW.pt (tor2 (tnot (ttru (xisi (T := "tuple") (by rfl) m_isinstance (by rfl) m_tuple (by decide +kernel) (xv 0)))) (tor1 (tcm (op_neD hr.units) o_ne (xcb call_len_seq o_len (by rfl) m_len PySem.boot_len (xac (xv 0) xa0)) xint (nomark _))))) (sone (sret xbl)) snil)
      (scons (sfor (p := (.nm 1)) rfl (itup (xv 0)) (gnm 1 sc_law_is_number.nd) (sone (sif (PW.pt (tor2 (tnot (ttru (xisi (T := "int") (by rfl) m_isinstance (by rfl) m_int (by decide +kernel) (xv 1)))) (tor1 (ttru (xisi (T := "bool") (by rfl) m_isinstance (by rfl) m_bool (by decide +kernel) (xv 1)))))) (sone (sret xbl)) snil)))
      (sone (sret (xand2 (xcm op_ge o_ge (xix (xv 0) xint) xint (nomark _)) (xand1 (xcm (op_eqD hr.units) o_eq (xcl g_law_gcd hr (by rfl) (xac (xix (xv 0) xint) (xac (xix (xv 0) xint) xa0))) xint (nomark _)))))))))
abbrev s_law_is_numbers : Stmt := PySem.Challenge.pw_oddcrown_k81_marks_of_the_first_steps.main.body.getD 19 (.Pass ⟨0, 0, 0, 0⟩)
theorem sc_law_is_numbers : FnScope ["_law_actual", "_law_one"] ["_law_actual"] (defScope s_law_is_numbers) := ⟨rfl, rfl, rfl, by decide +kernel, rfl, by decide +kernel, by decide +kernel⟩
theorem ok_law_is_numbers {P : Program} {w : World} {K : PySem.W.Frag} {mg : Str → Option Value} {base : Heap} {f : Addr} {fd : FuncData} (F : Fun K "_law_is_numbers" "_law_is_numbers" s_law_is_numbers f fd) (m_all : mg "all" = none) (m_isinstance : mg "isinstance" = none) (m_list : mg "list" = none) (g_law_is_number : Dn P w K mg base 2 "_law_is_number" ["_law_actual"] (spD K R_law_is_number)) : FnOk P w K mg base CX0 3 f fd ["_law_actual"] (spD K R_law_is_numbers) :=
  ok_def (b := F_law_is_numbers) F sc_law_is_numbers _ (fun _ _ h => h) (fun cdv A outer s H E B hr =>
    (sone (sret (xand2 (xisi (T := "list") (by rfl) m_isinstance (by rfl) m_list (by decide +kernel) (xv 0)) (xand1 (xcb (cr_all rfl) o_all (by rfl) m_all (by decide +kernel) (xac (xfz (xlc (own := [("_law_one", 1)]) (p := (.nm 1)) rfl sc_law_is_numbers.nd (ilist (xv 0)) (blkOk_by (by kernel_rfl)) (by decide) (fun _ _ _ _ _ => (gnm 1 sc_law_is_numbers.nd)) (fun _ _ _ _ _ => tnoT) (fun _ _ _ _ _ => (xcl g_law_is_number hr (by rfl) (xac (xv 1) xa0))))) xa0)))))))
abbrev s_law_chain : Stmt := PySem.Challenge.pw_oddcrown_k81_marks_of_the_first_steps.main.body.getD 20 (.Pass ⟨0, 0, 0, 0⟩)
theorem sc_law_chain : FnScope ["_law_draws_here", "_law_most", "_law_many", "_law_block", "_law_found", "_law_k", "_law_part", "_law_size", "_law_weights", "_law_n", "_law_branches", "_law_low"] ["_law_draws_here", "_law_most"] (defScope s_law_chain) := ⟨rfl, rfl, rfl, by decide +kernel, rfl, by decide +kernel, by decide +kernel⟩
theorem ok_law_chain {P : Program} {w : World} {K : PySem.W.Frag} {mg : Str → Option Value} {base : Heap} {f : Addr} {fd : FuncData} (F : Fun K "_law_chain" "_law_chain" s_law_chain f fd) (m_range : mg "range" = none) (m_int : mg "int" = none) (m_sum : mg "sum" = none) (g_law_number : Dn P w K mg base 2 "_law_number" ["_law_n", "_law_d"] (spD K R_law_number)) : FnOk P w K mg base CX0 3 f fd ["_law_draws_here", "_law_most"] (spD K R_law_chain) :=
  ok_def (b := F_law_chain) F sc_law_chain _ (fun _ _ h => h) (fun cdv A outer s H E B hr =>
    (scons (sset sc_law_chain.nd (xadd xint (xmod (xct call_int1 o_int (by rfl) m_int boot_int (xac (xix (xv 0) xint) xa0)) (xv 1))))
      (scons (sset sc_law_chain.nd (xix (xfz (xlst (xac (xv 2) (xac xint (xac xint (xac xint xa0)))))) (xmod (xct call_int1 o_int (by rfl) m_int boot_int (xac (xix (xv 0) xint) xa0)) xint)))
      (scons (ssetN sc_law_chain.nd (xlst xa0))
      (scons (sfor (p := (.nm 5)) rfl (irg1 (by rfl) m_range (xac (xv 2) xa0)) (gnm 5 sc_law_chain.nd) (scons (sset sc_law_chain.nd (xfz (xcut (xv 0) (xpS (xadd xint (xmul xint (xv 5)))) (xpS (xadd xint (xmul xint (xv 5)))))))
      (scons (sset sc_law_chain.nd (xix (xfz (xlst (xac xint (xac xint (xac xint (xac xint (xac xint (xac xint xa0)))))))) (xmod (xct call_int1 o_int (by rfl) m_int boot_int (xac (xix (xv 6) xint) xa0)) xint)))
      (scons (ssetLc (own := [("_law_n", 9)]) (p := (.nm 9)) rfl sc_law_chain.nd rfl rfl (sw_true rfl rfl rfl (by decide +kernel)) (irg1 (by rfl) m_range (xac (xv 7) xa0)) (blkOk_by (by kernel_rfl)) (by decide) (fun _ _ _ _ _ => (gnm 9 sc_law_chain.nd)) (fun _ _ _ _ _ => tnoT) (fun _ _ _ _ _ => (xadd xint (xmod (xct call_int1 o_int (by rfl) m_int boot_int (xac (xdiv (xix (xv 6) (xadd xint (xdiv (xv 9) xint))) (xadd xint (xmul xint (xct call_int1 o_int (by rfl) m_int boot_int (xac (xmod (xv 9) xint) xa0))))) xa0)) xint))))
      (scons (ssetN sc_law_chain.nd (xlst xa0))
      (scons (sfor (p := (.nm 9)) rfl (irg1 (by rfl) m_range (xac (xv 7) xa0)) (gnm 9 sc_law_chain.nd) (scons (sset sc_law_chain.nd (xsub (xv 5) (xmod (xct call_int1 o_int (by rfl) m_int boot_int (xac (xv 5) xa0)) (xv 3))))
      (sone (sapp 10 (xtup (xac (xcl g_law_number hr (by rfl) (xac (xix (xv 8) (xv 9)) (xac (xcb (cr_sum rfl) o_sum (by rfl) m_sum (by decide +kernel) (xac (xv 8) xa0)) xa0))) (xac (xadd (xv 11) (xmod (xct call_int1 o_int (by rfl) m_int boot_int (xac (xix (xv 6) (xadd xint (xv 9))) xa0)) (xsub (xv 2) (xv 11)))) xa0)))))))
      (sone (sfrz 10 (sapp 4 (xtup (xac (xmod (xct call_int1 o_int (by rfl) m_int boot_int (xac (xix (xv 6) xint) xa0)) xint) (xac xstr (xac (xv 10) xa0)))))))))))))
      (sone (sretO 4)))))))
abbrev s_law_below : Stmt := PySem.Challenge.pw_oddcrown_k81_marks_of_the_first_steps.main.body.getD 21 (.Pass ⟨0, 0, 0, 0⟩)
theorem sc_law_below : FnScope ["_law_chain_here", "_law_place", "_law_mark", "_law_steps", "_law_numbers", "_law_k", "_law_turn", "_law_later", "_law_here", "_law_kind", "_law_branches", "_law_mean", "_law_chance", "_law_target"] ["_law_chain_here", "_law_place", "_law_mark", "_law_steps"] (defScope s_law_below) := ⟨rfl, rfl, rfl, by decide +kernel, rfl, by decide +kernel, by decide +kernel⟩
theorem ok_law_below {P : Program} {w : World} {K : PySem.W.Frag} {mg : Str → Option Value} {base : Heap} {f : Addr} {fd : FuncData} (F : Fun K "_law_below" "_law_below" s_law_below f fd) (m_range : mg "range" = none) (m_len : mg "len" = none) (m_int : mg "int" = none) (g_law_total : Dn P w K mg base 4 "_law_total" ["_law_numbers"] (spD K R_law_total)) (g_law_times : Dn P w K mg base 3 "_law_times" ["_law_a", "_law_b"] (spD K R_law_times)) : FnOk P w K mg base CX0 5 f fd ["_law_chain_here", "_law_place", "_law_mark", "_law_steps"] (spD K R_law_below) :=
  ok_def (b := F_law_below) F sc_law_below _ (fun _ _ h => h) (fun cdv A outer s H E B hr =>
    (scons (sset sc_law_below.nd (xfz (xlc (own := [("_law_k", 5)]) (p := (.nm 5)) rfl sc_law_below.nd (irg1 (by rfl) m_range (xac (xcb call_len_seq o_len (by rfl) m_len PySem.boot_len (xac (xv 0) xa0)) xa0)) (blkOk_by (by kernel_rfl)) (by decide) (fun _ _ _ _ _ => (gnm 5 sc_law_below.nd)) (fun _ _ _ _ _ => tnoT) (fun _ _ _ _ _ => (xtup (xac (xct call_int1 o_int (by rfl) m_int boot_int (xac (xcm op_le o_le (xix (xix (xv 0) (xv 5)) xint) (xv 2) (nomark _)) xa0)) (xac xint xa0)))))))
      (scons (sfor (p := (.nm 6)) rfl (irg1 (by rfl) m_range (xac (xv 3) xa0)) (gnm 6 sc_law_below.nd) (scons (ssetN sc_law_below.nd (xlst xa0))
      (scons (sfor (p := (.tp (.cons (.nm 8) (.cons (.nm 9) (.cons (.nm 10) .nil))))) rfl (ilist (xv 0)) (pg_tup rfl (pgs_cons (gnm 8 sc_law_below.nd) (pgs_cons (gnm 9 sc_law_below.nd) (pgs_cons (gnm 10 sc_law_below.nd) pgs_nil)))) (scons (sset sc_law_below.nd (xtup (xac xint (xac xint xa0))))
      (scons (sif (tcm op_le o_le (xv 8) (xv 2) (nomark _)) (sone (sset sc_law_below.nd (xcl g_law_total hr (by rfl) (xac (xfz (xlc (own := [("_law_chance", 12), ("_law_target", 13)]) (p := (.tp (.cons (.nm 12) (.cons (.nm 13) .nil)))) rfl sc_law_below.nd (ilist (xv 10)) (blkOk_by (by kernel_rfl)) (by decide) (fun _ _ _ _ _ => (pg_tup rfl (pgs_cons (gnm 12 sc_law_below.nd) (pgs_cons (gnm 13 sc_law_below.nd) pgs_nil)))) (fun _ _ _ _ _ => tnoT) (fun _ _ _ _ _ => (xcl g_law_times hr (by rfl) (xac (xv 12) (xac (xix (xv 4) (xv 13)) xa0)))))) xa0)))) snil)
      (sone (sapp 7 (xv 11))))))
      (sone (sfrz 7 (sset sc_law_below.nd (xv 7)))))))
      (sone (sret (xix (xv 4) (xv 1)))))))
abbrev s_law : Stmt := PySem.Challenge.pw_oddcrown_k81_marks_of_the_first_steps.main.body.getD 22 (.Pass ⟨0, 0, 0, 0⟩)
theorem sc_law : FnScope ["_law_script", "_law_draws_here", "_law_chain_here", "_law_place", "_law_steps", "_law_kept", "_law_due", "_law_before", "_law_mark", "_law_below_here", "_law_turn", "_law_told"] ["_law_script"] (defScope s_law) := ⟨rfl, rfl, rfl, by decide +kernel, rfl, by decide +kernel, by decide +kernel⟩
theorem ok_law {P : Program} {w : World} {K : PySem.W.Frag} {mg : Str → Option Value} {base : Heap} {f : Addr} {fd : FuncData} (F : Fun K "law" "law" s_law f fd) (m_repr : mg "repr" = none) (m_range : mg "range" = none) (m_int : mg "int" = none) (m_len : mg "len" = none) (g_law_is_numbers : Dn P w K mg base 3 "_law_is_numbers" ["_law_actual"] (spD K R_law_is_numbers)) (g_first_marks : Dk P w K mg base 4 "first_marks" ["chain", "place", "steps"] ["steps"] 2 1 (spN K R_first_marks)) (g_law_plus : Dn P w K mg base 3 "_law_plus" ["_law_a", "_law_b"] (spD K R_law_plus)) (g_law_below : Dn P w K mg base 5 "_law_below" ["_law_chain_here", "_law_place", "_law_mark", "_law_steps"] (spD K R_law_below)) (g_law_chain : Dn P w K mg base 3 "_law_chain" ["_law_draws_here", "_law_most"] (spD K R_law_chain)) (g_law_draws : Dn P w K mg base 1 "_law_draws" ["_law_script", "_law_count"] (spD K R_law_draws)) : RunG P w K mg base 6 f fd ["_law_script"] (spD K R_law) :=
  ok_defG (b := F_law) F sc_law _ (fun _ _ h => h) (fun cdv A outer s H E B hG hr =>
    (scons (sset sc_law.nd (xcl g_law_draws hr (by rfl) (xac (xv 0) (xac xint xa0))))
      (scons (sset sc_law.nd (xcl g_law_chain hr (by rfl) (xac (xv 1) (xac xint xa0))))
      (scons (sset sc_law.nd (xmod (xct call_int1 o_int (by rfl) m_int boot_int (xac (xix (xv 1) xint) xa0)) (xcb call_len_seq o_len (by rfl) m_len PySem.boot_len (xac (xv 2) xa0))))
      (scons (sset sc_law.nd (xix (xfz (xlst (xac (xmod (xct call_int1 o_int (by rfl) m_int boot_int (xac (xix (xv 1) xint) xa0)) xint) (xac (xmod (xct call_int1 o_int (by rfl) m_int boot_int (xac (xix (xv 1) xint) xa0)) xint) xa0)))) (xmod (xct call_int1 o_int (by rfl) m_int boot_int (xac (xix (xv 1) xint) xa0)) xint)))
      (scons (sset sc_law.nd (xcb (call_reprD hG (room65 hr)) o_repr (by rfl) m_repr (by decide +kernel) (xac (xv 2) xa0)))
      (scons (ssetN sc_law.nd (xlst xa0))
      (scons (sset sc_law.nd (xtup (xac xint (xac xint xa0))))
      (scons (sfor (p := (.nm 8)) rfl (irg1 (by rfl) m_range (xac xint xa0)) (gnm 8 sc_law.nd) (scons (sset sc_law.nd (xcl g_law_below hr (by rfl) (xac (xv 2) (xac (xv 3) (xac (xv 8) (xac (xv 4) xa0))))))
      (scons (sapp 6 (xcl g_law_plus hr (by rfl) (xac (xv 9) (xac (xtup (xac (xneg (xix (xv 7) xint)) (xac (xix (xv 7) xint) xa0))) xa0))))
      (sone (sset sc_law.nd (xv 9))))))
      (scons (sfor (p := (.nm 10)) rfl (irg1 (by rfl) m_range (xac xint xa0)) (gnm 10 sc_law.nd) (scons (ssetN sc_law.nd (xclkN g_first_marks hr (by rfl) (xac (xv 2) (xac (xv 3) xa0)) (xkc (xv 4) xk0)))
      (scons (sif (PW.pt (tor2 (tnot (ttru (xclB g_law_is_numbers hr (by rfl) (xac (xv 11) xa0)))) (tor1 (tcm (op_neD hr.units) o_ne (xv 11) (xv 6) (nomark _))))) (sone (sret xbl)) snil)
      (sone (sapp 11 (xtup (xac xint (xac xint xa0))))))))
      (sone (sret (xcm (op_eqD hr.units) o_eq (xcb (call_reprD hG (room65 hr)) o_repr (by rfl) m_repr (by decide +kernel) (xac (xv 2) xa0)) (xv 5) (nomark _))))))))))))))
end Od

set_option Elab.async false
set_option linter.all false
set_option maxRecDepth 100000
set_option autoImplicit false
set_option maxHeartbeats 4000000
namespace Od
open PySem PySem.Spec PyProof.Rows L2
theorem facts {P : Program} {w : World} {K : PySem.W.Frag} {mg : Str → Option Value} {fa : Addr} (hfa : mg "law" = some (.ref fa))
    (d_number : DefAt K mg "number" s_number)
    (d_plus : DefAt K mg "plus" s_plus)
    (d_times : DefAt K mg "times" s_times)
    (d_total : DefAt K mg "total" s_total)
    (d_first_marks : DefAt K mg "first_marks" s_first_marks)
    (d_law_draws : DefAt K mg "_law_draws" s_law_draws)
    (d_law_gcd : DefAt K mg "_law_gcd" s_law_gcd)
    (d_law_number : DefAt K mg "_law_number" s_law_number)
    (d_law_plus : DefAt K mg "_law_plus" s_law_plus)
    (d_law_times : DefAt K mg "_law_times" s_law_times)
    (d_law_total : DefAt K mg "_law_total" s_law_total)
    (d_law_is_number : DefAt K mg "_law_is_number" s_law_is_number)
    (d_law_is_numbers : DefAt K mg "_law_is_numbers" s_law_is_numbers)
    (d_law_chain : DefAt K mg "_law_chain" s_law_chain)
    (d_law_below : DefAt K mg "_law_below" s_law_below)
    (d_law : DefAt K mg "law" s_law)
    (c_NOUGHT : Cn K mg "NOUGHT" (.tuple [(.int 0), (.int 1)]))
    (c_MARKS : Cn K mg "MARKS" (.int 10))
    (c_ONE : Cn K mg "ONE" (.tuple [(.int 1), (.int 1)]))
    (m_range : mg "range" = none)
    (m_max : mg "max" = none)
    (m_len : mg "len" = none)
    (m_int : mg "int" = none)
    (m_abs : mg "abs" = none)
    (m_isinstance : mg "isinstance" = none)
    (m_bool : mg "bool" = none)
    (m_tuple : mg "tuple" = none)
    (m_all : mg "all" = none)
    (m_list : mg "list" = none)
    (m_sum : mg "sum" = none)
    (m_repr : mg "repr" = none)
    (f_gcd : mg "gcd" = some (.builtin "math.gcd"))
    : ∃ fd : FuncData, (∀ (s : Shared) (u : Value), BindsTo s fd ⟨[u], []⟩ [("_law_script", u)]) ∧ ∀ base : Heap, K.In base → base.Ns mainGlobals mg → RunG P w K mg base 6 fa fd ["_law_script"] (spD K R_law) := by
  obtain ⟨f0, fd0, F0, m0⟩ := d_number
  have b0 := F0.binds (ps := ["n", "d"]) fun _ _ _ _ _ _ us hl => match us, hl with | [_, _], _ => rfl
  obtain ⟨f1, fd1, F1, m1⟩ := d_plus
  have b1 := F1.binds (ps := ["a", "b"]) fun _ _ _ _ _ _ us hl => match us, hl with | [_, _], _ => rfl
  obtain ⟨f2, fd2, F2, m2⟩ := d_times
  have b2 := F2.binds (ps := ["a", "b"]) fun _ _ _ _ _ _ us hl => match us, hl with | [_, _], _ => rfl
  obtain ⟨f3, fd3, F3, m3⟩ := d_total
  have b3 := F3.binds (ps := ["numbers"]) fun _ _ _ _ _ _ us hl => match us, hl with | [_], _ => rfl
  obtain ⟨f4, fd4, F4, m4⟩ := d_first_marks
  have b4 : KBinds K fd4 ["chain", "place", "steps"] ["steps"] (gK 2 1) (gK 2 1) := by
    obtain ⟨_, _, _, _, _, _, _, _, _, rfl, _, _⟩ := F4.ex
    exact kbinds (by decide) rfl fun us ws h1 h2 => match us, h1, ws, h2 with | [_, _], _, [_], _ => rfl
  obtain ⟨f5, fd5, F5, m5⟩ := d_law_draws
  have b5 := F5.binds (ps := ["_law_script", "_law_count"]) fun _ _ _ _ _ _ us hl => match us, hl with | [_, _], _ => rfl
  obtain ⟨f6, fd6, F6, m6⟩ := d_law_gcd
  have b6 := F6.binds (ps := ["_law_a", "_law_b"]) fun _ _ _ _ _ _ us hl => match us, hl with | [_, _], _ => rfl
  obtain ⟨f7, fd7, F7, m7⟩ := d_law_number
  have b7 := F7.binds (ps := ["_law_n", "_law_d"]) fun _ _ _ _ _ _ us hl => match us, hl with | [_, _], _ => rfl
  obtain ⟨f8, fd8, F8, m8⟩ := d_law_plus
  have b8 := F8.binds (ps := ["_law_a", "_law_b"]) fun _ _ _ _ _ _ us hl => match us, hl with | [_, _], _ => rfl
  obtain ⟨f9, fd9, F9, m9⟩ := d_law_times
  have b9 := F9.binds (ps := ["_law_a", "_law_b"]) fun _ _ _ _ _ _ us hl => match us, hl with | [_, _], _ => rfl
  obtain ⟨f10, fd10, F10, m10⟩ := d_law_total
  have b10 := F10.binds (ps := ["_law_numbers"]) fun _ _ _ _ _ _ us hl => match us, hl with | [_], _ => rfl
  obtain ⟨f11, fd11, F11, m11⟩ := d_law_is_number
  have b11 := F11.binds (ps := ["_law_actual"]) fun _ _ _ _ _ _ us hl => match us, hl with | [_], _ => rfl
  obtain ⟨f12, fd12, F12, m12⟩ := d_law_is_numbers
  have b12 := F12.binds (ps := ["_law_actual"]) fun _ _ _ _ _ _ us hl => match us, hl with | [_], _ => rfl
  obtain ⟨f13, fd13, F13, m13⟩ := d_law_chain
  have b13 := F13.binds (ps := ["_law_draws_here", "_law_most"]) fun _ _ _ _ _ _ us hl => match us, hl with | [_, _], _ => rfl
  obtain ⟨f14, fd14, F14, m14⟩ := d_law_below
  have b14 := F14.binds (ps := ["_law_chain_here", "_law_place", "_law_mark", "_law_steps"]) fun _ _ _ _ _ _ us hl => match us, hl with | [_, _, _, _], _ => rfl
  obtain ⟨f15, fd15, F15, m15⟩ := d_law
  have e := hfa.symm.trans m15
  have e2 := Value.ref.inj (Option.some.inj e)
  subst e2
  refine ⟨fd15, fun s u => ?_, fun base _ _ => ?_⟩
  · obtain ⟨_, _, _, _, _, _, _, _, _, rfl, _, _⟩ := F15.ex
    exact .of_eq rfl
  · have g_number : Dn P w K mg base 1 "number" ["n", "d"] (spD K R_number) := ⟨f0, fd0, ok_number F0 f_gcd, m0, F0.kp, b0⟩
    have g_plus : Dn P w K mg base 2 "plus" ["a", "b"] (spD K R_plus) := ⟨f1, fd1, ok_plus F1 g_number, m1, F1.kp, b1⟩
    have g_times : Dn P w K mg base 2 "times" ["a", "b"] (spD K R_times) := ⟨f2, fd2, ok_times F2 g_number, m2, F2.kp, b2⟩
    have g_total : Dn P w K mg base 3 "total" ["numbers"] (spD K R_total) := ⟨f3, fd3, ok_total F3 c_NOUGHT g_plus, m3, F3.kp, b3⟩
    have g_first_marks : Dk P w K mg base 4 "first_marks" ["chain", "place", "steps"] ["steps"] 2 1 (spN K R_first_marks) := ⟨f4, fd4, ok_first_marks F4 c_MARKS c_NOUGHT c_ONE m_range m_max g_total g_plus g_times, m4, F4.kp, b4⟩
    have g_law_draws : Dn P w K mg base 1 "_law_draws" ["_law_script", "_law_count"] (spD K R_law_draws) := ⟨f5, fd5, ok_law_draws F5 m_range m_len m_int, m5, F5.kp, b5⟩
    have g_law_gcd : Dn P w K mg base 1 "_law_gcd" ["_law_a", "_law_b"] (spD K R_law_gcd) := ⟨f6, fd6, ok_law_gcd F6 m_range m_int m_abs, m6, F6.kp, b6⟩
    have g_law_number : Dn P w K mg base 2 "_law_number" ["_law_n", "_law_d"] (spD K R_law_number) := ⟨f7, fd7, ok_law_number F7 g_law_gcd, m7, F7.kp, b7⟩
    have g_law_plus : Dn P w K mg base 3 "_law_plus" ["_law_a", "_law_b"] (spD K R_law_plus) := ⟨f8, fd8, ok_law_plus F8 g_law_number, m8, F8.kp, b8⟩
    have g_law_times : Dn P w K mg base 3 "_law_times" ["_law_a", "_law_b"] (spD K R_law_times) := ⟨f9, fd9, ok_law_times F9 g_law_number, m9, F9.kp, b9⟩
    have g_law_total : Dn P w K mg base 4 "_law_total" ["_law_numbers"] (spD K R_law_total) := ⟨f10, fd10, ok_law_total F10 g_law_plus, m10, F10.kp, b10⟩
    have g_law_is_number : Dn P w K mg base 2 "_law_is_number" ["_law_actual"] (spD K R_law_is_number) := ⟨f11, fd11, ok_law_is_number F11 m_isinstance m_bool m_int m_len m_tuple g_law_gcd, m11, F11.kp, b11⟩
    have g_law_is_numbers : Dn P w K mg base 3 "_law_is_numbers" ["_law_actual"] (spD K R_law_is_numbers) := ⟨f12, fd12, ok_law_is_numbers F12 m_all m_isinstance m_list g_law_is_number, m12, F12.kp, b12⟩
    have g_law_chain : Dn P w K mg base 3 "_law_chain" ["_law_draws_here", "_law_most"] (spD K R_law_chain) := ⟨f13, fd13, ok_law_chain F13 m_range m_int m_sum g_law_number, m13, F13.kp, b13⟩
    have g_law_below : Dn P w K mg base 5 "_law_below" ["_law_chain_here", "_law_place", "_law_mark", "_law_steps"] (spD K R_law_below) := ⟨f14, fd14, ok_law_below F14 m_range m_len m_int g_law_total g_law_times, m14, F14.kp, b14⟩
    exact ok_law F15 m_repr m_range m_int m_len g_law_is_numbers g_first_marks g_law_plus g_law_below g_law_chain g_law_draws
end Od
open PySem PySem.W PyProof.Rows
set_option maxHeartbeats 0 in
theorem PySem.Challenge.cw_oddcrown_k81_marks_of_the_first_steps_holds : PySem.Challenge.rw_oddcrown_k81_marks_of_the_first_steps.Holds := by
  w_on; o_law; k_head; (case hw => w_witness2)
  k_fill
  refine Od.law_end (l := PySem.Challenge.rw_oddcrown_k81_marks_of_the_first_steps) (n := 63) (k := 6) (pn := "_law_script") (M := Od.R_law) rfl (by decide) rfl ⟨rfl, by decide, by decide⟩ (fun w h Y => PySem.W.kIn_of Y) ?F Od.law_true
  case F =>
    intro w mg fa h KX G hmg
    refine' Od.facts hmg ?d_number ?d_plus ?d_times ?d_total ?d_first_marks ?d_law_draws ?d_law_gcd ?d_law_number ?d_law_plus ?d_law_times ?d_law_total ?d_law_is_number ?d_law_is_numbers ?d_law_chain ?d_law_below ?d_law ?c_NOUGHT ?c_MARKS ?c_ONE ?m_range ?m_max ?m_len ?m_int ?m_abs ?m_isinstance ?m_bool ?m_tuple ?m_all ?m_list ?m_sum ?m_repr ?f_gcd
    (case d_number => (refine' Od.def_at KX G ?a ?l ?c ?k; (case a => k_is); (case l => k_is); (case c => k_is); (case k => k_is)))
    (case d_plus => (refine' Od.def_at KX G ?a ?l ?c ?k; (case a => k_is); (case l => k_is); (case c => k_is); (case k => k_is)))
    (case d_times => (refine' Od.def_at KX G ?a ?l ?c ?k; (case a => k_is); (case l => k_is); (case c => k_is); (case k => k_is)))
    (case d_total => (refine' Od.def_at KX G ?a ?l ?c ?k; (case a => k_is); (case l => k_is); (case c => k_is); (case k => k_is)))
    (case d_first_marks => (refine' Od.def_at KX G ?a ?l ?c ?k; (case a => k_is); (case l => k_is); (case c => k_is); (case k => k_is)))
    (case d_law_draws => (refine' Od.def_at KX G ?a ?l ?c ?k; (case a => k_is); (case l => k_is); (case c => k_is); (case k => k_is)))
    (case d_law_gcd => (refine' Od.def_at KX G ?a ?l ?c ?k; (case a => k_is); (case l => k_is); (case c => k_is); (case k => k_is)))
    (case d_law_number => (refine' Od.def_at KX G ?a ?l ?c ?k; (case a => k_is); (case l => k_is); (case c => k_is); (case k => k_is)))
    (case d_law_plus => (refine' Od.def_at KX G ?a ?l ?c ?k; (case a => k_is); (case l => k_is); (case c => k_is); (case k => k_is)))
    (case d_law_times => (refine' Od.def_at KX G ?a ?l ?c ?k; (case a => k_is); (case l => k_is); (case c => k_is); (case k => k_is)))
    (case d_law_total => (refine' Od.def_at KX G ?a ?l ?c ?k; (case a => k_is); (case l => k_is); (case c => k_is); (case k => k_is)))
    (case d_law_is_number => (refine' Od.def_at KX G ?a ?l ?c ?k; (case a => k_is); (case l => k_is); (case c => k_is); (case k => k_is)))
    (case d_law_is_numbers => (refine' Od.def_at KX G ?a ?l ?c ?k; (case a => k_is); (case l => k_is); (case c => k_is); (case k => k_is)))
    (case d_law_chain => (refine' Od.def_at KX G ?a ?l ?c ?k; (case a => k_is); (case l => k_is); (case c => k_is); (case k => k_is)))
    (case d_law_below => (refine' Od.def_at KX G ?a ?l ?c ?k; (case a => k_is); (case l => k_is); (case c => k_is); (case k => k_is)))
    (case d_law => (refine' Od.def_at KX G ?a ?l ?c ?k; (case a => k_is); (case l => k_is); (case c => k_is); (case k => k_is)))
    (case c_NOUGHT => (refine' Od.cn_tup (x := "NOUGHT") KX G ?a ?l ?p ?z; (case a => k_is); (case l => k_is); (case p => rfl); (case z => decide)))
    (case c_MARKS => (refine' Od.cn_int (x := "MARKS") KX G ?a; (case a => k_is)))
    (case c_ONE => (refine' Od.cn_tup (x := "ONE") KX G ?a ?l ?p ?z; (case a => k_is); (case l => k_is); (case p => rfl); (case z => decide)))
    (case m_range => (refine PySem.W.mg_none_of KX G ?_; k_is))
    (case m_max => (refine PySem.W.mg_none_of KX G ?_; k_is))
    (case m_len => (refine PySem.W.mg_none_of KX G ?_; k_is))
    (case m_int => (refine PySem.W.mg_none_of KX G ?_; k_is))
    (case m_abs => (refine PySem.W.mg_none_of KX G ?_; k_is))
    (case m_isinstance => (refine PySem.W.mg_none_of KX G ?_; k_is))
    (case m_bool => (refine PySem.W.mg_none_of KX G ?_; k_is))
    (case m_tuple => (refine PySem.W.mg_none_of KX G ?_; k_is))
    (case m_all => (refine PySem.W.mg_none_of KX G ?_; k_is))
    (case m_list => (refine PySem.W.mg_none_of KX G ?_; k_is))
    (case m_sum => (refine PySem.W.mg_none_of KX G ?_; k_is))
    (case m_repr => (refine PySem.W.mg_none_of KX G ?_; k_is))
    (case f_gcd => (refine PySem.W.mg_of KX G ?_; k_is))

