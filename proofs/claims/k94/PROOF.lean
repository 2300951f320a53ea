import PyProof.Rows.All
import Wide.All
import OpenK.AllK
import Wide.FinOn
import HandS.ForMost
import HandS.ForExc
import HandS.Wide
import HandS.Style
import HandS.Conv
import HandS.Defaults
import HandS.HeadHook1
import HandS.Lambda
import HandS.HeadHook4
import HandS.IsInst
import HandS.TupAny
import HandS.TupLen
import HandS.Deep
import HandS.Sort
import HandS.SortRule
import KE.KDictOf
import KE.KDictCopyH
import KE.KDictKeyed
import KE.KDictDisplayH
import HandS.DictComp
import KE.KExcSuper
import KE.KSuper
import HandS.HeadWalk
import HandS.HeadHook2
import HandS.ExcField
import HandS.CallLocal
import HandS.TupSets
import KE.KStateDown
import HandS.Head0
import HandS.Head1
import HandS.Head2
import HandS.HeadEnd
import PySem.Challenge.RW_evergreedy_k94_whole_counts_by_belts_and
set_option Elab.async false
set_option linter.all false
set_option maxRecDepth 100000
set_option maxHeartbeats 0
set_option autoImplicit false
/-! A layer of plain data over the hand layer: values as trees (D), a frozen part F of the heap, slots that hold data or own a container. -/
namespace Dl
open PySem PySem.Spec PyProof.Rows L2

/-- plain data -/
inductive D where
  | non | bl (b : Bool) | int (i : Int) | str (x : Str) | fn (a : String) | ty (n : String)
  | tup (xs : List D) | lst (xs : List D) | seq (xs : List D) | dK (kvs : List (Key × D)) | dT (kvs : List (List Key × D))

def kD : Key → D
  | .inl i => .int i
  | .inr x => .str x

mutual
/-- the value v stands for the data d, all of it in the part F -/
def Rep (K : PySem.W.Frag) (F : Hp) : D → V → Prop
  | .non, v => v = .non
  | .bl b, v => v = .bl b
  | .int i, v => v = .int i
  | .str x, v => v = .str x
  | .fn a, v => v = .ref (He.ga K (PySem.Str.ofString a))
  | .ty n, v => v = .ty n
  | .tup ds, v => ∃ a vs, v = .ref a ∧ F a = some (.tup vs) ∧ Reps K F ds vs
  | .lst ds, v => ∃ a vs, v = .ref a ∧ F a = some (.lst vs) ∧ Reps K F ds vs
  | .seq ds, v => ∃ a vs, v = .ref a ∧ SqL K F a vs ∧ Reps K F ds vs
  | .dK kvs, v => ∃ a ks, v = .ref a ∧ Rd F a (.dK ks) ∧ RepK K F kvs ks
  | .dT kvs, v => ∃ a ks, v = .ref a ∧ Rd F a (.dT ks) ∧ RepT K F kvs ks
def Reps (K : PySem.W.Frag) (F : Hp) : List D → List V → Prop
  | [], vs => vs = []
  | d :: ds, vs => ∃ v r, vs = v :: r ∧ Rep K F d v ∧ Reps K F ds r
def RepK (K : PySem.W.Frag) (F : Hp) : List (Key × D) → List (Key × V) → Prop
  | [], ks => ks = []
  | (k, d) :: r, ks => ∃ v t, ks = (k, v) :: t ∧ Rep K F d v ∧ RepK K F r t
def RepT (K : PySem.W.Frag) (F : Hp) : List (List Key × D) → List (List Key × V) → Prop
  | [], ks => ks = []
  | (k, d) :: r, ks => ∃ v t, ks = (k, v) :: t ∧ Rep K F d v ∧ RepT K F r t
end

/-- what may be read in the one may be read in the other -/
structure RdE (F F' : Hp) : Prop where
  rl : ∀ b u, Rd F b (.lst u) → Rd F' b (.lst u)
  rk : ∀ b u, Rd F b (.dK u) → Rd F' b (.dK u)
  rt : ∀ b u, Rd F b (.dT u) → Rd F' b (.dT u)
  ls : ∀ b xs, F b = some (.lst xs) → F' b = some (.lst xs)
  tp : ∀ b xs, F b = some (.tup xs) → F' b = some (.tup xs)
theorem Rd.same {F F' : Hp} (h : Same F F') {b : Addr} {u : HO} (r : Rd F b u) : Rd F' b u := by
  rcases r with r | ⟨o, r⟩
  · exact .inl (h _ _ r)
  · exact .inr ⟨o, h _ _ r⟩
theorem RdE.of {F F' : Hp} (h : Same F F') : RdE F F' := ⟨fun b u r => Rd.same h r, fun b u r => Rd.same h r, fun b u r => Rd.same h r, fun b xs e => h _ _ e, fun b xs e => h _ _ e⟩
theorem RdE.trans {F F' F'' : Hp} (h : RdE F F') (g : RdE F' F'') : RdE F F'' := ⟨fun b u r => g.rl b u (h.rl b u r), fun b u r => g.rk b u (h.rk b u r), fun b u r => g.rt b u (h.rt b u r), fun b u r => g.ls b u (h.ls b u r), fun b u r => g.tp b u (h.tp b u r)⟩
theorem RdE.sqL {K : PySem.W.Frag} {F F' : Hp} {a : Addr} {xs : List V} (h : RdE F F') (r : SqL K F a xs) : SqL K F' a xs := by
  rcases r with r | r
  · exact .inl (h.rl _ _ r)
  · exact .inr r

mutual
theorem Rep.mono {K : PySem.W.Frag} {F F' : Hp} (h : RdE F F') : ∀ {d : D} {v : V}, Rep K F d v → Rep K F' d v
  | .non, _, r => r
  | .bl _, _, r => r
  | .int _, _, r => r
  | .str _, _, r => r
  | .fn _, _, r => r
  | .ty _, _, r => r
  | .tup ds, _, r => by
    obtain ⟨a, vs, e, q, z⟩ := r
    exact ⟨a, vs, e, h.tp _ _ q, Reps.mono h z⟩
  | .lst ds, _, r => by
    obtain ⟨a, vs, e, q, z⟩ := r
    exact ⟨a, vs, e, h.ls _ _ q, Reps.mono h z⟩
  | .seq ds, _, r => by
    obtain ⟨a, vs, e, q, z⟩ := r
    exact ⟨a, vs, e, h.sqL q, Reps.mono h z⟩
  | .dK kvs, _, r => by
    obtain ⟨a, ks, e, q, z⟩ := r
    exact ⟨a, ks, e, h.rk _ _ q, RepK.mono h z⟩
  | .dT kvs, _, r => by
    obtain ⟨a, ks, e, q, z⟩ := r
    exact ⟨a, ks, e, h.rt _ _ q, RepT.mono h z⟩
theorem Reps.mono {K : PySem.W.Frag} {F F' : Hp} (h : RdE F F') : ∀ {ds : List D} {vs : List V}, Reps K F ds vs → Reps K F' ds vs
  | [], _, r => r
  | d :: ds, _, r => by
    obtain ⟨v, t, e, q, z⟩ := r
    exact ⟨v, t, e, Rep.mono h q, Reps.mono h z⟩
theorem RepK.mono {K : PySem.W.Frag} {F F' : Hp} (h : RdE F F') : ∀ {ds : List (Key × D)} {vs : List (Key × V)}, RepK K F ds vs → RepK K F' ds vs
  | [], _, r => r
  | (k, d) :: ds, _, r => by
    obtain ⟨v, t, e, q, z⟩ := r
    exact ⟨v, t, e, Rep.mono h q, RepK.mono h z⟩
theorem RepT.mono {K : PySem.W.Frag} {F F' : Hp} (h : RdE F F') : ∀ {ds : List (List Key × D)} {vs : List (List Key × V)}, RepT K F ds vs → RepT K F' ds vs
  | [], _, r => r
  | (k, d) :: ds, _, r => by
    obtain ⟨v, t, e, q, z⟩ := r
    exact ⟨v, t, e, Rep.mono h q, RepT.mono h z⟩
end

/-- lists and dicts -/
def IsC (o : HO) : Prop := (∃ xs, o = .lst xs) ∨ (∃ k, o = .dK k) ∨ ∃ k, o = .dT k
theorem IsC.lst {xs : List V} : IsC (.lst xs) := .inl ⟨xs, rfl⟩
theorem IsC.dK {k : List (Key × V)} : IsC (.dK k) := .inr (.inl ⟨k, rfl⟩)
theorem IsC.dT {k : List (List Key × V)} : IsC (.dT k) := .inr (.inr ⟨k, rfl⟩)
theorem IsC.tup {o : HO} (h : IsC o) : ∀ xs, o ≠ .tup xs := by
  rcases h with ⟨k, rfl⟩ | ⟨k, rfl⟩ | ⟨k, rfl⟩ <;> exact fun _ z => nomatch z
theorem IsC.tbl {o : HO} (h : IsC o) : ∀ ps, o ≠ .tbl ps := by
  rcases h with ⟨k, rfl⟩ | ⟨k, rfl⟩ | ⟨k, rfl⟩ <;> exact fun _ z => nomatch z
theorem IsC.code {o : HO} (h : IsC o) {c : Addr} {q : Str} : LamX.CodeO c q ≠ o := by
  unfold LamX.CodeO
  rcases h with ⟨k, rfl⟩ | ⟨k, rfl⟩ | ⟨k, rfl⟩ <;> exact fun z => nomatch z
/-- the law's own table of code objects, where the written part leaves it out -/
def TK (K : PySem.W.Frag) : List (Addr × Str) := if (K.lookup (He.tabOf K (He.codeOf K ("law", none)))).isNone = true then [(He.tabOf K (He.codeOf K ("law", none)), PySem.Str.ofString "law.<locals>.<lambda>")] else []
/-- all stays but tables of code objects, which grow -/
structure SameT (K : PySem.W.Frag) (H H' : Hp) : Prop where
  kp : ∀ a o, H a = some o → H' a = some o ∨ ∃ ps ps', o = .tbl ps ∧ H' a = some (.tbl ps')
  tb : LamX.Tabs (TK K) H → LamX.Tabs (TK K) H'
section
variable {K : PySem.W.Frag}
theorem SameT.of {H H' : Hp} (h : Same H H') : SameT K H H' := ⟨fun a o e => .inl (h _ _ e), fun t => t.ext h⟩
theorem SameT.keep {H H' : Hp} (h : SameT K H H') {a : Addr} {o : HO} (e : H a = some o) (n : ∀ ps, o ≠ .tbl ps) : H' a = some o := by
  rcases h.kp _ _ e with e | ⟨ps, _, rfl, _⟩
  · exact e
  · exact absurd rfl (n ps)
theorem SameT.free {H H' : Hp} (h : SameT K H H') {a : Addr} (e : H' a = none) : H a = none := by
  cases q : H a with
  | none => rfl
  | some o =>
    rcases h.kp _ _ q with z | ⟨_, _, _, z⟩ <;> rw [e] at z <;> cases z
theorem SameT.trans {H H' H'' : Hp} (h : SameT K H H') (g : SameT K H' H'') : SameT K H H'' := ⟨fun a o e => by
  rcases h.kp _ _ e with e1 | ⟨ps, ps', rfl, e1⟩
  · exact g.kp _ _ e1
  · rcases g.kp _ _ e1 with e2 | ⟨p1, p2, e2, e3⟩
    · exact .inr ⟨ps, ps', rfl, e2⟩
    · exact .inr ⟨ps, p2, rfl, e3⟩, fun t => g.tb (h.tb t)⟩
/-- what is changed at a list's or a dict's place -/
theorem tabS_but {H H' : Hp} {a : Addr} (k : ∀ b, b ≠ a → H' b = H b) (ha : ∀ o, H a = some o → IsC o) {P : Addr} {q : Str} (t : LamX.TabS H P q) : LamX.TabS H' P q := by
  obtain ⟨ps, e1, e2, e3⟩ := t
  have hP : P ≠ a := by rintro rfl; exact (ha _ e1).tbl ps rfl
  refine ⟨ps, by rw [k _ hP]; exact e1, e2, fun pos cv h => ?_⟩
  obtain ⟨c, r1, r2⟩ := e3 pos cv h
  have hc : c ≠ a := by rintro rfl; exact (ha _ r2).code rfl
  exact ⟨c, r1, by rw [k _ hc]; exact r2⟩
theorem tabs_but {T : List (Addr × Str)} {H H' : Hp} {a : Addr} (k : ∀ b, b ≠ a → H' b = H b) (ha : ∀ o, H a = some o → IsC o) (t : LamX.Tabs T H) : LamX.Tabs T H' := fun p hp => tabS_but k ha (t p hp)
theorem tabs_upd {T : List (Addr × Str)} {H : Hp} {a : Addr} {o : HO} (t : LamX.Tabs T H) (h : H a = none) : LamX.Tabs T (upd H a o) := fun p hp => (t p hp).ext fun b u e => by rw [upd_ne (ne_of_none e h)]; exact e
theorem SameT.chg {H0 H : Hp} {a : Addr} {o' : HO} (h : SameT K H0 H) (h0 : H0 a = none) (ha : ∀ o, H a = some o → IsC o) : SameT K H0 (upd H a o') := ⟨fun b u q => by
  have hb : b ≠ a := by rintro rfl; rw [h0] at q; cases q
  rw [upd_ne hb]
  exact h.kp _ _ q, fun t => tabs_but (fun b hb => upd_ne hb) ha (h.tb t)⟩
theorem SameT.base {H0 H : Hp} {a : Addr} {o : HO} (h : SameT K (upd H0 a o) H) (h0 : H0 a = none) : SameT K H0 H := by
  have k : Same H0 (L2.upd H0 a o) := fun b u q => by rw [upd_ne (ne_of_none q h0)]; exact q
  exact (SameT.of k).trans h
theorem tabs_back {T : List (Addr × Str)} {H0 : Hp} {a : Addr} {o : HO} (c : IsC o) (t : LamX.Tabs T (L2.upd H0 a o)) : LamX.Tabs T H0 := fun p hp => tabS_but (fun b hb => (upd_ne hb).symm) (fun o2 e2 => by rw [upd_same] at e2; cases e2; exact c) (t p hp)
theorem SameT.aside {H0 H : Hp} {a : Addr} {o : HO} (h : SameT K H0 H) (ha : H a = some o) (c : IsC o) : SameT K (L2.upd H0 a o) H := ⟨fun b u q => by
  by_cases hb : b = a
  · subst hb; rw [upd_same] at q; cases q; exact .inl ha
  · rw [upd_ne hb] at q; exact h.kp _ _ q, fun t => h.tb (tabs_back c t)⟩
end
/-- the law's table stands, not frozen -/
def TOk (K : PySem.W.Frag) (F H : Hp) : Prop := LamX.Tabs (TK K) H ∧ ∀ p ∈ TK K, F p.1 = none
/-- both grow: the frozen part and the heap; nothing that stood unfrozen is frozen, but tuples -/
structure Ext (K : PySem.W.Frag) (F H F' H' : Hp) : Prop where
  ff : Same F F'
  hh : SameT K H H'
  fh : Same F' H'
  new : ∀ a o, F a = none → H a = some o → (∀ xs, o ≠ .tup xs) → F' a = none
theorem Ext.refl {K : PySem.W.Frag} {F H : Hp} (h : Same F H) : Ext K F H F H := ⟨Same.refl F, .of (Same.refl H), h, fun _ _ e _ _ => e⟩
theorem Ext.trans {K : PySem.W.Frag} {F H F1 H1 F2 H2 : Hp} (a : Ext K F H F1 H1) (b : Ext K F1 H1 F2 H2) : Ext K F H F2 H2 :=
  ⟨a.ff.trans b.ff, a.hh.trans b.hh, b.fh, fun c o e q n => by
    rcases a.hh.kp _ _ q with z | ⟨_, ps', _, z⟩
    · exact b.new c o (a.new c o e q n) z n
    · exact b.new c _ (a.new c o e q n) z fun _ y => nomatch y⟩
/-- a new object is laid and frozen -/
theorem Ext.laid {K : PySem.W.Frag} {F H : Hp} {p : Addr} {o : HO} (h : Same F H) (hp : H p = none) : Ext K F H (upd F p o) (upd H p o) := by
  have fp : F p = none := h.free hp
  refine ⟨fun b u e => ?_, .of fun b u e => ?_, fun b u e => ?_, fun a u e q n => ?_⟩
  · rw [upd_ne (ne_of_none e fp)]; exact e
  · rw [upd_ne (ne_of_none e hp)]; exact e
  · by_cases hb : b = p
    · subst hb; rw [upd_same] at e; rw [upd_same]; exact e
    · rw [upd_ne hb] at e; rw [upd_ne hb]; exact h _ _ e
  · have : a ≠ p := by rintro rfl; rw [hp] at q; cases q
    rw [upd_ne this]; exact e
/-- a new object is laid, not frozen -/
theorem Ext.put {K : PySem.W.Frag} {F H : Hp} {p : Addr} {o : HO} (h : Same F H) (hp : H p = none) : Ext K F H F (upd H p o) :=
  ⟨Same.refl F, .of fun b u e => by rw [upd_ne (ne_of_none e hp)]; exact e, fun b u e => by rw [upd_ne (ne_of_none (h _ _ e) hp)]; exact h _ _ e, fun _ _ e _ _ => e⟩

/-! ### slots -/
/-- what is known of a name: nothing, frozen data, a container that nothing else knows of (it may be told where it stands) -/
inductive SL where
  | no | sh (d : D) | ow (t : Option Addr) (d : D)
abbrev Env := List SL

/-- the container at a stands for d, its items frozen -/
def Own (K : PySem.W.Frag) (F H : Hp) (a : Addr) : D → Prop
  | .lst ds => ∃ vs, H a = some (.lst vs) ∧ Reps K F ds vs
  | .dK kvs => ∃ ks, H a = some (.dK ks) ∧ RepK K F kvs ks
  | .dT kvs => ∃ ks, H a = some (.dT ks) ∧ RepT K F kvs ks
  | _ => False
theorem Own.isC {K : PySem.W.Frag} {F H : Hp} {a : Addr} : ∀ {d : D}, Own K F H a d → ∃ o, H a = some o ∧ IsC o
  | .lst _, ⟨_, e, _⟩ => ⟨_, e, .lst⟩
  | .dK _, ⟨_, e, _⟩ => ⟨_, e, .dK⟩
  | .dT _, ⟨_, e, _⟩ => ⟨_, e, .dT⟩
theorem Own.some' {K : PySem.W.Frag} {F H : Hp} {a : Addr} {d : D} (h : Own K F H a d) : ∃ o, H a = some o ∧ ∀ xs, o ≠ .tup xs := by
  obtain ⟨o, e, c⟩ := h.isC
  exact ⟨o, e, c.tup⟩
theorem Own.mono {K : PySem.W.Frag} {F F' H H' : Hp} {a : Addr} (h : RdE F F') (k : ∀ o, IsC o → H a = some o → H' a = some o) : ∀ {d : D}, Own K F H a d → Own K F' H' a d
  | .lst _, ⟨_, e, r⟩ => ⟨_, k _ .lst e, Reps.mono h r⟩
  | .dK _, ⟨_, e, r⟩ => ⟨_, k _ .dK e, RepK.mono h r⟩
  | .dT _, ⟨_, e, r⟩ => ⟨_, k _ .dT e, RepT.mono h r⟩

def SlotR (K : PySem.W.Frag) (H0 F H : Hp) (v : Option V) : SL → Prop
  | .no => True
  | .sh d => ∃ x, v = some x ∧ Rep K F d x
  | .ow t d => ∃ a, v = some (.ref a) ∧ F a = none ∧ H0 a = none ∧ Own K F H a d ∧ ∀ b, t = some b → a = b

/-- the state of a frame: F0, H0 at its entry -/
structure Rel (K : PySem.W.Frag) (F0 H0 : Hp) (ρ : Env) (F : Hp) (σ : L2.St) (H : Hp) : Prop where
  ext : Ext K F0 H0 F H
  len : σ.length = ρ.length
  sl : ∀ (i : Nat) (s : SL) (v : Option V), ρ[i]? = some s → σ[i]? = some v → SlotR K H0 F H v s
  ap : ∀ (i j : Nat) (t u : Option Addr) (d e : D) (a : Addr), ρ[i]? = some (SL.ow t d) → ρ[j]? = some (SL.ow u e) → σ[i]? = some (some (V.ref a)) → σ[j]? = some (some (V.ref a)) → i = j
  tt : TOk K F0 H0
section
variable {K : PySem.W.Frag} {F0 H0 F H F' H' : Hp} {ρ : Env} {σ : L2.St}
theorem SlotR.ext {v : Option V} (h : Ext K F H F' H') : ∀ {s : SL}, SlotR K H0 F H v s → SlotR K H0 F' H' v s
  | .no, _ => trivial
  | .sh _, ⟨x, e, r⟩ => ⟨x, e, Rep.mono (.of h.ff) r⟩
  | .ow _ _, ⟨a, e, f, n, r, t⟩ => by
    obtain ⟨o, q, nt⟩ := r.some'
    exact ⟨a, e, h.new a o f q nt, n, Own.mono (.of h.ff) (fun o c e => h.hh.keep e c.tbl) r, t⟩
theorem Rel.grow (r : Rel K F0 H0 ρ F σ H) (h : Ext K F H F' H') : Rel K F0 H0 ρ F' σ H' :=
  ⟨r.ext.trans h, r.len, fun i s v e q => (r.sl i s v e q).ext h, r.ap, r.tt⟩
theorem Rel.fh (r : Rel K F0 H0 ρ F σ H) : Same F H := r.ext.fh
theorem Rel.tabs (r : Rel K F0 H0 ρ F σ H) : TOk K F H := ⟨r.ext.hh.tb r.tt.1, fun p hp => by
  obtain ⟨ps, e, _⟩ := r.tt.1 p hp
  exact r.ext.new _ _ (r.tt.2 p hp) e fun _ z => nomatch z⟩
end
end Dl
/-! What an expression makes of the slots' data, as a function; the rules for pure operations. -/
namespace Dl
open PySem PySem.Spec PyProof.Rows L2

/-! ### readings may be strengthened -/
section
variable {X : Cx}
theorem PE.imp {e : Expr} {t t' : TE} (h : PE X e t) (i : ∀ σ H Q, t' σ H Q → t σ H Q) : PE X e t' := ⟨fun pins s σ H Q I q => h.run pins s σ H Q I (i _ _ _ q)⟩
theorem PT.imp {e : Expr} {t t' : TT} (h : PT X e t) (i : ∀ σ H Q, t' σ H Q → t σ H Q) : PT X e t' := ⟨fun pins s σ H Q I q => h.run pins s σ H Q I (i _ _ _ q)⟩
theorem PW.imp {e : Expr} {t t' : TT} (h : PW X e t) (i : ∀ σ H Q, t' σ H Q → t σ H Q) : PW X e t' := ⟨fun w pins s σ H Q I q => h.run w pins s σ H Q I (i _ _ _ q)⟩
theorem PA.imp {es : List Expr} {t t' : TA} (h : PA X es t) (i : ∀ σ H Q, t' σ H Q → t σ H Q) : PA X es t' := ⟨fun pos pins s σ H Q I q => h.run pos pins s σ H Q I (i _ _ _ q)⟩
theorem PS.imp {st : Stmt} {t t' : TS} (h : PS X st t) (i : ∀ D σ H, t' D σ H → t D σ H) : PS X st t' := ⟨fun pins s σ H D I q => h.run pins s σ H D I (i _ _ _ q)⟩
theorem PSs.imp {st : List Stmt} {t t' : TS} (h : PSs X st t) (i : ∀ D σ H, t' D σ H → t D σ H) : PSs X st t' := ⟨fun pins s σ H D I q => h.run pins s σ H D I (i _ _ _ q)⟩
end

/-! ### results -/
inductive Rs (α : Type) where
  | ok (a : α) (ρ : Env)
  | ex (c : String) (d : D)
abbrev M (α : Type) := Env → Option (Rs α)
def ret {α : Type} (a : α) : M α := fun ρ => some (.ok a ρ)
def bnd {α β : Type} (m : M α) (k : α → M β) : M β := fun ρ => match m ρ with
  | none => none
  | some (.ex c d) => some (.ex c d)
  | some (.ok a ρ') => k a ρ'
/-- a partial function -/
def opt {α : Type} (o : Option α) : M α := fun ρ => match o with
  | none => none
  | some a => some (.ok a ρ)
/-- a check -/
def chk (b : Bool) : M Unit := opt (if b then some () else none)

abbrev RR (α β : Type) := Hp → Env → L2.St → Hp → Hp → α → β → Prop
/-- an exception with one field -/
def XAt (K : PySem.W.Frag) (F H : Hp) (a : Addr) (d : D) : Prop := ∃ v, H a = some (.xd [("at", v)]) ∧ Rep K F d v
/-- the class of that name -/
abbrev clsA (K : PySem.W.Frag) (c : String) : Addr := He.ga K (PySem.Str.ofString c)
def PostX (K : PySem.W.Frag) (E : XK) (F0 H0 F : Hp) (c : String) (d : D) : Prop := ∀ a F' H', Same F F' → Ext K F0 H0 F' H' → XAt K F' H' a d → E (.ref (clsA K c)) (some a) H'
def Post {α β : Type} (R : RR α β) (K : PySem.W.Frag) (E : XK) (F0 H0 F : Hp) (σ : L2.St) (Q : β → Hp → Prop) : Rs α → Prop
  | .ok a ρ' => ∀ v F' H', Same F F' → Rel K F0 H0 ρ' F' σ H' → R H0 ρ' σ F' H' a v → Q v H'
  | .ex c d => PostX K E F0 H0 F c d
def tM {α β : Type} (R : RR α β) (K : PySem.W.Frag) (E : XK) (f : M α) : L2.St → Hp → (β → Hp → Prop) → Prop := fun σ H Q =>
  ∃ F0 H0 ρ F r, Rel K F0 H0 ρ F σ H ∧ f ρ = some r ∧ Post R K E F0 H0 F σ Q r

abbrev rD (K : PySem.W.Frag) : RR D V := fun _ _ _ F _ d v => Rep K F d v
abbrev rL (K : PySem.W.Frag) : RR (List D) (List V) := fun _ _ _ F _ d v => Reps K F d v
abbrev rT : RR Bool Bool := fun _ _ _ _ _ b c => b = c
/-- to be read: frozen data, or a container that a slot owns -/
abbrev rB (K : PySem.W.Frag) : RR D V := fun _ ρ σ F _ d v => Rep K F d v ∨ ∃ (a : Addr) (i : Nat) (t : Option Addr), v = .ref a ∧ ρ[i]? = some (SL.ow t d) ∧ σ[i]? = some (some (V.ref a))
/-- a new container that nobody knows of -/
abbrev rF (K : PySem.W.Frag) : RR D V := fun H0 ρ σ F H d v => ∃ a, v = .ref a ∧ F a = none ∧ H0 a = none ∧ Own K F H a d ∧ ∀ (i : Nat) (t : Option Addr) (e : D), ρ[i]? = some (SL.ow t e) → σ[i]? ≠ some (some (V.ref a))
abbrev tD (K : PySem.W.Frag) (E : XK) (f : M D) : TE := tM (rD K) K E f
abbrev tL (K : PySem.W.Frag) (E : XK) (f : M (List D)) : TA := tM (rL K) K E f
abbrev tT (K : PySem.W.Frag) (E : XK) (f : M Bool) : TT := tM rT K E f
abbrev tB (K : PySem.W.Frag) (E : XK) (f : M D) : TE := tM (rB K) K E f
abbrev tF (K : PySem.W.Frag) (E : XK) (f : M D) : TE := tM (rF K) K E f

section
variable {K : PySem.W.Frag} {E : XK} {F0 H0 F H F' H' : Hp} {ρ : Env} {σ : L2.St}
theorem PostX.weak {c : String} {d : D} (h : PostX K E F0 H0 F c d) (s : Same F F') : PostX K E F0 H0 F' c d := fun a G J z => h a G J (s.trans z)
theorem Post.weak {α β : Type} {R : RR α β} {Q : β → Hp → Prop} : ∀ {r : Rs α}, Post R K E F0 H0 F σ Q r → Same F F' → Post R K E F0 H0 F' σ Q r
  | .ok _ _, h, s => fun v G J z => h v G J (s.trans z)
  | .ex _ _, h, s => PostX.weak h s
theorem Post.imp {α β : Type} {R : RR α β} {Q Q' : β → Hp → Prop} (i : ∀ v H, Q v H → Q' v H) : ∀ {r : Rs α}, Post R K E F0 H0 F σ Q r → Post R K E F0 H0 F σ Q' r
  | .ok _ _, h => fun v G J z r q => i _ _ (h v G J z r q)
  | .ex _ _, h => h
theorem tM_imp {α β : Type} {R : RR α β} {f : M α} {Q Q' : β → Hp → Prop} (i : ∀ v H, Q v H → Q' v H) (h : tM R K E f σ H Q) : tM R K E f σ H Q' := by
  obtain ⟨F0, H0, ρ, F, r, a, b, c⟩ := h
  exact ⟨F0, H0, ρ, F, r, a, b, c.imp i⟩
/-- one part, then the rest -/
theorem step {α β γ δ : Type} {R : RR α β} {R' : RR γ δ} {f : M α} {g : α → M γ} {Q : δ → Hp → Prop} {Q1 : β → Hp → Prop} {r : Rs γ} (rel : Rel K F0 H0 ρ F σ H) (e : bnd f g ρ = some r) (p : Post R' K E F0 H0 F σ Q r)
    (k : ∀ ρ1 F1 H1 a v, Same F F1 → Rel K F0 H0 ρ1 F1 σ H1 → R H0 ρ1 σ F1 H1 a v → g a ρ1 = some r → Post R' K E F0 H0 F1 σ Q r → f ρ = some (.ok a ρ1) → Q1 v H1) : tM R K E f σ H Q1 := by
  unfold bnd at e
  cases ef : f ρ with
  | none => rw [ef] at e; cases e
  | some q =>
    rw [ef] at e
    refine ⟨F0, H0, ρ, F, q, rel, ef, ?_⟩
    cases q with
    | ex c d => cases e; exact p
    | ok a ρ1 => exact fun v F1 H1 s1 rel1 r1 => k ρ1 F1 H1 a v s1 rel1 r1 e (p.weak s1) ef
/-- the last part -/
theorem tM_ret {α β : Type} {R : RR α β} {Q : β → Hp → Prop} {a : α} {v : β} (h : Post R K E F0 H0 F σ Q (.ok a ρ)) (rel : Rel K F0 H0 ρ F σ H) (r : R H0 ρ σ F H a v) : Q v H := h v F H (Same.refl F) rel r
theorem Post.grown {β : Type} {Q : V → Hp → Prop} {a : D} {v : V} (h : Post (rD K) K E F0 H0 F σ Q (.ok a ρ)) (rel : Rel K F0 H0 ρ F σ H) (x : Ext K F H F' H') (r : Rep K F' a v) : Q v H' := h v F' H' x.ff (rel.grow x) r
end

/-! ### pure operations, by values: they lay new objects and change none -/
/-- what is wanted of the answer c -/
def Giv (K : PySem.W.Frag) (F H : Hp) (c : D) (Q : VK) : Prop := ∀ v F' H', Ext K F H F' H' → Rep K F' c v → Q v H'
theorem Giv.here {K : PySem.W.Frag} {F H : Hp} {c : D} {Q : VK} {v : V} (g : Giv K F H c Q) (h : Same F H) (r : Rep K F c v) : Q v H := g v F H (Ext.refl h) r
def DU (K : PySem.W.Frag) (r : V → Hp → VK → Prop) (h : D → Option D) : Prop := ∀ F H d x c Q, Same F H → Rep K F d x → h d = some c → Giv K F H c Q → r x H Q
def DB (K : PySem.W.Frag) (r : R2) (h : D → D → Option D) : Prop := ∀ F H d x e y c Q, Same F H → Rep K F d x → Rep K F e y → h d e = some c → Giv K F H c Q → r x y H Q
def DN (K : PySem.W.Frag) (r : List V → Hp → VK → Prop) (h : List D → Option D) : Prop := ∀ F H ds xs c Q, Same F H → Reps K F ds xs → h ds = some c → Giv K F H c Q → r xs H Q

section
variable {K : PySem.W.Frag} {E : XK} {F0 H0 F H F' H' : Hp} {ρ : Env} {σ : L2.St} {f g : M D} {l : M (List D)} {Q : VK}
/-- a result by an operation -/
theorem Post.giv {o : Option D} {r : Rs D} (e : opt o ρ = some r) (rel : Rel K F0 H0 ρ F σ H) (p : Post (rD K) K E F0 H0 F σ Q r) : ∃ c, o = some c ∧ Giv K F H c Q := by
  unfold opt at e
  cases o with
  | none => cases e
  | some c =>
    cases e
    exact ⟨c, rfl, fun v F' H' x r => p v F' H' x.ff (rel.grow x) r⟩
theorem tD_un {r : V → Hp → VK → Prop} {h : D → Option D} (dr : DU K r h) (q : tD K E (bnd f fun a => opt (h a)) σ H Q) : tUn r (tD K E f) σ H Q := by
  obtain ⟨F0, H0, ρ, F, z, rel, e, p⟩ := q
  refine step rel e p fun ρ1 F1 H1 a v s1 rel1 ra e1 p1 ef1 => ?_
  obtain ⟨c, ec, gv⟩ := Post.giv e1 rel1 p1
  exact dr _ _ _ _ _ _ rel1.fh ra ec gv
theorem tD_op {r : R2} {h : D → D → Option D} (dr : DB K r h) (q : tD K E (bnd f fun a => bnd g fun b => opt (h a b)) σ H Q) : tOp r (tD K E f) (tD K E g) σ H Q := by
  obtain ⟨F0, H0, ρ, F, z, rel, e, p⟩ := q
  refine step rel e p fun ρ1 F1 H1 a v s1 rel1 ra e1 p1 ef1 => ?_
  refine step rel1 e1 p1 fun ρ2 F2 H2 b w s2 rel2 rb e2 p2 ef2 => ?_
  obtain ⟨c, ec, gv⟩ := Post.giv e2 rel2 p2
  exact dr _ _ _ _ _ _ _ _ rel2.fh (Rep.mono (.of s2) ra) rb ec gv
theorem tD_cb {r : List V → Hp → VK → Prop} {h : List D → Option D} (dr : DN K r h) (q : tD K E (bnd l fun a => opt (h a)) σ H Q) : tCB r (tL K E l) σ H Q := by
  obtain ⟨F0, H0, ρ, F, z, rel, e, p⟩ := q
  refine step rel e p fun ρ1 F1 H1 a v s1 rel1 ra e1 p1 ef1 => ?_
  obtain ⟨c, ec, gv⟩ := Post.giv e1 rel1 p1
  exact dr _ _ _ _ _ _ rel1.fh ra ec gv
end

/-! ### the rules -/
section
variable {X : Cx} {E : XK} {a b c e o i : Expr} {es : List Expr} {pos : Pos} {f g h : M D} {l : M (List D)} {t u : M Bool}
def mCons (f : M D) (l : M (List D)) : M (List D) := bnd f fun a => bnd l fun b => ret (a :: b)
theorem dl_nil : PA X [] (tL X.K E (ret [])) := PA.imp pa_nil fun σ H Q ⟨F0, H0, ρ, F, z, rel, e, p⟩ => by
  cases e
  exact p [] F H (Same.refl F) rel rfl
theorem dl_cons (he : PE X e (tD X.K E f)) (hr : PA X es (tL X.K E l)) (hs : starEach (e :: es) X.env = (false, eval e X.env) :: starEach es X.env := by rfl) : PA X (e :: es) (tL X.K E (mCons f l)) :=
  PA.imp (pa_cons he hr hs) fun σ H Q ⟨F0, H0, ρ, F, z, rel, e, p⟩ => by
    refine step rel e p fun ρ1 F1 H1 a v s1 rel1 ra e1 p1 ef1 => ?_
    refine step rel1 e1 p1 fun ρ2 F2 H2 b w s2 rel2 rb e2 p2 ef2 => ?_
    cases e2
    exact p2 _ _ _ (Same.refl _) rel2 ⟨v, w, rfl, Rep.mono (.of s2) ra, rb⟩
def mOp (h : D → D → Option D) (f g : M D) : M D := bnd f fun a => bnd g fun b => opt (h a b)
def mUn (h : D → Option D) (f : M D) : M D := bnd f fun a => opt (h a)
def mN (h : List D → Option D) (l : M (List D)) : M D := bnd l fun a => opt (h a)
theorem de_op {op : Operator} {r : R2} {k : D → D → Option D} (ho : OpR X (binaryOp op) r) (dr : DB X.K r k) (ha : PE X a (tD X.K E f)) (hb : PE X b (tD X.K E g)) : PE X (.BinOp a op b pos) (tD X.K E (mOp k f g)) :=
  PE.imp (pe_op ho ha hb) fun _ _ _ q => tD_op dr q
theorem de_un {op : UnaryOp} {r : V → Hp → VK → Prop} {k : D → Option D} (ho : UnR X (unaryOp op) r) (dr : DU X.K r k) (ha : PE X a (tD X.K E f)) : PE X (.UnaryOp op a pos) (tD X.K E (mUn k f)) :=
  PE.imp (pe_un ho ha) fun _ _ _ q => tD_un dr q
/-- a test out of a value -/
def asB (f : M D) : M Bool := bnd f fun d => match d with
  | .bl b => ret b
  | _ => fun _ => none
theorem asB_sp {K : PySem.W.Frag} {σ : L2.St} {H : Hp} {Q : Bool → Hp → Prop} (q : tT K E (asB f) σ H Q) : tD K E f σ H fun x H' => ∃ k, x = .bl k ∧ Q k H' := by
  obtain ⟨F0, H0, ρ, F, z, rel, e, p⟩ := q
  refine step rel e p fun ρ1 F1 H1 d v s1 rel1 ra e1 p1 ef1 => ?_
  cases d with
  | bl b =>
    cases e1
    cases ra
    exact ⟨b, rfl, p1 _ _ _ (Same.refl _) rel1 rfl⟩
  | _ => cases e1
/-- a comparison: as a value, as a test -/
structure DC (X : Cx) (E : XK) (e : Expr) (f : M D) : Prop where
  pe : PE X e (tD X.K E f)
  pt : PT X e (tT X.K E (asB f))
theorem de_cmp {op : CmpOp} {r : R2} {ta tb : TE} (ho : OpR X (compareOp op) r) (ha : PE X a ta) (hb : PE X b tb) (hm : behindInMarks op b = false) (dr : ∀ σ H Q, tD X.K E f σ H Q → tOp r ta tb σ H Q) : DC X E (.Compare a [op] [b] pos) f :=
  ⟨PE.imp (pe_cmpR ho ha hb hm) dr, PT.imp (pt_cmpR ho ha hb hm) fun σ H Q q => dr σ H _ (asB_sp q)⟩
theorem t_val (he : PE X e (tD X.K E f)) (h : ∀ whole, isTrue e X.env whole = (do let v ← whole; standAt e.pos; holding [v] (truthy v)) := by intro _; rfl) : PT X e (tT X.K E (asB f)) := PT.imp (pt_val he h) fun σ H Q q => asB_sp q
theorem de_callB {x : Str} {p : Pos} {id : String} {r : List V → Hp → VK → Prop} {k : List D → Option D} (hc : CallR X (.builtin id) r) (dr : DN X.K r k) (hg : Gl X x) (hm : X.mg x = none) (hv : bootBuiltins x = some (.builtin id)) (ha : PA X (e :: es) (tL X.K E l))
    (hn : x ≠ "__name__" := by decide) (hdb : (x == ("__debug__" : Str)) = false := by decide) (he : starEach (e :: es) X.env = (false, eval e X.env) :: starEach es X.env := by rfl) (hpl : (backTo pos (starEach es X.env)).any (·.1) = false := by rfl) :
    PE X (.Call (.Name x p) (e :: es) [] pos) (tD X.K E (mN k l)) := PE.imp (pe_callB hc hg hm hv ha hn hdb he hpl) fun _ _ _ q => tD_cb dr q
theorem de_callT {x : Str} {p : Pos} {T : String} {r : List V → Hp → VK → Prop} {k : List D → Option D} (hc : CallR X (.type T) r) (dr : DN X.K r k) (hg : Gl X x) (hm : X.mg x = none) (hv : bootBuiltins x = some (.type T)) (ha : PA X (e :: es) (tL X.K E l))
    (hn : x ≠ "__name__" := by decide) (hdb : (x == ("__debug__" : Str)) = false := by decide) (he : starEach (e :: es) X.env = (false, eval e X.env) :: starEach es X.env := by rfl) (hpl : (backTo pos (starEach es X.env)).any (·.1) = false := by rfl) :
    PE X (.Call (.Name x p) (e :: es) [] pos) (tD X.K E (mN k l)) := PE.imp (pe_callTy hc hg hm hv ha hn hdb he hpl) fun _ _ _ q => tD_cb dr q
/-- constants -/
theorem de_c {v : V} {d : D} (he : PE X e (tC v)) (r : ∀ F, Rep X.K F d v) : PE X e (tD X.K E (ret d)) := PE.imp he fun σ H Q ⟨F0, H0, ρ, F, z, rel, e, p⟩ => by
  cases e
  exact p v F H (Same.refl F) rel (r F)
theorem de_int {i : Int} {j pos} : PE X (.Constant (.int i) j pos) (tD X.K E (ret (.int i))) := de_c pe_int fun _ => rfl
theorem de_bl {b : Bool} {j pos} : PE X (.Constant (.bool b) j pos) (tD X.K E (ret (.bl b))) := de_c pe_bl fun _ => rfl
theorem de_non {j pos} : PE X (.Constant .none j pos) (tD X.K E (ret .non)) := de_c pe_non fun _ => rfl
theorem de_str {x : Str} {j pos} : PE X (.Constant (.str x) j pos) (tD X.K E (ret (.str x))) := de_c pe_str fun _ => rfl
/-- a name -/
def slotD (i : Nat) : M D := fun ρ => match ρ[i]? with
  | some (.sh d) => some (.ok d ρ)
  | _ => none
theorem de_v (i : Nat) {x : Str} {pos : Pos} (hN : X.N[i]? = some x := by rfl) (hv : Vis X.env.scope x := by first | exact Or.inl rfl | exact Or.inr (Or.inl rfl) | exact Or.inr (Or.inr rfl)) (hd : (x == ("__debug__" : Str)) = false := by decide)
    (hcd : (x == ("__classdict__" : Str)) = false := by decide) : PE X (.Name x pos) (tD X.K E (slotD i)) := PE.imp (pv i hN hv hd hcd) fun σ H Q ⟨F0, H0, ρ, F, z, rel, e, p⟩ => by
  unfold slotD at e
  split at e
  · rename_i d q
    cases e
    have hi : i < σ.length := by rw [rel.len]; exact (List.getElem?_eq_some_iff.mp q).1
    obtain ⟨x, ex, rx⟩ := rel.sl i _ _ q (List.getElem?_eq_getElem hi)
    exact ⟨x, (List.getElem?_eq_getElem hi).trans (congrArg some ex), p x F H (Same.refl F) rel rx⟩
  · cases e
end
end Dl
/-! Slots, operators, displays, subscripts. -/
namespace Dl
open PySem PySem.Spec PyProof.Rows L2

/-! ### slots -/
section
variable {K : PySem.W.Frag} {F0 H0 F H : Hp} {ρ : Env} {σ : L2.St}
theorem Rel.get (rel : Rel K F0 H0 ρ F σ H) {i : Nat} {s : SL} (e : ρ[i]? = some s) : ∃ v, σ[i]? = some v ∧ SlotR K H0 F H v s := by
  have hi : i < σ.length := by rw [rel.len]; exact (List.getElem?_eq_some_iff.mp e).1
  exact ⟨_, List.getElem?_eq_getElem hi, rel.sl i _ _ e (List.getElem?_eq_getElem hi)⟩
/-- an owned container is frozen -/
theorem Rel.freeze (rel : Rel K F0 H0 ρ F σ H) {i : Nat} {t : Option Addr} {d : D} {a : Addr} (e : ρ[i]? = some (.ow t d)) (ea : σ[i]? = some (some (.ref a))) :
    ∃ F', Same F F' ∧ Rel K F0 H0 (ρ.set i (.sh d)) F' σ H ∧ Rep K F' d (.ref a) := by
  obtain ⟨v, ev, a', ev', fa, ha0, ow, _⟩ := rel.get e
  rw [ea] at ev
  cases ev
  cases ev'
  obtain ⟨o, ho, nt⟩ := ow.some'
  have ss : Same F (upd F a o) := fun b u q => by rw [upd_ne (ne_of_none q fa)]; exact q
  have rep : Rep K (upd F a o) d (.ref a) := by
    cases d with
    | lst ds =>
      obtain ⟨vs, q, r⟩ := ow
      rw [ho] at q
      cases q
      exact ⟨a, vs, rfl, upd_same, Reps.mono (.of ss) r⟩
    | dK kvs =>
      obtain ⟨vs, q, r⟩ := ow
      rw [ho] at q
      cases q
      exact ⟨a, vs, rfl, .inl upd_same, RepK.mono (.of ss) r⟩
    | dT kvs =>
      obtain ⟨vs, q, r⟩ := ow
      rw [ho] at q
      cases q
      exact ⟨a, vs, rfl, .inl upd_same, RepT.mono (.of ss) r⟩
    | _ => exact ow.elim
  refine ⟨upd F a o, ss, ⟨⟨rel.ext.ff.trans ss, rel.ext.hh, fun b u q => ?_, fun b u q1 q2 q3 => ?_⟩, by rw [List.length_set]; exact rel.len, fun j s v q1 q2 => ?_, fun j k t' u' d' e' c q1 q2 q3 q4 => ?_, rel.tt⟩, rep⟩
  · by_cases hb : b = a
    · subst hb; rw [upd_same] at q; cases q; exact ho
    · rw [upd_ne hb] at q; exact rel.ext.fh _ _ q
  · have hb : b ≠ a := by rintro rfl; rw [ha0] at q2; cases q2
    rw [upd_ne hb]
    exact rel.ext.new _ _ q1 q2 q3
  · by_cases hj : j = i
    · subst hj
      rw [List.getElem?_set_self (List.getElem?_eq_some_iff.mp e).1] at q1
      cases q1
      rw [ea] at q2
      cases q2
      exact ⟨_, rfl, rep⟩
    · rw [List.getElem?_set_ne (Ne.symm hj)] at q1
      have h := rel.sl j s v q1 q2
      cases s with
      | no => trivial
      | sh d' =>
        obtain ⟨x, ex, r⟩ := h
        exact ⟨x, ex, Rep.mono (.of ss) r⟩
      | ow t' d' =>
        obtain ⟨c, ec, fc, hc, r, tt⟩ := h
        subst ec
        have hca : c ≠ a := by rintro rfl; exact hj (rel.ap _ _ _ _ _ _ _ q1 e q2 ea)
        exact ⟨c, rfl, by rw [upd_ne hca]; exact fc, hc, Own.mono (.of ss) (fun _ _ q => q) r, tt⟩
  · have key : ∀ (j : Nat) (t' : Option Addr) (d' : D), (ρ.set i (.sh d))[j]? = some (.ow t' d') → ρ[j]? = some (.ow t' d') := fun j t' d' q => by
      by_cases hj : j = i
      · subst hj
        rw [List.getElem?_set_self (List.getElem?_eq_some_iff.mp e).1] at q
        cases q
      · rwa [List.getElem?_set_ne (Ne.symm hj)] at q
    exact rel.ap j k t' u' d' e' c (key _ _ _ q1) (key _ _ _ q2) q3 q4
end

section
variable {X : Cx} {E : XK} {a b c e o i : Expr} {es : List Expr} {pos : Pos} {f g h : M D} {l : M (List D)} {t u : M Bool}
/-- a name's value: a container that the name owns is frozen -/
def mV (i : Nat) : M D := fun ρ => match ρ[i]? with
  | some (.sh d) => some (.ok d ρ)
  | some (.ow none d) => some (.ok d (ρ.set i (.sh d)))
  | _ => none
theorem dv (i : Nat) {x : Str} {pos : Pos} (hN : X.N[i]? = some x := by rfl) (hv : Vis X.env.scope x := by first | exact Or.inl rfl | exact Or.inr (Or.inl rfl) | exact Or.inr (Or.inr rfl)) (hd : (x == ("__debug__" : Str)) = false := by decide)
    (hcd : (x == ("__classdict__" : Str)) = false := by decide) : PE X (.Name x pos) (tD X.K E (mV i)) := PE.imp (pv i hN hv hd hcd) fun σ H Q ⟨F0, H0, ρ, F, z, rel, e, p⟩ => by
  unfold mV at e
  split at e
  · rename_i d q
    cases e
    obtain ⟨v, ev, x, ex, rx⟩ := rel.get q
    subst ex
    exact ⟨x, ev, p x F H (Same.refl F) rel rx⟩
  · rename_i d q
    cases e
    obtain ⟨v, ev, a, ea, _⟩ := rel.get q
    subst ea
    obtain ⟨F', ss, rel', rep⟩ := rel.freeze q ev
    exact ⟨_, ev, p _ F' H ss rel' rep⟩
  · cases e
/-- a name that is but looked at -/
def mB (i : Nat) : M D := fun ρ => match ρ[i]? with
  | some (.sh d) => some (.ok d ρ)
  | some (.ow _ d) => some (.ok d ρ)
  | _ => none
theorem db (i : Nat) {x : Str} {pos : Pos} (hN : X.N[i]? = some x := by rfl) (hv : Vis X.env.scope x := by first | exact Or.inl rfl | exact Or.inr (Or.inl rfl) | exact Or.inr (Or.inr rfl)) (hd : (x == ("__debug__" : Str)) = false := by decide)
    (hcd : (x == ("__classdict__" : Str)) = false := by decide) : PE X (.Name x pos) (tB X.K E (mB i)) := PE.imp (pv i hN hv hd hcd) fun σ H Q ⟨F0, H0, ρ, F, z, rel, e, p⟩ => by
  unfold mB at e
  split at e
  · rename_i d q
    cases e
    obtain ⟨v, ev, x, ex, rx⟩ := rel.get q
    subst ex
    exact ⟨x, ev, p x F H (Same.refl F) rel (.inl rx)⟩
  · rename_i t d q
    cases e
    obtain ⟨v, ev, a, ea, _, _, ow, _⟩ := rel.get q
    subst ea
    exact ⟨_, ev, p _ F H (Same.refl F) rel (.inr ⟨a, i, t, rfl, q, ev⟩)⟩
  · cases e
/-- frozen data is looked at -/
theorem db_of (he : PE X e (tD X.K E f)) : PE X e (tB X.K E f) := PE.imp he fun σ H Q ⟨F0, H0, ρ, F, z, rel, e, p⟩ => ⟨F0, H0, ρ, F, z, rel, e, match z, p with
  | .ok _ _, p => fun v F' H' s r q => p v F' H' s r (.inl q)
  | .ex _ _, p => p⟩
/-- a global name's value -/
theorem de_glob {x : Str} {v : V} {u : Value} {d : D} (hg : Gl X x) (hm : X.mg x = some u) (r : RelV v u) (rd : ∀ F, Rep X.K F d v) (hd : (x == ("__debug__" : Str)) = false := by decide) : PE X (.Name x pos) (tD X.K E (ret d)) := de_c (pe_glob hg hm r hd) rd
end

/-! ### operators -/
def i2 (k : Int → Int → D) : D → D → Option D
  | .int i, .int j => some (k i j)
  | _, _ => none
def i2c (c : Int → Int → Bool) (k : Int → Int → D) : D → D → Option D
  | .int i, .int j => if c i j = true then some (k i j) else none
  | _, _ => none
section
variable {K : PySem.W.Frag}
theorem db_I0 {g : Int → Int → V} {k : Int → Int → D} (hg : ∀ i j F, Rep K F (k i j) (g i j)) : DB K (rI0 g) (i2 k) := by
  intro F H d x e y c Q fh rd re hc gv
  unfold i2 at hc
  split at hc
  · cases hc
    cases rd
    cases re
    exact ⟨_, _, rfl, rfl, gv.here fh (hg _ _ _)⟩
  · cases hc
theorem db_I {C : Int → Int → Prop} {c : Int → Int → Bool} {g : Int → Int → V} {k : Int → Int → D} (hC : ∀ i j, c i j = true → C i j) (hg : ∀ i j F, Rep K F (k i j) (g i j)) : DB K (rI C g) (i2c c k) := by
  intro F H d x e y z Q fh rd re hc gv
  unfold i2c at hc
  split at hc
  · split at hc
    · rename_i h
      cases hc
      cases rd
      cases re
      exact ⟨_, _, rfl, rfl, hC _ _ h, gv.here fh (hg _ _ _)⟩
    · cases hc
  · cases hc
def oAdd := i2 fun i j => .int (i + j)
def oSub := i2 fun i j => .int (i - j)
def mulOk (i j : Int) : Bool := decide (i.natAbs.log2 + j.natAbs.log2 < 1000000)
def oMul := i2c mulOk fun i j => .int (i * j)
def divOk (_ j : Int) : Bool := decide (0 < j) && decide (j.natAbs.log2 < 9000)
def oDiv := i2c divOk fun i j => .int (i / j)
def oMod := i2c (fun _ j => decide (0 < j)) fun i j => .int (i % j)
def powOk (i j : Int) : Bool := decide (0 ≤ j) && decide (j ≤ 1000000) && decide (i.natAbs < 2 ^ 64)
def oPow := i2c powOk fun i j => .int (i ^ j.toNat)
def oShl := i2c powOk fun i j => .int (i * 2 ^ j.toNat)
def oShr := i2c (fun _ j => decide (0 ≤ j)) fun i j => .int (i / 2 ^ j.toNat)
def oLt := i2 fun i j => .bl (decide (i < j))
def oLe := i2 fun i j => .bl (decide (i ≤ j))
def oGt := i2 fun i j => .bl (decide (j < i))
def oGe := i2 fun i j => .bl (decide (j ≤ i))
def oNeg : D → Option D
  | .int i => some (.int (-i))
  | _ => none
theorem du_neg : DU K (rU fun i => .int (-i)) oNeg := by
  intro F H d x c Q fh rd hc gv
  unfold oNeg at hc
  split at hc
  · cases hc
    cases rd
    exact ⟨_, rfl, gv.here fh rfl⟩
  · cases hc
end
section
variable {X : Cx} {E : XK} {a b c e o i : Expr} {es : List Expr} {pos : Pos} {f g h : M D} {l : M (List D)} {t u : M Bool}
theorem d_add (ha : PE X a (tD X.K E f)) (hb : PE X b (tD X.K E g)) : PE X (.BinOp a .Add b pos) (tD X.K E (mOp oAdd f g)) := de_op op_add (db_I0 fun _ _ _ => rfl) ha hb
theorem d_sub (ha : PE X a (tD X.K E f)) (hb : PE X b (tD X.K E g)) : PE X (.BinOp a .Sub b pos) (tD X.K E (mOp oSub f g)) := de_op op_sub (db_I0 fun _ _ _ => rfl) ha hb
theorem mulOk_c {i j : Int} (h : mulOk i j = true) : CMulW i j := by
  unfold mulOk at h
  have h' : i.natAbs.log2 + j.natAbs.log2 < 1000000 := of_decide_eq_true h
  exact h'
theorem divOk_c {i j : Int} (h : divOk i j = true) : CDivW i j := by
  unfold divOk at h
  simp only [Bool.and_eq_true, decide_eq_true_eq] at h
  exact h
theorem d_mul (ha : PE X a (tD X.K E f)) (hb : PE X b (tD X.K E g)) : PE X (.BinOp a .Mult b pos) (tD X.K E (mOp oMul f g)) := de_op op_mulW (db_I (fun _ _ h => mulOk_c h) fun _ _ _ => rfl) ha hb
theorem d_div (ha : PE X a (tD X.K E f)) (hb : PE X b (tD X.K E g)) : PE X (.BinOp a .FloorDiv b pos) (tD X.K E (mOp oDiv f g)) :=
  de_op op_fdivW (db_I (fun _ _ h => divOk_c h) fun _ _ _ => rfl) ha hb
theorem d_mod (ha : PE X a (tD X.K E f)) (hb : PE X b (tD X.K E g)) : PE X (.BinOp a .Mod b pos) (tD X.K E (mOp oMod f g)) := de_op op_mod (db_I (fun _ _ h => of_decide_eq_true h) fun _ _ _ => rfl) ha hb
theorem powOk_c {i j : Int} (h : powOk i j = true) : 0 ≤ j ∧ j ≤ 1000000 ∧ i.natAbs < 2 ^ 64 := by unfold powOk at h; simpa [Bool.and_eq_true, and_assoc] using h
theorem d_pow (ha : PE X a (tD X.K E f)) (hb : PE X b (tD X.K E g)) : PE X (.BinOp a .Pow b pos) (tD X.K E (mOp oPow f g)) := de_op op_pow (db_I (fun _ _ h => powOk_c h) fun _ _ _ => rfl) ha hb
theorem d_shl (ha : PE X a (tD X.K E f)) (hb : PE X b (tD X.K E g)) : PE X (.BinOp a .LShift b pos) (tD X.K E (mOp oShl f g)) := de_op op_shl (db_I (fun _ _ h => powOk_c h) fun _ _ _ => rfl) ha hb
theorem d_shr (ha : PE X a (tD X.K E f)) (hb : PE X b (tD X.K E g)) : PE X (.BinOp a .RShift b pos) (tD X.K E (mOp oShr f g)) := de_op op_shr (db_I (fun _ _ h => of_decide_eq_true h) fun _ _ _ => rfl) ha hb
theorem d_neg (ha : PE X a (tD X.K E f)) : PE X (.UnaryOp .USub a pos) (tD X.K E (mUn oNeg f)) := de_un un_neg du_neg ha
theorem d_lt (ha : PE X a (tD X.K E f)) (hb : PE X b (tD X.K E g)) : DC X E (.Compare a [.Lt] [b] pos) (mOp oLt f g) := de_cmp op_lt ha hb (nomark _) fun _ _ _ q => tD_op (db_I0 (k := fun i j => .bl (decide (i < j))) fun _ _ _ => rfl) q
theorem d_le (ha : PE X a (tD X.K E f)) (hb : PE X b (tD X.K E g)) : DC X E (.Compare a [.LtE] [b] pos) (mOp oLe f g) := de_cmp op_le ha hb (nomark _) fun _ _ _ q => tD_op (db_I0 (k := fun i j => .bl (decide (i ≤ j))) fun _ _ _ => rfl) q
theorem d_gt (ha : PE X a (tD X.K E f)) (hb : PE X b (tD X.K E g)) : DC X E (.Compare a [.Gt] [b] pos) (mOp oGt f g) := de_cmp op_gt ha hb (nomark _) fun _ _ _ q => tD_op (db_I0 (k := fun i j => .bl (decide (j < i))) fun _ _ _ => rfl) q
theorem d_ge (ha : PE X a (tD X.K E f)) (hb : PE X b (tD X.K E g)) : DC X E (.Compare a [.GtE] [b] pos) (mOp oGe f g) := de_cmp op_ge ha hb (nomark _) fun _ _ _ q => tD_op (db_I0 (k := fun i j => .bl (decide (j ≤ i))) fun _ _ _ => rfl) q
end

/-! ### more of the state -/
section
variable {K : PySem.W.Frag} {F0 H0 F H : Hp} {ρ : Env} {σ : L2.St}
/-- a new container is frozen -/
theorem Rel.addF (rel : Rel K F0 H0 ρ F σ H) {a : Addr} {o : HO} (fa : F a = none) (ha0 : H0 a = none ∨ ∃ xs, o = .tup xs) (ho : H a = some o) (ns : ∀ (i : Nat) (t : Option Addr) (d : D), ρ[i]? = some (SL.ow t d) → σ[i]? ≠ some (some (V.ref a))) : Rel K F0 H0 ρ (upd F a o) σ H := by
  have ss : Same F (upd F a o) := fun b u q => by rw [upd_ne (ne_of_none q fa)]; exact q
  refine ⟨⟨rel.ext.ff.trans ss, rel.ext.hh, fun b u q => ?_, fun b u q1 q2 q3 => ?_⟩, rel.len, fun j s v q1 q2 => ?_, rel.ap, rel.tt⟩
  · by_cases hb : b = a
    · subst hb; rw [upd_same] at q; cases q; exact ho
    · rw [upd_ne hb] at q; exact rel.ext.fh _ _ q
  · have hb : b ≠ a := by
      rintro rfl
      rcases ha0 with h | ⟨xs, rfl⟩
      · rw [h] at q2; cases q2
      · rcases rel.ext.hh.kp _ _ q2 with this | ⟨_, _, _, this⟩
        · rw [ho] at this
          cases this
          exact q3 xs rfl
        · rw [ho] at this
          cases this
    rw [upd_ne hb]
    exact rel.ext.new _ _ q1 q2 q3
  · have h := rel.sl j s v q1 q2
    cases s with
    | no => trivial
    | sh d' =>
      obtain ⟨x, ex, r⟩ := h
      exact ⟨x, ex, Rep.mono (.of ss) r⟩
    | ow t' d' =>
      obtain ⟨c, ec, fc, hc, r, tt⟩ := h
      subst ec
      have hca : c ≠ a := by rintro rfl; exact ns _ _ _ q1 q2
      exact ⟨c, rfl, by rw [upd_ne hca]; exact fc, hc, Own.mono (.of ss) (fun _ _ q => q) r, tt⟩
theorem Rel.noslot (rel : Rel K F0 H0 ρ F σ H) {a : Addr} (h : H a = none) : ∀ (i : Nat) (t : Option Addr) (d : D), ρ[i]? = some (SL.ow t d) → σ[i]? ≠ some (some (V.ref a)) := fun i t d q e => by
  obtain ⟨v, ev, b, eb, _, _, ow, _⟩ := rel.get q
  rw [e] at ev
  cases ev
  cases eb
  obtain ⟨o, q, _⟩ := ow.some'
  rw [h] at q
  cases q
theorem Rel.noslotT (rel : Rel K F0 H0 ρ F σ H) {a : Addr} {xs : List V} (h : H a = some (.tup xs)) : ∀ (i : Nat) (t : Option Addr) (d : D), ρ[i]? = some (SL.ow t d) → σ[i]? ≠ some (some (V.ref a)) := fun i t d q e => by
  obtain ⟨v, ev, b, eb, _, _, ow, _⟩ := rel.get q
  rw [e] at ev
  cases ev
  cases eb
  obtain ⟨o, q, n⟩ := ow.some'
  rw [h] at q
  cases q
  exact n _ rfl
/-- frozen, or in the heap as it stands -/
def RB (K : PySem.W.Frag) (F H : Hp) (d : D) (v : V) : Prop := Rep K F d v ∨ ∃ a, v = .ref a ∧ Own K F H a d
theorem Rel.rb (rel : Rel K F0 H0 ρ F σ H) {d : D} {v : V} (r : rB K H0 ρ σ F H d v) : RB K F H d v := by
  rcases r with r | ⟨a, i, t, rfl, q, e⟩
  · exact .inl r
  · obtain ⟨v, ev, b, eb, _, _, ow, _⟩ := rel.get q
    rw [e] at ev
    cases ev
    cases eb
    exact .inr ⟨a, rfl, ow⟩
theorem Own.rep {a : Addr} : ∀ {d : D}, Own K F H a d → Same F H → Rep K H d (.ref a)
  | .lst _, ⟨vs, e, r⟩, s => ⟨a, vs, rfl, e, Reps.mono (.of s) r⟩
  | .dK _, ⟨vs, e, r⟩, s => ⟨a, vs, rfl, .inl e, RepK.mono (.of s) r⟩
  | .dT _, ⟨vs, e, r⟩, s => ⟨a, vs, rfl, .inl e, RepT.mono (.of s) r⟩
theorem RB.rep {d : D} {v : V} (r : RB K F H d v) (s : Same F H) : Rep K H d v := by
  rcases r with r | ⟨a, rfl, o⟩
  · exact Rep.mono (.of s) r
  · exact o.rep s
/-- the items of what is looked at -/
theorem RB.lst {ds : List D} {v : V} (r : RB K F H (.lst ds) v) (s : Same F H) : ∃ a vs, v = .ref a ∧ H a = some (.lst vs) ∧ Reps K F ds vs := by
  rcases r with ⟨a, vs, e, q, z⟩ | ⟨a, e, vs, q, z⟩
  · exact ⟨a, vs, e, s _ _ q, z⟩
  · exact ⟨a, vs, e, q, z⟩
def itemsL : D → Option (List D)
  | .lst ds => some ds
  | .seq ds => some ds
  | _ => none
theorem RB.sq {d : D} {ds : List D} {v : V} (r : RB K F H d v) (e : itemsL d = some ds) (s : Same F H) : ∃ a vs, v = .ref a ∧ SqL K H a vs ∧ Reps K F ds vs := by
  cases d with
  | lst es =>
    cases e
    obtain ⟨a, vs, e, q, z⟩ := r.lst s
    exact ⟨a, vs, e, SqL.of q, z⟩
  | seq es =>
    cases e
    rcases r with ⟨a, vs, e, q, z⟩ | ⟨a, e, q⟩
    · exact ⟨a, vs, e, (RdE.of s).sqL q, z⟩
    · exact q.elim
  | _ => cases e
theorem Reps.len : ∀ {ds : List D} {vs : List V}, Reps K F ds vs → ds.length = vs.length
  | [], _, r => by cases r; rfl
  | d :: ds, _, r => by
    obtain ⟨v, t, rfl, _, z⟩ := r
    simp [Reps.len z]
theorem Reps.get : ∀ {ds : List D} {vs : List V} {i : Nat} {d : D}, Reps K F ds vs → ds[i]? = some d → ∃ v, vs[i]? = some v ∧ Rep K F d v
  | [], _, _, _, _, e => by simp at e
  | d :: ds, _, 0, x, r, e => by
    obtain ⟨v, t, rfl, q, z⟩ := r
    simp at e
    subst e
    exact ⟨v, rfl, q⟩
  | d :: ds, _, i + 1, x, r, e => by
    obtain ⟨v, t, rfl, q, z⟩ := r
    simpa using Reps.get (i := i) z (by simpa using e)
theorem Reps.get' : ∀ {ds : List D} {vs : List V} {i : Nat} {v : V}, Reps K F ds vs → vs[i]? = some v → ∃ d, ds[i]? = some d ∧ Rep K F d v
  | [], _, _, _, r, e => by cases r; simp at e
  | d :: ds, _, 0, x, r, e => by
    obtain ⟨v, t, rfl, q, z⟩ := r
    simp at e
    subst e
    exact ⟨d, rfl, q⟩
  | d :: ds, _, i + 1, x, r, e => by
    obtain ⟨v, t, rfl, q, z⟩ := r
    simpa using Reps.get' (i := i) z (by simpa using e)
theorem Reps.app : ∀ {ds es : List D} {vs ws : List V}, Reps K F ds vs → Reps K F es ws → Reps K F (ds ++ es) (vs ++ ws)
  | [], _, _, _, r, s => by cases r; exact s
  | d :: ds, _, _, _, r, s => by
    obtain ⟨v, t, rfl, q, z⟩ := r
    exact ⟨v, t ++ _, rfl, q, Reps.app z s⟩
theorem Reps.one {d : D} {v : V} (r : Rep K F d v) : Reps K F [d] [v] := ⟨v, [], rfl, r, rfl⟩
theorem Reps.take : ∀ {ds : List D} {vs : List V} (n : Nat), Reps K F ds vs → Reps K F (ds.take n) (vs.take n)
  | _, _, 0, _ => by simp [Reps]
  | [], _, _ + 1, r => by cases r; simp [Reps]
  | d :: ds, _, n + 1, r => by
    obtain ⟨v, t, rfl, q, z⟩ := r
    exact ⟨v, _, rfl, q, Reps.take n z⟩
theorem Reps.drop : ∀ {ds : List D} {vs : List V} (n : Nat), Reps K F ds vs → Reps K F (ds.drop n) (vs.drop n)
  | _, _, 0, r => r
  | [], _, _ + 1, r => by cases r; simp [Reps]
  | d :: ds, _, n + 1, r => by
    obtain ⟨v, t, rfl, q, z⟩ := r
    exact Reps.drop n z
theorem Reps.ints : ∀ {ns : List Int} {vs : List V}, Reps K F (ns.map D.int) vs → vs = ns.map V.int
  | [], _, r => r
  | n :: ns, _, r => by
    obtain ⟨v, t, rfl, q, z⟩ := r
    cases q
    rw [Reps.ints z]
    rfl
theorem Reps.of_ints : ∀ (ns : List Int), Reps K F (ns.map D.int) (ns.map V.int)
  | [] => rfl
  | n :: ns => ⟨_, _, rfl, rfl, Reps.of_ints ns⟩
theorem Reps.bls : ∀ {ns : List Bool} {vs : List V}, Reps K F (ns.map D.bl) vs → vs = ns.map V.bl
  | [], _, r => r
  | n :: ns, _, r => by
    obtain ⟨v, t, rfl, q, z⟩ := r
    cases q
    rw [Reps.bls z]
    rfl
end
end Dl
/-! Displays, subscripts, comparisons of data, tests, calls. -/
namespace Dl
open PySem PySem.Spec PyProof.Rows L2

/-! ### what leaves the slots as they are -/
def Pu {α : Type} (f : M α) : Prop := ∀ ρ a ρ', f ρ = some (.ok a ρ') → ρ' = ρ
theorem pu_ret {α : Type} {a : α} : Pu (ret a) := fun _ _ _ e => by cases e; rfl
theorem pu_opt {α : Type} {o : Option α} : Pu (opt o) := fun _ _ _ e => by
  unfold opt at e
  split at e
  · cases e
  · cases e; rfl
theorem pu_bnd {α β : Type} {f : M α} {g : α → M β} (h : Pu f) (k : ∀ a, Pu (g a)) : Pu (bnd f g) := fun ρ b ρ' e => by
  unfold bnd at e
  split at e
  · cases e
  · cases e
  · rename_i a ρ1 q
    cases h _ _ _ q
    exact k _ _ _ _ e
theorem pu_slot {i : Nat} : Pu (slotD i) := fun ρ a ρ' e => by
  unfold slotD at e
  split at e
  · cases e; rfl
  · cases e
theorem pu_mB {i : Nat} : Pu (mB i) := fun ρ a ρ' e => by
  unfold mB at e
  split at e
  · cases e; rfl
  · cases e; rfl
  · cases e
theorem pu_op {k : D → D → Option D} {f g : M D} (h : Pu f) (h' : Pu g) : Pu (mOp k f g) := pu_bnd h fun _ => pu_bnd h' fun _ => pu_opt
theorem pu_un {k : D → Option D} {f : M D} (h : Pu f) : Pu (mUn k f) := pu_bnd h fun _ => pu_opt
theorem pu_cons {f : M D} {l : M (List D)} (h : Pu f) (h' : Pu l) : Pu (mCons f l) := pu_bnd h fun _ => pu_bnd h' fun _ => pu_ret
theorem pu_n {k : List D → Option D} {l : M (List D)} (h : Pu l) : Pu (mN k l) := pu_bnd h fun _ => pu_opt

/-! ### displays -/
def lenOk {α : Type} (l : List α) : Option (List α) := if l.length ≤ sizeLine then some l else none
section
variable {X : Cx} {E : XK} {a b c e o i : Expr} {es : List Expr} {pos : Pos} {f g h : M D} {l : M (List D)} {t u : M Bool}
def mTup (l : M (List D)) : M D := bnd l fun ds => opt ((lenOk ds).map .tup)
def mLst (l : M (List D)) : M D := bnd l fun ds => opt ((lenOk ds).map .lst)
theorem lenOk_some {α β : Type} {l : List α} {k : List α → β} {b : β} (h : (lenOk l).map k = some b) : l.length ≤ sizeLine ∧ k l = b := by
  unfold lenOk at h
  split at h
  · rename_i q
    cases h
    exact ⟨q, rfl⟩
  · cases h
theorem d_tup {x1} (h : PA X es (tL X.K E l)) : PE X (.Tuple es x1 pos) (tD X.K E (mTup l)) := PE.imp (pe_tup h) fun σ H Q ⟨F0, H0, ρ, F, z, rel, e, p⟩ => by
  refine step rel e p fun ρ1 F1 H1 ds vs s1 rel1 ra e1 p1 ef1 => ?_
  obtain ⟨c, ec, gv⟩ := Post.giv e1 rel1 p1
  obtain ⟨hl, rfl⟩ := lenOk_some ec
  refine ⟨by rw [← ra.len]; exact hl, fun q hq => ?_⟩
  have x := Ext.laid (K := X.K) (o := .tup vs) rel1.fh hq
  exact gv _ _ _ x ⟨q, vs, rfl, upd_same, Reps.mono (.of x.ff) ra⟩
/-- a new list -/
theorem d_lst (h : PA X es (tL X.K E l)) : PE X (.List es pos) (tF X.K E (mLst l)) := PE.imp (pe_lst h) fun σ H Q ⟨F0, H0, ρ, F, z, rel, e, p⟩ => by
  refine step rel e p fun ρ1 F1 H1 ds vs s1 rel1 ra e1 p1 ef1 => ?_
  unfold opt at e1
  split at e1
  · cases e1
  · rename_i c ec
    cases e1
    obtain ⟨hl, rfl⟩ := lenOk_some ec
    refine ⟨by rw [← ra.len]; exact hl, fun q hq => ?_⟩
    have fq : F1 q = none := rel1.fh.free hq
    exact p1 _ F1 _ (Same.refl _) (rel1.grow (Ext.put rel1.fh hq)) ⟨q, rfl, fq, rel1.ext.hh.free hq, ⟨vs, upd_same, ra⟩, fun i t d e => rel1.noslot hq i t d e⟩
/-- a new container, frozen at once -/
theorem d_fz (h : PE X e (tF X.K E f)) : PE X e (tD X.K E f) := PE.imp h fun σ H Q ⟨F0, H0, ρ, F, z, rel, e, p⟩ => by
  refine ⟨F0, H0, ρ, F, z, rel, e, ?_⟩
  cases z with
  | ex c d => exact p
  | ok d ρ' =>
    intro v F' H' s rel' r
    obtain ⟨a, rfl, fa, ha0, ow, ns⟩ := r
    obtain ⟨o, ho, nt⟩ := ow.some'
    have rel2 := rel'.addF fa (.inl ha0) ho ns
    have ss : Same F' (upd F' a o) := fun b u q => by rw [upd_ne (ne_of_none q fa)]; exact q
    refine p _ _ _ (s.trans ss) rel2 ?_
    cases d with
    | lst ds =>
      obtain ⟨vs, q, r⟩ := ow
      rw [ho] at q
      cases q
      exact ⟨a, vs, rfl, upd_same, Reps.mono (.of ss) r⟩
    | dK kvs =>
      obtain ⟨vs, q, r⟩ := ow
      rw [ho] at q
      cases q
      exact ⟨a, vs, rfl, .inl upd_same, RepK.mono (.of ss) r⟩
    | dT kvs =>
      obtain ⟨vs, q, r⟩ := ow
      rw [ho] at q
      cases q
      exact ⟨a, vs, rfl, .inl upd_same, RepT.mono (.of ss) r⟩
    | _ => exact ow.elim
end

/-! ### operations that look at their operands -/
def DUb (K : PySem.W.Frag) (r : V → Hp → VK → Prop) (h : D → Option D) : Prop := ∀ F H d x c Q, Same F H → RB K F H d x → h d = some c → Giv K F H c Q → r x H Q
def DBb (K : PySem.W.Frag) (r : R2) (h : D → D → Option D) : Prop := ∀ F H d x e y c Q, Same F H → RB K F H d x → RB K F H e y → h d e = some c → Giv K F H c Q → r x y H Q
section
variable {K : PySem.W.Frag} {E : XK} {F0 H0 F H F' H' : Hp} {ρ : Env} {σ : L2.St} {f g : M D} {l : M (List D)} {Q : VK}
theorem rB_keep {d : D} {v : V} (r : rB K H0 ρ σ F H d v) (s : Same F F') : rB K H0 ρ σ F' H' d v := by
  rcases r with r | r
  · exact .inl (Rep.mono (.of s) r)
  · exact .inr r
theorem tB_un {r : V → Hp → VK → Prop} {h : D → Option D} (dr : DUb K r h) (q : tD K E (bnd f fun a => opt (h a)) σ H Q) : tUn r (tB K E f) σ H Q := by
  obtain ⟨F0, H0, ρ, F, z, rel, e, p⟩ := q
  refine step rel e p fun ρ1 F1 H1 a v s1 rel1 ra e1 p1 ef1 => ?_
  obtain ⟨c, ec, gv⟩ := Post.giv e1 rel1 p1
  exact dr _ _ _ _ _ _ rel1.fh (rel1.rb ra) ec gv
theorem tB_op {r : R2} {h : D → D → Option D} (pu : Pu g) (dr : DBb K r h) (q : tD K E (bnd f fun a => bnd g fun b => opt (h a b)) σ H Q) : tOp r (tB K E f) (tB K E g) σ H Q := by
  obtain ⟨F0, H0, ρ, F, z, rel, e, p⟩ := q
  refine step rel e p fun ρ1 F1 H1 a v s1 rel1 ra e1 p1 ef1 => ?_
  refine step rel1 e1 p1 fun ρ2 F2 H2 b w s2 rel2 rb e2 p2 ef2 => ?_
  cases pu _ _ _ ef2
  obtain ⟨c, ec, gv⟩ := Post.giv e2 rel2 p2
  exact dr _ _ _ _ _ _ _ _ rel2.fh (rel2.rb (rB_keep ra s2)) (rel2.rb rb) ec gv
end

/-! ### data that is compared -/
mutual
def pyD : D → Option PyData
  | .non => some .none
  | .bl b => some (.bool b)
  | .int i => some (.int i)
  | .str x => some (.str x)
  | .tup xs => (pyDs xs).map .tuple
  | .lst xs => (pyDs xs).map .list
  | _ => none
def pyDs : List D → Option (List PyData)
  | [] => some []
  | d :: ds => (pyD d).bind fun p => (pyDs ds).map fun ps => p :: ps
end
section
variable {K : PySem.W.Frag} {F H : Hp}
mutual
theorem Rep.dp : ∀ {d : D} {v : V} {p : PyData}, Rep K H d v → pyD d = some p → Dp K H v p
  | .non, _, _, r, e => by cases r; unfold pyD at e; cases e; exact .non
  | .bl b, _, _, r, e => by cases r; unfold pyD at e; cases e; exact .bl b
  | .int i, _, _, r, e => by cases r; unfold pyD at e; cases e; exact .int i
  | .str x, _, _, r, e => by cases r; unfold pyD at e; cases e; exact .str x
  | .tup ds, _, _, r, e => by
    obtain ⟨a, vs, rfl, q, z⟩ := r
    unfold pyD at e
    obtain ⟨ps, e1, rfl⟩ := Option.map_eq_some_iff.mp e
    exact .tup (SqT.of q) (Reps.dp z e1)
  | .lst ds, _, _, r, e => by
    obtain ⟨a, vs, rfl, q, z⟩ := r
    unfold pyD at e
    obtain ⟨ps, e1, rfl⟩ := Option.map_eq_some_iff.mp e
    exact .lst (SqL.of q) (Reps.dp z e1)
  | .fn _, _, _, _, e => by unfold pyD at e; cases e
  | .ty _, _, _, _, e => by unfold pyD at e; cases e
  | .seq _, _, _, _, e => by unfold pyD at e; cases e
  | .dK _, _, _, _, e => by unfold pyD at e; cases e
  | .dT _, _, _, _, e => by unfold pyD at e; cases e
theorem Reps.dp : ∀ {ds : List D} {vs : List V} {ps : List PyData}, Reps K H ds vs → pyDs ds = some ps → DpAll K H vs ps
  | [], _, _, r, e => by cases r; unfold pyDs at e; cases e; exact .nil
  | d :: ds, _, _, r, e => by
    obtain ⟨v, t, rfl, q, z⟩ := r
    unfold pyDs at e
    obtain ⟨p, e1, e2⟩ := Option.bind_eq_some_iff.mp e
    obtain ⟨qs, e3, rfl⟩ := Option.map_eq_some_iff.mp e2
    exact .cons (Rep.dp q e1) (Reps.dp z e3)
end
end
def eqD (a b : D) : Option Bool := (pyD a).bind fun p => (pyD b).bind fun q => if (SeqAt.shaped p && SeqAt.shaped q) = true then some (PyData.eqv p q) else none
theorem eqD_some {a b : D} {r : Bool} (h : eqD a b = some r) : ∃ p q, pyD a = some p ∧ pyD b = some q ∧ SeqAt.shaped p = true ∧ SeqAt.shaped q = true ∧ PyData.eqv p q = r := by
  unfold eqD at h
  obtain ⟨p, e1, h⟩ := Option.bind_eq_some_iff.mp h
  obtain ⟨q, e2, h⟩ := Option.bind_eq_some_iff.mp h
  split at h
  · rename_i z
    rw [Bool.and_eq_true] at z
    cases h
    exact ⟨p, q, e1, e2, z.1, z.2, rfl⟩
  · cases h
def oEq (a b : D) : Option D := (eqD a b).map .bl
def oNe (a b : D) : Option D := (eqD a b).map fun r => .bl (!r)
section
variable {X : Cx} {E : XK} {a b c e o i : Expr} {es : List Expr} {pos : Pos} {f g h : M D} {l : M (List D)} {t u : M Bool}
theorem dbb_eq {K : PySem.W.Frag} : DBb K (rEqD K) oEq := by
  intro F H d x e y c Q fh rd re hc gv
  obtain ⟨r, h1, rfl⟩ := Option.map_eq_some_iff.mp hc
  obtain ⟨p, q, e1, e2, s1, s2, rfl⟩ := eqD_some h1
  exact ⟨p, q, (rd.rep fh).dp e1, (re.rep fh).dp e2, s1, s2, gv.here fh rfl⟩
theorem dbb_ne {K : PySem.W.Frag} : DBb K (rNeD K) oNe := by
  intro F H d x e y c Q fh rd re hc gv
  obtain ⟨r, h1, rfl⟩ := Option.map_eq_some_iff.mp hc
  obtain ⟨p, q, e1, e2, s1, s2, rfl⟩ := eqD_some h1
  exact ⟨p, q, (rd.rep fh).dp e1, (re.rep fh).dp e2, s1, s2, gv.here fh rfl⟩
theorem d_eq {k : Nat} (hr : Room k X.A) (pu : Pu g) (ha : PE X a (tB X.K E f)) (hb : PE X b (tB X.K E g)) : DC X E (.Compare a [.Eq] [b] pos) (mOp oEq f g) := de_cmp (op_eqD hr.units) ha hb (nomark _) fun _ _ _ q => tB_op pu dbb_eq q
theorem d_ne {k : Nat} (hr : Room k X.A) (pu : Pu g) (ha : PE X a (tB X.K E f)) (hb : PE X b (tB X.K E g)) : DC X E (.Compare a [.NotEq] [b] pos) (mOp oNe f g) := de_cmp (op_neD hr.units) ha hb (nomark _) fun _ _ _ q => tB_op pu dbb_ne q

/-! ### is None, is True -/
def isNon : D → Bool
  | .non => true
  | _ => false
theorem Rep.isNon {K : PySem.W.Frag} {F : Hp} {d : D} {v : V} (r : Rep K F d v) : decide (v = .non) = isNon d := by
  cases d with
  | non => cases r; rfl
  | bl _ => cases r; rfl
  | int _ => cases r; rfl
  | str _ => cases r; rfl
  | fn _ => cases r; rfl
  | ty _ => cases r; rfl
  | tup _ => obtain ⟨_, _, rfl, _⟩ := r; rfl
  | lst _ => obtain ⟨_, _, rfl, _⟩ := r; rfl
  | seq _ => obtain ⟨_, _, rfl, _⟩ := r; rfl
  | dK _ => obtain ⟨_, _, rfl, _⟩ := r; rfl
  | dT _ => obtain ⟨_, _, rfl, _⟩ := r; rfl
def oIsN (d : D) : Option D := some (.bl (isNon d))
def oNotN (d : D) : Option D := some (.bl (!isNon d))
theorem tD_isN {K : PySem.W.Frag} {σ : L2.St} {H : Hp} {Q : VK} (q : tD K E (mUn oIsN f) σ H Q) : tIsN (tD K E f) σ H Q := by
  have k : DU K (fun x H Q => Q (.bl (decide (x = .non))) H) oIsN := fun F H d x c Q fh rd hc gv => by
    cases hc
    exact gv.here fh (by rw [rd.isNon]; rfl)
  exact tD_un k q
theorem tD_notN {K : PySem.W.Frag} {σ : L2.St} {H : Hp} {Q : VK} (q : tD K E (mUn oNotN f) σ H Q) : tNotN (tD K E f) σ H Q := by
  have k : DU K (fun x H Q => Q (.bl (!decide (x = .non))) H) oNotN := fun F H d x c Q fh rd hc gv => by
    cases hc
    exact gv.here fh (by rw [rd.isNon]; rfl)
  exact tD_un k q
theorem d_isN {j p} (ha : PE X a (tD X.K E f)) : DC X E (.Compare a [.Is] [.Constant .none j p] pos) (mUn oIsN f) := ⟨PE.imp (pe_cmp (pc_isN ha)) fun _ _ _ q => tD_isN q, PT.imp (pt_cmp (pc_isN ha)) fun σ H Q q => tD_isN (asB_sp q)⟩
theorem d_notN {j p} (ha : PE X a (tD X.K E f)) : DC X E (.Compare a [.IsNot] [.Constant .none j p] pos) (mUn oNotN f) := ⟨PE.imp (pe_cmp (pc_notN ha)) fun _ _ _ q => tD_notN q, PT.imp (pt_cmp (pc_notN ha)) fun σ H Q q => tD_notN (asB_sp q)⟩
/-- is, of anything plain and a bool -/
def isBl (b : Bool) : D → Bool
  | .bl c => c == b
  | _ => false
def oIsB : D → D → Option D
  | d, .bl b => some (.bl (isBl b d))
  | _, _ => none
def rIsM : R2 := fun x y H Q => ∃ b : Bool, y = .bl b ∧ Q (.bl (decide (x = .bl b))) H
theorem op_isM : OpR X (compareOp .Is) rIsM := by
  intro pins s σ H x y v u Q I rx ry h
  obtain ⟨b, rfl, q⟩ := h
  cases (show u = Value.bool b from ry)
  refine wpAny_is_plain ?_ ⟨.bl (decide (x = .bl b)), H, I, ?_, q⟩
  · cases x with
    | int _ => obtain ⟨t, rfl⟩ := rx; rfl
    | str _ => obtain ⟨t, rfl⟩ := rx; rfl
    | byt _ => obtain ⟨t, rfl⟩ := rx; rfl
    | flt _ => obtain ⟨t, rfl⟩ := rx; rfl
    | _ => cases rx; rfl
  · cases x with
    | int _ => obtain ⟨t, rfl⟩ := rx; rfl
    | str _ => obtain ⟨t, rfl⟩ := rx; rfl
    | byt _ => obtain ⟨t, rfl⟩ := rx; rfl
    | flt _ => obtain ⟨t, rfl⟩ := rx; rfl
    | bl c =>
      cases rx
      show Value.bool (Value.bool c == Value.bool b) = Value.bool (decide (V.bl c = V.bl b))
      cases c <;> cases b <;> rfl
    | _ => cases rx; rfl
theorem db_is {K : PySem.W.Frag} : DB K rIsM oIsB := by
  intro F H d x e y c Q fh rd re hc gv
  unfold oIsB at hc
  split at hc
  · rename_i b
    cases hc
    cases re
    refine ⟨b, rfl, gv.here fh ?_⟩
    cases d with
    | bl c => cases rd; cases c <;> cases b <;> rfl
    | non => cases rd; rfl
    | int _ => cases rd; rfl
    | str _ => cases rd; rfl
    | fn _ => cases rd; rfl
    | ty _ => cases rd; rfl
    | tup _ => obtain ⟨_, _, rfl, _⟩ := rd; rfl
    | lst _ => obtain ⟨_, _, rfl, _⟩ := rd; rfl
    | seq _ => obtain ⟨_, _, rfl, _⟩ := rd; rfl
    | dK _ => obtain ⟨_, _, rfl, _⟩ := rd; rfl
    | dT _ => obtain ⟨_, _, rfl, _⟩ := rd; rfl
  · cases hc
theorem d_isB (ha : PE X a (tD X.K E f)) (hb : PE X b (tD X.K E g)) : DC X E (.Compare a [.Is] [b] pos) (mOp oIsB f g) := de_cmp op_isM ha hb (nomark _) fun _ _ _ q => tD_op db_is q

/-! ### tests, and, or, not, if -/
def mAnd (t u : M Bool) : M Bool := bnd t fun b => if b = true then u else ret false
def mOr (t u : M Bool) : M Bool := bnd t fun b => if b = true then ret true else u
def mNot (t : M Bool) : M Bool := bnd t fun b => ret (!b)
def mIf {α : Type} (t : M Bool) (f g : M α) : M α := bnd t fun b => if b = true then f else g
section
variable {K : PySem.W.Frag} {F0 H0 F H : Hp} {ρ : Env} {σ : L2.St}
/-- the same state, another function -/
theorem tM_at {α β : Type} {R : RR α β} {f : M α} {r : Rs α} {Q : β → Hp → Prop} (rel : Rel K F0 H0 ρ F σ H) (e : f ρ = some r) (p : Post R K E F0 H0 F σ Q r) : tM R K E f σ H Q := ⟨F0, H0, ρ, F, r, rel, e, p⟩
end
variable {rest : List Expr}
theorem tT_bit {σ : L2.St} {H : Hp} {Q : Bool → Hp → Prop} {g : Bool → M Bool} {Q1 : Bool → Hp → Prop} (q : tT X.K E (bnd t g) σ H Q) (k : ∀ b H1, tT X.K E (g b) σ H1 Q → Q1 b H1) : tT X.K E t σ H Q1 := by
  obtain ⟨F0, H0, ρ, F, z, rel, e, p⟩ := q
  refine step rel e p fun ρ1 F1 H1 b v s1 rel1 ra e1 p1 ef1 => ?_
  cases ra
  exact k _ _ (tM_at rel1 e1 p1)
theorem tT_ret {σ : L2.St} {H : Hp} {Q : Bool → Hp → Prop} {b : Bool} (q : tT X.K E (ret b) σ H Q) : Q b H := by
  obtain ⟨F0, H0, ρ, F, z, rel, e, p⟩ := q
  cases e
  exact p _ _ _ (Same.refl _) rel rfl
theorem w_and1 (ha : PT X a (tT X.K E t)) : PW X (.BoolOp .And [a] pos) (tT X.K E t) := pw_and1 ha
theorem w_or1 (ha : PT X a (tT X.K E t)) : PW X (.BoolOp .Or [a] pos) (tT X.K E t) := pw_or1 ha
theorem w_and (ha : PT X a (tT X.K E t)) (hb : PW X (.BoolOp .And (b :: rest) pos) (tT X.K E u)) : PW X (.BoolOp .And (a :: b :: rest) pos) (tT X.K E (mAnd t u)) := PW.imp (pw_and ha hb) fun σ H Q q => tT_bit q fun b H1 q => by
  cases b with
  | true => exact iteT q
  | false => exact iteF (tT_ret q)
theorem w_or (ha : PT X a (tT X.K E t)) (hb : PW X (.BoolOp .Or (b :: rest) pos) (tT X.K E u)) : PW X (.BoolOp .Or (a :: b :: rest) pos) (tT X.K E (mOr t u)) := PW.imp (pw_or ha hb) fun σ H Q q => tT_bit q fun b H1 q => by
  cases b with
  | true => exact iteT (tT_ret q)
  | false => exact iteF q
theorem t_not (ha : PT X a (tT X.K E t)) : PT X (.UnaryOp .Not a pos) (tT X.K E (mNot t)) := PT.imp (pt_not ha) fun σ H Q q => tT_bit q fun b H1 q => tT_ret q
theorem d_if {c : Expr} (hc : PT X c (tT X.K E t)) (ha : PE X a (tD X.K E f)) (hb : PE X b (tD X.K E g)) : PE X (.IfExp c a b pos) (tD X.K E (mIf t f g)) := PE.imp (pe_ifExp hc ha hb) fun σ H Q ⟨F0, H0, ρ, F, z, rel, e, p⟩ => by
  refine step rel e p fun ρ1 F1 H1 d v s1 rel1 ra e1 p1 ef1 => ?_
  subst ra
  cases d with
  | true => exact iteT (tM_at rel1 e1 p1)
  | false => exact iteF (tM_at rel1 e1 p1)
theorem d_ifF {c : Expr} (hc : PT X c (tT X.K E t)) (ha : PE X a (tF X.K E f)) (hb : PE X b (tF X.K E g)) : PE X (.IfExp c a b pos) (tF X.K E (mIf t f g)) := PE.imp (pe_ifExp hc ha hb) fun σ H Q ⟨F0, H0, ρ, F, z, rel, e, p⟩ => by
  refine step rel e p fun ρ1 F1 H1 d v s1 rel1 ra e1 p1 ef1 => ?_
  subst ra
  cases d with
  | true => exact iteT (tM_at rel1 e1 p1)
  | false => exact iteF (tM_at rel1 e1 p1)
/-- and, or, not as values: bools but for the last -/
def mAndV (f g : M D) : M D := mIf (asB f) g (ret (.bl false))
def mOrV (f g : M D) : M D := mIf (asB f) (ret (.bl true)) g
def mNotV (f : M D) : M D := bnd (asB f) fun b => ret (.bl (!b))
theorem tD_asB {σ : L2.St} {H : Hp} {Q : VK} {k : Bool → M D} (q : tD X.K E (bnd (asB f) k) σ H Q) : tD X.K E f σ H fun x H1 => ∃ c, x = .bl c ∧ tD X.K E (k c) σ H1 Q := by
  have q' : tT X.K E (asB f) σ H fun c H1 => tD X.K E (k c) σ H1 Q := by
    obtain ⟨F0, H0, ρ, F, z, rel, e, p⟩ := q
    refine step rel e p fun ρ1 F1 H1 d v s1 rel1 ra e1 p1 ef1 => ?_
    cases ra
    exact tM_at rel1 e1 p1
  exact asB_sp q'
theorem tD_retb {σ : L2.St} {H : Hp} {Q : VK} {b : Bool} (q : tD X.K E (ret (.bl b)) σ H Q) : Q (.bl b) H := by
  obtain ⟨F0, H0, ρ, F, z, rel, e, p⟩ := q
  cases e
  exact p _ _ _ (Same.refl _) rel rfl
theorem d_one {op} (h : PE X a (tD X.K E f)) : PE X (.BoolOp op [a] pos) (tD X.K E f) := pe_one h
theorem d_and (ha : PE X a (tD X.K E f)) (hb : PE X (.BoolOp .And (b :: rest) pos) (tD X.K E g)) : PE X (.BoolOp .And (a :: b :: rest) pos) (tD X.K E (mAndV f g)) := PE.imp (pe_and ha hb) fun σ H Q q =>
  tM_imp (fun x H1 ⟨c, e, q⟩ => ⟨c, e, by
    cases c with
    | true => exact iteT q
    | false => exact iteF (tD_retb q)⟩) (tD_asB q)
theorem d_or (ha : PE X a (tD X.K E f)) (hb : PE X (.BoolOp .Or (b :: rest) pos) (tD X.K E g)) : PE X (.BoolOp .Or (a :: b :: rest) pos) (tD X.K E (mOrV f g)) := PE.imp (pe_or ha hb) fun σ H Q q =>
  tM_imp (fun x H1 ⟨c, e, q⟩ => ⟨c, e, by
    cases c with
    | true => exact iteT (tD_retb q)
    | false => exact iteF q⟩) (tD_asB q)
theorem d_not (ha : PE X a (tD X.K E f)) : PE X (.UnaryOp .Not a pos) (tD X.K E (mNotV f)) := PE.imp (pe_not ha) fun σ H Q q =>
  tM_imp (fun x H1 ⟨c, e, q⟩ => ⟨c, e, tD_retb q⟩) (tD_asB q)
end
end Dl
/-! Subscripts, membership, built-ins, calls of defs. -/
namespace Dl
open PySem PySem.Spec PyProof.Rows L2

/-! ### keys -/
def keyOf : D → Option Key
  | .int i => some (.inl i)
  | .str x => some (.inr x)
  | _ => none
def keysOf : List D → Option (List Key)
  | [] => some []
  | d :: ds => (keyOf d).bind fun k => (keysOf ds).map fun ks => k :: ks
def look {κ : Type} [DecidableEq κ] (kvs : List (κ × D)) (k : κ) : Option D := (kvs.find? fun p => decide (p.1 = k)).map (·.2)
section
variable {K : PySem.W.Frag} {F H : Hp}
theorem keyOf_rep {d : D} {v : V} {k : Key} (r : Rep K F d v) (e : keyOf d = some k) : v = kV k := by
  cases d with
  | int i => cases r; cases e; rfl
  | str x => cases r; cases e; rfl
  | _ => cases e
theorem keysOf_rep : ∀ {ds : List D} {vs : List V} {ks : List Key}, Reps K F ds vs → keysOf ds = some ks → vs = ks.map kV
  | [], _, _, r, e => by cases r; cases e; rfl
  | d :: ds, _, _, r, e => by
    obtain ⟨v, t, rfl, q, z⟩ := r
    unfold keysOf at e
    obtain ⟨k, e1, e2⟩ := Option.bind_eq_some_iff.mp e
    obtain ⟨qs, e3, rfl⟩ := Option.map_eq_some_iff.mp e2
    rw [keyOf_rep q e1, keysOf_rep z e3]
    rfl
theorem look_cons {κ : Type} [DecidableEq κ] {k k' : κ} {d : D} {r : List (κ × D)} : look ((k, d) :: r) k' = if k = k' then some d else look r k' := by
  unfold look
  rw [List.find?_cons]
  by_cases h : k = k' <;> simp [h]
theorem valV_cons {κ : Type} [DecidableEq κ] {k k' : κ} {d : V} {r : List (κ × V)} : valV ((k, d) :: r) k' = if k = k' then some d else valV r k' := by
  by_cases h : k = k'
  · rw [valV_pos (p := (k, d)) h, if_pos h]
  · rw [valV_neg (p := (k, d)) h, if_neg h]
theorem RepK.look : ∀ {kvs : List (Key × D)} {ks : List (Key × V)} (k : Key), RepK K F kvs ks → (∀ d, Dl.look kvs k = some d → ∃ v, valV ks k = some v ∧ Rep K F d v) ∧ (Dl.look kvs k = none → valV ks k = none)
  | [], _, k, r => by cases r; exact ⟨fun d e => (by cases e), fun _ => rfl⟩
  | (k0, d0) :: t, _, k, r => by
    obtain ⟨v, t', rfl, q, z⟩ := r
    rw [look_cons, valV_cons]
    by_cases h : k0 = k
    · rw [if_pos h, if_pos h]
      exact ⟨fun d e => by cases e; exact ⟨v, rfl, q⟩, fun e => by cases e⟩
    · rw [if_neg h, if_neg h]
      exact RepK.look k z
theorem RepT.look : ∀ {kvs : List (List Key × D)} {ks : List (List Key × V)} (k : List Key), RepT K F kvs ks → (∀ d, Dl.look kvs k = some d → ∃ v, valV ks k = some v ∧ Rep K F d v) ∧ (Dl.look kvs k = none → valV ks k = none)
  | [], _, k, r => by cases r; exact ⟨fun d e => (by cases e), fun _ => rfl⟩
  | (k0, d0) :: t, _, k, r => by
    obtain ⟨v, t', rfl, q, z⟩ := r
    rw [look_cons, valV_cons]
    by_cases h : k0 = k
    · rw [if_pos h, if_pos h]
      exact ⟨fun d e => by cases e; exact ⟨v, rfl, q⟩, fun e => by cases e⟩
    · rw [if_neg h, if_neg h]
      exact RepT.look k z
/-- what is looked at, by kinds -/
theorem RB.tup {ds : List D} {v : V} (r : RB K F H (.tup ds) v) (s : Same F H) : ∃ a vs, v = .ref a ∧ H a = some (.tup vs) ∧ Reps K F ds vs := by
  rcases r with ⟨a, vs, e, q, z⟩ | ⟨a, e, q⟩
  · exact ⟨a, vs, e, s _ _ q, z⟩
  · exact q.elim
theorem RB.dK {kvs : List (Key × D)} {v : V} (r : RB K F H (.dK kvs) v) (s : Same F H) : ∃ a ks, v = .ref a ∧ Rd H a (.dK ks) ∧ RepK K F kvs ks := by
  rcases r with ⟨a, vs, e, q, z⟩ | ⟨a, e, vs, q, z⟩
  · exact ⟨a, vs, e, (RdE.of s).rk _ _ q, z⟩
  · exact ⟨a, vs, e, .inl q, z⟩
theorem RB.dT {kvs : List (List Key × D)} {v : V} (r : RB K F H (.dT kvs) v) (s : Same F H) : ∃ a ks, v = .ref a ∧ Rd H a (.dT ks) ∧ RepT K F kvs ks := by
  rcases r with ⟨a, vs, e, q, z⟩ | ⟨a, e, vs, q, z⟩
  · exact ⟨a, vs, e, (RdE.of s).rt _ _ q, z⟩
  · exact ⟨a, vs, e, .inl q, z⟩
/-- the look-up of a dict, by data -/
def dLook : D → D → Option (Option D)
  | .dK kvs, k => (keyOf k).map fun q => look kvs q
  | .dT kvs, .tup ds => (keysOf ds).map fun q => look kvs q
  | _, _ => none
def Found (K : PySem.W.Frag) (F : Hp) (r : Option V) : Option D → Prop
  | some c => ∃ v, r = some v ∧ Rep K F c v
  | none => r = none
theorem dLook_get {d k : D} {x y : V} {o : Option D} (rd : RB K F H d x) (rk : Rep K F k y) (s : Same F H) (e : dLook d k = some o) :
    ∃ a r, x = .ref a ∧ DGet H a y r ∧ IsD H a ∧ Found K F r o := by
  unfold dLook at e
  split at e
  · rename_i kvs
    obtain ⟨q, e1, rfl⟩ := Option.map_eq_some_iff.mp e
    obtain ⟨a, ks, rfl, h, z⟩ := rd.dK s
    have hk := keyOf_rep rk e1
    obtain ⟨l1, l2⟩ := RepK.look q z
    refine ⟨a, valV ks q, rfl, .inl ⟨ks, q, h, hk, rfl⟩, .inl ⟨ks, h⟩, ?_⟩
    cases ho : look kvs q with
    | none => exact l2 ho
    | some c => exact l1 _ ho
  · rename_i kvs ds
    obtain ⟨q, e1, rfl⟩ := Option.map_eq_some_iff.mp e
    obtain ⟨a, ks, rfl, h, z⟩ := rd.dT s
    obtain ⟨b, vs, rfl, hb, zb⟩ := rk
    have hk := keysOf_rep zb e1
    obtain ⟨l1, l2⟩ := RepT.look q z
    refine ⟨a, valV ks q, rfl, .inr ⟨ks, q, b, h, rfl, by rw [s _ _ hb, hk], rfl⟩, .inr ⟨ks, h⟩, ?_⟩
    cases ho : look kvs q with
    | none => exact l2 ho
    | some c => exact l1 _ ho
  · cases e
end
/-! ### o[i] -/
def atD (ds : List D) (i : Int) : Option D := (ixN ds.length i).bind fun j => ds[j]?
/-- the item, the value at a key -/
def oIx : D → D → Option D
  | .lst ds, .int i => atD ds i
  | .seq ds, .int i => atD ds i
  | .tup ds, .int i => atD ds i
  | .dK kvs, k => (dLook (.dK kvs) k).bind id
  | .dT kvs, k => (dLook (.dT kvs) k).bind id
  | _, _ => none
def isDct : D → Bool
  | .dK _ => true
  | .dT _ => true
  | _ => false
section
variable {K : PySem.W.Frag} {F H : Hp}
theorem atD_rep {ds : List D} {vs : List V} {i : Int} {c : D} (z : Reps K F ds vs) (h : atD ds i = some c) : ∃ v, atI vs i = some v ∧ Rep K F c v := by
  unfold atD at h
  obtain ⟨j, e1, e2⟩ := Option.bind_eq_some_iff.mp h
  obtain ⟨v, e3, r⟩ := z.get e2
  exact ⟨v, by unfold atI; rw [← z.len, e1]; exact e3, r⟩
theorem ix_seqs {d e : D} {x y : V} {c : D} {Q : VK} (nd : isDct d = false) (fh : Same F H) (rd : RB K F H d x) (re : RB K F H e y) (hc : oIx d e = some c) (gv : Giv K F H c Q) : rIxL K x y H Q ∨ rIxT K x y H Q := by
  unfold oIx at hc
  split at hc
  · obtain ⟨a, vs, rfl, h, z⟩ := rd.sq rfl fh
    cases re.rep fh
    obtain ⟨v, e1, r⟩ := atD_rep z hc
    exact .inl ⟨a, vs, _, v, rfl, rfl, h, e1, gv.here fh r⟩
  · obtain ⟨a, vs, rfl, h, z⟩ := rd.sq rfl fh
    cases re.rep fh
    obtain ⟨v, e1, r⟩ := atD_rep z hc
    exact .inl ⟨a, vs, _, v, rfl, rfl, h, e1, gv.here fh r⟩
  · obtain ⟨a, vs, rfl, h, z⟩ := rd.tup fh
    cases re.rep fh
    obtain ⟨v, e1, r⟩ := atD_rep z hc
    exact .inr ⟨a, vs, _, v, rfl, rfl, SqT.of h, e1, gv.here fh r⟩
  · cases nd
  · cases nd
  · cases hc
theorem ix_dicts {d e : D} {x y : V} {c : D} {Q : VK} (nd : isDct d = true) (fh : Same F H) (rd : RB K F H d x) (re : Rep K F e y) (hc : oIx d e = some c) (gv : Giv K F H c Q) : ∃ a v, x = .ref a ∧ DGet H a y (some v) ∧ Q v H := by
  have go : (dLook d e).bind id = some c := by
    cases d with
    | dK _ => exact hc
    | dT _ => exact hc
    | _ => cases nd
  obtain ⟨o, e1, e2⟩ := Option.bind_eq_some_iff.mp go
  cases (show o = some c from e2)
  obtain ⟨a, r, rfl, g, _, v, rfl, rc⟩ := dLook_get rd re fh e1
  exact ⟨a, v, rfl, g, gv.here fh rc⟩
end
section
variable {X : Cx} {E : XK} {a b c e o i : Expr} {es : List Expr} {pos : Pos} {f g h : M D} {l : M (List D)} {t u : M Bool}
theorem PE.or {t u : TE} (h1 : PE X e t) (h2 : PE X e u) : PE X e fun σ H Q => t σ H Q ∨ u σ H Q := ⟨fun pins s σ H Q I h => h.elim (h1.run pins s σ H Q I) (h2.run pins s σ H Q I)⟩
/-- o[i]: a list, a tuple, a dict -/
theorem d_ix {k : Nat} (hr : Room k X.A) (pu : Pu g) (ha : PE X a (tB X.K E f)) (hb : PE X b (tD X.K E g)) (hs : PlainIx b := by intro _ _; rfl) : PE X (.Subscript a b pos) (tD X.K E (mOp oIx f g)) :=
  PE.imp (PE.or (pe_ix (ix_list.or ix_tup) ha hb hs) (pe_dget (hu_of (k := k) hr) ha hb hs)) fun σ H Q ⟨F0, H0, ρ, F, z, rel, e, p⟩ => by
    have key : ∀ (nd : Bool), (∀ d ρ1, f ρ = some (.ok d ρ1) → isDct d = nd) → (nd = false → tOp (fun x y H Q => rIxL X.K x y H Q ∨ rIxT X.K x y H Q) (tB X.K E f) (tD X.K E g) σ H Q) ∧ (nd = true → tDGet (tB X.K E f) (tD X.K E g) σ H Q) := fun nd hn => by
      refine ⟨fun en => ?_, fun en => ?_⟩
      · refine step rel e p fun ρ1 F1 H1 d v s1 rel1 ra e1 p1 ef1 => step rel1 e1 p1 fun ρ2 F2 H2 k w s2 rel2 rb e2 p2 ef2 => ?_
        cases pu _ _ _ ef2
        obtain ⟨c, ec, gv⟩ := Post.giv e2 rel2 p2
        exact ix_seqs ((hn _ _ ef1).trans en) rel2.fh (rel2.rb (rB_keep ra s2)) (.inl rb) ec gv
      · refine step rel e p fun ρ1 F1 H1 d v s1 rel1 ra e1 p1 ef1 => step rel1 e1 p1 fun ρ2 F2 H2 k w s2 rel2 rb e2 p2 ef2 => ?_
        cases pu _ _ _ ef2
        obtain ⟨c, ec, gv⟩ := Post.giv e2 rel2 p2
        exact ix_dicts ((hn _ _ ef1).trans en) rel2.fh (rel2.rb (rB_keep ra s2)) rb ec gv
    cases ef : f ρ with
    | none => exact .inl ((key false fun d ρ1 q => by rw [ef] at q; cases q).1 rfl)
    | some r =>
      cases r with
      | ex c d => exact .inl ((key false fun d ρ1 q => by rw [ef] at q; cases q).1 rfl)
      | ok d ρ1 =>
        cases hd : isDct d with
        | false => exact .inl ((key false fun d' ρ1' q => by rw [ef] at q; cases q; exact hd).1 rfl)
        | true => exact .inr ((key true fun d' ρ1' q => by rw [ef] at q; cases q; exact hd).2 rfl)
/-- len -/
def oLen : D → Option D
  | .lst ds => some (.int ds.length)
  | .seq ds => some (.int ds.length)
  | .tup ds => some (.int ds.length)
  | _ => none
theorem RepK.len {K : PySem.W.Frag} {F : Hp} : ∀ {ds : List (Key × D)} {vs : List (Key × V)}, RepK K F ds vs → ds.length = vs.length
  | [], _, r => by cases r; rfl
  | (_, _) :: ds, _, r => by
    obtain ⟨v, t, rfl, _, z⟩ := r
    simp [RepK.len z]
theorem RepT.len {K : PySem.W.Frag} {F : Hp} : ∀ {ds : List (List Key × D)} {vs : List (List Key × V)}, RepT K F ds vs → ds.length = vs.length
  | [], _, r => by cases r; rfl
  | (_, _) :: ds, _, r => by
    obtain ⟨v, t, rfl, _, z⟩ := r
    simp [RepT.len z]
/-- f(e) by what e's value is: the argument is but looked at -/
theorem d_call1B {x : Str} {p : Pos} {id : String} {r : List V → Hp → VK → Prop} {k : D → Option D} (hc : CallR X (.builtin id) r) (dr : DUb X.K (fun x H Q => r [x] H Q) k) (hg : Gl X x) (hm : X.mg x = none) (hv : bootBuiltins x = some (.builtin id)) (ha : PE X e (tB X.K E f))
    (hn : x ≠ "__name__" := by decide) (hdb : (x == ("__debug__" : Str)) = false := by decide) (he : starEach [e] X.env = (false, eval e X.env) :: starEach [] X.env := by rfl) (hpl : (backTo pos (starEach [] X.env)).any (·.1) = false := by rfl) :
    PE X (.Call (.Name x p) [e] [] pos) (tD X.K E (mUn k f)) := PE.imp (pe_callB hc hg hm hv (pa_cons ha pa_nil he) hn hdb he hpl) fun σ H Q q => tB_un dr q
theorem d_call1T {x : Str} {p : Pos} {T : String} {r : List V → Hp → VK → Prop} {k : D → Option D} (hc : CallR X (.type T) r) (dr : DUb X.K (fun x H Q => r [x] H Q) k) (hg : Gl X x) (hm : X.mg x = none) (hv : bootBuiltins x = some (.type T)) (ha : PE X e (tB X.K E f))
    (hn : x ≠ "__name__" := by decide) (hdb : (x == ("__debug__" : Str)) = false := by decide) (he : starEach [e] X.env = (false, eval e X.env) :: starEach [] X.env := by rfl) (hpl : (backTo pos (starEach [] X.env)).any (·.1) = false := by rfl) :
    PE X (.Call (.Name x p) [e] [] pos) (tD X.K E (mUn k f)) := PE.imp (pe_callTy hc hg hm hv (pa_cons ha pa_nil he) hn hdb he hpl) fun σ H Q q => tB_un dr q
theorem CallR.or {f : Value} {r r' : List V → Hp → VK → Prop} (h : CallR X f r) (h' : CallR X f r') : CallR X f fun xs H Q => r xs H Q ∨ r' xs H Q := fun pins s σ H xs us Q I v q => q.elim (h pins s σ H xs us Q I v) (h' pins s σ H xs us Q I v)
theorem dub_len {K : PySem.W.Frag} : DUb K (fun x H Q => (∃ p ys, [x] = [V.ref p] ∧ (SqL K H p ys ∨ SqT K H p ys) ∧ Q (.int ys.length) H) ∨ rLenT [x] H Q) oLen := by
  intro F H d x c Q fh rd hc gv
  unfold oLen at hc
  split at hc
  · cases hc
    obtain ⟨a, vs, rfl, h, z⟩ := rd.sq rfl fh
    exact .inl ⟨a, vs, rfl, .inl h, gv.here fh (by rw [z.len]; rfl)⟩
  · cases hc
    obtain ⟨a, vs, rfl, h, z⟩ := rd.sq rfl fh
    exact .inl ⟨a, vs, rfl, .inl h, gv.here fh (by rw [z.len]; rfl)⟩
  · cases hc
    obtain ⟨a, vs, rfl, h, z⟩ := rd.tup fh
    exact .inl ⟨a, vs, rfl, .inr (SqT.of h), gv.here fh (by rw [z.len]; rfl)⟩
  · cases hc
theorem d_len {p : Pos} (hg : Gl X "len") (hm : X.mg "len" = none) (ha : PE X e (tB X.K E f)) (he : starEach [e] X.env = (false, eval e X.env) :: starEach [] X.env := by rfl) :
    PE X (.Call (.Name "len" p) [e] [] pos) (tD X.K E (mUn oLen f)) := d_call1B (call_len_seq.or call_len_dT) dub_len hg hm boot_len ha (by decide) (by decide) he rfl
end
end Dl
/-! Statements, calls of defs, promises. -/
namespace Dl
open PySem PySem.Spec PyProof.Rows L2

/-! ### how a statement ends -/
inductive Ou where
  | nx (ρ : Env)
  | rt (d : D) (ρ : Env)
  | rf (d : D) (ρ : Env)
  | bk (ρ : Env)
  | ct (ρ : Env)
  | ex (c : String) (d : D)
abbrev S := Env → Option Ou
def PostS (K : PySem.W.Frag) (E : XK) (F0 H0 F : Hp) (Dn : Ends) : Ou → Prop
  | .nx ρ' => ∀ σ' F' H', Same F F' → Rel K F0 H0 ρ' F' σ' H' → Dn.nx σ' H'
  | .bk ρ' => ∀ σ' F' H', Same F F' → Rel K F0 H0 ρ' F' σ' H' → Dn.bk σ' H'
  | .ct ρ' => ∀ σ' F' H', Same F F' → Rel K F0 H0 ρ' F' σ' H' → Dn.ct σ' H'
  | .rt d ρ' => ∀ v σ' F' H', Same F F' → Rel K F0 H0 ρ' F' σ' H' → Rep K F' d v → Dn.rt v H'
  | .rf d ρ' => ∀ v σ' F' H', Same F F' → Rel K F0 H0 ρ' F' σ' H' → rF K H0 ρ' σ' F' H' d v → Dn.rt v H'
  | .ex c d => PostX K E F0 H0 F c d
def tS (K : PySem.W.Frag) (E : XK) (g : S) : TS := fun D σ H => ∃ F0 H0 ρ F r, Rel K F0 H0 ρ F σ H ∧ g ρ = some r ∧ PostS K E F0 H0 F D r
section
variable {K : PySem.W.Frag} {E : XK} {F0 H0 F H F' H' : Hp} {ρ : Env} {σ : L2.St} {Dn : Ends}
theorem PostS.weak (s : Same F F') : ∀ {r : Ou}, PostS K E F0 H0 F Dn r → PostS K E F0 H0 F' Dn r
  | .nx _, h => fun σ' G J z => h σ' G J (s.trans z)
  | .bk _, h => fun σ' G J z => h σ' G J (s.trans z)
  | .ct _, h => fun σ' G J z => h σ' G J (s.trans z)
  | .rt _ _, h => fun v σ' G J z => h v σ' G J (s.trans z)
  | .rf _ _, h => fun v σ' G J z => h v σ' G J (s.trans z)
  | .ex _ _, h => PostX.weak h s
theorem tS_at {g : S} {r : Ou} (rel : Rel K F0 H0 ρ F σ H) (e : g ρ = some r) (p : PostS K E F0 H0 F Dn r) : tS K E g Dn σ H := ⟨F0, H0, ρ, F, r, rel, e, p⟩
/-- an expression ahead of the rest of a statement -/
def thenS {α : Type} (m : M α) (k : α → S) : S := fun ρ => match m ρ with
  | none => none
  | some (.ex c d) => some (.ex c d)
  | some (.ok a ρ') => k a ρ'
theorem stepS {α β : Type} {R : RR α β} {f : M α} {g : α → S} {Q1 : β → Hp → Prop} {r : Ou} (rel : Rel K F0 H0 ρ F σ H) (e : thenS f g ρ = some r) (p : PostS K E F0 H0 F Dn r)
    (k : ∀ ρ1 F1 H1 a v, Same F F1 → Rel K F0 H0 ρ1 F1 σ H1 → R H0 ρ1 σ F1 H1 a v → g a ρ1 = some r → PostS K E F0 H0 F1 Dn r → f ρ = some (.ok a ρ1) → Q1 v H1) : tM R K E f σ H Q1 := by
  unfold thenS at e
  cases ef : f ρ with
  | none => rw [ef] at e; cases e
  | some q =>
    rw [ef] at e
    refine ⟨F0, H0, ρ, F, q, rel, ef, ?_⟩
    cases q with
    | ex c d => cases e; exact p
    | ok a ρ1 => exact fun v F1 H1 s1 rel1 r1 => k ρ1 F1 H1 a v s1 rel1 r1 e (p.weak s1) ef
/-- a slot is written with frozen data -/
theorem Rel.put (rel : Rel K F0 H0 ρ F σ H) {i : Nat} {d : D} {v : V} (r : Rep K F d v) : Rel K F0 H0 (ρ.set i (.sh d)) F (σ.set i (some v)) H := by
  refine ⟨rel.ext, by rw [List.length_set, List.length_set]; exact rel.len, fun j s w q1 q2 => ?_, fun j k t u d' e' c q1 q2 q3 q4 => ?_, rel.tt⟩
  · by_cases hj : j = i
    · subst hj
      have h1 := (List.getElem?_eq_some_iff.mp q1).1
      rw [List.length_set] at h1
      rw [List.getElem?_set_self h1] at q1
      rw [List.getElem?_set_self (by rw [rel.len]; exact h1)] at q2
      cases q1
      cases q2
      exact ⟨v, rfl, r⟩
    · rw [List.getElem?_set_ne (Ne.symm hj)] at q1 q2
      exact rel.sl j s w q1 q2
  · have key : ∀ (j : Nat) (t : Option Addr) (d' : D), (ρ.set i (.sh d))[j]? = some (.ow t d') → j ≠ i ∧ ρ[j]? = some (.ow t d') := fun j t d' q => by
      by_cases hj : j = i
      · subst hj
        have h1 := (List.getElem?_eq_some_iff.mp q).1
        rw [List.length_set] at h1
        rw [List.getElem?_set_self h1] at q
        cases q
      · exact ⟨hj, by rwa [List.getElem?_set_ne (Ne.symm hj)] at q⟩
    obtain ⟨n1, e1⟩ := key _ _ _ q1
    obtain ⟨n2, e2⟩ := key _ _ _ q2
    rw [List.getElem?_set_ne (Ne.symm n1)] at q3
    rw [List.getElem?_set_ne (Ne.symm n2)] at q4
    exact rel.ap j k t u d' e' c e1 e2 q3 q4
/-- .. with a new container -/
theorem Rel.putF (rel : Rel K F0 H0 ρ F σ H) {i : Nat} {d : D} {v : V} (r : rF K H0 ρ σ F H d v) : Rel K F0 H0 (ρ.set i (.ow none d)) F (σ.set i (some v)) H := by
  obtain ⟨a, rfl, fa, ha0, ow, ns⟩ := r
  refine ⟨rel.ext, by rw [List.length_set, List.length_set]; exact rel.len, fun j s w q1 q2 => ?_, fun j k t u d' e' c q1 q2 q3 q4 => ?_, rel.tt⟩
  · by_cases hj : j = i
    · subst hj
      have h1 := (List.getElem?_eq_some_iff.mp q1).1
      rw [List.length_set] at h1
      rw [List.getElem?_set_self h1] at q1
      rw [List.getElem?_set_self (by rw [rel.len]; exact h1)] at q2
      cases q1
      cases q2
      exact ⟨a, rfl, fa, ha0, ow, fun b e => nomatch e⟩
    · rw [List.getElem?_set_ne (Ne.symm hj)] at q1 q2
      exact rel.sl j s w q1 q2
  · have key : ∀ (j : Nat) (t : Option Addr) (d' : Dl.D), (ρ.set i (.ow none d))[j]? = some (.ow t d') → (σ.set i (some (V.ref a)))[j]? = some (some (V.ref c)) → (j = i ∧ c = a) ∨ (j ≠ i ∧ ρ[j]? = some (.ow t d') ∧ σ[j]? = some (some (V.ref c))) := fun j t d' q z => by
      by_cases hj : j = i
      · subst hj
        have h1 := (List.getElem?_eq_some_iff.mp q).1
        rw [List.length_set] at h1
        rw [List.getElem?_set_self (by rw [rel.len]; exact h1)] at z
        cases z
        exact .inl ⟨rfl, rfl⟩
      · rw [List.getElem?_set_ne (Ne.symm hj)] at q z
        exact .inr ⟨hj, q, z⟩
    rcases key _ _ _ q1 q3 with ⟨rfl, rfl⟩ | ⟨n1, e1, e3⟩
    · rcases key _ _ _ q2 q4 with ⟨rfl, _⟩ | ⟨n2, e2, e4⟩
      · rfl
      · exact (ns _ _ _ e2 e4).elim
    · rcases key _ _ _ q2 q4 with ⟨rfl, rfl⟩ | ⟨n2, e2, e4⟩
      · exact (ns _ _ _ e1 e3).elim
      · exact rel.ap _ _ _ _ _ _ _ e1 e2 e3 e4
end

/-! ### statements -/
section
variable {X : Cx} {E : XK} {a b c e o i : Expr} {es : List Expr} {pos : Pos} {st : Stmt} {rest : List Stmt} {f g h : M D} {l : M (List D)} {t u : M Bool} {p q : S}
def sNil : S := fun ρ => some (.nx ρ)
def sSeq (p q : S) : S := fun ρ => match p ρ with
  | some (.nx ρ') => q ρ'
  | r => r
theorem s_nil : PSs X [] (tS X.K E sNil) := PSs.imp pss_nil fun D σ H ⟨F0, H0, ρ, F, z, rel, e, p⟩ => by
  cases e
  exact p σ F H (Same.refl F) rel
theorem s_cons (h1 : PS X st (tS X.K E p)) (h2 : PSs X rest (tS X.K E q)) : PSs X (st :: rest) (tS X.K E (sSeq p q)) := PSs.imp (pss_cons h1 h2) fun D σ H ⟨F0, H0, ρ, F, z, rel, e, po⟩ => by
  unfold sSeq at e
  cases ep : p ρ with
  | none => rw [ep] at e; cases e
  | some r =>
    rw [ep] at e
    refine ⟨F0, H0, ρ, F, r, rel, ep, ?_⟩
    cases r with
    | nx ρ1 => exact fun σ' F' H' s rel' => tS_at rel' e (po.weak s)
    | _ => cases e; exact po
theorem s_one (h1 : PS X st (tS X.K E p)) : PSs X [st] (tS X.K E p) := pss_one h1
def sRet (f : M D) : S := thenS f fun d ρ => some (.rt d ρ)
theorem s_ret (he : PE X e (tD X.K E f)) : PS X (.Return (some e) pos) (tS X.K E (sRet f)) := PS.imp (ps_ret he) fun D σ H ⟨F0, H0, ρ, F, z, rel, e, p⟩ => by
  refine stepS rel e p fun ρ1 F1 H1 d v s1 rel1 ra e1 p1 ef1 => ?_
  cases e1
  exact p1 v σ F1 H1 (Same.refl _) rel1 ra
def sRetF (f : M D) : S := thenS f fun d ρ => some (.rf d ρ)
theorem s_retF (he : PE X e (tF X.K E f)) : PS X (.Return (some e) pos) (tS X.K E (sRetF f)) := PS.imp (ps_ret he) fun D σ H ⟨F0, H0, ρ, F, z, rel, e, p⟩ => by
  refine stepS rel e p fun ρ1 F1 H1 d v s1 rel1 ra e1 p1 ef1 => ?_
  cases e1
  exact p1 v σ F1 H1 (Same.refl _) rel1 ra
def sExpr {α : Type} (f : M α) : S := thenS f fun _ ρ => some (.nx ρ)
theorem s_expr (he : PE X e (tD X.K E f)) (hs : swapsWith e none pos.line X.env = pure false := by rfl) : PS X (.Expr e pos) (tS X.K E (sExpr f)) := PS.imp (ps_expr he hs) fun D σ H ⟨F0, H0, ρ, F, z, rel, e, p⟩ => by
  refine stepS rel e p fun ρ1 F1 H1 d v s1 rel1 ra e1 p1 ef1 => ?_
  cases e1
  exact p1 σ F1 H1 (Same.refl _) rel1
def sIf (t : M Bool) (p q : S) : S := thenS t fun b => if b = true then p else q
theorem s_if {ss tt : List Stmt} (hc : PT X c (tT X.K E t)) (ha : PSs X ss (tS X.K E p)) (hb : PSs X tt (tS X.K E q)) : PS X (.If c ss tt pos) (tS X.K E (sIf t p q)) := PS.imp (ps_if hc ha hb) fun D σ H ⟨F0, H0, ρ, F, z, rel, e, p⟩ => by
  refine stepS rel e p fun ρ1 F1 H1 d v s1 rel1 ra e1 p1 ef1 => ?_
  subst ra
  cases d with
  | true => exact iteT (tS_at rel1 e1 p1)
  | false => exact iteF (tS_at rel1 e1 p1)
def sPass : S := fun ρ => some (.nx ρ)
def sBrk : S := fun ρ => some (.bk ρ)
def sCnt : S := fun ρ => some (.ct ρ)
theorem s_pass : PS X (.Pass pos) (tS X.K E sPass) := PS.imp ps_pass fun D σ H ⟨F0, H0, ρ, F, z, rel, e, p⟩ => by cases e; exact p σ F H (Same.refl F) rel
theorem s_brk : PS X (.Break pos) (tS X.K E sBrk) := PS.imp ps_break fun D σ H ⟨F0, H0, ρ, F, z, rel, e, p⟩ => by cases e; exact p σ F H (Same.refl F) rel
theorem s_cnt : PS X (.Continue pos) (tS X.K E sCnt) := PS.imp ps_continue fun D σ H ⟨F0, H0, ρ, F, z, rel, e, p⟩ => by cases e; exact p σ F H (Same.refl F) rel
/-- x = e -/
def setE (i : Nat) (s : SL) (ρ : Env) : Option Env := if i < ρ.length then some (ρ.set i s) else none
def sSet (i : Nat) (f : M D) : S := thenS f fun d ρ => some (.nx (ρ.set i (.sh d)))
def sSetF (i : Nat) (f : M D) : S := thenS f fun d ρ => some (.nx (ρ.set i (.ow none d)))
theorem s_set {i : Nat} {x : Str} {pos' : Pos} (hN : X.N.Nodup) (hi : X.N[i]? = some x) (hx : Loc X.env.scope x) (he : PE X e (tD X.K E f)) (hs : swapsWith e (some (.Name x pos')) pos.line X.env = pure false := by rfl)
    (hf : X.fn x = true ∨ X.env.scope.names.lookup x = some .local := by first | exact .inl rfl | exact .inr rfl | assumption) : PS X (.Assign [.Name x pos'] e pos) (tS X.K E (sSet i f)) := PS.imp (ps_set hN hi hx he hs hf) fun D σ H ⟨F0, H0, ρ, F, z, rel, e, p⟩ => by
  refine stepS rel e p fun ρ1 F1 H1 d v s1 rel1 ra e1 p1 ef1 => ?_
  cases e1
  exact p1 _ F1 H1 (Same.refl _) (rel1.put ra)
theorem s_setF {i : Nat} {x : Str} {pos' : Pos} (hN : X.N.Nodup) (hi : X.N[i]? = some x) (hx : Loc X.env.scope x) (he : PE X e (tF X.K E f)) (hs : swapsWith e (some (.Name x pos')) pos.line X.env = pure false := by rfl)
    (hf : X.fn x = true ∨ X.env.scope.names.lookup x = some .local := by first | exact .inl rfl | exact .inr rfl | assumption) : PS X (.Assign [.Name x pos'] e pos) (tS X.K E (sSetF i f)) := PS.imp (ps_set hN hi hx he hs hf) fun D σ H ⟨F0, H0, ρ, F, z, rel, e, p⟩ => by
  refine stepS rel e p fun ρ1 F1 H1 d v s1 rel1 ra e1 p1 ef1 => ?_
  cases e1
  exact p1 _ F1 H1 (Same.refl _) (rel1.putF ra)

/-! ### targets -/
abbrev TgE := D → Env → Option Env
/-- the same but for some places -/
def But {α : Type} (ws : List Nat) (l l' : List α) : Prop := l'.length = l.length ∧ ∀ j, j ∉ ws → l'[j]? = l[j]?
theorem But.refl {α : Type} {ws : List Nat} (l : List α) : But ws l l := ⟨rfl, fun _ _ => rfl⟩
theorem But.trans {α : Type} {ws ws' : List Nat} {a b c : List α} (h : But ws a b) (g : But ws' b c) : But (ws ++ ws') a c :=
  ⟨g.1.trans h.1, fun j hj => (g.2 j fun z => hj (List.mem_append_right _ z)).trans (h.2 j fun z => hj (List.mem_append_left _ z))⟩
theorem But.set {α : Type} {l : List α} {i : Nat} {x : α} : But [i] l (l.set i x) := ⟨List.length_set, fun j hj => List.getElem?_set_ne (by simpa using Ne.symm (by simpa using hj : j ≠ i))⟩
/-- a target that writes the slots ws -/
def tG (K : PySem.W.Frag) (k : TgE) (ws : List Nat) : TG := fun v σ H Q => ∃ F0 H0 ρ F d ρ', Rel K F0 H0 ρ F σ H ∧ Rep K F d v ∧ k d ρ = some ρ' ∧ ∀ σ' F' H', Same F F' → Rel K F0 H0 ρ' F' σ' H' → But ws σ σ' → Q σ' H'
def TgOk (k : TgE) (ws : List Nat) : Prop := ∀ d ρ ρ', k d ρ = some ρ' → But ws ρ ρ'
def gNm (i : Nat) : TgE := fun d ρ => some (ρ.set i (.sh d))
theorem PG.imp {tg : Expr} {t t' : TG} (h : PG X tg t) (i : ∀ v σ H Q, t' v σ H Q → t v σ H Q) : PG X tg t' := ⟨fun pins s σ H v u Q I r q => h.run pins s σ H v u Q I r (i _ _ _ _ q)⟩
theorem PGs.imp {tg : List Expr} {t t' : TGs} (h : PGs X tg t) (i : ∀ v σ H Q, t' v σ H Q → t v σ H Q) : PGs X tg t' := ⟨fun pins s σ H v u Q I r q => h.run pins s σ H v u Q I r (i _ _ _ _ q)⟩
theorem g_nm {i : Nat} {x : Str} (hN : X.N.Nodup) (hi : X.N[i]? = some x) (hx : Loc X.env.scope x) (hf : X.fn x = true ∨ X.env.scope.names.lookup x = some .local := by first | exact .inl rfl | exact .inr rfl | assumption) : PG X (.Name x pos) (tG X.K (gNm i) [i]) :=
  PG.imp (pg_name hN hi hx hf) fun v σ H Q ⟨F0, H0, ρ, F, d, ρ', rel, r, e, k⟩ => by
    cases e
    exact k _ F H (Same.refl F) (rel.put r) But.set
theorem tg_nm {i : Nat} : TgOk (gNm i) [i] := fun d ρ ρ' e => by cases e; exact But.set
abbrev TgsE := List D → Env → Option Env
def tGs (K : PySem.W.Frag) (k : TgsE) (ws : List Nat) : TGs := fun v σ H Q => ∃ F0 H0 ρ F d ρ', Rel K F0 H0 ρ F σ H ∧ Reps K F d v ∧ k d ρ = some ρ' ∧ ∀ σ' F' H', Same F F' → Rel K F0 H0 ρ' F' σ' H' → But ws σ σ' → Q σ' H'
def TgsOk (k : TgsE) (ws : List Nat) : Prop := ∀ d ρ ρ', k d ρ = some ρ' → But ws ρ ρ'
def gsNil : TgsE
  | [], ρ => some ρ
  | _ :: _, _ => none
def gsCons (k : TgE) (ks : TgsE) : TgsE
  | [], _ => none
  | d :: ds, ρ => (k d ρ).bind fun ρ' => ks ds ρ'
theorem gs_nil : PGs X [] (tGs X.K gsNil []) := PGs.imp pgs_nil fun v σ H Q ⟨F0, H0, ρ, F, d, ρ', rel, r, e, k⟩ => by
  cases d with
  | nil => cases e; exact ⟨r, k _ F H (Same.refl F) rel (But.refl _)⟩
  | cons _ _ => cases e
theorem gs_cons {k : TgE} {ks : TgsE} {w ws : List Nat} (h1 : PG X e (tG X.K k w)) (h2 : PGs X es (tGs X.K ks ws)) (hs : (assignEach (e :: es) X.env).map (·.2) = assign e X.env :: (assignEach es X.env).map (·.2) := by rfl) : PGs X (e :: es) (tGs X.K (gsCons k ks) (w ++ ws)) :=
  PGs.imp (pgs_cons h1 h2 hs) fun v σ H Q ⟨F0, H0, ρ, F, d, ρ', rel, r, e, k⟩ => by
    cases d with
    | nil => cases e
    | cons d ds =>
      obtain ⟨x, t, rfl, r1, r2⟩ := r
      obtain ⟨ρ1, e1, e2⟩ := Option.bind_eq_some_iff.mp e
      exact ⟨x, t, rfl, F0, H0, ρ, F, d, ρ1, rel, r1, e1, fun σ' F' H' s rel' b1 => ⟨F0, H0, ρ1, F', ds, ρ', rel', Reps.mono (.of s) r2, e2, fun σ2 F2 H2 s2 rel2 b2 => k _ _ _ (s.trans s2) rel2 (b1.trans b2)⟩⟩
theorem tgs_nil : TgsOk gsNil [] := fun d ρ ρ' e => by
  cases d with
  | nil => cases e; exact But.refl _
  | cons _ _ => cases e
theorem tgs_cons {k : TgE} {ks : TgsE} {w ws : List Nat} (h1 : TgOk k w) (h2 : TgsOk ks ws) : TgsOk (gsCons k ks) (w ++ ws) := fun d ρ ρ' e => by
  cases d with
  | nil => cases e
  | cons d ds =>
    obtain ⟨ρ1, e1, e2⟩ := Option.bind_eq_some_iff.mp e
    exact (h1 _ _ _ e1).trans (h2 _ _ _ e2)
def gTp (n : Nat) (ks : TgsE) : TgE
  | .tup ds, ρ => if ds.length = n then ks ds ρ else none
  | _, _ => none
theorem tg_tup {ks : TgsE} {n : Nat} {ws : List Nat} (h : TgsOk ks ws) : TgOk (gTp n ks) ws := fun d ρ ρ' e => by
  unfold gTp at e
  split at e
  · split at e
    · exact h _ _ _ e
    · cases e
  · cases e
theorem g_tup {k : Nat} {ks : TgsE} {n : Nat} {ws : List Nat} (hc : X.calm = true) (h : PGs X es (tGs X.K ks ws)) (hn : (assignEach es X.env).length = n := by rfl) (hst : (assignEach es X.env).findIdx? (·.1) = none := by rfl) : PG X (.Tuple es k pos) (tG X.K (gTp n ks) ws) :=
  PG.imp (pg_tup hc h hn hst) fun v σ H Q ⟨F0, H0, ρ, F, d, ρ', rel, r, e, k⟩ => by
    unfold gTp at e
    split at e
    · split at e
      · rename_i hl
        obtain ⟨a, vs, rfl, q, z⟩ := r
        exact ⟨a, vs, rfl, SqT.of (rel.fh _ _ q), by rw [← z.len]; exact hl, F0, H0, ρ, F, _, ρ', rel, z, e, k⟩
      · cases e
    · cases e
/-- target = e -/
def sAsg (k : TgE) (f : M D) : S := thenS f fun d ρ => (k d ρ).map .nx
theorem s_asg {tg : Expr} {k : TgE} {ws : List Nat} (he : PE X e (tD X.K E f)) (hg : PG X tg (tG X.K k ws)) (hs : swapsWithSole [tg] e pos.line X.env = pure false := by rfl) (hw : swappedStores [tg] e X.env = pure none := by rfl) (h1 : (assignEach [tg] X.env).map (·.2) = [assign tg X.env] := by rfl) :
    PS X (.Assign [tg] e pos) (tS X.K E (sAsg k f)) := PS.imp (ps_asg he hg hs hw h1) fun D σ H ⟨F0, H0, ρ, F, z, rel, e, p⟩ => by
  refine stepS rel e p fun ρ1 F1 H1 d v s1 rel1 ra e1 p1 ef1 => ?_
  obtain ⟨ρ', e2, rfl⟩ := Option.map_eq_some_iff.mp e1
  exact ⟨F0, H0, ρ1, F1, d, ρ', rel1, ra, e2, fun σ' F' H' s rel' _ => p1 σ' F' H' s rel'⟩
/-- a, b = x, y -/
def sPar (i j : Nat) (l : M (List D)) : S := thenS l fun ds ρ => match ds with
  | [d, d'] => some (.nx ((ρ.set i (.sh d)).set j (.sh d')))
  | _ => none
theorem s_par {i j : Nat} {x y : Str} {px py pt : Pos} {kt k2 pt2} (hc : X.calm = true) (hN : X.N.Nodup) (hi : X.N[i]? = some x) (hj : X.N[j]? = some y) (hij : i ≠ j) (hx : X.env.scope.names.lookup x = some .local) (hy : X.env.scope.names.lookup y = some .local) (ha : PA X [a, b] (tL X.K E l))
    (hw : swappedStores [.Tuple [.Name x px, .Name y py] kt pt] (.Tuple [a, b] k2 pt2) X.env = pure (some [x, y])) (hs : swapsWithSole [.Tuple [.Name x px, .Name y py] kt pt] (.Tuple [a, b] k2 pt2) pos.line X.env = pure false := by rfl) :
    PS X (.Assign [.Tuple [.Name x px, .Name y py] kt pt] (.Tuple [a, b] k2 pt2) pos) (tS X.K E (sPar i j l)) := PS.imp (ps_par hc hN hi hj hij hx hy ha hw hs) fun D σ H ⟨F0, H0, ρ, F, z, rel, e, p⟩ => by
  refine stepS rel e p fun ρ1 F1 H1 ds vs s1 rel1 ra e1 p1 ef1 => ?_
  split at e1
  · cases e1
    obtain ⟨v, t, rfl, r1, w, t', rfl, r2, rfl⟩ := ra
    exact ⟨v, w, rfl, p1 _ F1 H1 (Same.refl _) ((rel1.put r1).put r2)⟩
  · cases e1
/-- x op= e, ints -/
def sAug (i : Nat) (k : D → D → Option D) (f : M D) : S := fun ρ => match ρ[i]? with
  | some (.sh d) => thenS f (fun d' ρ' => (k d d').map fun c => .nx (ρ'.set i (.sh c))) ρ
  | _ => none
theorem s_aug {i : Nat} {x : Str} {op : Operator} {r : R2} {k : D → D → Option D} {pos' : Pos} (hN : X.N.Nodup) (hi : X.N[i]? = some x) (hx : Loc X.env.scope x) (he : PE X e (tD X.K E f)) (ho : OpR X (inplaceOp op) r) (dr : DB X.K r k)
    (hf : X.fn x = true ∨ X.env.scope.names.lookup x = some .local := by first | exact .inl rfl | exact .inr rfl | assumption) : PS X (.AugAssign (.Name x pos') op e pos) (tS X.K E (sAug i k f)) :=
  PS.imp (ps_aug (ti := r) hN hi hx he (fun pins s σ H x y v u Q I rx ry q => ho pins s σ H x y v u Q I rx ry q) hf) fun D σ H ⟨F0, H0, ρ, F, z, rel, e, p⟩ => by
    unfold sAug at e
    split at e
    · rename_i d q
      obtain ⟨v, ev, x, ex, rx⟩ := rel.get q
      subst ex
      refine ⟨x, ev, stepS rel e p fun ρ1 F1 H1 d' v' s1 rel1 ra e1 p1 ef1 => ?_⟩
      obtain ⟨c, ec, rfl⟩ := Option.map_eq_some_iff.mp e1
      exact dr _ _ _ _ _ _ _ _ rel1.fh (Rep.mono (.of s1) rx) ra ec fun w F2 H2 xt rw => p1 _ F2 H2 xt.ff ((rel1.grow xt).put rw)
    · cases e
end
end Dl
/-! Loops, comprehensions. -/
namespace Dl
open PySem PySem.Spec PyProof.Rows L2

/-! ### what is walked -/
/-- the walk J yields what stands for ds, one behind another -/
structure Wk (K : PySem.W.Frag) (J : It) (ds : List D) (F' : Hp) : Prop where
  go : ∀ i F H, Same F' F → Same F H → i < ds.length → J.go i H
  yl : ∀ i F H x H1 d, Same F' F → Same F H → ds[i]? = some d → J.yld i H x H1 → ∃ F1, Ext K F H F1 H1 ∧ Rep K F1 d x
  st : ∀ F H, Same F' F → Same F H → J.stop ds.length H
def tI (K : PySem.W.Frag) (E : XK) (f : M (List D)) : TI := fun σ H R => ∃ F0 H0 ρ F r, Rel K F0 H0 ρ F σ H ∧ f ρ = some r ∧ match r with
  | .ok ds ρ' => ∀ J F' H', Same F F' → Rel K F0 H0 ρ' F' σ H' → Wk K J ds F' → R J H'
  | .ex c d => PostX K E F0 H0 F c d
theorem PI.imp {X : Cx} {tg e : Expr} {t t' : TI} (h : PI X tg e t) (i : ∀ σ H Q, t' σ H Q → t σ H Q) : PI X tg e t' := ⟨fun pins s σ H Q I q => h.run pins s σ H Q I (i _ _ _ q)⟩
theorem wk_lst {K : PySem.W.Frag} {F : Hp} {a : Addr} {vs : List V} {ds : List D} (h : SqL K F a vs) (z : Reps K F ds vs) : Wk K (Itl K a) ds F where
  go := fun i F1 H1 s1 s2 hi => by
    obtain ⟨v, e, r⟩ := z.get (List.getElem?_eq_getElem hi)
    exact ⟨vs, v, (RdE.of (s1.trans s2)).sqL h, e⟩
  yl := fun i F1 H1 x H2 d s1 s2 e y => by
    obtain ⟨rfl, y⟩ := y
    obtain ⟨v, e2, r⟩ := z.get e
    have e3 := y vs ((RdE.of (s1.trans s2)).sqL h)
    rw [e2] at e3
    cases e3
    exact ⟨F1, Ext.refl s2, Rep.mono (.of s1) r⟩
  st := fun F1 H1 s1 s2 => ⟨vs, (RdE.of (s1.trans s2)).sqL h, by rw [z.len]; exact Nat.le_refl _⟩
theorem wk_tup {K : PySem.W.Frag} {F : Hp} {a : Addr} {vs : List V} {ds : List D} (h : F a = some (.tup vs)) (z : Reps K F ds vs) : Wk K (Itt K a) ds F where
  go := fun i F1 H1 s1 s2 hi => by
    obtain ⟨v, e, r⟩ := z.get (List.getElem?_eq_getElem hi)
    exact ⟨vs, v, SqT.of (s2 _ _ (s1 _ _ h)), e⟩
  yl := fun i F1 H1 x H2 d s1 s2 e y => by
    obtain ⟨rfl, y⟩ := y
    obtain ⟨v, e2, r⟩ := z.get e
    have e3 := y vs (SqT.of (s2 _ _ (s1 _ _ h)))
    rw [e2] at e3
    cases e3
    exact ⟨F1, Ext.refl s2, Rep.mono (.of s1) r⟩
  st := fun F1 H1 s1 s2 => ⟨vs, SqT.of (s2 _ _ (s1 _ _ h)), by rw [z.len]; exact Nat.le_refl _⟩
def rangeD (lo hi : Int) : List D := (List.range (hi - lo).toNat).map fun (i : Nat) => D.int (lo + (i : Int))
theorem wk_rng {K : PySem.W.Frag} {F : Hp} {lo hi : Int} : Wk K (Itr lo (hi - lo).toNat) (rangeD lo hi) F where
  go := fun i F1 H1 s1 s2 h => by
    have h' : i < (hi - lo).toNat := by simpa [rangeD] using h
    exact h'
  yl := fun i F1 H1 x H2 d s1 s2 e y => by
    obtain ⟨rfl, rfl⟩ := y
    refine ⟨F1, Ext.refl s2, ?_⟩
    unfold rangeD at e
    rw [List.getElem?_map] at e
    obtain ⟨j, e1, rfl⟩ := Option.map_eq_some_iff.mp e
    have e2 := List.getElem?_eq_some_iff.mp e1
    obtain ⟨h1, h2⟩ := e2
    rw [List.getElem_range] at h2
    subst h2
    rfl
  st := fun F1 H1 s1 s2 => by
    show (hi - lo).toNat ≤ (rangeD lo hi).length
    simp [rangeD]
section
variable {X : Cx} {E : XK} {a b c e o i tg iter elt : Expr} {es : List Expr} {pos : Pos} {f g h : M D} {l : M (List D)} {t u : M Bool} {p q : S}
/-- over a list or a tuple -/
def seqOf : D → Option (List D)
  | .lst ds => some ds
  | .seq ds => some ds
  | .tup ds => some ds
  | _ => none
def mIt (f : M D) : M (List D) := bnd f fun d => opt (seqOf d)
theorem PI.or {X : Cx} {tg e : Expr} {t u : TI} (h1 : PI X tg e t) (h2 : PI X tg e u) : PI X tg e fun σ H Q => t σ H Q ∨ u σ H Q := ⟨fun pins s σ H Q I h => h.elim (h1.run pins s σ H Q I) (h2.run pins s σ H Q I)⟩
def isTup : D → Bool
  | .tup _ => true
  | _ => false
theorem i_seq (he : PE X e (tD X.K E f)) : PI X tg e (tI X.K E (mIt f)) := PI.imp (PI.or (pi_list he) (pi_tup he)) fun σ H R ⟨F0, H0, ρ, F, z, rel, e, p⟩ => by
  unfold mIt bnd at e
  cases ef : f ρ with
  | none => rw [ef] at e; cases e
  | some r =>
    rw [ef] at e
    cases r with
    | ex c d => exact .inl ⟨F0, H0, ρ, F, _, rel, ef, by cases e; exact p⟩
    | ok d ρ1 =>
      dsimp only at e
      unfold opt at e
      split at e
      · cases e
      · rename_i ds es
        cases e
        cases d with
        | lst ds' =>
          cases es
          refine .inl ⟨F0, H0, ρ, F, _, rel, ef, fun v F1 H1 s1 rel1 r => ?_⟩
          obtain ⟨a, vs, rfl, q, zz⟩ := r
          exact ⟨a, rfl, ⟨vs, SqL.of (rel1.fh _ _ q)⟩, p _ F1 H1 s1 rel1 (wk_lst (SqL.of q) zz)⟩
        | seq ds' =>
          cases es
          refine .inl ⟨F0, H0, ρ, F, _, rel, ef, fun v F1 H1 s1 rel1 r => ?_⟩
          obtain ⟨a, vs, rfl, q, zz⟩ := r
          exact ⟨a, rfl, ⟨vs, (RdE.of rel1.fh).sqL q⟩, p _ F1 H1 s1 rel1 (wk_lst q zz)⟩
        | tup ds' =>
          cases es
          refine .inr ⟨F0, H0, ρ, F, _, rel, ef, fun v F1 H1 s1 rel1 r => ?_⟩
          obtain ⟨a, vs, rfl, q, zz⟩ := r
          exact ⟨a, rfl, ⟨vs, SqT.of (rel1.fh _ _ q)⟩, p _ F1 H1 s1 rel1 (wk_tup q zz)⟩
        | _ => cases es
def rgOk (i : Int) : Bool := decide (-(2 ^ 62) ≤ i) && decide (i < 2 ^ 62)
theorem rgOk_c {i : Int} (h : rgOk i = true) : -(2 ^ 62) ≤ i ∧ i < 2 ^ 62 := by unfold rgOk at h; simpa [Bool.and_eq_true] using h
def mRg (l : M (List D)) : M (List D) := bnd l fun ds => match ds with
  | [.int j] => if rgOk j = true then ret (rangeD 0 j) else fun _ => none
  | [.int i, .int j] => if (rgOk i && rgOk j) = true then ret (rangeD i j) else fun _ => none
  | _ => fun _ => none
theorem i_rg1 {p : Pos} (hg : Gl X "range") (hm : X.mg "range" = none) (ha : PA X [a] (tL X.K E l)) (hs : starEach [a] X.env = [(false, eval a X.env)] := by rfl) (one : ∀ ρ ds ρ', l ρ = some (.ok ds ρ') → ds.length = 1) : PI X tg (.Call (.Name "range" p) [a] [] pos) (tI X.K E (mRg l)) :=
  PI.imp (pi_range1 hg hm ha hs) fun σ H R ⟨F0, H0, ρ, F, z, rel, e, p⟩ => by
    unfold mRg bnd at e
    cases ef : l ρ with
    | none => rw [ef] at e; cases e
    | some r =>
      rw [ef] at e
      refine ⟨F0, H0, ρ, F, r, rel, ef, ?_⟩
      cases r with
      | ex c d => cases e; exact p
      | ok ds ρ1 =>
        intro v F1 H1 s1 rel1 r
        have h1 := one _ _ _ ef
        dsimp only at e
        split at e
        · split at e
          · rename_i j hj
            cases e
            obtain ⟨x, t, rfl, rfl, rfl⟩ := r
            have hj' := rgOk_c hj
            exact ⟨j, rfl, hj'.1, hj'.2, by
              have w := p _ F1 H1 s1 rel1 (wk_rng (K := X.K) (lo := 0) (hi := j))
              simpa using w⟩
          · cases e
        · simp at h1
        · cases e
theorem i_rg2 {p : Pos} (hg : Gl X "range") (hm : X.mg "range" = none) (ha : PA X [a, b] (tL X.K E l)) (one : ∀ ρ ds ρ', l ρ = some (.ok ds ρ') → ds.length = 2) (hs : starEach [a, b] X.env = [(false, eval a X.env), (false, eval b X.env)] := by rfl) (hs2 : starEach [b] X.env = [(false, eval b X.env)] := by rfl) : PI X tg (.Call (.Name "range" p) [a, b] [] pos) (tI X.K E (mRg l)) :=
  PI.imp (pi_range2 hg hm ha hs hs2) fun σ H R ⟨F0, H0, ρ, F, z, rel, e, p⟩ => by
    unfold mRg bnd at e
    cases ef : l ρ with
    | none => rw [ef] at e; cases e
    | some r =>
      rw [ef] at e
      refine ⟨F0, H0, ρ, F, r, rel, ef, ?_⟩
      cases r with
      | ex c d => cases e; exact p
      | ok ds ρ1 =>
        intro v F1 H1 s1 rel1 r
        have h1 := one _ _ _ ef
        dsimp only at e
        split at e
        · simp at h1
        · split at e
          · rename_i i j hj
            cases e
            rw [Bool.and_eq_true] at hj
            obtain ⟨x, t, rfl, rfl, y, t', rfl, rfl, rfl⟩ := r
            have hi' := rgOk_c hj.1
            have hj' := rgOk_c hj.2
            exact ⟨i, j, rfl, ⟨hi'.1, hi'.2, hj'.1, hj'.2⟩, p _ F1 H1 s1 rel1 wk_rng⟩
          · cases e
        · cases e

/-! ### for -/
def loopD (tg : TgE) (body : S) : List D → S
  | [], ρ => some (.nx ρ)
  | d :: ds, ρ => match tg d ρ with
    | none => none
    | some ρ1 => match body ρ1 with
      | some (.nx ρ2) => loopD tg body ds ρ2
      | some (.ct ρ2) => loopD tg body ds ρ2
      | some (.bk ρ2) => some (.nx ρ2)
      | r => r
def sFor (l : M (List D)) (tg : TgE) (body : S) : S := thenS l fun ds => loopD tg body ds
/-- the turns of a loop -/
theorem for_core {K : PySem.W.Frag} {F0 H0 F1 H1 : Hp} {ρ1 : Env} {σ : L2.St} {Dn : Ends} {J : It} {ds : List D} {k : TgE} {ws : List Nat} {z : Ou} (rel1 : Rel K F0 H0 ρ1 F1 σ H1) (wk : Wk K J ds F1) (e : loopD k p ds ρ1 = some z) (po1 : PostS K E F0 H0 F1 Dn z) :
    ∃ W : Nat → Nat → L2.St → Hp → Prop, (∃ m, W 0 m σ H1) ∧ ∀ i m σ H, W i m σ H → (J.stop i H ∧ Dn.nx σ H) ∨ (J.go i H ∧ ∃ Nx : L2.St → Hp → Prop, (∀ σ' H', Nx σ' H' → ∃ m', m' < m ∧ W (i + 1) m' σ' H') ∧ ∀ x H', J.yld i H x H' →
      tG K k ws x σ H' fun σ' H'' => tS K E p { Dn with nx := Nx, bk := Dn.nx, ct := Nx } σ' H'') := by
  refine ⟨fun i m σ H => m = ds.length - i ∧ i ≤ ds.length ∧ ∃ ρ F, Same F1 F ∧ Rel K F0 H0 ρ F σ H ∧ loopD k p (ds.drop i) ρ = some z ∧ PostS K E F0 H0 F Dn z, ⟨_, rfl, Nat.zero_le _, ρ1, F1, Same.refl _, rel1, e, po1⟩, ?_⟩
  rintro i m σ2 H2 ⟨rfl, hi, ρ2, F2, s2, rel2, e2, po2⟩
  by_cases hlt : i < ds.length
  · refine .inr ⟨wk.go i F2 H2 s2 rel2.fh hlt, fun σ' H' => ∃ ρ F, Same F1 F ∧ Rel K F0 H0 ρ F σ' H' ∧ loopD k p (ds.drop (i + 1)) ρ = some z ∧ PostS K E F0 H0 F Dn z, fun σ' H' ⟨ρ', F', q⟩ => ⟨_, ?_, rfl, hlt, ρ', F', q⟩, fun x H3 y => ?_⟩
    · omega
    · obtain ⟨F3, xt, rx⟩ := wk.yl i F2 H2 x H3 _ s2 rel2.fh (List.getElem?_eq_getElem hlt) y
      rw [List.drop_eq_getElem_cons hlt] at e2
      unfold loopD at e2
      split at e2
      · cases e2
      · rename_i ρ3 e3
        refine ⟨F0, H0, ρ2, F3, _, ρ3, rel2.grow xt, rx, e3, fun σ4 F4 H4 s4 rel4 _ => ?_⟩
        have s14 : Same F1 F4 := (s2.trans xt.ff).trans s4
        have po4 := (po2.weak xt.ff).weak s4
        cases eb : p ρ3 with
        | none => rw [eb] at e2; cases e2
        | some r =>
          rw [eb] at e2
          refine ⟨F0, H0, ρ3, F4, r, rel4, eb, ?_⟩
          cases r with
          | nx ρ5 => exact fun σ' F' H' s' rel' => ⟨ρ5, F', s14.trans s', rel', e2, po4.weak s'⟩
          | ct ρ5 => exact fun σ' F' H' s' rel' => ⟨ρ5, F', s14.trans s', rel', e2, po4.weak s'⟩
          | bk ρ5 => cases e2; exact fun σ' F' H' s' rel' => po4 σ' F' H' s' rel'
          | rt d ρ5 => cases e2; exact po4
          | rf d ρ5 => cases e2; exact po4
          | ex c d => cases e2; exact po4
  · have ei : i = ds.length := by omega
    subst ei
    rw [List.drop_length] at e2
    cases e2
    exact .inl ⟨wk.st F2 H2 s2 rel2.fh, po2 σ2 F2 H2 (Same.refl _) rel2⟩

theorem s_for {body : List Stmt} {k : TgE} {ws : List Nat} (hp : PassesOwn (model X.prog X.w) X.A X.env X.xe) (hc : X.calm = true) (hi : PI X tg iter (tI X.K E l)) (hg : PG X tg (tG X.K k ws)) (hb : PSs X body (tS X.K E p)) (hs : ∀ x, foldedSetIterable iter X.env x = pure x := by intro _; rfl) :
    PS X (.For tg iter body [] pos) (tS X.K E (sFor l k p)) := PS.imp (ps_for hp hc hi hg hb hs) fun Dn σ H ⟨F0, H0, ρ, F, z, rel, e, po⟩ => by
  unfold sFor thenS at e
  cases ef : l ρ with
  | none => rw [ef] at e; cases e
  | some r =>
    rw [ef] at e
    refine ⟨F0, H0, ρ, F, r, rel, ef, ?_⟩
    cases r with
    | ex c d => cases e; exact po
    | ok ds ρ1 =>
      intro J F1 H1 s1 rel1 wk
      dsimp only at e
      exact for_core rel1 wk e (po.weak s1)
end

/-! ### list comprehensions -/
def isOw : SL → Bool
  | .ow _ _ => true
  | _ => false
def wipeE (ρ : Env) : List Nat → Env
  | [] => ρ
  | v :: vs => (wipeE ρ vs).set v .no
def noOw (ρ : Env) (vs : List Nat) : Bool := vs.all fun i => !((ρ[i]?.map isOw).getD false)
def compD (vs : List Nat) (tg : TgE) (tst : M Bool) (elt : M D) (ρ : Env) : List D → Option (List D)
  | [] => some []
  | d :: ds => match tg d (wipeE ρ vs) with
    | none => none
    | some ρ2 => match tst ρ2 with
      | some (.ok true _) => (match elt ρ2 with
        | some (.ok y _) => (compD vs tg tst elt ρ ds).map fun ys => y :: ys
        | _ => none)
      | some (.ok false _) => compD vs tg tst elt ρ ds
      | _ => none
def mComp (l : M (List D)) (vs : List Nat) (tg : TgE) (tst : M Bool) (elt : M D) : M D := bnd l fun ds ρ =>
  if noOw ρ vs = true then match (compD vs tg tst elt ρ ds).bind lenOk with
    | some ys => some (.ok (.lst ys) ρ)
    | none => none
  else none
section
variable {K : PySem.W.Frag} {F0 H0 F H F' H' : Hp} {ρ : Env} {σ : L2.St}
theorem wipeE_len (ρ : Env) : ∀ vs : List Nat, (wipeE ρ vs).length = ρ.length
  | [] => rfl
  | v :: vs => by unfold wipeE; rw [List.length_set, wipeE_len ρ vs]
theorem wipeE_off {j : Nat} : ∀ {vs : List Nat}, j ∉ vs → (wipeE ρ vs)[j]? = ρ[j]?
  | [], _ => rfl
  | v :: vs, h => by
    unfold wipeE
    rw [List.getElem?_set_ne (fun e => h (by rw [e]; exact List.mem_cons_self)), wipeE_off fun z => h (List.mem_cons_of_mem _ z)]
theorem wipeE_on {j : Nat} {s : SL} : ∀ {vs : List Nat}, j ∈ vs → (wipeE ρ vs)[j]? = some s → s = .no
  | v :: vs, h, e => by
    unfold wipeE at e
    by_cases hv : j = v
    · subst hv
      have h1 := (List.getElem?_eq_some_iff.mp e).1
      rw [List.length_set] at h1
      rw [List.getElem?_set_self h1] at e
      cases e
      rfl
    · rw [List.getElem?_set_ne (Ne.symm hv)] at e
      exact wipeE_on ((List.mem_cons.mp h).resolve_left hv) e
theorem wipe_off {j : Nat} : ∀ {vs : List Nat}, j ∉ vs → (wipe σ vs)[j]? = σ[j]?
  | [], _ => rfl
  | v :: vs, h => by
    unfold wipe
    rw [List.getElem?_set_ne (fun e => h (by rw [e]; exact List.mem_cons_self)), wipe_off fun z => h (List.mem_cons_of_mem _ z)]
theorem wipe_on {j : Nat} : ∀ {vs : List Nat}, j ∈ vs → j < σ.length → (wipe σ vs)[j]? = some none
  | v :: vs, h, e => by
    unfold wipe
    by_cases hv : j = v
    · subst hv
      rw [List.getElem?_set_self (by rw [wipe_length]; exact e)]
    · rw [List.getElem?_set_ne (Ne.symm hv)]
      exact wipe_on ((List.mem_cons.mp h).resolve_left hv) e
theorem wipe_eq {σ' : L2.St} {vs : List Nat} (h : σ'.length = σ.length) (k : ∀ j, j ∉ vs → σ'[j]? = σ[j]?) : wipe σ' vs = wipe σ vs := by
  refine List.ext_getElem? fun j => ?_
  by_cases hj : j ∈ vs
  · by_cases hl : j < σ.length
    · rw [wipe_on hj hl, wipe_on hj (by rw [h]; exact hl)]
    · rw [List.getElem?_eq_none (by rw [wipe_length]; omega), List.getElem?_eq_none (by rw [wipe_length]; omega)]
  · rw [wipe_off hj, wipe_off hj, k j hj]
theorem Rel.wiped (rel : Rel K F0 H0 ρ F σ H) (vs : List Nat) : Rel K F0 H0 (wipeE ρ vs) F (wipe σ vs) H := by
  refine ⟨rel.ext, by rw [wipe_length, wipeE_len]; exact rel.len, fun i s v e1 e2 => ?_, fun i j t u d e a q1 q2 q3 q4 => ?_, rel.tt⟩
  · by_cases hi : i ∈ vs
    · cases wipeE_on hi e1
      trivial
    · rw [wipeE_off hi] at e1
      rw [wipe_off hi] at e2
      exact rel.sl i s v e1 e2
  · have key : ∀ (j : Nat) (t : Option Addr) (d : D), (wipeE ρ vs)[j]? = some (.ow t d) → j ∉ vs := fun j t d q hj => by cases wipeE_on hj q
    have n1 := key _ _ _ q1
    have n2 := key _ _ _ q2
    rw [wipeE_off n1] at q1
    rw [wipeE_off n2] at q2
    rw [wipe_off n1] at q3
    rw [wipe_off n2] at q4
    exact rel.ap _ _ _ _ _ _ _ q1 q2 q3 q4
/-- behind a turn of a comprehension the frame's own slots are as they were -/
theorem Rel.unwiped {ρ2 : Env} {σ2 : L2.St} {vs : List Nat} (rel : Rel K F0 H0 ρ F σ H) (rel2 : Rel K F0 H0 ρ2 F' σ2 H') (s : Same F F') (no : noOw ρ vs = true) (b1 : But vs (wipeE ρ vs) ρ2) (b2 : But vs (wipe σ vs) σ2) : Rel K F0 H0 ρ F' σ H' := by
  have off : ∀ (j : Nat) (t : Option Addr) (d : D), ρ[j]? = some (.ow t d) → j ∉ vs := fun j t d q hj => by
    have h := List.all_eq_true.mp no j hj
    rw [q] at h
    cases h
  have e1 : ∀ j, j ∉ vs → ρ2[j]? = ρ[j]? := fun j hj => (b1.2 j hj).trans (wipeE_off hj)
  have e2 : ∀ j, j ∉ vs → σ2[j]? = σ[j]? := fun j hj => (b2.2 j hj).trans (wipe_off hj)
  refine ⟨rel2.ext, rel.len, fun i s' v q1 q2 => ?_, fun i j t u d e a q1 q2 q3 q4 => ?_, rel2.tt⟩
  · cases s' with
    | no => trivial
    | sh d =>
      obtain ⟨x, ex, r⟩ := rel.sl i _ v q1 q2
      exact ⟨x, ex, Rep.mono (.of s) r⟩
    | ow t d =>
      have hi := off _ _ _ q1
      exact rel2.sl i _ v ((e1 i hi).trans q1) ((e2 i hi).trans q2)
  · have n1 := off _ _ _ q1
    have n2 := off _ _ _ q2
    exact rel2.ap _ _ _ _ _ _ _ ((e1 i n1).trans q1) ((e1 j n2).trans q2) ((e2 i n1).trans q3) ((e2 j n2).trans q4)
/-- an object of ours that no slot knows is put aside -/
theorem Rel.aside (rel : Rel K F0 H0 ρ F σ H) {a : Addr} {o : HO} (ic : IsC o) (ha0 : H0 a = none) (ha : H a = some o) (fa : F a = none) (ns : ∀ (i : Nat) (t : Option Addr) (d : D), ρ[i]? = some (SL.ow t d) → σ[i]? ≠ some (some (V.ref a))) : Rel K F0 (upd H0 a o) ρ F σ H := by
  refine ⟨⟨rel.ext.ff, rel.ext.hh.aside ha ic, rel.ext.fh, fun b u q1 q2 q3 => ?_⟩, rel.len, fun i s v q1 q2 => ?_, rel.ap, ⟨tabs_upd rel.tt.1 ha0, rel.tt.2⟩⟩
  · by_cases hb : b = a
    · subst hb; exact fa
    · rw [upd_ne hb] at q2; exact rel.ext.new _ _ q1 q2 q3
  · have h := rel.sl i s v q1 q2
    cases s with
    | no => trivial
    | sh d => exact h
    | ow t d =>
      obtain ⟨c, ec, fc, hc, ow, tt⟩ := h
      subst ec
      have : c ≠ a := by rintro rfl; exact ns _ _ _ q1 q2
      exact ⟨c, rfl, fc, by rw [upd_ne this]; exact hc, ow, tt⟩
/-- .. and taken back, changed -/
theorem Rel.back {a : Addr} {o : HO} (rel : Rel K F0 (upd H0 a o) ρ F σ H) (ha0 : H0 a = none) {o' : HO} (ic : IsC o) (fa : F a = none) : Rel K F0 H0 ρ F σ (upd H a o') := by
  have hHa : H a = some o := rel.ext.hh.keep upd_same ic.tbl
  have ns : ∀ (i : Nat) (s : SL) (v : Option V), ρ[i]? = some s → σ[i]? = some v → ∀ t d, s = .ow t d → v ≠ some (.ref a) := fun i s v q1 q2 t d es ev => by
    subst es ev
    obtain ⟨c, ec, _, hc, _⟩ := rel.sl i _ _ q1 q2
    cases ec
    rw [upd_same] at hc
    cases hc
  refine ⟨⟨rel.ext.ff, (rel.ext.hh.base ha0).chg ha0 (fun o2 e2 => by rw [hHa] at e2; cases e2; exact ic), fun b u q => ?_, fun b u q1 q2 q3 => ?_⟩, rel.len, fun i s v q1 q2 => ?_, rel.ap, ⟨tabs_back ic rel.tt.1, rel.tt.2⟩⟩
  · have hb : b ≠ a := by rintro rfl; rw [fa] at q; cases q
    rw [upd_ne hb]
    exact rel.ext.fh _ _ q
  · have hb : b ≠ a := by rintro rfl; rw [ha0] at q2; cases q2
    exact rel.ext.new b u q1 (by rw [upd_ne hb]; exact q2) q3
  · have h := rel.sl i s v q1 q2
    cases s with
    | no => trivial
    | sh d => exact h
    | ow t d =>
      obtain ⟨c, ec, fc, hc, ow, tt⟩ := h
      have hca : c ≠ a := fun z => ns i _ _ q1 q2 t d rfl (by rw [ec, z])
      exact ⟨c, ec, fc, by rw [upd_ne hca] at hc; exact hc, Own.mono (.of (Same.refl F)) (fun u _ q => by rw [upd_ne hca]; exact q) ow, tt⟩
end
section
variable {X : Cx} {E : XK} {a b c e o i tg iter elt : Expr} {es ifs : List Expr} {pos : Pos} {f g h y : M D} {l : M (List D)} {t u : M Bool} {p q : S}
/-- the loop of a comprehension -/
theorem comp_loop {K : PySem.W.Frag} {F0 H0 F1 H1 : Hp} {ρ : Env} {σ : L2.St} {J : It} {ds ys : List D} {vs ws : List Nat} {k : TgE} {Q : VK} {Dd : Addr} (hN : H1 Dd = none) (rel : Rel K F0 H0 ρ F1 σ H1) (wk : Wk K J ds F1) (no : noOw ρ vs = true)
    (pu1 : Pu t) (pu2 : Pu y) (tk : TgOk k ws) (hw : ∀ j ∈ ws, j ∈ vs) (ec : compD vs k t y ρ ds = some ys) (hz : ys.length ≤ sizeLine)
    (fin : ∀ F' H' us, Same F1 F' → Rel K F0 H0 ρ F' σ H' → H' Dd = some (.lst us) → F' Dd = none → Reps K F' ys us → Q (.ref Dd) H') :
    ∃ W : Nat → Nat → Hp → Prop, (∃ m, W 0 m (upd H1 Dd (.lst []))) ∧ ∀ i m H, W i m H →
      (J.stop i H ∧ Q (.ref Dd) H) ∨ (J.go i H ∧ ∃ Nx : Hp → Prop, (∀ H', Nx H' → ∃ m', m' < m ∧ W (i + 1) m' H') ∧ ∀ x H', J.yld i H x H' → tG K k ws x (wipe σ vs) H' fun σ2 H2 => wipe σ2 vs = wipe σ vs ∧ tT K E0 t σ2 H2 fun b H3 =>
        if b = true then tD K E0 y σ2 H3 fun z H4 => ∃ acc, H4 Dd = some (.lst acc) ∧ acc.length < sizeLine ∧ Nx (upd H4 Dd (.lst (acc ++ [z]))) else Nx H3) := by
  have f1 : F1 Dd = none := rel.fh.free hN
  have h0 : H0 Dd = none := rel.ext.hh.free hN
  have ns := rel.noslot hN
  have nt : ∀ us : List V, ∀ xs, HO.lst us ≠ .tup xs := fun _ _ z => nomatch z
  have tn : ∀ us : List V, ∀ xs, HO.lst us ≠ .tbl xs := fun _ _ z => nomatch z
  -- the invariant
  let Inv' : Nat → Hp → Prop := fun i H => ∃ F acc us rest, Same F1 F ∧ Rel K F0 H0 ρ F σ H ∧ H Dd = some (.lst us) ∧ F Dd = none ∧ Reps K F acc us ∧ compD vs k t y ρ (ds.drop i) = some rest ∧ acc ++ rest = ys
  refine ⟨fun i m H => m = ds.length - i ∧ i ≤ ds.length ∧ Inv' i H, ⟨_, rfl, Nat.zero_le _, F1, [], [], ys, Same.refl _, rel.grow (Ext.put rel.fh hN), upd_same, f1, rfl, ec, rfl⟩, ?_⟩
  rintro i m H ⟨rfl, hi, F, acc, us, rest, s1, rl, hD, fD, ra, er, ea⟩
  by_cases hlt : i < ds.length
  · refine .inr ⟨wk.go i F H s1 rl.fh hlt, Inv' (i + 1), fun H' q => ⟨_, by omega, rfl, hlt, q⟩, fun x H' yy => ?_⟩
    obtain ⟨F3, xt, rx⟩ := wk.yl i F H x H' _ s1 rl.fh (List.getElem?_eq_getElem hlt) yy
    rw [List.drop_eq_getElem_cons hlt] at er
    unfold compD at er
    split at er
    · cases er
    · rename_i ρ2 e2
      have hD3 : H' Dd = some (.lst us) := xt.hh.keep hD (tn us)
      have fD3 : F3 Dd = none := xt.new _ _ fD hD (nt us)
      have rl3 := rl.grow xt
      have rl4 := (rl3.aside .lst h0 hD3 fD3 ns).wiped vs
      refine ⟨F0, _, _, F3, _, ρ2, rl4, rx, e2, fun σ5 F5 H5 s5 rl5 b5 => ?_⟩
      have b5' : But vs (wipe σ vs) σ5 := ⟨b5.1, fun j hj => b5.2 j fun z => hj (hw j z)⟩
      have b2 := tk _ _ _ e2
      have b2' : But vs (wipeE ρ vs) ρ2 := ⟨b2.1, fun j hj => b2.2 j fun z => hj (hw j z)⟩
      refine ⟨?_, ?_⟩
      · refine wipe_eq ?_ fun j hj => (b5'.2 j hj).trans (wipe_off hj)
        rw [b5'.1, wipe_length]
      · -- the end of a turn
        have turn : ∀ F6 H6, Same F5 F6 → Rel K F0 (upd H0 Dd (.lst us)) ρ2 F6 σ5 H6 → H6 Dd = some (.lst us) ∧ F6 Dd = none ∧ ∀ o', Rel K F0 H0 ρ F6 σ (upd H6 Dd o') := fun F6 H6 s6 rl6 => by
          have q1 : H6 Dd = some (.lst us) := rl6.ext.hh.keep upd_same (tn us)
          have q2 : F6 Dd = none := rl6.ext.new Dd _ (rel.ext.ff.free f1) upd_same (nt us)
          have rlb := (rl3.aside .lst h0 hD3 fD3 ns).unwiped rl6 (s5.trans s6) no b2' b5'
          exact ⟨q1, q2, fun o' => rlb.back h0 .lst q2⟩
        cases et : t ρ2 with
        | none => rw [et] at er; cases er
        | some r =>
          cases r with
          | ex c d => rw [et] at er; cases er
          | ok b ρ2' =>
            cases pu1 _ _ _ et
            rw [et] at er
            refine ⟨F0, _, ρ2, F5, .ok b ρ2, rl5, et, fun b' F6 H6 s6 rl6 eb => ?_⟩
            subst eb
            cases b with
            | false =>
              refine iteF ?_
              obtain ⟨q1, q2, q3⟩ := turn F6 H6 s6 rl6
              have ue : upd H6 Dd (.lst us) = H6 := by
                funext b
                unfold upd
                split
                · rename_i h; rw [h, q1]
                · rfl
              have q4 := q3 (.lst us)
              rw [ue] at q4
              exact ⟨F6, acc, us, rest, ((s1.trans xt.ff).trans s5).trans s6, q4, q1, q2, Reps.mono (.of ((xt.ff.trans s5).trans s6)) ra, er, ea⟩
            | true =>
              refine iteT ?_
              dsimp only at er
              cases ey : y ρ2 with
              | none => rw [ey] at er; cases er
              | some r =>
                cases r with
                | ex c d => rw [ey] at er; cases er
                | ok z ρ2' =>
                  cases pu2 _ _ _ ey
                  rw [ey] at er
                  obtain ⟨rest', er', rfl⟩ := Option.map_eq_some_iff.mp er
                  refine ⟨F0, _, ρ2, F6, .ok z ρ2, rl6, ey, fun v F7 H7 s7 rl7 rz => ?_⟩
                  obtain ⟨q1, q2, q3⟩ := turn F7 H7 (s6.trans s7) rl7
                  have sA : Same F F7 := ((xt.ff.trans s5).trans s6).trans s7
                  refine ⟨us, q1, ?_, F7, acc ++ [z], us ++ [v], rest', s1.trans sA, q3 _, upd_same, q2, Reps.app (Reps.mono (.of sA) ra) (Reps.one rz), er', by rw [List.append_assoc]; exact ea⟩
                  have := ra.len
                  have h2 : acc.length + (1 + rest'.length) = ys.length := by rw [← ea, List.length_append, List.length_cons, Nat.add_comm 1]
                  omega
  · have ei : i = ds.length := by omega
    subst ei
    rw [List.drop_length] at er
    cases er
    rw [List.append_nil] at ea
    subst ea
    exact .inl ⟨wk.st F H s1 rl.fh, fin F H us s1 rl hD fD ra⟩
theorem compE_some {ρ : Env} {ds : List D} {vs : List Nat} {k : TgE} {r : Rs D} (e : (if noOw ρ vs = true then match (compD vs k t y ρ ds).bind lenOk with
    | some ys => some (Rs.ok (D.lst ys) ρ)
    | none => none
  else none) = some r) : ∃ ys, noOw ρ vs = true ∧ compD vs k t y ρ ds = some ys ∧ ys.length ≤ sizeLine ∧ r = .ok (.lst ys) ρ := by
  split at e
  · rename_i no
    split at e
    · rename_i ys h
      cases e
      obtain ⟨zs, h1, h2⟩ := Option.bind_eq_some_iff.mp h
      unfold lenOk at h2
      split at h2
      · rename_i hl
        cases h2
        exact ⟨_, no, h1, hl, rfl⟩
      · cases h2
    · cases e
  · cases e
/-- the reading of a comprehension -/
theorem comp_tLc {K : PySem.W.Frag} {vs ws : List Nat} {k : TgE} (pu1 : Pu t) (pu2 : Pu y) (tk : TgOk k ws) (hw : ∀ j ∈ ws, j ∈ vs) {σ : L2.St} {H : Hp} {F0 H0 F : Hp} {ρ : Env} {z : Rs D} {Q : VK} (rel : Rel K F0 H0 ρ F σ H) (e : mComp l vs k t y ρ = some z)
    (po : match z with
      | .ok d ρ' => ∀ v F' H', Same F F' → Rel K F0 H0 ρ' F' σ H' → rF K H0 ρ' σ F' H' d v → Q v H'
      | .ex c d => PostX K E F0 H0 F c d) : tLc (tI K E l) (tG K k ws) (tT K E0 t) (tD K E0 y) vs σ H Q := by
  unfold mComp bnd at e
  cases ef : l ρ with
  | none => rw [ef] at e; cases e
  | some r =>
    rw [ef] at e
    refine ⟨F0, H0, ρ, F, r, rel, ef, ?_⟩
    cases r with
    | ex c d => cases e; exact po
    | ok ds ρ1 =>
      obtain ⟨ys, no, ec, hz, rfl⟩ := compE_some e
      intro J F1 H1 s1 rel1 wk Dd hN
      refine comp_loop hN rel1 wk no pu1 pu2 tk hw ec hz fun F' H' us s2 rel2 hD fD ra => po _ F' H' (s1.trans s2) rel2 ⟨Dd, rfl, fD, rel1.ext.hh.free hN, ⟨us, hD, ra⟩, rel1.noslot hN⟩
theorem d_comp {scope : Scope} {own : List (Str × Nat)} {k : TgE} {ws : List Nat} (hc : X.calm = true) (hN : X.N.Nodup) (hi : PI X tg iter (tI X.K E l)) (ok : BlkOk X.N X.env.scope scope own)
    (hg : ∀ (s : Shared) (H : Hp) (C : Addr) (cl : List (Str × Addr)) (fp : List Addr), PG (X.blk s H scope (compEnvC scope cl C X.env) fp) tg (tG X.K k ws)) (ht : ∀ (s : Shared) (H : Hp) (C : Addr) (cl : List (Str × Addr)) (fp : List Addr), PTs (X.blk s H scope (compEnvC scope cl C X.env) fp) ifs (tT X.K E0 t))
    (he : ∀ (s : Shared) (H : Hp) (C : Addr) (cl : List (Str × Addr)) (fp : List Addr), PE (X.blk s H scope (compEnvC scope cl C X.env) fp) elt (tD X.K E0 y)) (pu1 : Pu t) (pu2 : Pu y) (tk : TgOk k ws) (hw : ∀ j ∈ ws, j ∈ own.map (·.2))
    (hs : ∀ x, foldedSetIterable iter X.env x = pure x := by intro _; rfl) : PE X (.ListComp elt [⟨tg, iter, ifs, 0⟩] scope pos) (tF X.K E (mComp l (own.map (·.2)) k t y)) :=
  PE.imp (pe_lc hc hN hi ok hg ht he hs) fun σ H Q ⟨F0, H0, ρ, F, z, rel, e, p⟩ => comp_tLc pu1 pu2 tk hw rel e (by
    cases z with
    | ok d ρ' => exact p
    | ex c d => exact p)
/-- x = [..] on one line -/
theorem s_setC {i : Nat} {x : Str} {px spos : Pos} {scope : Scope} {own : List (Str × Nat)} {k : TgE} {ws : List Nat} (hc : X.calm = true) (hN : X.N.Nodup) (hy : X.N[i]? = some x) (hyl : X.env.scope.names.lookup x = some .local)
    (hsw : swapsWith (.ListComp elt [⟨tg, iter, ifs, 0⟩] scope pos) (some (.Name x px)) spos.line X.env = pure true) (hi : PI X tg iter (tI X.K E l)) (ok : BlkOk X.N X.env.scope scope own)
    (hg : ∀ (s : Shared) (H : Hp) (C : Addr) (cl : List (Str × Addr)) (fp : List Addr), PG (X.blk s H scope (compEnvC scope cl C X.env) fp) tg (tG X.K k ws)) (ht : ∀ (s : Shared) (H : Hp) (C : Addr) (cl : List (Str × Addr)) (fp : List Addr), PTs (X.blk s H scope (compEnvC scope cl C X.env) fp) ifs (tT X.K E0 t))
    (he : ∀ (s : Shared) (H : Hp) (C : Addr) (cl : List (Str × Addr)) (fp : List Addr), PE (X.blk s H scope (compEnvC scope cl C X.env) fp) elt (tD X.K E0 y)) (pu1 : Pu t) (pu2 : Pu y) (tk : TgOk k ws) (hw : ∀ j ∈ ws, j ∈ own.map (·.2))
    (hs : ∀ x, foldedSetIterable iter X.env x = pure x := by intro _; rfl) : PS X (.Assign [.Name x px] (.ListComp elt [⟨tg, iter, ifs, 0⟩] scope pos) spos) (tS X.K E (sSetF i (mComp l (own.map (·.2)) k t y))) :=
  PS.imp (ps_setLc hc hN hy hyl hsw hi ok hg ht he hs) fun D σ H ⟨F0, H0, ρ, F, z, rel, e, p⟩ => by
    show tLc _ _ _ _ _ σ H _
    unfold sSetF thenS at e
    cases ef : mComp l (own.map (·.2)) k t y ρ with
    | none => rw [ef] at e; cases e
    | some r =>
      rw [ef] at e
      refine comp_tLc (E := E) pu1 pu2 tk hw rel ef ?_
      cases r with
      | ex c d => cases e; exact p
      | ok d ρ' =>
        cases e
        exact fun v F' H' s rel' r => p _ F' H' s (rel'.putF r)
theorem t_yes {X : Cx} : PTs X [] (tT X.K E0 (ret true)) := ⟨fun pins s σ H Q I h => (pts_nil (X := X)).run pins s σ H Q I (by
  obtain ⟨F0, H0, ρ, F, z, rel, e, p⟩ := h
  cases e
  exact p _ _ _ (Same.refl _) rel rfl)⟩
theorem t_one {X : Cx} {c : Expr} {t : M Bool} (h : PT X c (tT X.K E0 t)) : PTs X [c] (tT X.K E0 t) := pts_one h
end
end Dl
/-! Promises over data; calls; a def by what its body makes of its arguments. -/
namespace Dl
open PySem PySem.Spec PyProof.Rows L2

/-- what a def hands back: data, a container that nobody else knows of, an error -/
inductive Rv where
  | ok (d : D)
  | of (d : D)
  | ex (c : String) (d : D)
def PostV (K : PySem.W.Frag) (F H : Hp) (Q : VK) (E : XK) : Rv → Prop
  | .ok d => ∀ v F' H', Ext K F H F' H' → Rep K F' d v → Q v H'
  | .of d => ∀ a F' H', Ext K F H F' H' → F' a = none → H a = none → Own K F' H' a d → Q (.ref a) H'
  | .ex c d => ∀ a F' H', Ext K F H F' H' → XAt K F' H' a d → E (.ref (clsA K c)) (some a) H'
/-- called with data, g's answer -/
def spD (K : PySem.W.Frag) (g : List D → Option Rv) : Sp := fun vs H Q E => ∃ F ds r, TOk K F H ∧ Same F H ∧ Reps K F ds vs ∧ g ds = some r ∧ PostV K F H Q E r
/-- the heap without what stands at b -/
def rem (H : Hp) (b : Addr) : Hp := fun a => if a = b then none else H a
theorem rem_same {H : Hp} {b : Addr} : rem H b b = none := if_pos rfl
theorem rem_ne {H : Hp} {a b : Addr} (h : a ≠ b) : rem H b a = H a := if_neg h
/-- the first argument is a container lent: it is changed -/
def spG (K : PySem.W.Frag) (g : D → List D → Option (D × D)) : Sp := fun vs H Q _ => ∃ b xs F gd ds d gd', vs = .ref b :: xs ∧ TOk K F H ∧ Same F H ∧ F b = none ∧ Own K F H b gd ∧ Reps K F ds xs ∧ g gd ds = some (d, gd') ∧
  ∀ v F' H', Ext K F (rem H b) F' H' → F' b = none → Own K F' H' b gd' → Rep K F' d v → Q v H'
section
variable {K : PySem.W.Frag} {E : XK} {F0 H0 F H F' H' : Hp} {ρ : Env} {σ : L2.St}
theorem Reps.app' : ∀ {ds es : List D} {vs ws : List V}, Reps K F ds vs → Reps K F es ws → Reps K F (ds ++ es) (vs ++ ws) := Reps.app
/-- a call's end is the caller's -/
theorem PostV.caller {r : Rv} {Q : VK} (rel : Rel K F0 H0 ρ F σ H) (hok : ∀ d, r = .ok d → ∀ v F' H', Same F F' → Rel K F0 H0 ρ F' σ H' → Rep K F' d v → Q v H')
    (hof : ∀ d, r = .of d → ∀ v F' H', Same F F' → Rel K F0 H0 ρ F' σ H' → rF K H0 ρ σ F' H' d v → Q v H') (hex : ∀ c d, r = .ex c d → PostX K E F0 H0 F c d) : PostV K F H Q E r := by
  cases r with
  | ok d => exact fun v F' H' x rp => hok d rfl v F' H' x.ff (rel.grow x) rp
  | of d => exact fun a F' H' x fa ha ow => hof d rfl _ F' H' x.ff (rel.grow x) ⟨a, rfl, fa, rel.ext.hh.free ha, ow, rel.noslot ha⟩
  | ex c d => exact fun a F' H' x xa => hex c d rfl a F' H' x.ff (rel.ext.trans x) xa
/-- behind a call to which slot i's container was lent -/
theorem Rel.lent (rel : Rel K F0 H0 ρ F σ H) {i : Nat} {t : Option Addr} {gd gd' : D} {b : Addr} (e : ρ[i]? = some (.ow t gd)) (eb : σ[i]? = some (some (.ref b))) (x : Ext K F (rem H b) F' H') (fb : F' b = none) (ow : Own K F' H' b gd') : Rel K F0 H0 (ρ.set i (.ow t gd')) F' σ H' := by
  obtain ⟨v, ev, b', eb', fb0, hb0, ow0, tt⟩ := rel.get e
  rw [eb] at ev
  cases ev
  cases eb'
  obtain ⟨ob, hob, icb⟩ := ow0.isC
  have rm : SameT K H0 (rem H b) := ⟨fun c o q => by
    have hc : c ≠ b := by rintro rfl; rw [hb0] at q; cases q
    rw [rem_ne hc]
    exact rel.ext.hh.kp _ _ q, fun t => tabs_but (fun c hc => rem_ne hc) (fun o2 e2 => by rw [hob] at e2; cases e2; exact icb) (rel.ext.hh.tb t)⟩
  refine ⟨⟨rel.ext.ff.trans x.ff, rm.trans x.hh, x.fh, fun c o q1 q2 q3 => ?_⟩, by rw [List.length_set]; exact rel.len, fun j s v q1 q2 => ?_, fun j k t1 t2 d1 d2 a q1 q2 q3 q4 => ?_, rel.tt⟩
  · rcases rm.kp _ _ q2 with z | ⟨_, _, _, z⟩
    · exact x.new _ _ (rel.ext.new _ _ q1 q2 q3) z q3
    · exact x.new _ _ (rel.ext.new _ _ q1 q2 q3) z fun _ y => nomatch y
  · by_cases hj : j = i
    · subst hj
      rw [List.getElem?_set_self (List.getElem?_eq_some_iff.mp e).1] at q1
      cases q1
      rw [eb] at q2
      cases q2
      exact ⟨b, rfl, fb, hb0, ow, tt⟩
    · rw [List.getElem?_set_ne (Ne.symm hj)] at q1
      have h := rel.sl j s v q1 q2
      cases s with
      | no => trivial
      | sh d =>
        obtain ⟨y, ey, r⟩ := h
        exact ⟨y, ey, Rep.mono (.of x.ff) r⟩
      | ow t' d =>
        obtain ⟨c, ec, fc, hc, r, tt'⟩ := h
        subst ec
        have hcb : c ≠ b := by rintro rfl; exact hj (rel.ap _ _ _ _ _ _ _ q1 e q2 eb)
        obtain ⟨o, ho, nt⟩ := r.some'
        exact ⟨c, rfl, x.new _ _ fc (by rw [rem_ne hcb]; exact ho) nt, hc, Own.mono (.of x.ff) (fun o ic q => x.hh.keep (by rw [rem_ne hcb]; exact q) ic.tbl) r, tt'⟩
  · have key : ∀ (j : Nat) (t1 : Option Addr) (d1 : D), (ρ.set i (.ow t gd'))[j]? = some (.ow t1 d1) → ∃ t2 d2, ρ[j]? = some (.ow t2 d2) := fun j t1 d1 q => by
      by_cases hj : j = i
      · subst hj; exact ⟨_, _, e⟩
      · exact ⟨_, _, by rwa [List.getElem?_set_ne (Ne.symm hj)] at q⟩
    obtain ⟨_, _, e1⟩ := key _ _ _ q1
    obtain ⟨_, _, e2⟩ := key _ _ _ q2
    exact rel.ap _ _ _ _ _ _ _ e1 e2 q3 q4
end

/-! ### calls -/
section
variable {X : Cx} {E : XK} {e : Expr} {es : List Expr} {pos p : Pos} {f : M D} {l : M (List D)} {CX : CXT} {k : Nat} {fa : Addr} {fd : FuncData} {ps : List Str} {x : Str} {dvs : List V} {dus : List Value} {dds : List D} {g : List D → Option Rv}
def mCall (g : List D → Option Rv) (dds : List D) (l : M (List D)) : M D := bnd l fun ds ρ => match g (ds ++ dds) with
  | some (.ok d) => some (.ok d ρ)
  | some (.ex c d) => some (.ex c d)
  | _ => none
def mCallF (g : List D → Option Rv) (dds : List D) (l : M (List D)) : M D := bnd l fun ds ρ => match g (ds ++ dds) with
  | some (.of d) => some (.ok d ρ)
  | some (.ex c d) => some (.ex c d)
  | _ => none
theorem tCall_D {σ : L2.St} {H : Hp} {Q : VK} (hd : ∀ F, Reps X.K F dds dvs) (q : tD X.K E (mCall g dds l) σ H Q) : tCall (spD X.K g) dvs E (tL X.K E l) σ H Q := by
  obtain ⟨F0, H0, ρ, F, z, rel, e, p⟩ := q
  refine step rel e p fun ρ1 F1 H1 ds vs s1 rel1 ra e1 p1 ef1 => ?_
  split at e1
  · rename_i d eg
    cases e1
    exact ⟨F1, _, _, rel1.tabs, rel1.fh, Reps.app ra (hd _), eg, PostV.caller rel1 (fun d' ed v F' H' s r rp => by cases ed; exact p1 v F' H' s r rp) (fun _ z => nomatch z) (fun _ _ z => nomatch z)⟩
  · rename_i c d eg
    cases e1
    exact ⟨F1, _, _, rel1.tabs, rel1.fh, Reps.app ra (hd _), eg, PostV.caller rel1 (fun _ z => nomatch z) (fun _ z => nomatch z) (fun _ _ z => by cases z; exact p1)⟩
  · cases e1
theorem tCall_F {σ : L2.St} {H : Hp} {Q : VK} (hd : ∀ F, Reps X.K F dds dvs) (q : tF X.K E (mCallF g dds l) σ H Q) : tCall (spD X.K g) dvs E (tL X.K E l) σ H Q := by
  obtain ⟨F0, H0, ρ, F, z, rel, e, p⟩ := q
  refine step rel e p fun ρ1 F1 H1 ds vs s1 rel1 ra e1 p1 ef1 => ?_
  split at e1
  · rename_i d eg
    cases e1
    exact ⟨F1, _, _, rel1.tabs, rel1.fh, Reps.app ra (hd _), eg, PostV.caller rel1 (fun _ z => nomatch z) (fun d' ed v F' H' s r rp => by cases ed; exact p1 v F' H' s r rp) (fun _ _ z => nomatch z)⟩
  · rename_i c d eg
    cases e1
    exact ⟨F1, _, _, rel1.tabs, rel1.fh, Reps.app ra (hd _), eg, PostV.caller rel1 (fun _ z => nomatch z) (fun _ z => nomatch z) (fun _ _ z => by cases z; exact p1)⟩
  · cases e1
theorem d_call (G : FnOk X.prog X.w X.K X.mg X.base CX k fa fd ps (spD X.K g)) (hr : Room k X.A) (hg : Gl X x) (hm : X.mg x = some (.ref fa)) (hk : PySem.W.keepIn X.K (.ref fa) = true) (hb : Binds X.K fd ps dus) (hd : Vals dvs dus) (hds : ∀ F, Reps X.K F dds dvs) (hx : Passes CX X E)
    (ha : PA X (e :: es) (tL X.K E l)) (hdb : (x == ("__debug__" : Str)) = false := by decide) (he : starEach (e :: es) X.env = (false, eval e X.env) :: starEach es X.env := by rfl) (hpl : (backTo pos (starEach es X.env)).any (·.1) = false := by rfl) :
    PE X (.Call (.Name x p) (e :: es) [] pos) (tD X.K E (mCall g dds l)) := PE.imp (pe_call G hr hg hm hk hb hd hx ha hdb he hpl) fun _ _ _ q => tCall_D hds q
theorem d_callF (G : FnOk X.prog X.w X.K X.mg X.base CX k fa fd ps (spD X.K g)) (hr : Room k X.A) (hg : Gl X x) (hm : X.mg x = some (.ref fa)) (hk : PySem.W.keepIn X.K (.ref fa) = true) (hb : Binds X.K fd ps dus) (hd : Vals dvs dus) (hds : ∀ F, Reps X.K F dds dvs) (hx : Passes CX X E)
    (ha : PA X (e :: es) (tL X.K E l)) (hdb : (x == ("__debug__" : Str)) = false := by decide) (he : starEach (e :: es) X.env = (false, eval e X.env) :: starEach es X.env := by rfl) (hpl : (backTo pos (starEach es X.env)).any (·.1) = false := by rfl) :
    PE X (.Call (.Name x p) (e :: es) [] pos) (tF X.K E (mCallF g dds l)) := PE.imp (pe_call G hr hg hm hk hb hd hx ha hdb he hpl) fun _ _ _ q => tCall_F hds q
/-- the first argument, a name, is lent -/
def mCallG (g : D → List D → Option (D × D)) (i : Nat) (l : M (List D)) : M D := fun ρ => match ρ[i]? with
  | some (.ow _ _) => bnd l (fun ds ρ => match ρ[i]? with
    | some (.ow t gd) => (match g gd ds with
      | some (d, gd') => some (.ok d (ρ.set i (.ow t gd')))
      | none => none)
    | _ => none) ρ
  | _ => none
theorem tCall_G {i : Nat} {gg : D → List D → Option (D × D)} {σ : L2.St} {H : Hp} {Q : VK} (q : tD X.K E (mCallG gg i l) σ H Q) : tCall (spG X.K gg) [] E (tCons (tVar i) (tL X.K E l)) σ H Q := by
  obtain ⟨F0, H0, ρ, F, z, rel, e, p⟩ := q
  unfold mCallG at e
  split at e
  · rename_i t0 gd0 e0
    obtain ⟨v, ev, b, eb, _⟩ := rel.get e0
    subst eb
    refine ⟨_, ev, step rel e p fun ρ1 F1 H1 ds vs s1 rel1 ra e1 p1 ef1 => ?_⟩
    split at e1
    · rename_i t gd e2
      split at e1
      · rename_i d gd' eg
        cases e1
        obtain ⟨v', ev', b', eb', fb, hb0, ow, tt⟩ := rel1.get e2
        rw [ev] at ev'
        cases ev'
        cases eb'
        refine ⟨b, vs, F1, gd, ds, d, gd', by rw [List.append_nil], rel1.tabs, rel1.fh, fb, ow, ra, eg, fun v F' H' x fb' ow' rp => ?_⟩
        exact p1 v F' H' x.ff (rel1.lent e2 ev x fb' ow') rp
      · cases e1
    · cases e1
  · cases e
theorem d_callG {i : Nat} {y : Str} {py : Pos} {gg : D → List D → Option (D × D)} (G : FnOk X.prog X.w X.K X.mg X.base CX k fa fd ps (spG X.K gg)) (hr : Room k X.A) (hg : Gl X x) (hm : X.mg x = some (.ref fa)) (hk : PySem.W.keepIn X.K (.ref fa) = true) (hb : Binds X.K fd ps []) (hx : Passes CX X E)
    (hN : X.N[i]? = some y) (hv : Vis X.env.scope y) (ha : PA X es (tL X.K E l)) (hd1 : (y == ("__debug__" : Str)) = false := by decide) (hd2 : (y == ("__classdict__" : Str)) = false := by decide) (hdb : (x == ("__debug__" : Str)) = false := by decide)
    (he : starEach (.Name y py :: es) X.env = (false, eval (.Name y py) X.env) :: starEach es X.env := by rfl) (hpl : (backTo pos (starEach es X.env)).any (·.1) = false := by rfl) :
    PE X (.Call (.Name x p) (.Name y py :: es) [] pos) (tD X.K E (mCallG gg i l)) := PE.imp (pe_call G hr hg hm hk hb .nil hx (pa_cons (pv i hN hv hd1 hd2) ha he) hdb he hpl) fun _ _ _ q => tCall_G q
end

/-! ### a def -/
/-- the names' data at the entry -/
def env0 (n : Nat) (ds : List D) : Env := ds.map SL.sh ++ List.replicate (n - ds.length) SL.no
def envG (n : Nat) (b : Addr) (gd : D) (ds : List D) : Env := SL.ow (some b) gd :: (ds.map SL.sh ++ List.replicate (n - 1 - ds.length) SL.no)
def Fin' : Ou → Rv → Prop
  | .rt d _, .ok d' => d = d'
  | .rf d _, .of d' => d = d'
  | .rf d _, .ok d' => d = d'
  | .nx _, .ok d => d = .non
  | .ex c d, .ex c' d' => c = c' ∧ d = d'
  | _, _ => False
/-- .. with the lent container in slot 0 behind it -/
def FinG (b : Addr) : Ou → D × D → Prop
  | .rt d ρ, (d', gd') => d = d' ∧ ρ[0]? = some (.ow (some b) gd')
  | .nx ρ, (d', gd') => d' = .non ∧ ρ[0]? = some (.ow (some b) gd')
  | _, _ => False
section
variable {K : PySem.W.Frag} {E : XK} {F0 H0 F H F' H' : Hp} {ρ : Env} {σ : L2.St}
theorem start_get {N : List Str} {vs : List V} {i : Nat} {v : Option V} (h : (start N vs)[i]? = some v) : (i < vs.length ∧ v = vs[i]?) ∨ (vs.length ≤ i ∧ v = none) := by
  unfold L2.start at h
  by_cases hi : i < vs.length
  · rw [List.getElem?_append_left (by simpa using hi)] at h
    rw [List.getElem?_map] at h
    obtain ⟨x, e, rfl⟩ := Option.map_eq_some_iff.mp h
    exact .inl ⟨hi, e.symm⟩
  · rw [List.getElem?_append_right (by simpa using hi)] at h
    rw [List.getElem?_replicate] at h
    split at h
    · cases h; exact .inr ⟨by omega, rfl⟩
    · cases h
theorem env0_get {n : Nat} {ds : List D} {i : Nat} {s : SL} (h : (env0 n ds)[i]? = some s) : (∃ d, ds[i]? = some d ∧ s = .sh d) ∨ s = .no := by
  unfold env0 at h
  by_cases hi : i < ds.length
  · rw [List.getElem?_append_left (by simpa using hi), List.getElem?_map] at h
    obtain ⟨x, e, rfl⟩ := Option.map_eq_some_iff.mp h
    exact .inl ⟨x, e, rfl⟩
  · rw [List.getElem?_append_right (by simpa using hi), List.getElem?_replicate] at h
    split at h
    · cases h; exact .inr rfl
    · cases h
theorem start_len {N : List Str} {vs : List V} (h : vs.length ≤ N.length) : (start N vs).length = N.length := by
  unfold L2.start
  rw [List.length_append, List.length_map, List.length_replicate]
  omega
theorem Rel.start {N : List Str} {ds : List D} {vs : List V} (tb : TOk K F H) (s : Same F H) (r : Reps K F ds vs) (hl : ds.length ≤ N.length) : Rel K F H (env0 N.length ds) F (L2.start N vs) H := by
  have hlen := r.len
  refine ⟨Ext.refl s, ?_, fun i s v e q => ?_, fun i j t u d e a q1 => ?_, tb⟩
  · rw [start_len (by omega)]
    unfold env0
    rw [List.length_append, List.length_map, List.length_replicate]
    omega
  · rcases env0_get e with ⟨d, ed, rfl⟩ | rfl
    · obtain ⟨x, ex, rx⟩ := r.get ed
      rcases start_get q with ⟨_, ev⟩ | ⟨h1, _⟩
      · exact ⟨x, by rw [ev, ex], rx⟩
      · have := (List.getElem?_eq_some_iff.mp ex).1
        omega
    · trivial
  · rcases env0_get q1 with ⟨d, _, e⟩ | e <;> cases e
/-- .. with a container lent -/
theorem Rel.startG {N : List Str} {ds : List D} {vs : List V} {b : Addr} {gd : D} (tb : TOk K F H) (s : Same F H) (fb : F b = none) (ow : Own K F H b gd) (r : Reps K F ds vs) (hl : ds.length + 1 ≤ N.length) : Rel K F (rem H b) (envG N.length b gd ds) F (L2.start N (.ref b :: vs)) H := by
  have hlen := r.len
  have hel : (envG N.length b gd ds).length = N.length := by
    unfold envG
    rw [List.length_cons, List.length_append, List.length_map, List.length_replicate]
    omega
  have get : ∀ i s, (envG N.length b gd ds)[i]? = some s → (i = 0 ∧ s = .ow (some b) gd) ∨ ∃ j, i = j + 1 ∧ ((∃ d, ds[j]? = some d ∧ s = .sh d) ∨ s = .no) := fun i s h => by
    cases i with
    | zero => cases h; exact .inl ⟨rfl, rfl⟩
    | succ j => exact .inr ⟨j, rfl, env0_get (n := N.length - 1) (by simpa [envG, env0] using h)⟩
  refine ⟨⟨Same.refl F, .of fun c o q => ?_, s, fun c o q1 q2 q3 => q1⟩, ?_, fun i s v e q => ?_, fun i j t u d e a q1 q2 => ?_, ⟨tabs_but (fun c hc => rem_ne hc) (fun o2 e2 => by
    obtain ⟨o, e3, ic⟩ := ow.isC
    rw [e3] at e2; cases e2; exact ic) tb.1, tb.2⟩⟩
  · by_cases hc : c = b
    · subst hc; rw [rem_same] at q; cases q
    · rw [rem_ne hc] at q; exact q
  · rw [start_len (by rw [List.length_cons]; omega), hel]
  · rcases get _ _ e with ⟨rfl, rfl⟩ | ⟨j, rfl, ⟨d, ed, rfl⟩ | rfl⟩
    · rcases start_get q with ⟨_, ev⟩ | ⟨h1, _⟩
      · exact ⟨b, by rw [ev]; rfl, fb, rem_same, ow, fun c z => by cases z; rfl⟩
      · rw [List.length_cons] at h1; omega
    · obtain ⟨x, ex, rx⟩ := r.get ed
      rcases start_get q with ⟨_, ev⟩ | ⟨h1, _⟩
      · exact ⟨x, by rw [ev]; simpa using ex, rx⟩
      · have := (List.getElem?_eq_some_iff.mp ex).1
        rw [List.length_cons] at h1
        omega
    · trivial
  · rcases get _ _ q1 with ⟨rfl, _⟩ | ⟨j, rfl, ⟨d, _, z⟩ | z⟩
    · rcases get _ _ q2 with ⟨rfl, _⟩ | ⟨j, rfl, ⟨d, _, z⟩ | z⟩
      · intros; rfl
      · cases z
      · cases z
    · cases z
    · cases z
theorem rF_fz {d : D} {v : V} (rel : Rel K F0 H0 ρ F σ H) (r : rF K H0 ρ σ F H d v) : ∃ F', Same F F' ∧ Rel K F0 H0 ρ F' σ H ∧ Rep K F' d v := by
  obtain ⟨a, rfl, fa, ha0, ow, ns⟩ := r
  obtain ⟨o, ho, nt⟩ := ow.some'
  have rel2 := rel.addF fa (.inl ha0) ho ns
  have ss : Same F (upd F a o) := fun b u q => by rw [upd_ne (ne_of_none q fa)]; exact q
  refine ⟨_, ss, rel2, ?_⟩
  cases d with
  | lst ds =>
    obtain ⟨vs, q, r⟩ := ow
    rw [ho] at q
    cases q
    exact ⟨a, vs, rfl, upd_same, Reps.mono (.of ss) r⟩
  | dK kvs =>
    obtain ⟨vs, q, r⟩ := ow
    rw [ho] at q
    cases q
    exact ⟨a, vs, rfl, .inl upd_same, RepK.mono (.of ss) r⟩
  | dT kvs =>
    obtain ⟨vs, q, r⟩ := ow
    rw [ho] at q
    cases q
    exact ⟨a, vs, rfl, .inl upd_same, RepT.mono (.of ss) r⟩
  | _ => exact ow.elim
/-- the end of a def's body -/
theorem body_end {N : List Str} {ds : List D} {vs : List V} {g : S} {o : Ou} {r : Rv} {Q : VK} (tb : TOk K F H) (s : Same F H) (ra : Reps K F ds vs) (hl : ds.length ≤ N.length) (e : g (env0 N.length ds) = some o) (fi : Fin' o r) (p : PostV K F H Q E r) :
    tS K E g { nx := fun _ H' => Q .non H', rt := Q } (L2.start N vs) H := by
  refine ⟨F, H, _, F, o, Rel.start tb s ra hl, e, ?_⟩
  cases o with
  | nx ρ =>
    cases r with
    | ok d => cases fi; exact fun σ' F' H' s' rel' => p .non F' H' rel'.ext rfl
    | _ => exact fi.elim
  | rt d ρ =>
    cases r with
    | ok d' => cases fi; exact fun v σ' F' H' s' rel' rp => p v F' H' rel'.ext rp
    | _ => exact fi.elim
  | rf d ρ =>
    cases r with
    | ok d' =>
      cases fi
      exact fun v σ' F' H' s' rel' rf => by
        obtain ⟨F2, s2, rel2, rp⟩ := rF_fz rel' rf
        exact p v F2 H' rel2.ext rp
    | of d' =>
      cases fi
      exact fun v σ' F' H' s' rel' rf => by
        obtain ⟨a, rfl, fa, ha, ow, _⟩ := rf
        exact p a F' H' rel'.ext fa ha ow
    | ex _ _ => exact fi.elim
  | ex c d =>
    cases r with
    | ex c' d' =>
      obtain ⟨rfl, rfl⟩ := fi
      exact fun a F' H' s' x xa => p a F' H' x xa
    | _ => exact fi.elim
  | bk _ => cases r <;> exact fi.elim
  | ct _ => cases r <;> exact fi.elim
theorem body_endG {N : List Str} {ds : List D} {vs : List V} {g : S} {o : Ou} {b : Addr} {gd d gd' : D} {Q : VK} (tb : TOk K F H) (s : Same F H) (fb : F b = none) (ow : Own K F H b gd) (ra : Reps K F ds vs) (hl : ds.length + 1 ≤ N.length) (e : g (envG N.length b gd ds) = some o) (fi : FinG b o (d, gd'))
    (p : ∀ v F' H', Ext K F (rem H b) F' H' → F' b = none → Own K F' H' b gd' → Rep K F' d v → Q v H') : tS K E g { nx := fun _ H' => Q .non H', rt := Q } (L2.start N (.ref b :: vs)) H := by
  refine ⟨F, _, _, F, o, Rel.startG tb s fb ow ra hl, e, ?_⟩
  cases o with
  | nx ρ =>
    obtain ⟨rfl, e0⟩ := fi
    exact fun σ' F' H' s' rel' => by
      obtain ⟨_, _, c, _, fc, _, owc, tt⟩ := rel'.get e0
      cases tt b rfl
      exact p .non F' H' rel'.ext fc owc rfl
  | rt d' ρ =>
    obtain ⟨rfl, e0⟩ := fi
    exact fun v σ' F' H' s' rel' rp => by
      obtain ⟨_, _, c, _, fc, _, owc, tt⟩ := rel'.get e0
      cases tt b rfl
      exact p v F' H' rel'.ext fc owc rp
  | _ => exact fi.elim
end
end Dl
/-! A def by running its body's function; built-ins. -/
namespace Dl
open PySem PySem.Spec PyProof.Rows L2

/-- what a def's body makes of its arguments -/
def endS : Option Ou → Option Rv
  | some (.rt d _) => some (.ok d)
  | some (.rf d _) => some (.of d)
  | some (.nx _) => some (.ok .non)
  | some (.ex c d) => some (.ex c d)
  | _ => none
def runF (n m : Nat) (G : S) (ds : List D) : Option Rv := if ds.length = m then endS (G (env0 n ds)) else none
theorem runF_some {n m : Nat} {G : S} {ds : List D} {r : Rv} (h : runF n m G ds = some r) : ds.length = m ∧ ∃ o, G (env0 n ds) = some o ∧ Fin' o r := by
  unfold runF at h
  split at h
  · rename_i hl
    refine ⟨hl, ?_⟩
    cases e : G (env0 n ds) with
    | none => rw [e] at h; cases h
    | some o =>
      rw [e] at h
      refine ⟨o, rfl, ?_⟩
      cases o with
      | rt d _ => cases h; rfl
      | rf d _ => cases h; rfl
      | nx _ => cases h; rfl
      | ex c d => cases h; exact ⟨rfl, rfl⟩
      | bk _ => cases h
      | ct _ => cases h
  · cases h
section
variable {P : Program} {w : World} {K : PySem.W.Frag} {mg : Str → Option Value} {base : Heap}
/-- THE RULE for a def whose arguments are data -/
theorem fn_D {x qual : Str} {st : Stmt} {f : Addr} {fd : FuncData} {N ps : List Str} {k : Nat} {G : S} (F : Fun K x qual st f fd) (Sc : FnScope N ps (defScope st)) (hle : ps.length ≤ N.length)
    (hbody : ∀ (cdv : Value) (A : Around) (outer : List PySem.Env) (s : Shared) (H : Hp) (E : XK), Room k (A.deeper (envOfC qual (defScope st) s.heap.objs.size f cdv)) → PSs (cxOf (L2.CX P w) P w K mg base N qual (defScope st) f cdv A outer s H E) (defBody st) (tS K E G)) :
    FnOk P w K mg base (L2.CX P w) (k + 1) f fd ps (spD K (runF N.length ps.length G)) := by
  refine F.okX Sc (fun vs H Q E ⟨F', ds, r, _, s, ra, e, _⟩ => ?_) fun cdv A outer s H vs Q E hr ⟨F', ds, r, tb, sm, ra, e, p⟩ => ⟨_, hbody cdv A outer s H E hr, ?_⟩
  · rw [← ra.len]; exact (runF_some e).1
  · obtain ⟨hl, o, e1, fi⟩ := runF_some e
    exact body_end tb sm ra (by omega) e1 fi p
/-- .. with defaults -/
theorem fn_DD {x qual : Str} {params : Arguments} {body : List Stmt} {scope : Scope} {dvs : List V} {kws : List (Str × V)} {f : Addr} {fd : FuncData} {N ps : List Str} {k : Nat} {G : S} (F : FunD K x qual params body scope dvs kws f fd) (Sc : FnScope N ps scope) (hle : ps.length ≤ N.length)
    (hbody : ∀ (cdv : Value) (A : Around) (outer : List PySem.Env) (s : Shared) (H : Hp) (E : XK), Room k (A.deeper (envOfC qual scope s.heap.objs.size f cdv)) → PSs (cxOf (L2.CX P w) P w K mg base N qual scope f cdv A outer s H E) body (tS K E G)) :
    FnOk P w K mg base (L2.CX P w) (k + 1) f fd ps (spD K (runF N.length ps.length G)) := by
  refine F.ok Sc (fun vs H Q E ⟨F', ds, r, _, s, ra, e, _⟩ => ?_) fun cdv A outer s H vs Q E hr ⟨F', ds, r, tb, sm, ra, e, p⟩ => ⟨_, hbody cdv A outer s H E hr, ?_⟩
  · rw [← ra.len]; exact (runF_some e).1
  · obtain ⟨hl, o, e1, fi⟩ := runF_some e
    exact body_end tb sm ra (by omega) e1 fi p
/-- a def whose first argument is a container lent -/
theorem fn_G {x qual : Str} {st : Stmt} {f : Addr} {fd : FuncData} {N ps : List Str} {k : Nat} {G : S} {g : D → List D → Option (D × D)} (F : Fun K x qual st f fd) (Sc : FnScope N ps (defScope st)) (hle : ps.length ≤ N.length)
    (hg : ∀ gd ds r, g gd ds = some r → ds.length + 1 = ps.length ∧ ∀ b, ∃ o, G (envG N.length b gd ds) = some o ∧ FinG b o r)
    (hbody : ∀ (cdv : Value) (A : Around) (outer : List PySem.Env) (s : Shared) (H : Hp) (E : XK), Room k (A.deeper (envOfC qual (defScope st) s.heap.objs.size f cdv)) → PSs (cxOf (L2.CX P w) P w K mg base N qual (defScope st) f cdv A outer s H E) (defBody st) (tS K E G)) :
    FnOk P w K mg base (L2.CX P w) (k + 1) f fd ps (spG K g) := by
  refine F.okX Sc (fun vs H Q E ⟨b, xs, F', gd, ds, d, gd', ev, _, s, fb, ow, ra, e, _⟩ => ?_) fun cdv A outer s H vs Q E hr ⟨b, xs, F', gd, ds, d, gd', ev, tb, sm, fb, ow, ra, e, p⟩ => ⟨_, hbody cdv A outer s H E hr, ?_⟩
  · rw [ev, List.length_cons, ← ra.len]; exact (hg _ _ _ e).1
  · obtain ⟨hl, q⟩ := hg _ _ _ e
    obtain ⟨o, e1, fi⟩ := q b
    subst ev
    exact body_endG tb sm fb ow ra (by omega) e1 fi p
/-- no def calls without a depth -/
theorem fn_none {f : Addr} {fd : FuncData} {ps : List Str} {k : Nat} : FnOk P w K mg base (L2.CX P w) k f fd ps (spD K fun _ => none) :=
  ⟨fun vs H Q E ⟨_, _, _, _, _, _, e, _⟩ => (nomatch e), fun A outer s H args us vs Q E hr he hb hv ⟨_, _, _, _, _, _, e, _⟩ => (nomatch e)⟩
end

/-! ### built-ins on numbers -/
def nAbs : List D → Option D
  | [.int i] => some (.int (if i < 0 then -i else i))
  | _ => none
def nInt : List D → Option D
  | [.int i] => some (.int i)
  | [.bl k] => some (.int (if k then 1 else 0))
  | _ => none
section
variable {K : PySem.W.Frag}
theorem dn_abs : DN K (fun xs H Q => ∃ i, xs = [.int i] ∧ Q (.int (if i < 0 then -i else i)) H) nAbs := by
  intro F H ds xs c Q fh ra hc gv
  unfold nAbs at hc
  split at hc
  · cases hc
    obtain ⟨v, t, rfl, r1, r2⟩ := ra
    cases r1
    cases r2
    exact ⟨_, rfl, gv.here fh rfl⟩
  · cases hc
theorem dn_int : DN K (fun xs H Q => (∃ i, xs = [.int i] ∧ Q (.int i) H) ∨ ∃ k, xs = [.bl k] ∧ Q (.int (if k then 1 else 0)) H) nInt := by
  intro F H ds xs c Q fh ra hc gv
  unfold nInt at hc
  split at hc
  · cases hc
    obtain ⟨v, t, rfl, r1, r2⟩ := ra
    cases r1
    cases r2
    exact .inl ⟨_, rfl, gv.here fh rfl⟩
  · cases hc
    obtain ⟨v, t, rfl, r1, r2⟩ := ra
    cases r1
    cases r2
    exact .inr ⟨_, rfl, gv.here fh rfl⟩
  · cases hc
end
section
variable {X : Cx} {E : XK} {a b c e o i : Expr} {es : List Expr} {pos p : Pos} {f g h : M D} {l : M (List D)} {t u : M Bool}
theorem d_abs (hg : Gl X "abs") (hm : X.mg "abs" = none) (ha : PE X e (tD X.K E f)) (he : starEach [e] X.env = (false, eval e X.env) :: starEach [] X.env := by rfl) : PE X (.Call (.Name "abs" p) [e] [] pos) (tD X.K E (mN nAbs (mCons f (ret [])))) :=
  de_callB call_abs dn_abs hg hm boot_abs (dl_cons ha dl_nil he) (by decide) (by decide) he rfl
theorem d_int (hg : Gl X "int") (hm : X.mg "int" = none) (ha : PE X e (tD X.K E f)) (he : starEach [e] X.env = (false, eval e X.env) :: starEach [] X.env := by rfl) : PE X (.Call (.Name "int" p) [e] [] pos) (tD X.K E (mN nInt (mCons f (ret [])))) :=
  de_callT call_int1 dn_int hg hm boot_int (dl_cons ha dl_nil he) (by decide) (by decide) he rfl
end

/-! ### isinstance with a built-in class -/
def dTy : D → Option String
  | .non => some "NoneType"
  | .bl _ => some "bool"
  | .int _ => some "int"
  | .str _ => some "str"
  | .tup _ => some "tuple"
  | .lst _ => some "list"
  | .seq _ => some "list"
  | .dK _ => some "dict"
  | .dT _ => none
  | .fn _ => none
  | .ty _ => none
def oIsi (T : String) (d : D) : Option D := (dTy d).bind fun n => (kitB n T).map .bl
section
variable {K : PySem.W.Frag} {F H : Hp}
theorem tyx_lst {a : Addr} {vs : List V} (h : SqL K H a vs) : TyX K H (.ref a) (.type "list") := by
  rcases h with (h | ⟨o, h⟩) | ⟨o, its, n, h, c, _⟩
  · exact .base (.lst h)
  · exact .base (.frz h)
  · exact .kList h c
theorem Rep.tyx {d : D} {v : V} {n : String} (r : Rep K H d v) (e : dTy d = some n) : TyX K H v (.type n) := by
  cases d with
  | non => cases e; cases r; exact .base .non
  | bl b => cases e; cases r; exact .base (.bl b)
  | int b => cases e; cases r; exact .base (.int b)
  | str b => cases e; cases r; exact .base (.str b)
  | fn _ => cases e
  | ty _ => cases e
  | tup ds => cases e; obtain ⟨a, vs, rfl, h, _⟩ := r; exact .base (.tup h)
  | lst ds => cases e; obtain ⟨a, vs, rfl, h, _⟩ := r; exact tyx_lst (SqL.of h)
  | seq ds => cases e; obtain ⟨a, vs, rfl, h, _⟩ := r; exact tyx_lst h
  | dK ds =>
    cases e
    obtain ⟨a, vs, rfl, h | ⟨o, h⟩, _⟩ := r
    · exact .base (.dK h)
    · exact .fDict h
  | dT ds => cases e
/-- isinstance(e, T) -/
theorem tB_isi {E : XK} {T : String} {f : M D} {σ : L2.St} {Q : VK} (q : tD K E (mUn (oIsi T) f) σ H Q) : tCB (rIsi K) (tCons (tB K E f) (tCons (tC (.ty T)) tNil)) σ H Q := by
  have k : DUb K (fun x H Q => rIsi K [x, .ty T] H Q) (oIsi T) := fun F H d x c Q fh rd hc gv => by
    obtain ⟨n, e1, e2⟩ := Option.bind_eq_some_iff.mp hc
    obtain ⟨b, e3, rfl⟩ := Option.map_eq_some_iff.mp e2
    exact ⟨x, .ty T, _, _, b, rfl, .ty T, (rd.rep fh).tyx e1, kit_ty e3, gv.here fh rfl⟩
  exact tB_un k q
end
section
variable {X : Cx} {E : XK} {a b c e o i : Expr} {es : List Expr} {pos p : Pos} {f g h : M D} {l : M (List D)} {t u : M Bool}
theorem d_isi {y : Str} {py : Pos} {T : String} (hg : Gl X "isinstance") (hm : X.mg "isinstance" = none) (hgy : Gl X y) (hmy : X.mg y = none) (hvy : bootBuiltins y = some (.type T)) (hny : y ≠ "__name__") (hdy : (y == ("__debug__" : Str)) = false) (ha : PE X e (tB X.K E f))
    (he : starEach [e, .Name y py] X.env = (false, eval e X.env) :: starEach [.Name y py] X.env := by rfl) (he2 : starEach [.Name y py] X.env = (false, eval (.Name y py) X.env) :: starEach [] X.env := by rfl) (hpl : (backTo pos (starEach [.Name y py] X.env)).any (·.1) = false := by rfl) :
    PE X (.Call (.Name "isinstance" p) [e, .Name y py] [] pos) (tD X.K E (mUn (oIsi T) f)) :=
  PE.imp (pe_callB call_isi hg hm boot_isinstance (pa_cons ha (pa_cons (pe_bltn hgy hmy hvy (show RelV (.ty T) (.type T) from rfl) hny hdy) pa_nil he2) he) (by decide) (by decide) he hpl) fun σ H Q q => tB_isi q

/-! ### sums, all, max of a list -/
def intsOf : List D → Option (List Int)
  | [] => some []
  | .int i :: r => (intsOf r).map fun l => i :: l
  | _ :: _ => none
def blsOf : List D → Option (List Bool)
  | [] => some []
  | .bl i :: r => (blsOf r).map fun l => i :: l
  | _ :: _ => none
theorem intsOf_rep {K : PySem.W.Frag} {F : Hp} : ∀ {ds : List D} {vs : List V} {ns : List Int}, Reps K F ds vs → intsOf ds = some ns → vs = ns.map V.int
  | [], _, _, r, e => by cases r; cases e; rfl
  | .int i :: ds, _, _, r, e => by
    obtain ⟨v, t, rfl, q, z⟩ := r
    obtain ⟨l, e1, rfl⟩ := Option.map_eq_some_iff.mp e
    cases q
    rw [intsOf_rep z e1]
    rfl
  | .non :: _, _, _, _, e => by cases e
  | .bl _ :: _, _, _, _, e => by cases e
  | .str _ :: _, _, _, _, e => by cases e
  | .fn _ :: _, _, _, _, e => by cases e
  | .ty _ :: _, _, _, _, e => by cases e
  | .tup _ :: _, _, _, _, e => by cases e
  | .lst _ :: _, _, _, _, e => by cases e
  | .seq _ :: _, _, _, _, e => by cases e
  | .dK _ :: _, _, _, _, e => by cases e
  | .dT _ :: _, _, _, _, e => by cases e
theorem blsOf_rep {K : PySem.W.Frag} {F : Hp} : ∀ {ds : List D} {vs : List V} {ns : List Bool}, Reps K F ds vs → blsOf ds = some ns → vs = ns.map V.bl
  | [], _, _, r, e => by cases r; cases e; rfl
  | .bl i :: ds, _, _, r, e => by
    obtain ⟨v, t, rfl, q, z⟩ := r
    obtain ⟨l, e1, rfl⟩ := Option.map_eq_some_iff.mp e
    cases q
    rw [blsOf_rep z e1]
    rfl
  | .non :: _, _, _, _, e => by cases e
  | .int _ :: _, _, _, _, e => by cases e
  | .str _ :: _, _, _, _, e => by cases e
  | .fn _ :: _, _, _, _, e => by cases e
  | .ty _ :: _, _, _, _, e => by cases e
  | .tup _ :: _, _, _, _, e => by cases e
  | .lst _ :: _, _, _, _, e => by cases e
  | .seq _ :: _, _, _, _, e => by cases e
  | .dK _ :: _, _, _, _, e => by cases e
  | .dT _ :: _, _, _, _, e => by cases e
def oSum : D → Option D
  | .lst ds => (intsOf ds).map fun ns => .int ns.sum
  | _ => none
def oAll : D → Option D
  | .lst ds => (blsOf ds).map fun ns => .bl (ns.all id)
  | _ => none
def oAny : D → Option D
  | .lst ds => (blsOf ds).map fun ns => .bl (ns.any id)
  | _ => none
def maxL : List Int → Option Int
  | [] => none
  | [i] => some i
  | i :: r => (maxL r).map fun m => if i < m then m else i
def minL : List Int → Option Int
  | [] => none
  | [i] => some i
  | i :: r => (minL r).map fun m => if m < i then m else i
theorem maxL_some : ∀ {ns : List Int} {m : Int}, maxL ns = some m → m ∈ ns ∧ ∀ y ∈ ns, y ≤ m
  | [], _, h => by cases h
  | [i], _, h => by cases h; simp
  | i :: j :: r, m, h => by
    obtain ⟨k, e, rfl⟩ := Option.map_eq_some_iff.mp (show (maxL (j :: r)).map _ = some m from h)
    obtain ⟨h1, h2⟩ := maxL_some e
    split
    · rename_i hl
      exact ⟨List.mem_cons_of_mem _ h1, fun y hy => by
        rcases List.mem_cons.mp hy with rfl | hy
        · omega
        · exact h2 y hy⟩
    · rename_i hl
      exact ⟨List.mem_cons_self .., fun y hy => by
        rcases List.mem_cons.mp hy with rfl | hy
        · omega
        · have := h2 y hy; omega⟩
theorem minL_some : ∀ {ns : List Int} {m : Int}, minL ns = some m → m ∈ ns ∧ ∀ y ∈ ns, m ≤ y
  | [], _, h => by cases h
  | [i], _, h => by cases h; simp
  | i :: j :: r, m, h => by
    obtain ⟨k, e, rfl⟩ := Option.map_eq_some_iff.mp (show (minL (j :: r)).map _ = some m from h)
    obtain ⟨h1, h2⟩ := minL_some e
    split
    · rename_i hl
      exact ⟨List.mem_cons_of_mem _ h1, fun y hy => by
        rcases List.mem_cons.mp hy with rfl | hy
        · omega
        · exact h2 y hy⟩
    · rename_i hl
      exact ⟨List.mem_cons_self .., fun y hy => by
        rcases List.mem_cons.mp hy with rfl | hy
        · omega
        · have := h2 y hy; omega⟩
def oMax : D → Option D
  | .lst ds => (intsOf ds).bind fun ns => (maxL ns).map .int
  | _ => none
def oMin : D → Option D
  | .lst ds => (intsOf ds).bind fun ns => (minL ns).map .int
  | _ => none
section
variable {K : PySem.W.Frag}
theorem dub_sum : DUb K (fun x H Q => rSum K [x] H Q) oSum := by
  intro F H d x c Q fh rd hc gv
  unfold oSum at hc
  split at hc
  · obtain ⟨ns, e, rfl⟩ := Option.map_eq_some_iff.mp hc
    obtain ⟨a, vs, rfl, h, z⟩ := rd.sq rfl fh
    rw [intsOf_rep z e] at h
    exact ⟨a, ns, rfl, h, gv.here fh rfl⟩
  · cases hc
theorem dub_all : DUb K (fun x H Q => rAll K [x] H Q) oAll := by
  intro F H d x c Q fh rd hc gv
  unfold oAll at hc
  split at hc
  · obtain ⟨ns, e, rfl⟩ := Option.map_eq_some_iff.mp hc
    obtain ⟨a, vs, rfl, h, z⟩ := rd.sq rfl fh
    rw [blsOf_rep z e] at h
    exact ⟨a, ns, rfl, h, gv.here fh rfl⟩
  · cases hc
theorem dub_any : DUb K (fun x H Q => rAny K [x] H Q) oAny := by
  intro F H d x c Q fh rd hc gv
  unfold oAny at hc
  split at hc
  · obtain ⟨ns, e, rfl⟩ := Option.map_eq_some_iff.mp hc
    obtain ⟨a, vs, rfl, h, z⟩ := rd.sq rfl fh
    rw [blsOf_rep z e] at h
    exact ⟨a, ns, rfl, h, gv.here fh rfl⟩
  · cases hc
theorem dub_max : DUb K (fun x H Q => rMax K [x] H Q) oMax := by
  intro F H d x c Q fh rd hc gv
  unfold oMax at hc
  split at hc
  · obtain ⟨ns, e, e2⟩ := Option.bind_eq_some_iff.mp hc
    obtain ⟨m, e3, rfl⟩ := Option.map_eq_some_iff.mp e2
    obtain ⟨a, vs, rfl, h, z⟩ := rd.sq rfl fh
    rw [intsOf_rep z e] at h
    obtain ⟨m1, m2⟩ := maxL_some e3
    refine ⟨a, ns, rfl, h, List.length_pos_of_mem m1, fun k k1 k2 => ?_⟩
    have : k = m := Int.le_antisymm (m2 k k1) (k2 m m1)
    subst this
    exact gv.here fh rfl
  · cases hc
theorem dub_min : DUb K (fun x H Q => rMin K [x] H Q) oMin := by
  intro F H d x c Q fh rd hc gv
  unfold oMin at hc
  split at hc
  · obtain ⟨ns, e, e2⟩ := Option.bind_eq_some_iff.mp hc
    obtain ⟨m, e3, rfl⟩ := Option.map_eq_some_iff.mp e2
    obtain ⟨a, vs, rfl, h, z⟩ := rd.sq rfl fh
    rw [intsOf_rep z e] at h
    obtain ⟨m1, m2⟩ := minL_some e3
    refine ⟨a, ns, rfl, h, List.length_pos_of_mem m1, fun k k1 k2 => ?_⟩
    have : k = m := Int.le_antisymm (k2 m m1) (m2 k k1)
    subst this
    exact gv.here fh rfl
  · cases hc
end
theorem d_sum (hc : X.calm = true) (hg : Gl X "sum") (hm : X.mg "sum" = none) (ha : PE X e (tB X.K E f)) (he : starEach [e] X.env = (false, eval e X.env) :: starEach [] X.env := by rfl) : PE X (.Call (.Name "sum" p) [e] [] pos) (tD X.K E (mUn oSum f)) :=
  d_call1B (cr_sum hc) dub_sum hg hm boot_sum ha (by decide) (by decide) he rfl
theorem d_all (hc : X.calm = true) (hg : Gl X "all") (hm : X.mg "all" = none) (ha : PE X e (tB X.K E f)) (he : starEach [e] X.env = (false, eval e X.env) :: starEach [] X.env := by rfl) : PE X (.Call (.Name "all" p) [e] [] pos) (tD X.K E (mUn oAll f)) :=
  d_call1B (cr_all hc) dub_all hg hm boot_all ha (by decide) (by decide) he rfl
theorem d_any (hc : X.calm = true) (hg : Gl X "any") (hm : X.mg "any" = none) (ha : PE X e (tB X.K E f)) (he : starEach [e] X.env = (false, eval e X.env) :: starEach [] X.env := by rfl) : PE X (.Call (.Name "any" p) [e] [] pos) (tD X.K E (mUn oAny f)) :=
  d_call1B (cr_any hc) dub_any hg hm boot_any ha (by decide) (by decide) he rfl
theorem d_max (hc : X.calm = true) (hg : Gl X "max") (hm : X.mg "max" = none) (ha : PE X e (tB X.K E f)) (he : starEach [e] X.env = (false, eval e X.env) :: starEach [] X.env := by rfl) : PE X (.Call (.Name "max" p) [e] [] pos) (tD X.K E (mUn oMax f)) :=
  d_call1B (cr_max hc) dub_max hg hm boot_max ha (by decide) (by decide) he rfl
theorem d_min (hc : X.calm = true) (hg : Gl X "min") (hm : X.mg "min" = none) (ha : PE X e (tB X.K E f)) (he : starEach [e] X.env = (false, eval e X.env) :: starEach [] X.env := by rfl) : PE X (.Call (.Name "min" p) [e] [] pos) (tD X.K E (mUn oMin f)) :=
  d_call1B (cr_min hc) dub_min hg hm boot_min ha (by decide) (by decide) he rfl
end
end Dl
/-! New lists, tuples out of others; slices; stores into own containers; membership. -/
namespace Dl
open PySem PySem.Spec PyProof.Rows L2

/-! ### a new list -/
def NewL (K : PySem.W.Frag) (F H : Hp) (ds : List D) (Q : VK) : Prop := ∀ p ys F', Ext K F H F' H → H p = none → Reps K F' ds ys → Q (.ref p) (upd H p (.lst ys))
def DUbF (K : PySem.W.Frag) (r : V → Hp → VK → Prop) (h : D → Option (List D)) : Prop := ∀ F H d x ds Q, Same F H → RB K F H d x → h d = some ds → NewL K F H ds Q → r x H Q
def DBbF (K : PySem.W.Frag) (r : R2) (h : D → D → Option (List D)) : Prop := ∀ F H d x e y ds Q, Same F H → RB K F H d x → RB K F H e y → h d e = some ds → NewL K F H ds Q → r x y H Q
def mUnF (h : D → Option (List D)) (f : M D) : M D := bnd f fun a => opt ((h a).map .lst)
def mOpF (h : D → D → Option (List D)) (f g : M D) : M D := bnd f fun a => bnd g fun b => opt ((h a b).map .lst)
section
variable {K : PySem.W.Frag} {E : XK} {F0 H0 F H F' H' : Hp} {ρ : Env} {σ : L2.St} {f g : M D} {l : M (List D)} {Q : VK}
theorem Post.newL {o : Option (List D)} {r : Rs D} (e : opt (o.map D.lst) ρ = some r) (rel : Rel K F0 H0 ρ F σ H) (p : Post (rF K) K E F0 H0 F σ Q r) : ∃ c, o = some c ∧ NewL K F H c Q := by
  cases o with
  | none => cases e
  | some c =>
    cases e
    refine ⟨c, rfl, fun q ys F' x hq r => ?_⟩
    have rel' := rel.grow x
    exact p _ F' _ x.ff (rel'.grow (Ext.put x.fh hq)) ⟨q, rfl, x.fh.free hq, rel.ext.hh.free hq, ⟨ys, upd_same, r⟩, fun i t d e => rel.noslot hq i t d e⟩
theorem tB_unF {r : V → Hp → VK → Prop} {h : D → Option (List D)} (dr : DUbF K r h) (q : tF K E (mUnF h f) σ H Q) : tUn r (tB K E f) σ H Q := by
  obtain ⟨F0, H0, ρ, F, z, rel, e, p⟩ := q
  refine step rel e p fun ρ1 F1 H1 a v s1 rel1 ra e1 p1 ef1 => ?_
  obtain ⟨c, ec, gv⟩ := Post.newL e1 rel1 p1
  exact dr _ _ _ _ _ _ rel1.fh (rel1.rb ra) ec gv
theorem tB_opF {r : R2} {h : D → D → Option (List D)} (pu : Pu g) (dr : DBbF K r h) (q : tF K E (mOpF h f g) σ H Q) : tOp r (tB K E f) (tB K E g) σ H Q := by
  obtain ⟨F0, H0, ρ, F, z, rel, e, p⟩ := q
  refine step rel e p fun ρ1 F1 H1 a v s1 rel1 ra e1 p1 ef1 => ?_
  refine step rel1 e1 p1 fun ρ2 F2 H2 b w s2 rel2 rb e2 p2 ef2 => ?_
  cases pu _ _ _ ef2
  obtain ⟨c, ec, gv⟩ := Post.newL e2 rel2 p2
  exact dr _ _ _ _ _ _ _ _ rel2.fh (rel2.rb (rB_keep ra s2)) (rel2.rb rb) ec gv
theorem NewL.here {ds : List D} {ys : List V} (n : NewL K F H ds Q) (s : Same F H) (r : Reps K F ds ys) : ∀ p, H p = none → Q (.ref p) (upd H p (.lst ys)) := fun p hp => n p ys F (Ext.refl s) hp r
end
section
variable {X : Cx} {E : XK} {a b c e o i : Expr} {es : List Expr} {pos p : Pos} {f g h : M D} {l : M (List D)} {t u : M Bool}
theorem d_call1F {x : Str} {id : String} {r : List V → Hp → VK → Prop} {k : D → Option (List D)} (hc : CallR X (.builtin id) r) (dr : DUbF X.K (fun x H Q => r [x] H Q) k) (hg : Gl X x) (hm : X.mg x = none) (hv : bootBuiltins x = some (.builtin id)) (ha : PE X e (tB X.K E f))
    (hn : x ≠ "__name__" := by decide) (hdb : (x == ("__debug__" : Str)) = false := by decide) (he : starEach [e] X.env = (false, eval e X.env) :: starEach [] X.env := by rfl) (hpl : (backTo pos (starEach [] X.env)).any (·.1) = false := by rfl) :
    PE X (.Call (.Name x p) [e] [] pos) (tF X.K E (mUnF k f)) := PE.imp (pe_callB hc hg hm hv (pa_cons ha pa_nil he) hn hdb he hpl) fun σ H Q q => tB_unF dr q
theorem d_callT1F {x : Str} {T : String} {r : List V → Hp → VK → Prop} {k : D → Option (List D)} (hc : CallR X (.type T) r) (dr : DUbF X.K (fun x H Q => r [x] H Q) k) (hg : Gl X x) (hm : X.mg x = none) (hv : bootBuiltins x = some (.type T)) (ha : PE X e (tB X.K E f))
    (hn : x ≠ "__name__" := by decide) (hdb : (x == ("__debug__" : Str)) = false := by decide) (he : starEach [e] X.env = (false, eval e X.env) :: starEach [] X.env := by rfl) (hpl : (backTo pos (starEach [] X.env)).any (·.1) = false := by rfl) :
    PE X (.Call (.Name x p) [e] [] pos) (tF X.K E (mUnF k f)) := PE.imp (pe_callTy hc hg hm hv (pa_cons ha pa_nil he) hn hdb he hpl) fun σ H Q q => tB_unF dr q

/-! ### list(x) -/
def keyT (k : List Key) : D := .tup (k.map kD)
def oList : D → Option (List D)
  | .lst ds => some ds
  | .seq ds => some ds
  | .tup ds => some ds
  | .dT kvs => some (kvs.map fun kv => keyT kv.1)
  | _ => none
theorem reps_keys {K : PySem.W.Frag} {F : Hp} : ∀ k : List Key, Reps K F (k.map kD) (k.map kV)
  | [] => rfl
  | .inl i :: r => ⟨_, _, rfl, rfl, reps_keys r⟩
  | .inr i :: r => ⟨_, _, rfl, rfl, reps_keys r⟩
theorem addT {K : PySem.W.Frag} {F H : Hp} {b : Addr} {xs : List V} (s : Same F H) (h : H b = some (.tup xs)) : ∃ F', Ext K F H F' H ∧ F' b = some (.tup xs) := by
  cases e : F b with
  | some o =>
    have := s _ _ e
    rw [h] at this
    cases this
    exact ⟨F, Ext.refl s, e⟩
  | none =>
    refine ⟨upd F b (.tup xs), ⟨fun c u q => ?_, .of (Same.refl H), fun c u q => ?_, fun c o q1 q2 q3 => ?_⟩, upd_same⟩
    · rw [upd_ne (ne_of_none q e)]; exact q
    · by_cases hb : c = b
      · subst hb; rw [upd_same] at q; cases q; exact h
      · rw [upd_ne hb] at q; exact s _ _ q
    · by_cases hb : c = b
      · subst hb; rw [h] at q2; cases q2; exact absurd rfl (q3 xs)
      · rw [upd_ne hb]; exact q1
theorem addKeys {K : PySem.W.Frag} {H : Hp} : ∀ {kvs : List (List Key × V)} {ds : List (List Key × D)} {bs : List Addr} {F : Hp}, Same F H → RepT K F ds kvs → IsKeys H kvs bs → ∃ F', Ext K F H F' H ∧ Reps K F' (ds.map fun kv => keyT kv.1) (bs.map V.ref)
  | _, [], _, F, s, r, k => by
    cases r
    cases k
    exact ⟨F, Ext.refl s, rfl⟩
  | _, (k0, d) :: ds, _, F, s, r, k => by
    obtain ⟨v, t, rfl, q, z⟩ := r
    cases k with
    | cons h1 h2 =>
      obtain ⟨F1, x1, r1⟩ := addKeys s z h2
      obtain ⟨F2, x2, r2⟩ := addT (K := K) x1.fh h1
      exact ⟨F2, x1.trans x2, _, _, rfl, ⟨_, _, rfl, r2, reps_keys k0⟩, Reps.mono (.of x2.ff) r1⟩
theorem dubF_list {K : PySem.W.Frag} : DUbF K (fun x H Q => (∃ p ys, [x] = [V.ref p] ∧ (SqL K H p ys ∨ SqT K H p ys) ∧ ∀ l, H l = none → Q (.ref l) (upd H l (.lst ys))) ∨
    ∃ d kvs, [x] = [V.ref d] ∧ Rd H d (.dT kvs) ∧ ∀ p bs, H p = none → IsKeys H kvs bs → Q (.ref p) (upd H p (.lst (bs.map V.ref)))) oList := by
  intro F H d x c Q fh rd hc n
  unfold oList at hc
  split at hc
  · cases hc
    obtain ⟨a, vs, rfl, h, z⟩ := rd.sq rfl fh
    exact .inl ⟨a, vs, rfl, .inl h, n.here fh z⟩
  · cases hc
    obtain ⟨a, vs, rfl, h, z⟩ := rd.sq rfl fh
    exact .inl ⟨a, vs, rfl, .inl h, n.here fh z⟩
  · cases hc
    obtain ⟨a, vs, rfl, h, z⟩ := rd.tup fh
    exact .inl ⟨a, vs, rfl, .inr (SqT.of h), n.here fh z⟩
  · cases hc
    obtain ⟨a, vs, rfl, h, z⟩ := rd.dT fh
    refine .inr ⟨a, vs, rfl, h, fun p bs hp hk => ?_⟩
    obtain ⟨F', x, r⟩ := addKeys fh z hk
    exact n p _ F' x hp r
  · cases hc
theorem d_list (hc : X.calm = true) (hg : Gl X "list") (hm : X.mg "list" = none) (ha : PE X e (tB X.K E f)) (he : starEach [e] X.env = (false, eval e X.env) :: starEach [] X.env := by rfl) : PE X (.Call (.Name "list" p) [e] [] pos) (tF X.K E (mUnF oList f)) :=
  d_callT1F (call_list_of.or (call_list_dT hc)) dubF_list hg hm boot_list ha (by decide) (by decide) he rfl
/-- tuple(x) -/
def oTuple : D → Option D
  | .lst ds => some (.tup ds)
  | .seq ds => some (.tup ds)
  | .tup ds => some (.tup ds)
  | _ => none
theorem dub_tuple {K : PySem.W.Frag} : DUb K (fun x H Q => ∃ p ys, [x] = [V.ref p] ∧ ((SqL K H p ys ∧ ∀ l, H l = none → Q (.ref l) (upd H l (.tup ys))) ∨ (SqT K H p ys ∧ Q (.ref p) H))) oTuple := by
  intro F H d x c Q fh rd hc gv
  have go : ∀ ds, itemsL d = some ds → c = .tup ds → ∃ p ys, [x] = [V.ref p] ∧ ((SqL K H p ys ∧ ∀ l, H l = none → Q (.ref l) (upd H l (.tup ys))) ∨ (SqT K H p ys ∧ Q (.ref p) H)) := fun ds e1 e2 => by
    subst e2
    obtain ⟨a, vs, rfl, h, z⟩ := rd.sq e1 fh
    refine ⟨a, vs, rfl, .inl ⟨h, fun q hq => ?_⟩⟩
    have xt := Ext.laid (K := K) (o := .tup vs) fh hq
    exact gv _ _ _ xt ⟨q, vs, rfl, upd_same, Reps.mono (.of xt.ff) z⟩
  unfold oTuple at hc
  split at hc
  · cases hc; exact go _ rfl rfl
  · cases hc; exact go _ rfl rfl
  · cases hc
    rcases rd with ⟨a, vs, rfl, q, z⟩ | ⟨a, e, q⟩
    · exact ⟨a, vs, rfl, .inr ⟨SqT.of (fh _ _ q), gv.here fh ⟨a, vs, rfl, q, z⟩⟩⟩
    · exact q.elim
  · cases hc
theorem d_tuple (hg : Gl X "tuple") (hm : X.mg "tuple" = none) (ha : PE X e (tB X.K E f)) (he : starEach [e] X.env = (false, eval e X.env) :: starEach [] X.env := by rfl) : PE X (.Call (.Name "tuple" p) [e] [] pos) (tD X.K E (mUn oTuple f)) :=
  d_call1T call_tuple_of dub_tuple hg hm boot_tuple ha (by decide) (by decide) he rfl
/-- tuple(range(n)) -/
def oTupRg : D → Option D
  | .int j => if decide (0 ≤ j) && decide (j ≤ 16777216) then some (.tup ((List.range j.toNat).map fun i => .int (i : Nat))) else none
  | _ => none
theorem du_tupRg {K : PySem.W.Frag} : DU K (fun x H Q => ∃ n, x = .int n ∧ RgOk 0 n ∧ ∀ q, H q = none → Q (.ref q) (upd H q (.tup (rgV 0 n)))) oTupRg := by
  intro F H d x c Q fh rd hc gv
  unfold oTupRg at hc
  split at hc
  · rename_i j
    split at hc
    · rename_i h
      cases hc
      cases rd
      simp only [Bool.and_eq_true, decide_eq_true_eq] at h
      refine ⟨j, rfl, RgOk.of_le (by omega) h.2 (by omega) h.1, fun q hq => ?_⟩
      have xt := Ext.laid (K := K) (o := .tup (rgV 0 j)) fh hq
      have e : rgV 0 j = ((List.range j.toNat).map fun (i : Nat) => (i : Int)).map V.int := by
        unfold rgV
        rw [List.map_map, Int.sub_zero]
        exact List.map_congr_left fun i _ => by simp
      refine gv _ _ _ xt ⟨q, _, rfl, upd_same, ?_⟩
      rw [e]
      have := Reps.of_ints (K := K) (F := upd F q (.tup (rgV 0 j))) ((List.range j.toNat).map fun (i : Nat) => (i : Int))
      rw [List.map_map] at this
      rw [e] at this
      exact this
    · cases hc
  · cases hc
theorem d_tupRg {p2 pos2 : Pos} (hc : X.calm = true) (hg : Gl X "tuple") (hm : X.mg "tuple" = none) (hgr : Gl X "range") (hmr : X.mg "range" = none) (ha : PE X a (tD X.K E f)) (na : starEach [.Call (.Name "range" p2) [a] [] pos2] X.env = (false, eval (.Call (.Name "range" p2) [a] [] pos2) X.env) :: starEach [] X.env := by rfl) (na2 : starEach [a] X.env = (false, eval a X.env) :: starEach [] X.env := by rfl) :
    PE X (.Call (.Name "tuple" p) [.Call (.Name "range" p2) [a] [] pos2] [] pos) (tD X.K E (mUn oTupRg f)) := PE.imp (pe_tupRg hc hg hm (prg_1 hgr hmr ha na2) na) fun σ H Q q => tD_un du_tupRg q
end
end Dl
/-! sorted of pairs, slices, sums of lists, membership, places. -/
namespace Dl
open PySem PySem.Spec PyProof.Rows L2

/-! ### sorted(list of pairs of ints) -/
def insP (x : Int × Int) : List (Int × Int) → List (Int × Int)
  | [] => [x]
  | y :: r => if SrtO.lexB y x = true then y :: insP x r else x :: y :: r
def sortP : List (Int × Int) → List (Int × Int)
  | [] => []
  | x :: r => insP x (sortP r)
theorem insP_perm (x : Int × Int) : ∀ l, (insP x l).Perm (x :: l)
  | [] => List.Perm.refl _
  | y :: r => by
    unfold insP
    split
    · exact ((insP_perm x r).cons y).trans (List.Perm.swap x y r)
    · exact List.Perm.refl _
theorem sortP_perm : ∀ l, (sortP l).Perm l
  | [] => List.Perm.refl _
  | x :: r => (insP_perm x _).trans ((sortP_perm r).cons x)
theorem lexB_tr {x y z : Int × Int} (h1 : SrtO.lexB y x = false) (h2 : SrtO.lexB z y = false) : SrtO.lexB z x = false := by
  rw [SrtO.lexB_no] at *
  omega
theorem insP_srtd (x : Int × Int) : ∀ l, SrtO.Srtd SrtO.lexB l → SrtO.Srtd SrtO.lexB (insP x l)
  | [], _ => SrtO.srtd_one x
  | y :: r, h => by
    obtain ⟨h1, h2⟩ := List.pairwise_cons.mp h
    unfold insP
    split
    · rename_i q
      refine List.pairwise_cons.mpr ⟨fun z hz => ?_, insP_srtd x r h2⟩
      rcases List.mem_cons.mp ((insP_perm x r).mem_iff.mp hz) with rfl | hz
      · rw [SrtO.lexB_no]
        have := SrtO.lexB_iff.mp q
        omega
      · exact h1 z hz
    · rename_i q
      have q' : SrtO.lexB y x = false := by simpa using q
      refine List.pairwise_cons.mpr ⟨fun z hz => ?_, h⟩
      rcases List.mem_cons.mp hz with rfl | hz
      · exact q'
      · exact lexB_tr q' (h1 z hz)
theorem sortP_srtd : ∀ l, SrtO.Srtd SrtO.lexB (sortP l)
  | [] => List.Pairwise.nil
  | x :: r => insP_srtd x _ (sortP_srtd r)
theorem sortP_uniq {l m : List (Int × Int)} (h : SrtO.Srtd SrtO.lexB l) (p : l.Perm m) : l = sortP m := by
  refine List.Perm.eq_of_pairwise (le := fun x y => SrtO.lexB y x = false) (fun a b _ _ h1 h2 => ?_) h (sortP_srtd m) (p.trans (sortP_perm m).symm)
  rw [SrtO.lexB_no] at h1 h2
  have e1 : a.1 = b.1 := by omega
  have e2 : a.2 = b.2 := by omega
  exact Prod.ext e1 e2
def pairsOf : List D → Option (List (Int × Int))
  | [] => some []
  | .tup [.int i, .int j] :: r => (pairsOf r).map fun l => (i, j) :: l
  | _ :: _ => none
def pairD (p : Int × Int) : D := .tup [.int p.1, .int p.2]
theorem pairsOf_eq : ∀ {ds : List D} {ps : List (Int × Int)}, pairsOf ds = some ps → ds = ps.map pairD
  | [], _, e => by cases e; rfl
  | d :: ds, _, e => by
    unfold pairsOf at e
    split at e
    · rename_i q; cases q
    · rename_i q
      cases q
      obtain ⟨l, e1, rfl⟩ := Option.map_eq_some_iff.mp e
      rw [pairsOf_eq e1]
      rfl
    · cases e
def kHp (H : Hp) : V → Int × Int
  | .ref t => (match H t with
    | some (.tup [.int i, .int j]) => (i, j)
    | _ => (0, 0))
  | _ => (0, 0)
section
variable {K : PySem.W.Frag} {F H : Hp}
theorem reps_pairs (s : Same F H) : ∀ {ps : List (Int × Int)} {vs : List V}, Reps K F (ps.map pairD) vs → vs.map (kHp H) = ps ∧ ∀ x ∈ vs, ∃ t, x = V.ref t ∧ F t = some (.tup [.int (kHp H x).1, .int (kHp H x).2])
  | [], _, r => by cases r; exact ⟨rfl, fun x h => nomatch h⟩
  | p :: ps, _, r => by
    obtain ⟨v, t, rfl, ⟨a, ws, rfl, h, w, u, rfl, e1, w2, u2, rfl, e2, rfl⟩, z⟩ := r
    cases e1
    cases e2
    have e : kHp H (.ref a) = p := by
      simp only [kHp, s _ _ h]
    obtain ⟨h1, h2⟩ := reps_pairs s z
    refine ⟨by rw [List.map_cons, e, h1], fun x hx => ?_⟩
    rcases List.mem_cons.mp hx with rfl | hx
    · exact ⟨a, rfl, by rw [e]; exact h⟩
    · exact h2 x hx
theorem reps_of_pairs : ∀ {ys : List V} {k : V → Int × Int}, (∀ x ∈ ys, ∃ t, x = V.ref t ∧ F t = some (.tup [.int (k x).1, .int (k x).2])) → Reps K F ((ys.map k).map pairD) ys
  | [], _, _ => rfl
  | y :: ys, k, h => by
    obtain ⟨t, rfl, e⟩ := h y (List.mem_cons_self ..)
    exact ⟨_, _, rfl, ⟨t, _, rfl, e, _, _, rfl, rfl, _, _, rfl, rfl, rfl⟩, reps_of_pairs fun x hx => h x (List.mem_cons_of_mem _ hx)⟩
end
def oSortP (d : D) : Option (List D) := (itemsL d).bind fun ds => (pairsOf ds).map fun ps => (sortP ps).map pairD
theorem dubF_sortP {K : PySem.W.Frag} : DUbF K (fun x H Q => rSortedPO K [x] H Q) oSortP := by
  intro F H d x c Q fh rd hc n
  obtain ⟨ds, e1, e2⟩ := Option.bind_eq_some_iff.mp hc
  obtain ⟨ps, e3, rfl⟩ := Option.map_eq_some_iff.mp e2
  obtain ⟨a, vs, rfl, h, z⟩ := rd.sq e1 fh
  rw [pairsOf_eq e3] at z
  obtain ⟨h1, h2⟩ := reps_pairs fh z
  refine ⟨a, vs, kHp H, rfl, h, fun x hx => ?_, fun ys p hs hst hp => ?_⟩
  · obtain ⟨t, e, q⟩ := h2 x hx
    exact ⟨t, e, fh _ _ q⟩
  · refine n.here fh ?_ p hp
    have hm : ∀ x ∈ ys, x ∈ vs := fun x hx => hst.perm.mem_iff.mp hx
    have e : ys.map (kHp H) = sortP ps := sortP_uniq (SrtO.srtd_map hs) (by rw [← h1]; exact hst.perm.map _)
    rw [← e]
    exact reps_of_pairs fun x hx => h2 x (hm x hx)
section
variable {X : Cx} {E : XK} {a b c e o i : Expr} {es : List Expr} {pos p : Pos} {f g h : M D} {l : M (List D)} {t u : M Bool}
theorem d_sortP (hg : Gl X "sorted") (hm : X.mg "sorted" = none) (ha : PE X e (tB X.K E f)) (he : starEach [e] X.env = (false, eval e X.env) :: starEach [] X.env := by rfl) : PE X (.Call (.Name "sorted" p) [e] [] pos) (tF X.K E (mUnF oSortP f)) :=
  d_call1F cr_sortedPO dubF_sortP hg hm boot_sorted ha (by decide) (by decide) he rfl

/-! ### xs + ys of lists -/
def oCat : D → D → Option (List D)
  | .lst ds, .lst es => lenOk (ds ++ es)
  | _, _ => none
theorem dbbF_cat {K : PySem.W.Frag} : DBbF K rCat oCat := by
  intro F H d x e y c Q fh rd re hc n
  unfold oCat at hc
  split at hc
  · unfold lenOk at hc
    split at hc
    · rename_i hl
      cases hc
      obtain ⟨a, vs, rfl, h, z⟩ := rd.lst fh
      obtain ⟨b, ws, rfl, h', z'⟩ := re.lst fh
      exact ⟨a, b, vs, ws, rfl, rfl, h, h', by rw [← z.len, ← z'.len, ← List.length_append]; exact hl, n.here fh (z.app z')⟩
    · cases hc
  · cases hc
theorem d_cat (pu : Pu g) (ha : PE X a (tB X.K E f)) (hb : PE X b (tB X.K E g)) : PE X (.BinOp a .Add b pos) (tF X.K E (mOpF oCat f g)) := PE.imp (pe_op op_cat ha hb) fun _ _ _ q => tB_opF pu dbbF_cat q

/-! ### slices -/
abbrev rO : RR (Option Int) (Option Int) := fun _ _ _ _ _ b c => b = c
def mPart (f : M D) : M (Option Int) := bnd f fun d => match d with
  | .int i => ret (some i)
  | _ => fun _ => none
theorem PO.imp {o : Option Expr} {t t' : TO} (h : PO X o t) (i : ∀ σ H Q, t' σ H Q → t σ H Q) : PO X o t' := ⟨fun pins s σ H Q I q => h.run pins s σ H Q I (i _ _ _ q)⟩
theorem do_none : PO X none (tM rO X.K E (ret none)) := PO.imp po_none fun σ H Q ⟨F0, H0, ρ, F, z, rel, e, p⟩ => by
  cases e
  exact p _ F H (Same.refl F) rel rfl
theorem do_some (he : PE X e (tD X.K E f)) : PO X (some e) (tM rO X.K E (mPart f)) := PO.imp (po_some he) fun σ H Q ⟨F0, H0, ρ, F, z, rel, e, p⟩ => by
  refine step rel e p fun ρ1 F1 H1 d v s1 rel1 ra e1 p1 ef1 => ?_
  cases d with
  | int i =>
    cases e1
    cases ra
    exact ⟨i, rfl, p1 _ _ _ (Same.refl _) rel1 rfl⟩
  | _ => cases e1
def cutD (ds : List D) (lo hi : Option Int) : List D := (ds.drop (HT.sIx ds.length 0 lo)).take (HT.sIx ds.length ds.length hi - HT.sIx ds.length 0 lo)
theorem reps_cut {K : PySem.W.Frag} {F : Hp} {ds : List D} {vs : List V} (r : Reps K F ds vs) (lo hi : Option Int) : Reps K F (cutD ds lo hi) (cutV vs lo hi) := by
  unfold cutD cutV
  rw [r.len]
  exact (r.drop _).take _
def mSlT (f : M D) (lo hi : M (Option Int)) : M D := bnd f fun d => bnd lo fun i => bnd hi fun j => match d with
  | .tup ds => ret (.tup (cutD ds i j))
  | _ => fun _ => none
def mSlL (f : M D) (lo hi : M (Option Int)) : M D := bnd f fun d => bnd lo fun i => bnd hi fun j => opt ((itemsL d).map fun ds => .lst (cutD ds i j))
theorem d_slT {p2 : Pos} {lo hi : Option Expr} {m n : M (Option Int)} (he : PE X e (tD X.K E f)) (hl : PO X lo (tM rO X.K E m)) (hh : PO X hi (tM rO X.K E n)) : PE X (.Subscript e (.Slice lo hi none p2) pos) (tD X.K E (mSlT f m n)) := PE.imp (pe_slice sl_tupA he hl hh) fun σ H Q ⟨F0, H0, ρ, F, z, rel, e, p⟩ => by
  refine step rel e p fun ρ1 F1 H1 d v s1 rel1 ra e1 p1 ef1 => ?_
  refine step rel1 e1 p1 fun ρ2 F2 H2 i i' s2 rel2 rb e2 p2 ef2 => ?_
  refine step rel2 e2 p2 fun ρ3 F3 H3 j j' s3 rel3 rc e3 p3 ef3 => ?_
  cases rb
  cases rc
  cases d with
  | tup ds =>
    cases e3
    have ra' := Rep.mono (.of (s2.trans s3)) ra
    obtain ⟨a, vs, rfl, h, z⟩ := ra'
    refine ⟨a, vs, rfl, SqT.of (rel3.fh _ _ h), fun ⟨h1, h2⟩ => ?_, fun _ q hq => ?_⟩
    · refine p3 _ F3 H3 (Same.refl _) rel3 ⟨a, vs, rfl, h, ?_⟩
      have e : cutV vs i j = vs := by
        unfold cutV
        rw [h1, h2]
        simp
      have := reps_cut z i j
      rwa [e] at this
    · have xt := Ext.laid (K := X.K) (o := .tup (cutV vs i j)) rel3.fh hq
      exact p3 _ _ _ xt.ff (rel3.grow xt) ⟨q, _, rfl, upd_same, Reps.mono (.of xt.ff) (reps_cut z i j)⟩
  | _ => cases e3
theorem d_slL {p2 : Pos} {lo hi : Option Expr} {m n : M (Option Int)} (pm : Pu m) (pn : Pu n) (he : PE X e (tB X.K E f)) (hl : PO X lo (tM rO X.K E m)) (hh : PO X hi (tM rO X.K E n)) : PE X (.Subscript e (.Slice lo hi none p2) pos) (tF X.K E (mSlL f m n)) := PE.imp (pe_slice sl_list he hl hh) fun σ H Q ⟨F0, H0, ρ, F, z, rel, e, p⟩ => by
  refine step rel e p fun ρ1 F1 H1 d v s1 rel1 ra e1 p1 ef1 => ?_
  refine step rel1 e1 p1 fun ρ2 F2 H2 i i' s2 rel2 rb e2 p2 ef2 => ?_
  refine step rel2 e2 p2 fun ρ3 F3 H3 j j' s3 rel3 rc e3 p3 ef3 => ?_
  cases rb
  cases rc
  cases pm _ _ _ ef2
  cases pn _ _ _ ef3
  cases eI : itemsL d with
  | none => rw [eI] at e3; cases e3
  | some ds =>
    rw [eI] at e3
    have ra' := rel3.rb (rB_keep (H := H1) (H' := H3) (rB_keep (H := H1) (H' := H1) ra s2) s3)
    obtain ⟨a, vs, rfl, h, z⟩ := ra'.sq eI rel3.fh
    obtain ⟨c, ec, nl⟩ := Post.newL (o := some (cutD ds i j)) e3 rel3 p3
    cases ec
    exact ⟨a, vs, rfl, h, nl.here rel3.fh (reps_cut z i j)⟩

/-! ### in, not in -/
def flatD : D → Bool
  | .non => true
  | .bl _ => true
  | .int _ => true
  | .str _ => true
  | _ => false
def eqF : D → D → Bool
  | .non, .non => true
  | .bl a, .bl b => a == b
  | .bl a, .int b => (if a then 1 else 0) == b
  | .int a, .bl b => a == (if b then 1 else 0)
  | .int a, .int b => a == b
  | .str a, .str b => a == b
  | _, _ => false
theorem flat_rep {K : PySem.W.Frag} {F : Hp} {d : D} {v : V} (r : Rep K F d v) (h : flatD d = true) : flatV v = true := by
  cases d with
  | non => cases r; rfl
  | bl _ => cases r; rfl
  | int _ => cases r; rfl
  | str _ => cases r; rfl
  | _ => cases h
theorem eqF_rep {K : PySem.W.Frag} {F F' : Hp} {d e : D} {v w : V} (r : Rep K F d v) (s : Rep K F' e w) (h : flatD d = true) (k : flatD e = true) : eqV v w = eqF d e := by
  cases d with
  | non => cases r; cases e with
    | non => cases s; rfl
    | bl _ => cases s; rfl
    | int _ => cases s; rfl
    | str _ => cases s; rfl
    | _ => cases k
  | bl _ => cases r; cases e with
    | non => cases s; rfl
    | bl _ => cases s; rfl
    | int _ => cases s; rfl
    | str _ => cases s; rfl
    | _ => cases k
  | int _ => cases r; cases e with
    | non => cases s; rfl
    | bl _ => cases s; rfl
    | int _ => cases s; rfl
    | str _ => cases s; rfl
    | _ => cases k
  | str _ => cases r; cases e with
    | non => cases s; rfl
    | bl _ => cases s; rfl
    | int _ => cases s; rfl
    | str _ => cases s; rfl
    | _ => cases k
  | _ => cases h
theorem flats_rep {K : PySem.W.Frag} {F : Hp} : ∀ {ds : List D} {vs : List V}, Reps K F ds vs → ds.all flatD = true → vs.all flatV = true
  | [], _, r, _ => by cases r; rfl
  | d :: ds, _, r, h => by
    obtain ⟨v, t, rfl, q, z⟩ := r
    simp only [List.all_cons, Bool.and_eq_true] at h ⊢
    exact ⟨flat_rep q h.1, flats_rep z h.2⟩
theorem inV_rep {K : PySem.W.Frag} {F F' : Hp} {d : D} {v : V} (r : Rep K F' d v) (k : flatD d = true) : ∀ {ds : List D} {vs : List V}, Reps K F ds vs → ds.all flatD = true → inV v vs = ds.any fun y => eqF y d
  | [], _, r, _ => by cases r; rfl
  | e :: ds, _, s, h => by
    obtain ⟨w, t, rfl, q, z⟩ := s
    simp only [List.all_cons, Bool.and_eq_true] at h
    have := inV_rep r k z h.2
    unfold inV at this ⊢
    rw [List.any_cons, List.any_cons, this, eqF_rep q r h.1 k]
/-- x in y -/
def inKind (x y : D) : Nat := match y with
  | .dK _ => 2
  | .dT _ => 2
  | .lst ds => if flatD x && ds.all flatD then 0 else 1
  | .seq ds => if flatD x && ds.all flatD then 0 else 1
  | .tup ds => if flatD x && ds.all flatD then 0 else 1
  | _ => 3
def inDeep (x y : D) : Option Bool := match y with
  | .lst ds => (pyD x).bind fun d => (pyDs ds).bind fun es => if (SeqAt.shaped d && SeqAt.shaped (.list es)) = true then some (es.any fun z => PyData.eqv z d) else none
  | _ => none
def inB (x y : D) : Option Bool := if inKind x y = 0 then (seqOf y).map fun ds => ds.any fun z => eqF z x
  else if inKind x y = 1 then inDeep x y else if inKind x y = 2 then (dLook y x).map Option.isSome else none
def oIn (x y : D) : Option D := (inB x y).map .bl
def oNotIn (x y : D) : Option D := (inB x y).map fun b => .bl (!b)
theorem in_flat {K : PySem.W.Frag} {F H : Hp} {d e : D} {x y : V} {b : Bool} (fh : Same F H) (rd : Rep K F d x) (re : RB K F H e y) (hk : inKind d e = 0) (hc : inB d e = some b) :
    ∃ p xs, y = .ref p ∧ (SqL K H p xs ∨ SqT K H p xs) ∧ flatV x = true ∧ xs.all flatV = true ∧ inV x xs = b := by
  unfold inB at hc
  rw [if_pos hk] at hc
  have fin : ∀ ds vs, seqOf e = some ds → (flatD d && ds.all flatD) = true → Reps K F ds vs → flatV x = true ∧ vs.all flatV = true ∧ inV x vs = b := fun ds vs h1 h2 z => by
    rw [h1] at hc
    cases hc
    rw [Bool.and_eq_true] at h2
    exact ⟨flat_rep rd h2.1, flats_rep z h2.2, inV_rep rd h2.1 z h2.2⟩
  unfold inKind at hk
  split at hk
  · cases hk
  · cases hk
  · split at hk
    · rename_i q
      obtain ⟨a, vs, rfl, h, z⟩ := re.sq rfl fh
      exact ⟨a, vs, rfl, .inl h, fin _ _ rfl q z⟩
    · cases hk
  · split at hk
    · rename_i q
      obtain ⟨a, vs, rfl, h, z⟩ := re.sq rfl fh
      exact ⟨a, vs, rfl, .inl h, fin _ _ rfl q z⟩
    · cases hk
  · split at hk
    · rename_i q
      obtain ⟨a, vs, rfl, h, z⟩ := re.tup fh
      exact ⟨a, vs, rfl, .inr (SqT.of h), fin _ _ rfl q z⟩
    · cases hk
  · cases hk
theorem in_deep {K : PySem.W.Frag} {F H : Hp} {d e : D} {x y : V} {b : Bool} (fh : Same F H) (rd : Rep K F d x) (re : RB K F H e y) (hk : inKind d e = 1) (hc : inB d e = some b) :
    ∃ p es, Dp K H x p ∧ Dp K H y (.list es) ∧ SeqAt.shaped p = true ∧ SeqAt.shaped (.list es) = true ∧ (es.any fun z => PyData.eqv z p) = b := by
  unfold inB at hc
  rw [if_neg (by omega), if_pos hk] at hc
  unfold inDeep at hc
  split at hc
  · rename_i ds
    obtain ⟨p, e1, hc⟩ := Option.bind_eq_some_iff.mp hc
    obtain ⟨es, e2, hc⟩ := Option.bind_eq_some_iff.mp hc
    split at hc
    · rename_i q
      cases hc
      rw [Bool.and_eq_true] at q
      have r1 := Rep.dp (Rep.mono (.of fh) rd) e1
      have r2 := Rep.dp (re.rep fh) (p := .list es) (by unfold pyD; rw [e2]; rfl)
      exact ⟨p, es, r1, r2, q.1, q.2, rfl⟩
    · cases hc
  · cases hc
theorem in_dict {K : PySem.W.Frag} {F H : Hp} {d e : D} {x y : V} {b : Bool} (fh : Same F H) (rd : Rep K F d x) (re : RB K F H e y) (hk : inKind d e = 2) (hc : inB d e = some b) : ∃ a o, y = .ref a ∧ DGet H a x o ∧ o.isSome = b := by
  unfold inB at hc
  rw [if_neg (by omega), if_neg (by omega), if_pos hk] at hc
  obtain ⟨o, e1, rfl⟩ := Option.map_eq_some_iff.mp hc
  obtain ⟨a, r, rfl, g, _, fd⟩ := dLook_get re rd fh e1
  refine ⟨a, r, rfl, g, ?_⟩
  cases o with
  | none => rw [show r = none from fd]; rfl
  | some c => obtain ⟨v, e, _⟩ := fd; rw [e]; rfl
theorem inB_ge {d e : D} {b : Bool} (hc : inB d e = some b) : inKind d e = 0 ∨ inKind d e = 1 ∨ inKind d e = 2 := by
  unfold inB at hc
  split at hc
  · rename_i h; exact .inl h
  · split at hc
    · rename_i h; exact .inr (.inl h)
    · split at hc
      · rename_i h; exact .inr (.inr h)
      · cases hc
theorem tD_in {k : D → D → Option D} {fl : Bool → D} {r0 r1 : R2} {t2 : TE → TE → TE} (pu : Pu g) (hk : ∀ d e, k d e = (inB d e).map fl)
    (h0 : ∀ F H d e x y b Q, Same F H → Rep X.K F d x → RB X.K F H e y → inKind d e = 0 → inB d e = some b → Giv X.K F H (fl b) Q → r0 x y H Q)
    (h1 : ∀ F H d e x y b Q, Same F H → Rep X.K F d x → RB X.K F H e y → inKind d e = 1 → inB d e = some b → Giv X.K F H (fl b) Q → r1 x y H Q)
    (h2 : ∀ σ H Q, (tD X.K E f σ H fun x H1 => tB X.K E g σ H1 fun y H2 => ∃ F a o b, Same F H2 ∧ y = .ref a ∧ DGet H2 a x o ∧ o.isSome = b ∧ Giv X.K F H2 (fl b) Q) → t2 (tD X.K E f) (tB X.K E g) σ H Q)
    {σ : L2.St} {H : Hp} {Q : VK} (q : tD X.K E (mOp k f g) σ H Q) :
    tOp r0 (tD X.K E f) (tB X.K E g) σ H Q ∨ tOp r1 (tD X.K E f) (tB X.K E g) σ H Q ∨ t2 (tD X.K E f) (tB X.K E g) σ H Q := by
  obtain ⟨F0, H0, ρ, F, z, rel, e, p⟩ := q
  have key : ∀ nd : Nat, (∀ a ρ1 b ρ2, f ρ = some (.ok a ρ1) → g ρ1 = some (.ok b ρ2) → inKind a b = nd) →
      (nd ≠ 1 → nd ≠ 2 → tOp r0 (tD X.K E f) (tB X.K E g) σ H Q) ∧ (nd = 1 → tOp r1 (tD X.K E f) (tB X.K E g) σ H Q) ∧ (nd = 2 → t2 (tD X.K E f) (tB X.K E g) σ H Q) := fun nd hn => by
    refine ⟨fun n1 n2 => ?_, fun en => ?_, fun en => ?_⟩
    · refine step rel e p fun ρ1 F1 H1 d v s1 rel1 ra e1 p1 ef1 => step rel1 e1 p1 fun ρ2 F2 H2 c w s2 rel2 rb e2 p2 ef2 => ?_
      have en := hn _ _ _ _ ef1 ef2
      cases pu _ _ _ ef2
      obtain ⟨c', ec, gv⟩ := Post.giv e2 rel2 p2
      rw [hk] at ec
      obtain ⟨b, eb, rfl⟩ := Option.map_eq_some_iff.mp ec
      have := inB_ge eb
      exact h0 _ _ _ _ _ _ _ _ rel2.fh (Rep.mono (.of s2) ra) (rel2.rb rb) (by omega) eb gv
    · refine step rel e p fun ρ1 F1 H1 d v s1 rel1 ra e1 p1 ef1 => step rel1 e1 p1 fun ρ2 F2 H2 c w s2 rel2 rb e2 p2 ef2 => ?_
      have en' := hn _ _ _ _ ef1 ef2
      cases pu _ _ _ ef2
      obtain ⟨c', ec, gv⟩ := Post.giv e2 rel2 p2
      rw [hk] at ec
      obtain ⟨b, eb, rfl⟩ := Option.map_eq_some_iff.mp ec
      exact h1 _ _ _ _ _ _ _ _ rel2.fh (Rep.mono (.of s2) ra) (rel2.rb rb) (en'.trans en) eb gv
    · refine h2 _ _ _ (step rel e p fun ρ1 F1 H1 d v s1 rel1 ra e1 p1 ef1 => step rel1 e1 p1 fun ρ2 F2 H2 c w s2 rel2 rb e2 p2 ef2 => ?_)
      have en' := hn _ _ _ _ ef1 ef2
      cases pu _ _ _ ef2
      obtain ⟨c', ec, gv⟩ := Post.giv e2 rel2 p2
      rw [hk] at ec
      obtain ⟨b, eb, rfl⟩ := Option.map_eq_some_iff.mp ec
      obtain ⟨a, o, e1', g1, e2'⟩ := in_dict rel2.fh (Rep.mono (.of s2) ra) (rel2.rb rb) (en'.trans en) eb
      exact ⟨F2, a, o, b, rel2.fh, e1', g1, e2', gv⟩
  have pick : ∀ nd : Nat, (∀ a ρ1 b ρ2, f ρ = some (.ok a ρ1) → g ρ1 = some (.ok b ρ2) → inKind a b = nd) → tOp r0 (tD X.K E f) (tB X.K E g) σ H Q ∨ tOp r1 (tD X.K E f) (tB X.K E g) σ H Q ∨ t2 (tD X.K E f) (tB X.K E g) σ H Q := fun nd hn => by
    obtain ⟨k0, k1, k2⟩ := key nd hn
    by_cases n1 : nd = 1
    · exact .inr (.inl (k1 n1))
    · by_cases n2 : nd = 2
      · exact .inr (.inr (k2 n2))
      · exact .inl (k0 n1 n2)
  cases ef : f ρ with
  | none => exact pick 0 fun a ρ1 b ρ2 h _ => by rw [ef] at h; cases h
  | some r =>
    cases r with
    | ex c d => exact pick 0 fun a ρ1 b ρ2 h _ => by rw [ef] at h; cases h
    | ok a ρ1 =>
      cases eg : g ρ1 with
      | none => exact pick 0 fun a ρ1 b ρ2 h h' => by rw [ef] at h; cases h; rw [eg] at h'; cases h'
      | some r =>
        cases r with
        | ex c d => exact pick 0 fun a ρ1 b ρ2 h h' => by rw [ef] at h; cases h; rw [eg] at h'; cases h'
        | ok b ρ2 => exact pick (inKind a b) fun a' ρ1' b' ρ2' h h' => by rw [ef] at h; cases h; rw [eg] at h'; cases h'; rfl
theorem PT.or {e : Expr} {t u : TT} (h1 : PT X e t) (h2 : PT X e u) : PT X e fun σ H Q => t σ H Q ∨ u σ H Q := ⟨fun pins s σ H Q I h => h.elim (h1.run pins s σ H Q I) (h2.run pins s σ H Q I)⟩
theorem tD_inP {σ : L2.St} {H : Hp} {Q : VK} (pu : Pu g) (q : tD X.K E (mOp oIn f g) σ H Q) : tOp (rIn X.K false) (tD X.K E f) (tB X.K E g) σ H Q ∨ tOp (rInD X.K) (tD X.K E f) (tB X.K E g) σ H Q ∨ tDIn (tD X.K E f) (tB X.K E g) σ H Q :=
  tD_in (fl := .bl) pu (fun _ _ => rfl) (fun F H d e x y b Q fh rd re hk hc gv => by
    obtain ⟨p, xs, rfl, h1, h2, h3, rfl⟩ := in_flat fh rd re hk hc
    exact ⟨p, xs, rfl, h1, h2, h3, gv.here fh rfl⟩) (fun F H d e x y b Q fh rd re hk hc gv => by
    obtain ⟨p, es, r1, r2, s1, s2, rfl⟩ := in_deep fh rd re hk hc
    exact ⟨p, es, r1, r2, s1, s2, gv.here fh rfl⟩) (fun σ H Q q => tM_imp (fun x H1 q => tM_imp (fun y H2 ⟨F, a, o, b, fh, e, gt, eb, gv⟩ => ⟨a, o, e, gt, by rw [eb]; exact gv.here fh rfl⟩) q) q) q
theorem tD_inN {σ : L2.St} {H : Hp} {Q : VK} (pu : Pu g) (q : tD X.K E (mOp oNotIn f g) σ H Q) : tOp (rIn X.K true) (tD X.K E f) (tB X.K E g) σ H Q ∨ tOp (rNotInD X.K) (tD X.K E f) (tB X.K E g) σ H Q ∨ tDNotIn (tD X.K E f) (tB X.K E g) σ H Q :=
  tD_in (fl := fun b => .bl (!b)) pu (fun _ _ => rfl) (fun F H d e x y b Q fh rd re hk hc gv => by
    obtain ⟨p, xs, rfl, h1, h2, h3, rfl⟩ := in_flat fh rd re hk hc
    exact ⟨p, xs, rfl, h1, h2, h3, gv.here fh rfl⟩) (fun F H d e x y b Q fh rd re hk hc gv => by
    obtain ⟨p, es, r1, r2, s1, s2, rfl⟩ := in_deep fh rd re hk hc
    exact ⟨p, es, r1, r2, s1, s2, gv.here fh rfl⟩) (fun σ H Q q => tM_imp (fun x H1 q => tM_imp (fun y H2 ⟨F, a, o, b, fh, e, gt, eb, gv⟩ => ⟨a, o, e, gt, by rw [eb]; exact gv.here fh rfl⟩) q) q) q
theorem units65 {A : Around} {k : Nat} (r : Room k A) : A.units + 65 < cLine := by have := r.un; omega
theorem d_in {k : Nat} (hr : Room k X.A) (pu : Pu g) (ha : PE X a (tD X.K E f)) (hb : PE X b (tB X.K E g)) (hm : behindInMarks .In b = false) : DC X E (.Compare a [.In] [b] pos) (mOp oIn f g) :=
  ⟨PE.imp (PE.or (pe_cmpR op_in_seq ha hb hm) (PE.or (pe_cmpR (op_inD (units65 hr)) ha hb hm) (pe_cmp (pc_din (hu_of (k := k) hr) ha hb) hm))) fun σ H Q q => tD_inP pu q,
   PT.imp (PT.or (pt_cmpR op_in_seq ha hb hm) (PT.or (pt_cmpR (op_inD (units65 hr)) ha hb hm) (pt_cmp (pc_din (hu_of (k := k) hr) ha hb) hm))) fun σ H Q q => tD_inP pu (asB_sp q)⟩
theorem d_notIn {k : Nat} (hr : Room k X.A) (pu : Pu g) (ha : PE X a (tD X.K E f)) (hb : PE X b (tB X.K E g)) (hm : behindInMarks .NotIn b = false) : DC X E (.Compare a [.NotIn] [b] pos) (mOp oNotIn f g) :=
  ⟨PE.imp (PE.or (pe_cmpR op_notIn_seq ha hb hm) (PE.or (pe_cmpR (op_notInD (units65 hr)) ha hb hm) (pe_cmp (pc_dnotin (hu_of (k := k) hr) ha hb) hm))) fun σ H Q q => tD_inN pu q,
   PT.imp (PT.or (pt_cmpR op_notIn_seq ha hb hm) (PT.or (pt_cmpR (op_notInD (units65 hr)) ha hb hm) (pt_cmp (pc_dnotin (hu_of (k := k) hr) ha hb) hm))) fun σ H Q q => tD_inN pu (asB_sp q)⟩
end
end Dl
/-! Own containers changed; dicts asked; two names at once; walks over dicts. -/
namespace Dl
open PySem PySem.Spec PyProof.Rows L2

section
variable {K : PySem.W.Frag} {E : XK} {F0 H0 F H F' H' : Hp} {ρ : Env} {σ : L2.St}
/-- a slot's own container is changed -/
theorem Rel.mut (rel : Rel K F0 H0 ρ F σ H) {i : Nat} {t : Option Addr} {gd gd' : D} {b : Addr} {o' : HO} (e : ρ[i]? = some (.ow t gd)) (eb : σ[i]? = some (some (.ref b))) (ow : Own K F (upd H b o') b gd') : Rel K F0 H0 (ρ.set i (.ow t gd')) F σ (upd H b o') := by
  obtain ⟨v, ev, c, ec, fb, _⟩ := rel.get e
  rw [eb] at ev
  cases ev
  cases ec
  refine rel.lent e eb ⟨Same.refl F, .of fun c o q => ?_, fun c o q => ?_, fun c o q1 _ _ => q1⟩ fb ow
  · by_cases hc : c = b
    · subst hc; rw [rem_same] at q; cases q
    · rw [rem_ne hc] at q; rw [upd_ne hc]; exact q
  · have hc : c ≠ b := by rintro rfl; rw [fb] at q; cases q
    rw [upd_ne hc]; exact rel.fh _ _ q
end
/-! ### x[k] = v -/
def putD {κ : Type} [DecidableEq κ] (kvs : List (κ × D)) (k : κ) (d : D) : List (κ × D) :=
  if (kvs.any fun kv => decide (kv.1 = k)) = true then kvs.map (fun kv => if kv.1 = k then (kv.1, d) else kv) else kvs ++ [(k, d)]
section
variable {K : PySem.W.Frag} {F H : Hp}
theorem RepK.any (k : Key) : ∀ {kvs : List (Key × D)} {ks : List (Key × V)}, RepK K F kvs ks → (kvs.any fun kv => decide (kv.1 = k)) = ks.any fun kv => decide (kv.1 = k)
  | [], _, r => by cases r; rfl
  | (k0, d) :: t, _, r => by
    obtain ⟨v, t', rfl, q, z⟩ := r
    rw [List.any_cons, List.any_cons, RepK.any k z]
theorem RepT.any (k : List Key) : ∀ {kvs : List (List Key × D)} {ks : List (List Key × V)}, RepT K F kvs ks → (kvs.any fun kv => decide (kv.1 = k)) = ks.any fun kv => decide (kv.1 = k)
  | [], _, r => by cases r; rfl
  | (k0, d) :: t, _, r => by
    obtain ⟨v, t', rfl, q, z⟩ := r
    rw [List.any_cons, List.any_cons, RepT.any k z]
theorem RepK.map (k : Key) {d : D} {v : V} (rv : Rep K F d v) : ∀ {kvs : List (Key × D)} {ks : List (Key × V)}, RepK K F kvs ks → RepK K F (kvs.map fun kv => if kv.1 = k then (kv.1, d) else kv) (ks.map fun kv => if kv.1 = k then (kv.1, v) else kv)
  | [], _, r => by cases r; rfl
  | (k0, d0) :: t, _, r => by
    obtain ⟨v0, t', rfl, q, z⟩ := r
    rw [List.map_cons, List.map_cons]
    by_cases h : k0 = k
    · rw [if_pos h, if_pos h]
      exact ⟨v, _, rfl, rv, RepK.map k rv z⟩
    · rw [if_neg h, if_neg h]
      exact ⟨v0, _, rfl, q, RepK.map k rv z⟩
theorem RepT.map (k : List Key) {d : D} {v : V} (rv : Rep K F d v) : ∀ {kvs : List (List Key × D)} {ks : List (List Key × V)}, RepT K F kvs ks → RepT K F (kvs.map fun kv => if kv.1 = k then (kv.1, d) else kv) (ks.map fun kv => if kv.1 = k then (kv.1, v) else kv)
  | [], _, r => by cases r; rfl
  | (k0, d0) :: t, _, r => by
    obtain ⟨v0, t', rfl, q, z⟩ := r
    rw [List.map_cons, List.map_cons]
    by_cases h : k0 = k
    · rw [if_pos h, if_pos h]
      exact ⟨v, _, rfl, rv, RepT.map k rv z⟩
    · rw [if_neg h, if_neg h]
      exact ⟨v0, _, rfl, q, RepT.map k rv z⟩
theorem RepK.app : ∀ {a b : List (Key × D)} {x y : List (Key × V)}, RepK K F a x → RepK K F b y → RepK K F (a ++ b) (x ++ y)
  | [], _, _, _, r, s => by cases r; exact s
  | (k0, d0) :: t, _, _, _, r, s => by
    obtain ⟨v0, t', rfl, q, z⟩ := r
    exact ⟨v0, _, rfl, q, RepK.app z s⟩
theorem RepT.app : ∀ {a b : List (List Key × D)} {x y : List (List Key × V)}, RepT K F a x → RepT K F b y → RepT K F (a ++ b) (x ++ y)
  | [], _, _, _, r, s => by cases r; exact s
  | (k0, d0) :: t, _, _, _, r, s => by
    obtain ⟨v0, t', rfl, q, z⟩ := r
    exact ⟨v0, _, rfl, q, RepT.app z s⟩
theorem RepK.put {kvs : List (Key × D)} {ks : List (Key × V)} {d : D} {v : V} (r : RepK K F kvs ks) (k : Key) (rv : Rep K F d v) : RepK K F (putD kvs k d) (putK ks k v) := by
  unfold putD putK
  rw [r.any k]
  split
  · exact r.map k rv
  · exact r.app ⟨v, [], rfl, rv, rfl⟩
theorem RepT.put {kvs : List (List Key × D)} {ks : List (List Key × V)} {d : D} {v : V} (r : RepT K F kvs ks) (k : List Key) (rv : Rep K F d v) : RepT K F (putD kvs k d) (putK ks k v) := by
  unfold putD putK
  rw [r.any k]
  split
  · exact r.map k rv
  · exact r.app ⟨v, [], rfl, rv, rfl⟩
theorem Reps.set : ∀ {ds : List D} {vs : List V} {d : D} {v : V} (n : Nat), Reps K F ds vs → Rep K F d v → Reps K F (ds.set n d) (vs.set n v)
  | [], _, _, _, n, r, _ => by cases r; simp [Reps]
  | d0 :: ds, _, _, _, 0, r, q => by
    obtain ⟨v0, t, rfl, _, z⟩ := r
    exact ⟨_, _, rfl, q, z⟩
  | d0 :: ds, _, _, _, n + 1, r, q => by
    obtain ⟨v0, t, rfl, q0, z⟩ := r
    exact ⟨_, _, rfl, q0, Reps.set n z q⟩
end
def putAt (i : Nat) (k v : D) (ρ : Env) : Option Env := match ρ[i]? with
  | some (.ow t (.lst ds)) => (match k with
    | .int j => (ixN ds.length j).map fun n => ρ.set i (.ow t (.lst (ds.set n v)))
    | _ => none)
  | some (.ow t (.dK kvs)) => (keyOf k).bind fun q => if kvs.length < sizeLine then some (ρ.set i (.ow t (.dK (putD kvs q v)))) else none
  | some (.ow t (.dT kvs)) => (match k with
    | .tup es => (keysOf es).bind fun q => if kvs.length < sizeLine then some (ρ.set i (.ow t (.dT (putD kvs q v)))) else none
    | _ => none)
  | _ => none
/-- a store by list or dict -/
def rSetX : TSet := fun o i v H Q => rSetL o i v H Q ∨ ∃ a H', o = .ref a ∧ DPut H a i v H' ∧ Q H'
theorem set_any {X : Cx} (hu : X.A.units + 1 < cLine) : PSet X rSetX := by
  intro pins s σ H o i v ov iv u Q I ro ri rv h
  rcases h with h | ⟨a, H', rfl, g, q⟩
  · exact set_list pins s σ H o i v ov iv u Q I ro ri rv h
  · cases ro
    exact d_setItem hu I g ri rv fun s4 I4 => ⟨H', I4, q⟩
def gIx (i : Nat) (g : M D) : TgE := fun d ρ => match g ρ with
  | some (.ok k ρ1) => putAt i k d ρ1
  | _ => none
section
variable {X : Cx} {E : XK} {a b c e o : Expr} {es : List Expr} {pos p px : Pos} {st : Stmt} {f g h : M D} {l : M (List D)} {t u : M Bool} {i : Nat}
theorem putAt_ok {K : PySem.W.Frag} {F0 H0 F H : Hp} {ρ ρ' : Env} {σ : L2.St} {k d : D} {kv v : V} {b : Addr} {Q : Hp → Prop} (rel : Rel K F0 H0 ρ F σ H) (eb : σ[i]? = some (some (.ref b))) (rk : Rep K F k kv) (rv : Rep K F d v) (e : putAt i k d ρ = some ρ')
    (fin : ∀ H', Rel K F0 H0 ρ' F σ H' → Q H') : rSetX (.ref b) kv v H Q := by
  unfold putAt at e
  split at e
  · rename_i t ds q
    split at e
    · rename_i j
      obtain ⟨n, e1, rfl⟩ := Option.map_eq_some_iff.mp e
      obtain ⟨w, ew, c, ec, fb, hb0, ⟨vs, h, z⟩, tt⟩ := rel.get q
      rw [eb] at ew
      cases ew
      cases ec
      cases rk
      exact .inl ⟨b, vs, j, n, rfl, rfl, h, by rw [← z.len]; exact e1, fin _ (rel.mut q eb ⟨_, upd_same, z.set n rv⟩)⟩
    · cases e
  · rename_i t kvs q
    obtain ⟨kk, e1, e2⟩ := Option.bind_eq_some_iff.mp e
    split at e2
    · rename_i hl
      cases e2
      obtain ⟨w, ew, c, ec, fb, hb0, ⟨vs, h, z⟩, tt⟩ := rel.get q
      rw [eb] at ew
      cases ew
      cases ec
      have ek := keyOf_rep rk e1
      subst ek
      exact .inr ⟨b, _, rfl, DPut.k h (by rw [← z.len]; exact hl), fin _ (rel.mut q eb ⟨_, upd_same, z.put kk rv⟩)⟩
    · cases e2
  · rename_i t kvs q
    split at e
    · rename_i es
      obtain ⟨kk, e1, e2⟩ := Option.bind_eq_some_iff.mp e
      split at e2
      · rename_i hl
        cases e2
        obtain ⟨w, ew, c, ec, fb, hb0, ⟨vs, h, z⟩, tt⟩ := rel.get q
        rw [eb] at ew
        cases ew
        cases ec
        obtain ⟨kb, kvs', rfl, hkb, zk⟩ := rk
        have ek := keysOf_rep zk e1
        subst ek
        exact .inr ⟨b, _, rfl, DPut.t h (rel.fh _ _ hkb) (by rw [← z.len]; exact hl), fin _ (rel.mut q eb ⟨_, upd_same, z.put kk rv⟩)⟩
      · cases e2
    · cases e
  · cases e
theorem g_ix {k : Nat} {x : Str} {ie : Expr} (hr : Room k X.A) (pu : Pu g) (hN : X.N[i]? = some x) (hv : Vis X.env.scope x) (hi : PE X ie (tD X.K E0 g)) (hd : (x == ("__debug__" : Str)) = false := by decide) (hcd : (x == ("__classdict__" : Str)) = false := by decide)
    (ha : ∀ v, assign (.Subscript (.Name x px) ie pos) X.env v = (do
      let ov ← holding [v] (eval (.Name x px) X.env)
      let iv ← holding [v, ov] (eval ie X.env)
      standAt pos
      holding [v, ov, iv] (setItem ov iv v)
      release [v, ov, iv] []) := by intro _; rfl) : PG X (.Subscript (.Name x px) ie pos) (tG X.K (gIx i g) [i]) :=
  PG.imp (pg_sub (pv i hN hv hd hcd) hi (set_any (hu_of (k := k) hr)) ha) fun v σ H Q ⟨F0, H0, ρ, F, d, ρ', rel, r, e, kk⟩ => by
    unfold gIx at e
    split at e
    · rename_i kd ρ1 eg
      cases pu _ _ _ eg
      have own : ∃ t gd, ρ[i]? = some (SL.ow t gd) := by
        unfold putAt at e
        split at e
        · rename_i t ds q; exact ⟨_, _, q⟩
        · rename_i t ds q; exact ⟨_, _, q⟩
        · rename_i t ds q; exact ⟨_, _, q⟩
        · cases e
      obtain ⟨t, gd, q⟩ := own
      obtain ⟨w, ew, b, eb, _⟩ := rel.get q
      subst eb
      exact ⟨_, ew, F0, H0, ρ, F, _, rel, eg, fun kv F' H' s rel' rk => putAt_ok rel' ew rk (Rep.mono (.of s) r) e fun H'' rel'' => kk _ F' H'' s rel'' (But.refl _)⟩
    · cases e

/-! ### x.append(e) -/
def sApp (i : Nat) (f : M D) : S := fun ρ => match ρ[i]? with
  | some (.ow _ (.lst _)) => thenS f (fun d ρ => match ρ[i]? with
    | some (.ow t (.lst ds)) => if ds.length < sizeLine then some (.nx (ρ.set i (.ow t (.lst (ds ++ [d]))))) else none
    | _ => none) ρ
  | _ => none
theorem s_app {x : Str} {apos cpos : Pos} (hN : X.N[i]? = some x) (hv : Vis X.env.scope x) (he : PE X e (tD X.K E f)) (hd : (x == ("__debug__" : Str)) = false := by decide) (hcd : (x == ("__classdict__" : Str)) = false := by decide)
    (hbase : attributeBase (.Name x px) "append" X.env (eval (.Name x px) X.env) = eval (.Name x px) X.env := by rfl)
    (hfew : ((backTo cpos (starEach [e] X.env)).all (fun x => !x.1) && (backToKw cpos (keywordEach [] X.env)).all (fun x => x.1.isSome)
      && decide ([e].length + ([] : List Keyword).length + (if ([] : List Keyword).isEmpty then 0 else 1) < 30)) = true := by rfl)
    (hline : (apos.endLine == cpos.line) = true := by rfl) (hs : starEach [e] X.env = (false, eval e X.env) :: starEach [] X.env := by rfl) (hplain : (backTo cpos (starEach [] X.env)).any (·.1) = false := by rfl)
    (hsw : swapsWith (.Call (.Attribute (.Name x px) "append" apos) [e] [] cpos) none pos.line X.env = pure false := by rfl) :
    PS X (.Expr (.Call (.Attribute (.Name x px) "append" apos) [e] [] cpos) pos) (tS X.K E (sApp i f)) :=
  PS.imp (ps_expr (pe_bm PySem.F.plainAttrs_list PySem.F.slot_list_append PySem.F.type_list_append mt_append (pv i hN hv hd hcd) (pa_cons he pa_nil hs) hbase hfew hline hs hplain) hsw) fun Dn σ H ⟨F0, H0, ρ, F, z, rel, e, po⟩ => by
    unfold sApp at e
    split at e
    · rename_i t0 ds0 q0
      obtain ⟨w, ew, b, eb, _, _, ⟨vs0, h0, _⟩, _⟩ := rel.get q0
      subst eb
      refine ⟨_, ew, .inl ⟨rfl, vs0, SqL.of h0⟩, stepS rel e po fun ρ1 F1 H1 d v s1 rel1 ra e1 p1 ef1 => ?_⟩
      split at e1
      · rename_i t ds q
        split at e1
        · rename_i hl
          cases e1
          obtain ⟨w', ew', b', eb', fb, hb0, ⟨vs, h, zz⟩, tt⟩ := rel1.get q
          rw [ew] at ew'
          cases ew'
          cases eb'
          exact ⟨b, vs, v, rfl, rfl, h, by rw [← zz.len]; exact hl, p1 _ F1 _ (Same.refl _) (rel1.mut q ew ⟨_, upd_same, zz.app (Reps.one ra)⟩)⟩
        · cases e1
      · cases e1
    · cases e

/-! ### d.get(k, x) -/
def mGet (f g h : M D) : M D := bnd f fun d => bnd g fun k => bnd h fun x => opt ((dLook d k).map fun o => o.getD x)
theorem RB.isD {K : PySem.W.Frag} {F H : Hp} {d k : D} {v : V} {o : Option D} (r : RB K F H d v) (s : Same F H) (e : dLook d k = some o) : ∃ a, v = .ref a ∧ IsD H a := by
  unfold dLook at e
  split at e
  · obtain ⟨a, ks, rfl, h, _⟩ := r.dK s
    exact ⟨a, rfl, .inl ⟨ks, h⟩⟩
  · obtain ⟨a, ks, rfl, h, _⟩ := r.dT s
    exact ⟨a, rfl, .inr ⟨ks, h⟩⟩
  · cases e
theorem isD_grow {H H' : Hp} {a : Addr} (h : IsD H a) (s : Same H H') : IsD H' a := by
  rcases h with ⟨k, h⟩ | ⟨k, h⟩
  · exact .inl ⟨k, (RdE.of s).rk _ _ h⟩
  · exact .inr ⟨k, (RdE.of s).rt _ _ h⟩
def isDc : D → Bool
  | .dK _ => true
  | .dT _ => true
  | _ => false
theorem RB.isD' {K : PySem.W.Frag} {F H : Hp} {d : D} {v : V} (r : RB K F H d v) (s : Same F H) (e : isDc d = true) : ∃ a, v = .ref a ∧ IsD H a := by
  cases d with
  | dK kvs =>
    obtain ⟨a, ks, rfl, h, _⟩ := r.dK s
    exact ⟨a, rfl, .inl ⟨ks, h⟩⟩
  | dT kvs =>
    obtain ⟨a, ks, rfl, h, _⟩ := r.dT s
    exact ⟨a, rfl, .inr ⟨ks, h⟩⟩
  | _ => cases e
/-- a dict -/
def asDc (f : M D) : M D := bnd f fun d => if isDc d = true then ret d else fun _ => none
theorem d_get {k : Nat} {apos cpos : Pos} {b c : Expr} (hr : Room k X.A) (pg : Pu g) (ph : Pu h) (ha : PE X a (tB X.K E f)) (hb : PE X b (tD X.K E g)) (hc : PE X c (tD X.K E h)) (m : M2 X a "get" apos b c cpos) :
    PE X (.Call (.Attribute a "get" apos) [b, c] [] cpos) (tD X.K E (mGet (asDc f) g h)) := PE.imp (pe_dget2 (hu_of (k := k) hr) ha hb hc m) fun σ H Q ⟨F0, H0, ρ, F, z, rel, e, p⟩ => by
  have e' : bnd f (fun d => if isDc d = true then bnd g fun k => bnd h fun x => opt ((dLook d k).map fun o => o.getD x) else fun _ => none) ρ = some z := by
    rw [← e]
    unfold mGet asDc bnd
    cases ef : f ρ with
    | none => rfl
    | some r =>
      cases r with
      | ex c d => rfl
      | ok d ρ1 =>
        dsimp only
        cases isDc d with
        | true => rfl
        | false => rfl
  refine step rel e' p fun ρ1 F1 H1 d v s1 rel1 ra e1 p1 ef1 => ?_
  split at e1
  · rename_i hd
    obtain ⟨ad, rfl, isd⟩ := (rel1.rb ra).isD' rel1.fh hd
    refine ⟨ad, rfl, isd, step rel1 e1 p1 fun ρ2 F2 H2 kk w s2 rel2 rb e2 p2 ef2 => step rel2 e2 p2 fun ρ3 F3 H3 x y s3 rel3 rc e3 p3 ef3 => ?_⟩
    cases pg _ _ _ ef2
    cases ph _ _ _ ef3
    obtain ⟨c, ec, gv⟩ := Post.giv e3 rel3 p3
    obtain ⟨o, eo, rfl⟩ := Option.map_eq_some_iff.mp ec
    have ra' := rel3.rb (rB_keep (H := H1) (H' := H3) (rB_keep (H := H1) (H' := H1) ra s2) s3)
    obtain ⟨a', r, ea, gt, _, fd⟩ := dLook_get ra' (Rep.mono (.of s3) rb) rel3.fh eo
    cases ea
    refine ⟨r, gt, ?_⟩
    cases o with
    | none => rw [show r = none from fd]; exact gv.here rel3.fh rc
    | some c => obtain ⟨v', e, rv⟩ := fd; rw [e]; exact gv.here rel3.fh rv
  · cases e1

/-! ### xs.index(x): flat ones -/
def idxD (x : D) : List D → Option Nat
  | [] => none
  | d :: ds => if eqF d x = true then some 0 else (idxD x ds).map (· + 1)
def oIndex (d x : D) : Option D := (itemsL d).bind fun ds => if (flatD x && ds.all flatD) = true then (idxD x ds).map (fun (n : Nat) => D.int (n : Int)) else none
theorem idxD_some {x : D} : ∀ {ds : List D} {n : Nat}, idxD x ds = some n → (∃ z, ds[n]? = some z ∧ eqF z x = true) ∧ ∀ m z, m < n → ds[m]? = some z → eqF z x = false
  | [], _, h => by cases h
  | d :: ds, n, h => by
    unfold idxD at h
    split at h
    · rename_i q
      cases h
      exact ⟨⟨d, rfl, q⟩, fun m z hm => by omega⟩
    · rename_i q
      obtain ⟨k, e, rfl⟩ := Option.map_eq_some_iff.mp h
      obtain ⟨h1, h2⟩ := idxD_some e
      refine ⟨by simpa using h1, fun m z hm hz => ?_⟩
      cases m with
      | zero => cases hz; simpa using q
      | succ m => exact h2 m z (by omega) (by simpa using hz)
theorem d_index {apos cpos : Pos} (pu : Pu g) (ha : PE X a (tB X.K E f)) (hb : PE X b (tD X.K E g)) (hl : ∀ ρ d ρ', f ρ = some (.ok d ρ') → (itemsL d).isSome = true)
    (hbase : attributeBase a "index" X.env (eval a X.env) = eval a X.env := by rfl)
    (hfew : ((backTo cpos (starEach [b] X.env)).all (fun x => !x.1) && (backToKw cpos (keywordEach [] X.env)).all (fun x => x.1.isSome)
      && decide ([b].length + ([] : List Keyword).length + (if ([] : List Keyword).isEmpty then 0 else 1) < 30)) = true := by rfl)
    (hline : (apos.endLine == cpos.line) = true := by rfl) (hs : starEach [b] X.env = (false, eval b X.env) :: starEach [] X.env := by rfl) (hplain : (backTo cpos (starEach [] X.env)).any (·.1) = false := by rfl) :
    PE X (.Call (.Attribute a "index" apos) [b] [] cpos) (tD X.K E (mOp oIndex f g)) :=
  PE.imp (pe_bm PySem.F.plainAttrs_list PySem.F.slot_list_index PySem.F.type_list_index mt_index ha (pa_cons hb pa_nil hs) hbase hfew hline hs hplain) fun σ H Q ⟨F0, H0, ρ, F, z, rel, e, p⟩ => by
    refine step rel e p fun ρ1 F1 H1 d v s1 rel1 ra e1 p1 ef1 => ?_
    obtain ⟨ds, eds⟩ := Option.isSome_iff_exists.mp (hl _ _ _ ef1)
    obtain ⟨a0, vs0, rfl, h0, z0⟩ := (rel1.rb ra).sq eds rel1.fh
    refine ⟨.inl ⟨rfl, vs0, h0⟩, step rel1 e1 p1 fun ρ2 F2 H2 x w s2 rel2 rb e2 p2 ef2 => ?_⟩
    cases pu _ _ _ ef2
    obtain ⟨c, ec, gv⟩ := Post.giv e2 rel2 p2
    unfold oIndex at ec
    rw [eds] at ec
    dsimp only [Option.bind_some] at ec
    split at ec
    · rename_i q
      obtain ⟨n, en, rfl⟩ := Option.map_eq_some_iff.mp ec
      rw [Bool.and_eq_true] at q
      have ra' := rel2.rb (rB_keep (H := H1) (H' := H2) ra s2)
      obtain ⟨a1, vs, ea, h, zz⟩ := ra'.sq eds rel2.fh
      cases ea
      obtain ⟨⟨dz, e5, e6⟩, hno⟩ := idxD_some en
      obtain ⟨vz, e7, rz⟩ := zz.get e5
      have fl : ∀ m y, ds[m]? = some y → flatD y = true := fun m y hy => List.all_eq_true.mp q.2 y (List.mem_of_getElem? hy)
      refine ⟨a0, vs, w, n, vz, rfl, rfl, h, flat_rep rb q.1, flats_rep zz q.2, e7, by rw [eqF_rep rz rb (fl _ _ e5) q.1]; exact e6, fun m y hm hy => ?_, gv.here rel2.fh rfl⟩
      have hlt : m < ds.length := by
        rw [zz.len]; exact (List.getElem?_eq_some_iff.mp hy).1
      obtain ⟨vy, e8, ry⟩ := zz.get (List.getElem?_eq_getElem hlt)
      rw [hy] at e8
      cases e8
      rw [eqF_rep ry rb (fl _ _ (List.getElem?_eq_getElem hlt)) q.1]
      exact hno m _ hm (List.getElem?_eq_getElem hlt)
    · cases ec
theorem mLst_isL : ∀ ρ d ρ', mLst l ρ = some (.ok d ρ') → (itemsL d).isSome = true := fun ρ d ρ' e => by
  unfold mLst bnd at e
  split at e
  · cases e
  · cases e
  · rename_i ds ρ1 _
    unfold opt at e
    dsimp only at e
    split at e
    · cases e
    · rename_i c ec
      cases e
      obtain ⟨_, rfl⟩ := lenOk_some ec
      rfl

/-! ### two names at once, each frozen or a new container -/
abbrev rX (K : PySem.W.Frag) (o : Bool) : RR D V := fun H0 ρ σ F H d v => if o = true then rF K H0 ρ σ F H d v else rD K H0 ρ σ F H d v
abbrev tX (K : PySem.W.Frag) (E : XK) (o : Bool) (f : M D) : TE := tM (rX K o) K E f
theorem x_own (he : PE X e (tF X.K E f)) : PE X e (tX X.K E true f) := PE.imp he fun σ H Q ⟨F0, H0, ρ, F, z, rel, e, p⟩ => ⟨F0, H0, ρ, F, z, rel, e, match z, p with
  | .ok _ _, p => fun v F' H' s r q => p v F' H' s r ((if_pos rfl).mpr q)
  | .ex _ _, p => p⟩
theorem x_fz (he : PE X e (tD X.K E f)) : PE X e (tX X.K E false f) := PE.imp he fun σ H Q ⟨F0, H0, ρ, F, z, rel, e, p⟩ => ⟨F0, H0, ρ, F, z, rel, e, match z, p with
  | .ok _ _, p => fun v F' H' s r q => p v F' H' s r ((if_neg (by decide)).mpr q)
  | .ex _ _, p => p⟩
def slX (o : Bool) (d : D) : SL := if o = true then .ow none d else .sh d
def sParX (i j : Nat) (o1 o2 : Bool) (f g : M D) : S := thenS f fun d1 => thenS g fun d2 ρ => some (.nx ((ρ.set i (slX o1 d1)).set j (slX o2 d2)))
theorem Rel.putX {K : PySem.W.Frag} {F0 H0 F H : Hp} {ρ : Env} {σ : L2.St} {o : Bool} {d : D} {v : V} {i : Nat} (rel : Rel K F0 H0 ρ F σ H) (r : rX K o H0 ρ σ F H d v) : Rel K F0 H0 (ρ.set i (slX o d)) F (σ.set i (some v)) H := by
  cases o with
  | true => exact rel.putF ((if_pos rfl).mp r)
  | false => exact rel.put ((if_neg (by decide)).mp r)
theorem Ext.base {K : PySem.W.Frag} {F0 H0 F H : Hp} {a : Addr} {o : HO} (x : Ext K F0 (upd H0 a o) F H) (h : H0 a = none) : Ext K F0 H0 F H := by
  have k : ∀ b u, H0 b = some u → upd H0 a o b = some u := fun b u q => by rw [upd_ne (ne_of_none q h)]; exact q
  exact ⟨x.ff, x.hh.base h, x.fh, fun b u q1 q2 q3 => x.new _ _ q1 (k _ _ q2) q3⟩
theorem rX_after {K : PySem.W.Frag} {H0 F H : Hp} {ρ : Env} {σ : L2.St} {o : Bool} {d : D} {v w : V} {i : Nat} {s : SL} (r : rX K o H0 ρ σ F H d v) (n : ∀ t e, s = .ow t e → o = true → w ≠ v) : rX K o H0 (ρ.set i s) (σ.set i (some w)) F H d v := by
  cases o with
  | false => exact r
  | true =>
    obtain ⟨a, rfl, fa, ha, ow, ns⟩ := (if_pos rfl).mp r
    refine (if_pos rfl).mpr ⟨a, rfl, fa, ha, ow, fun j t e q1 q2 => ?_⟩
    by_cases hj : j = i
    · subst hj
      have l1 := (List.getElem?_eq_some_iff.mp q1).1
      rw [List.length_set] at l1
      rw [List.getElem?_set_self l1] at q1
      have l2 := (List.getElem?_eq_some_iff.mp q2).1
      rw [List.length_set] at l2
      rw [List.getElem?_set_self l2] at q2
      cases q1
      cases q2
      exact n _ _ rfl rfl rfl
    · rw [List.getElem?_set_ne (Ne.symm hj)] at q1 q2
      exact ns _ _ _ q1 q2
theorem s_parX {j : Nat} {x y : Str} {a b : Expr} {py pt : Pos} {kt k2 pt2} {o1 o2 : Bool} (hc : X.calm = true) (hN : X.N.Nodup) (hi : X.N[i]? = some x) (hj : X.N[j]? = some y) (hij : i ≠ j)
    (hx : X.env.scope.names.lookup x = some .local) (hy : X.env.scope.names.lookup y = some .local) (ha : PE X a (tX X.K E o1 f)) (hb : PE X b (tX X.K E o2 g))
    (hw : swappedStores [.Tuple [.Name x px, .Name y py] kt pt] (.Tuple [a, b] k2 pt2) X.env = pure (some [x, y]))
    (s1 : starEach [a, b] X.env = (false, eval a X.env) :: starEach [b] X.env := by rfl) (s2 : starEach [b] X.env = (false, eval b X.env) :: starEach [] X.env := by rfl)
    (hs : swapsWithSole [.Tuple [.Name x px, .Name y py] kt pt] (.Tuple [a, b] k2 pt2) pos.line X.env = pure false := by rfl) :
    PS X (.Assign [.Tuple [.Name x px, .Name y py] kt pt] (.Tuple [a, b] k2 pt2) pos) (tS X.K E (sParX i j o1 o2 f g)) :=
  PS.imp (ps_par hc hN hi hj hij hx hy (pa_cons ha (pa_cons hb pa_nil s2) s1) hw hs) fun Dn σ H ⟨F0, H0, ρ, F, z, rel, e, po⟩ => by
    refine stepS rel e po fun ρ1 F1 H1 d1 v1 ss1 rel1 r1 e1 p1 ef1 => ?_
    cases o1 with
    | false =>
      refine stepS rel1 e1 p1 fun ρ2 F2 H2 d2 v2 ss2 rel2 r2 e2 p2 ef2 => ?_
      cases e2
      refine ⟨v1, v2, rfl, p2 _ F2 H2 (Same.refl _) ?_⟩
      have r1' : rX X.K false H0 ρ2 σ F2 H2 d1 v1 := (if_neg (by decide)).mpr (Rep.mono (.of ss2) ((if_neg (by decide)).mp r1))
      exact (rel2.putX r1').putX (rX_after r2 fun t e z _ => nomatch z)
    | true =>
      obtain ⟨a, rfl, fa, ha0, ow, ns⟩ := (if_pos rfl).mp r1
      obtain ⟨ob, ho, ic⟩ := ow.isC
      have nt := ic.tup
      have rel1' := rel1.aside ic ha0 ho fa ns
      unfold thenS at e1
      cases eg : g ρ1 with
      | none => rw [eg] at e1; cases e1
      | some r =>
        rw [eg] at e1
        refine ⟨F0, _, ρ1, F1, r, rel1', eg, ?_⟩
        cases r with
        | ex c d =>
          cases e1
          exact fun a' F' H' s' x xa => p1 a' F' H' s' (x.base ha0) xa
        | ok d2 ρ2 =>
          cases e1
          intro v2 F2 H2 ss2 rel2 r2
          have q1 : H2 a = some ob := rel2.ext.hh.keep upd_same ic.tbl
          have q2 : F2 a = none := rel2.ext.new _ _ (rel1.ext.ff.free fa) upd_same nt
          have ue : upd H2 a ob = H2 := by
            funext b
            unfold upd
            split
            · rename_i h; rw [h, q1]
            · rfl
          have rel3 := rel2.back (o' := ob) ha0 ic q2
          rw [ue] at rel3
          have ow2 : Own X.K F2 H2 a d1 := Own.mono (.of ss2) (fun o' _ h => by rw [ho] at h; cases h; exact q1) ow
          have ns2 : ∀ (i : Nat) (t : Option Addr) (d : D), ρ2[i]? = some (SL.ow t d) → σ[i]? ≠ some (some (V.ref a)) := fun i t d h1 h2 => by
            obtain ⟨_, e3, c, ec, _, hc, _⟩ := rel2.get h1
            rw [h2] at e3
            cases e3
            cases ec
            rw [upd_same] at hc
            cases hc
          have r1' : rX X.K true H0 ρ2 σ F2 H2 d1 (.ref a) := (if_pos rfl).mpr ⟨a, rfl, q2, ha0, ow2, ns2⟩
          have r2' : rX X.K o2 H0 ρ2 σ F2 H2 d2 v2 ∧ (o2 = true → V.ref a ≠ v2) := by
            cases o2 with
            | false => exact ⟨r2, fun z => nomatch z⟩
            | true =>
              obtain ⟨b, rfl, fb, hb0, owb, nsb⟩ := (if_pos rfl).mp r2
              have hba : b ≠ a := by rintro rfl; rw [upd_same] at hb0; cases hb0
              rw [upd_ne hba] at hb0
              exact ⟨(if_pos rfl).mpr ⟨b, rfl, fb, hb0, owb, nsb⟩, fun _ z => hba (by cases z; rfl)⟩
          exact ⟨_, v2, rfl, p1 _ F2 H2 ss2 ((rel3.putX r1').putX (rX_after r2'.1 fun _ _ _ z => r2'.2 z))⟩
end
end Dl
/-! Walks over dicts, under their lock. -/
namespace Dl
open PySem PySem.Spec PyProof.Rows L2
open Classical in
/-- the heap with the thing at d locked, if it stands there -/
noncomputable def lk (G : Hp) (d : Addr) (u : HO) (o : Obj) : Hp := if G d = some u then upd G d (.frz o u) else G
section
variable {K : PySem.W.Frag} {E : XK} {F0 H0 F H F' H' G : Hp} {ρ ρ' : Env} {σ σ' : L2.St} {d : Addr} {u : HO} {o : Obj}
theorem lk_ne {b : Addr} (h : b ≠ d) : lk G d u o b = G b := by
  unfold lk
  split
  · rw [upd_ne h]
  · rfl
theorem lk_none (h : G d = none) : lk G d u o = G := if_neg (by rw [h]; exact fun z => nomatch z)
theorem lk_no {b : Addr} (h : G b = none) : lk G d u o b = none := by
  by_cases hb : b = d
  · subst hb; rw [lk_none h]; exact h
  · rw [lk_ne hb]; exact h
theorem lk_some (h : G d = some u) : lk G d u o = upd G d (.frz o u) := if_pos h
theorem lk_at (h : G d = some u) : lk G d u o d = some (.frz o u) := by rw [lk_some h, upd_same]
theorem lk_no' {b : Addr} (h : lk G d u o b = none) : G b = none := by
  by_cases hb : b = d
  · subst hb
    cases e : G b with
    | none => rfl
    | some w =>
      by_cases hw : w = u
      · subst hw; rw [lk_at e] at h; cases h
      · unfold lk at h
        rw [if_neg (by rw [e]; exact fun z => hw (Option.some.inj z)), e] at h
        cases h
  · rw [lk_ne hb] at h; exact h
/-- plain dicts -/
def IsDct (u : HO) : Prop := (∃ k, u = .dK k) ∨ ∃ k, u = .dT k
theorem IsDct.tup (h : IsDct u) : ∀ xs, u ≠ .tup xs := by
  rcases h with ⟨k, rfl⟩ | ⟨k, rfl⟩ <;> exact fun _ z => nomatch z
theorem IsDct.lst (h : IsDct u) : ∀ xs, u ≠ .lst xs := by
  rcases h with ⟨k, rfl⟩ | ⟨k, rfl⟩ <;> exact fun _ z => nomatch z
theorem IsDct.frz (h : IsDct u) : ∀ o w, u ≠ .frz o w := by
  rcases h with ⟨k, rfl⟩ | ⟨k, rfl⟩ <;> exact fun _ _ z => nomatch z
theorem IsDct.mut (h : IsDct u) : Mut (some u) := by
  rcases h with ⟨k, rfl⟩ | ⟨k, rfl⟩ <;> exact trivial
theorem rdE_lock (iu : IsDct u) (h : G d = some u) : RdE G (upd G d (.frz o u)) := by
  have rd : ∀ b v, Rd G b v → (∀ w x, v ≠ .frz w x) → Rd (upd G d (.frz o u)) b v := fun b v r nf => by
    by_cases hb : b = d
    · subst hb
      rcases r with r | ⟨w, r⟩
      · rw [h] at r
        cases r
        exact .inr ⟨o, upd_same⟩
      · rw [h] at r
        cases r
        exact absurd rfl (iu.frz _ _)
    · rcases r with r | ⟨w, r⟩
      · exact .inl (by rw [upd_ne hb]; exact r)
      · exact .inr ⟨w, by rw [upd_ne hb]; exact r⟩
  refine ⟨fun b u r => rd b _ r fun _ _ z => (nomatch z), fun b u r => rd b _ r fun _ _ z => (nomatch z), fun b u r => rd b _ r fun _ _ z => (nomatch z), fun b xs e => ?_, fun b xs e => ?_⟩
  · have hb : b ≠ d := by rintro rfl; rw [h] at e; cases e; exact iu.lst _ rfl
    rw [upd_ne hb]; exact e
  · have hb : b ≠ d := by rintro rfl; rw [h] at e; cases e; exact iu.tup _ rfl
    rw [upd_ne hb]; exact e
theorem rdE_unlock (iu : IsDct u) (h : G d = some (.frz o u)) : RdE G (upd G d u) := by
  have rd : ∀ b v, Rd G b v → (∀ w x, v ≠ .frz w x) → Rd (upd G d u) b v := fun b v r nf => by
    by_cases hb : b = d
    · subst hb
      rcases r with r | ⟨w, r⟩
      · rw [h] at r
        cases r
        exact absurd rfl (nf _ _)
      · rw [h] at r
        cases r
        exact .inl upd_same
    · rcases r with r | ⟨w, r⟩
      · exact .inl (by rw [upd_ne hb]; exact r)
      · exact .inr ⟨w, by rw [upd_ne hb]; exact r⟩
  refine ⟨fun b u r => rd b _ r fun _ _ z => (nomatch z), fun b u r => rd b _ r fun _ _ z => (nomatch z), fun b u r => rd b _ r fun _ _ z => (nomatch z), fun b xs e => ?_, fun b xs e => ?_⟩
  · have hb : b ≠ d := by rintro rfl; rw [h] at e; cases e
    rw [upd_ne hb]; exact e
  · have hb : b ≠ d := by rintro rfl; rw [h] at e; cases e
    rw [upd_ne hb]; exact e
theorem same_lk (iu : IsDct u) {A B : Hp} (s : Same A B) (h : B d = some u) : Same (lk A d u o) (upd B d (.frz o u)) := fun b q e => by
  by_cases hb : b = d
  · subst hb
    rw [upd_same]
    cases ha : A b with
    | none => rw [lk_none ha, ha] at e; cases e
    | some w =>
      have := s _ _ ha
      rw [h] at this
      cases this
      rw [lk_at ha] at e
      exact e
  · rw [lk_ne hb] at e
    rw [upd_ne hb]
    exact s _ _ e
theorem same_unlk {A B : Hp} (s : Same (lk A d u o) B) (ha : A d = none ∨ A d = some u) : Same A (upd B d u) := fun b q e => by
  by_cases hb : b = d
  · subst hb
    rcases ha with ha | ha
    · rw [ha] at e; cases e
    · rw [ha] at e; cases e; exact upd_same
  · rw [upd_ne hb]
    exact s _ _ (by rw [lk_ne hb]; exact e)
theorem IsDct.isC (h : IsDct u) : IsC u := by
  rcases h with ⟨k, rfl⟩ | ⟨k, rfl⟩
  · exact .dK
  · exact .dT
theorem sameT_lk (iu : IsDct u) {A B : Hp} (s : SameT K A B) (h : B d = some u) : SameT K (lk A d u o) (upd B d (.frz o u)) := by
  have ca : A d = none ∨ A d = some u := by
    cases ha : A d with
    | none => exact .inl rfl
    | some w =>
      rcases s.kp _ _ ha with z | ⟨_, _, _, z⟩
      · rw [h] at z; cases z; exact .inr rfl
      · rw [h] at z; cases z; exact absurd rfl (iu.isC.tbl _)
  refine ⟨fun b q e => ?_, fun tt => ?_⟩
  · by_cases hb : b = d
    · subst hb
      rw [upd_same]
      rcases ca with ha | ha
      · rw [lk_none ha, ha] at e; cases e
      · rw [lk_at ha] at e; exact .inl e
    · rw [lk_ne hb] at e
      rw [upd_ne hb]
      exact s.kp _ _ e
  · have t0 : LamX.Tabs (TK K) A := fun p hp => by
      obtain ⟨ps, e1, e2, e3⟩ := tt p hp
      have at_ : ∀ b w, lk A d u o b = some w → (∀ x, w ≠ .frz o x) → A b = some w := fun b w e n => by
        by_cases hb : b = d
        · subst hb
          rcases ca with ha | ha
          · rw [lk_none ha] at e; exact e
          · rw [lk_at ha] at e; cases e; exact absurd rfl (n u)
        · rw [lk_ne hb] at e; exact e
      refine ⟨ps, at_ _ _ e1 (fun _ z => nomatch z), e2, fun pos cv z => ?_⟩
      obtain ⟨c, r1, r2⟩ := e3 pos cv z
      exact ⟨c, r1, at_ _ _ r2 (fun _ z => by unfold LamX.CodeO at z; cases z)⟩
    exact tabs_but (fun b hb => upd_ne hb) (fun o2 e2 => by rw [h] at e2; cases e2; exact iu.isC) (s.tb t0)
theorem sameT_unlk (iu : IsDct u) {A B : Hp} (s : SameT K (lk A d u o) B) (ha : A d = none ∨ A d = some u) (hB : B d = some (.frz o u)) : SameT K A (upd B d u) := by
  refine ⟨fun b q e => ?_, fun tt => ?_⟩
  · by_cases hb : b = d
    · subst hb
      rcases ha with ha | ha
      · rw [ha] at e; cases e
      · rw [ha] at e; cases e; exact .inl upd_same
    · rw [upd_ne hb]
      exact s.kp _ _ (by rw [lk_ne hb]; exact e)
  · have t1 : LamX.Tabs (TK K) (lk A d u o) := fun p hp => by
      obtain ⟨ps, e1, e2, e3⟩ := tt p hp
      have at_ : ∀ b w, A b = some w → w ≠ u → lk A d u o b = some w := fun b w e n => by
        by_cases hb : b = d
        · subst hb
          rcases ha with ha | ha
          · rw [ha] at e; cases e
          · rw [ha] at e; cases e; exact absurd rfl n
        · rw [lk_ne hb]; exact e
      refine ⟨ps, at_ _ _ e1 (fun z => iu.isC.tbl ps z.symm), e2, fun pos cv z => ?_⟩
      obtain ⟨c, r1, r2⟩ := e3 pos cv z
      exact ⟨c, r1, at_ _ _ r2 iu.isC.code⟩
    intro p hp
    obtain ⟨ps, e1, e2, e3⟩ := s.tb t1 p hp
    have at2 : ∀ b w, B b = some w → (∀ x, w ≠ .frz o x) → upd B d u b = some w := fun b w e n => by
      by_cases hb : b = d
      · subst hb; rw [hB] at e; cases e; exact absurd rfl (n u)
      · rw [upd_ne hb]; exact e
    refine ⟨ps, at2 _ _ e1 (fun _ z => nomatch z), e2, fun pos cv z => ?_⟩
    obtain ⟨c, r1, r2⟩ := e3 pos cv z
    exact ⟨c, r1, at2 _ _ r2 (fun _ z => by unfold LamX.CodeO at z; cases z)⟩
/-- a frozen dict is locked -/
theorem sameT_lk' (iu : IsDct u) {A B : Hp} (s : SameT K A B) (h : B d = some u) : (A d = none ∨ A d = some u) ∧ ∀ P q, LamX.TabS A P q → LamX.TabS (lk A d u o) P q := by
  have ca : A d = none ∨ A d = some u := by
    cases ha : A d with
    | none => exact .inl rfl
    | some w =>
      rcases s.kp _ _ ha with z | ⟨_, _, _, z⟩
      · rw [h] at z; cases z; exact .inr rfl
      · rw [h] at z; cases z; exact absurd rfl (iu.isC.tbl _)
  refine ⟨ca, fun P q t => ?_⟩
  rcases ca with ha | ha
  · rw [lk_none ha]; exact t
  · rw [lk_some ha]; exact tabS_but (fun b hb => upd_ne hb) (fun o2 e2 => by rw [ha] at e2; cases e2; exact iu.isC) t
theorem tabS_unlk (iu : IsDct u) {A : Hp} (ha : A d = none ∨ A d = some u) {P : Addr} {q : Str} (t : LamX.TabS (lk A d u o) P q) : LamX.TabS A P q := by
  rcases ha with ha | ha
  · rw [lk_none ha] at t; exact t
  · obtain ⟨ps, e1, e2, e3⟩ := t
    have at_ : ∀ b w, lk A d u o b = some w → (∀ x, w ≠ .frz o x) → A b = some w := fun b w e n => by
      by_cases hb : b = d
      · subst hb; rw [lk_at ha] at e; cases e; exact absurd rfl (n u)
      · rw [lk_ne hb] at e; exact e
    refine ⟨ps, at_ _ _ e1 (fun _ z => nomatch z), e2, fun pos cv z => ?_⟩
    obtain ⟨c, r1, r2⟩ := e3 pos cv z
    exact ⟨c, r1, at_ _ _ r2 (fun _ z => by unfold LamX.CodeO at z; cases z)⟩
theorem Rel.lock (rel : Rel K F0 H0 ρ F σ H) (iu : IsDct u) (h : F d = some u) : Rel K (lk F0 d u o) (lk H0 d u o) ρ (upd F d (.frz o u)) σ (upd H d (.frz o u)) := by
  have hH := rel.fh _ _ h
  refine ⟨⟨same_lk iu rel.ext.ff h, sameT_lk iu rel.ext.hh hH, fun b q e => ?_, fun b q e1 e2 nt => ?_⟩, rel.len, fun i s v e1 e2 => ?_, rel.ap, ⟨fun p hp => (sameT_lk' iu rel.ext.hh hH).2 _ _ (rel.tt.1 p hp), fun p hp => lk_no (rel.tt.2 p hp)⟩⟩
  · by_cases hb : b = d
    · subst hb; rw [upd_same] at e ⊢; exact e
    · rw [upd_ne hb] at e ⊢; exact rel.fh _ _ e
  · by_cases hb : b = d
    · subst hb
      have f0 : F0 b = none := by
        cases f : F0 b with
        | none => rfl
        | some w =>
          have := rel.ext.ff _ _ f
          rw [h] at this
          cases this
          rw [lk_at f] at e1
          cases e1
      cases hh : H0 b with
      | none => rw [lk_none hh, hh] at e2; cases e2
      | some w =>
        have := rel.ext.hh.kp _ _ hh
        rw [hH] at this
        rcases this with this | ⟨_, _, _, this⟩
        rotate_left
        · cases this
          exact absurd rfl (iu.isC.tbl _)
        cases this
        have := rel.ext.new _ _ f0 hh iu.tup
        rw [h] at this
        cases this
    · rw [lk_ne hb] at e1 e2
      rw [upd_ne hb]
      exact rel.ext.new _ _ e1 e2 nt
  · have q := rel.sl i s v e1 e2
    cases s with
    | no => trivial
    | sh d' =>
      obtain ⟨x, ex, r⟩ := q
      exact ⟨x, ex, Rep.mono (rdE_lock iu h) r⟩
    | ow t d' =>
      obtain ⟨a, ea, fa, ha, ow, tt⟩ := q
      have had : a ≠ d := by rintro rfl; rw [h] at fa; cases fa
      exact ⟨a, ea, by rw [upd_ne had]; exact fa, by rw [lk_ne had]; exact ha, Own.mono (rdE_lock iu h) (fun o' _ q => by rw [upd_ne had]; exact q) ow, tt⟩
/-- what is to be known for the unlocking -/
structure LkOk (F0 H0 : Hp) (d : Addr) (u : HO) : Prop where
  iu : IsDct u
  f0 : F0 d = none ∨ F0 d = some u
  h0 : H0 d = none ∨ H0 d = some u
  no : F0 d = none → H0 d = none
theorem Rel.lkOk (rel : Rel K F0 H0 ρ F σ H) (iu : IsDct u) (h : F d = some u) : LkOk F0 H0 d u := by
  have hH := rel.fh _ _ h
  have g : ∀ {A B : Hp}, Same A B → B d = some u → A d = none ∨ A d = some u := fun {A B} s e => by
    cases ha : A d with
    | none => exact .inl rfl
    | some w =>
      have := s _ _ ha
      rw [e] at this
      cases this
      exact .inr rfl
  have gh : H0 d = none ∨ H0 d = some u := by
    cases ha : H0 d with
    | none => exact .inl rfl
    | some w =>
      rcases rel.ext.hh.kp _ _ ha with z | ⟨_, _, _, z⟩
      · rw [hH] at z; cases z; exact .inr rfl
      · rw [hH] at z; cases z; exact absurd rfl (iu.isC.tbl _)
  refine ⟨iu, g rel.ext.ff h, gh, fun f0 => ?_⟩
  rcases gh with e | e
  · exact e
  · have := rel.ext.new _ _ f0 e iu.tup
    rw [h] at this
    cases this
theorem Rel.unlock (rel : Rel K (lk F0 d u o) (lk H0 d u o) ρ F σ H) (ok : LkOk F0 H0 d u) (h : F d = some (.frz o u)) : Rel K F0 H0 ρ (upd F d u) σ (upd H d u) := by
  have hH := rel.fh _ _ h
  refine ⟨⟨same_unlk rel.ext.ff ok.f0, sameT_unlk ok.iu rel.ext.hh ok.h0 hH, fun b q e => ?_, fun b q e1 e2 nt => ?_⟩, rel.len, fun i s v e1 e2 => ?_, rel.ap, ⟨fun p hp => tabS_unlk ok.iu ok.h0 (rel.tt.1 p hp), fun p hp => lk_no' (rel.tt.2 p hp)⟩⟩
  · by_cases hb : b = d
    · subst hb; rw [upd_same] at e ⊢; exact e
    · rw [upd_ne hb] at e ⊢; exact rel.fh _ _ e
  · have hb : b ≠ d := by
      rintro rfl
      rw [ok.no e1] at e2
      cases e2
    rw [upd_ne hb]
    exact rel.ext.new _ _ (by rw [lk_ne hb]; exact e1) (by rw [lk_ne hb]; exact e2) nt
  · have q := rel.sl i s v e1 e2
    cases s with
    | no => trivial
    | sh d' =>
      obtain ⟨x, ex, r⟩ := q
      exact ⟨x, ex, Rep.mono (rdE_unlock ok.iu h) r⟩
    | ow t d' =>
      obtain ⟨a, ea, fa, ha, ow, tt⟩ := q
      have had : a ≠ d := by rintro rfl; rw [h] at fa; cases fa
      exact ⟨a, ea, by rw [upd_ne had]; exact fa, by rw [lk_ne had] at ha; exact ha, Own.mono (rdE_unlock ok.iu h) (fun o' _ q => by rw [upd_ne had]; exact q) ow, tt⟩
/-- the keys of a dict -/
def keysD : D → Option (List D)
  | .dK kvs => some (kvs.map fun kv => kD kv.1)
  | .dT kvs => some (kvs.map fun kv => keyT kv.1)
  | _ => none
theorem repK_get : ∀ {kvs : List (Key × D)} {ks : List (Key × V)} {i : Nat}, RepK K F kvs ks → (kvs.map fun kv => kv.1)[i]? = (ks.map fun kv => kv.1)[i]?
  | [], _, _, r => by cases r; rfl
  | (k0, d0) :: t, _, i, r => by
    obtain ⟨v, t', rfl, q, z⟩ := r
    cases i with
    | zero => rfl
    | succ i => simpa using repK_get z
theorem repT_get : ∀ {kvs : List (List Key × D)} {ks : List (List Key × V)} {i : Nat}, RepT K F kvs ks → (kvs.map fun kv => kv.1)[i]? = (ks.map fun kv => kv.1)[i]?
  | [], _, _, r => by cases r; rfl
  | (k0, d0) :: t, _, i, r => by
    obtain ⟨v, t', rfl, q, z⟩ := r
    cases i with
    | zero => rfl
    | succ i => simpa using repT_get z
theorem rep_kD {k : Key} : Rep K F (kD k) (kV k) := by
  cases k <;> rfl
theorem wk_dK {kvs : List (Key × D)} {ks : List (Key × V)} (h : F d = some (.frz o (.dK ks))) (z : RepK K F kvs ks) : Wk K (Itk d o ks) (kvs.map fun kv => kD kv.1) F where
  go := fun i F1 H1 s1 s2 hi => ⟨s2 _ _ (s1 _ _ h), by rw [← z.len]; simpa using hi⟩
  yl := fun i F1 H1 x H2 dd s1 s2 e y => by
    obtain ⟨rfl, k, v, e2, rfl⟩ := y
    have g := repK_get (i := i) z
    rw [List.getElem?_map, List.getElem?_map, e2] at g
    rw [List.getElem?_map] at e
    obtain ⟨kv, e3, rfl⟩ := Option.map_eq_some_iff.mp e
    rw [e3] at g
    cases g
    exact ⟨F1, Ext.refl s2, rep_kD⟩
  st := fun F1 H1 s1 s2 => ⟨s2 _ _ (s1 _ _ h), by rw [← z.len]; simp⟩
theorem wk_dT {kvs : List (List Key × D)} {ks : List (List Key × V)} (h : F d = some (.frz o (.dT ks))) (z : RepT K F kvs ks) : Wk K (Itkt d o ks) (kvs.map fun kv => keyT kv.1) F where
  go := fun i F1 H1 s1 s2 hi => ⟨s2 _ _ (s1 _ _ h), by rw [← z.len]; simpa using hi⟩
  yl := fun i F1 H1 x H2 dd s1 s2 e y => by
    obtain ⟨rfl, k, v, q, e2, rfl, hq⟩ := y
    have g := repT_get (i := i) z
    rw [List.getElem?_map, List.getElem?_map, e2] at g
    rw [List.getElem?_map] at e
    obtain ⟨kv, e3, rfl⟩ := Option.map_eq_some_iff.mp e
    rw [e3] at g
    cases g
    obtain ⟨F2, x2, e4⟩ := addT (K := K) s2 hq
    exact ⟨F2, x2, q, _, rfl, e4, reps_keys _⟩
  st := fun F1 H1 s1 s2 => ⟨s2 _ _ (s1 _ _ h), by rw [← z.len]; simp⟩
/-- a dict's walk, wherever it stands locked -/
theorem dict_walk {dd : D} {ds : List D} (iu : IsDct u) (hk : keysD dd = some ds) (r : Rep K F dd (.ref d)) (h : F d = some (.frz o u)) :
    (∃ ks, u = .dK ks ∧ Wk K (Itk d o ks) ds F) ∨ ∃ ks, u = .dT ks ∧ Wk K (Itkt d o ks) ds F := by
  cases dd with
  | dK kvs =>
    cases hk
    obtain ⟨a, ks, ea, rd, z⟩ := r
    cases ea
    have e : u = .dK ks := by
      rcases rd with rd | ⟨w, rd⟩
      · rw [h] at rd; cases rd
      · rw [h] at rd; cases rd; rfl
    subst e
    exact .inl ⟨ks, rfl, wk_dK h z⟩
  | dT kvs =>
    cases hk
    obtain ⟨a, ks, ea, rd, z⟩ := r
    cases ea
    have e : u = .dT ks := by
      rcases rd with rd | ⟨w, rd⟩
      · rw [h] at rd; cases rd
      · rw [h] at rd; cases rd; rfl
    subst e
    exact .inr ⟨ks, rfl, wk_dT h z⟩
  | _ => cases hk
/-- how a dict stands that is data -/
theorem dict_at {dd : D} {ds : List D} {v : V} (hk : keysD dd = some ds) (r : Rep K F dd v) : ∃ d u, v = .ref d ∧ IsDct u ∧ (F d = some u ∨ ∃ o, F d = some (.frz o u)) := by
  cases dd with
  | dK kvs =>
    obtain ⟨a, ks, rfl, rd, z⟩ := r
    exact ⟨a, _, rfl, .inl ⟨ks, rfl⟩, rd⟩
  | dT kvs =>
    obtain ⟨a, ks, rfl, rd, z⟩ := r
    exact ⟨a, _, rfl, .inr ⟨ks, rfl⟩, rd⟩
  | _ => cases hk
end
end Dl
/-! for over a dict, comprehensions over a dict. -/
namespace Dl
open PySem PySem.Spec PyProof.Rows L2
section
variable {K : PySem.W.Frag} {E : XK} {F0 H0 F H F' H' G : Hp} {ρ ρ' : Env} {σ σ' : L2.St} {d : Addr} {u : HO} {o : Obj}
theorem Rel.mV (rel : Rel K F0 H0 ρ F σ H) {i : Nat} {r : Rs D} (e : Dl.mV i ρ = some r) : ∃ dd ρ1 v F1, r = .ok dd ρ1 ∧ σ[i]? = some (some v) ∧ Same F F1 ∧ Rel K F0 H0 ρ1 F1 σ H ∧ Rep K F1 dd v := by
  unfold Dl.mV at e
  split at e
  · rename_i d q
    cases e
    obtain ⟨v, ev, x, ex, rx⟩ := rel.get q
    subst ex
    exact ⟨d, ρ, x, F, rfl, ev, Same.refl F, rel, rx⟩
  · rename_i d q
    cases e
    obtain ⟨v, ev, a, ea, _⟩ := rel.get q
    subst ea
    obtain ⟨F', ss, rel', rep⟩ := rel.freeze q ev
    exact ⟨d, _, _, F', rfl, ev, ss, rel', rep⟩
  · cases e
def mKeys (i : Nat) : M (List D) := bnd (Dl.mV i) fun d => opt (keysD d)
theorem mKeys_some {i : Nat} {r : Rs (List D)} (rel : Rel K F0 H0 ρ F σ H) (e : mKeys i ρ = some r) : ∃ dd ds ρ1 F1 d u, r = .ok ds ρ1 ∧ keysD dd = some ds ∧ σ[i]? = some (some (V.ref d)) ∧ Same F F1 ∧ Rel K F0 H0 ρ1 F1 σ H ∧ Rep K F1 dd (.ref d) ∧ IsDct u ∧ (F1 d = some u ∨ ∃ o, F1 d = some (.frz o u)) := by
  unfold mKeys bnd at e
  cases em : Dl.mV i ρ with
  | none => rw [em] at e; cases e
  | some r0 =>
    obtain ⟨dd, ρ1, v, F1, rfl, ev, ss, rel1, rep⟩ := rel.mV em
    rw [em] at e
    dsimp only at e
    unfold opt at e
    cases hk : keysD dd with
    | none => rw [hk] at e; cases e
    | some ds =>
      rw [hk] at e
      cases e
      obtain ⟨d, u, rfl, iu, hd⟩ := dict_at hk rep
      exact ⟨dd, ds, ρ1, F1, d, u, rfl, hk, ev, ss, rel1, rep, iu, hd⟩
def noEx (p : S) : S := fun ρ => match p ρ with
  | some (.ex _ _) => none
  | r => r
theorem noEx_some {p : S} {z : Ou} (e : noEx p ρ = some z) : p ρ = some z ∧ ∀ c d, z ≠ .ex c d := by
  unfold noEx at e
  split at e
  · cases e
  · rename_i h
    refine ⟨e, fun c d hz => h c d ?_⟩
    rw [e, hz]
def sForD (i : Nat) (tg : TgE) (body : S) : S := noEx (sFor (mKeys i) tg body)
theorem same_back {F1 : Hp} (s1 : Same F F1) (h : F1 d = some u) (s : Same (upd F1 d (.frz o u)) F') : Same F (upd F' d u) := fun b q e => by
  have e1 := s1 _ _ e
  by_cases hb : b = d
  · subst hb
    rw [h] at e1
    cases e1
    exact upd_same
  · rw [upd_ne hb]
    exact s _ _ (by rw [upd_ne hb]; exact e1)
/-- the ends under the lock -/
def lkE (Dn : Ends) (d : Addr) (u : HO) (od : Obj) : Ends := ⟨fun σ' H' => H' d = some (.frz od u) ∧ Dn.nx σ' (upd H' d u), fun v H' => H' d = some (.frz od u) ∧ Dn.rt v (upd H' d u), fun σ' H' => H' d = some (.frz od u) ∧ Dn.bk σ' (upd H' d u), fun σ' H' => H' d = some (.frz od u) ∧ Dn.ct σ' (upd H' d u)⟩
theorem PostS.locked {F1 : Hp} {Dn : Ends} {z : Ou} (po : PostS K E F0 H0 F Dn z) (nex : ∀ c d, z ≠ .ex c d) (ss : Same F F1) (hd : F1 d = some u) (ok : LkOk F0 H0 d u) : PostS K E (lk F0 d u o) (lk H0 d u o) (upd F1 d (.frz o u)) (lkE Dn d u o) z := by
  have iu := ok.iu
  cases z with
  | nx ρ' => exact fun σ' F' H' s rel' => ⟨rel'.fh _ _ (s _ _ upd_same), po σ' _ _ (same_back ss hd s) (rel'.unlock ok (s _ _ upd_same))⟩
  | bk ρ' => exact fun σ' F' H' s rel' => ⟨rel'.fh _ _ (s _ _ upd_same), po σ' _ _ (same_back ss hd s) (rel'.unlock ok (s _ _ upd_same))⟩
  | ct ρ' => exact fun σ' F' H' s rel' => ⟨rel'.fh _ _ (s _ _ upd_same), po σ' _ _ (same_back ss hd s) (rel'.unlock ok (s _ _ upd_same))⟩
  | rt d' ρ' => exact fun v σ' F' H' s rel' r => ⟨rel'.fh _ _ (s _ _ upd_same), po v σ' _ _ (same_back ss hd s) (rel'.unlock ok (s _ _ upd_same)) (Rep.mono (rdE_unlock iu (s _ _ upd_same)) r)⟩
  | rf d' ρ' =>
    intro v σ' F' H' s rel' r
    have q1 : F' d = some (.frz o u) := s _ _ upd_same
    obtain ⟨a, rfl, fa, ha, ow, ns⟩ := r
    have had : a ≠ d := by rintro rfl; rw [q1] at fa; cases fa
    refine ⟨rel'.fh _ _ q1, po _ σ' _ _ (same_back ss hd s) (rel'.unlock ok q1) ⟨a, rfl, by rw [upd_ne had]; exact fa, by rw [lk_ne had] at ha; exact ha, Own.mono (rdE_unlock iu q1) (fun o' _ q => by rw [upd_ne had]; exact q) ow, ns⟩⟩
  | ex c d' => exact absurd rfl (nex c d')
theorem PS.or {X : Cx} {st : Stmt} {t u : TS} (h1 : PS X st t) (h2 : PS X st u) : PS X st fun D σ H => t D σ H ∨ u D σ H := ⟨fun pins s σ H D I h => h.elim (h1.run pins s σ H D I) (h2.run pins s σ H D I)⟩
section
variable {X : Cx} {E : XK} {a b c e o i tg iter elt : Expr} {es ifs : List Expr} {pos px : Pos} {f g h y : M D} {l : M (List D)} {t u : M Bool} {p q : S}
theorem s_forD {i : Nat} {x : Str} {body : List Stmt} {k : TgE} {ws : List Nat} (hp : PassesOwn (model X.prog X.w) X.A X.env X.xe) (hc : X.calm = true) (hN : X.N[i]? = some x) (hv : Vis X.env.scope x) (hg : PG X tg (tG X.K k ws)) (hb : PSs X body (tS X.K E p))
    (hd : (x == ("__debug__" : Str)) = false := by decide) (hcd : (x == ("__classdict__" : Str)) = false := by decide) (hs : ∀ v, foldedSetIterable (.Name x px) X.env v = pure v := by intro _; rfl) :
    PS X (.For tg (.Name x px) body [] pos) (tS X.K E (sForD i k p)) :=
  PS.imp (PS.or (ps_lock (ps_for hp hc (pi_keys (pv i hN hv hd hcd)) hg hb hs)) (ps_for hp hc (pi_keys (pv i hN hv hd hcd)) hg hb hs)) fun Dn σ H ⟨F0, H0, ρ, F, z, rel, e, po⟩ => by
    obtain ⟨e, nex⟩ := noEx_some e
    unfold sFor thenS at e
    cases em : mKeys i ρ with
    | none => rw [em] at e; cases e
    | some r =>
      rw [em] at e
      obtain ⟨dd, ds, ρ1, F1, d, u, rfl, hk, ev, ss, rel1, rep, iu, hd⟩ := mKeys_some rel em
      dsimp only at e
      rcases hd with hd | ⟨o, hd⟩
      · refine .inl ⟨d, u, rel1.fh _ _ hd, iu.mut, fun od => ?_⟩
        have ok := rel1.lkOk iu hd
        have rl := rel1.lock (o := od) iu hd
        have po' := po.locked (o := od) nex ss hd ok
        rcases dict_walk (K := X.K) (F := upd F1 d (.frz od u)) iu hk (Rep.mono (rdE_lock iu hd) rep) upd_same with ⟨ks, rfl, wk⟩ | ⟨ks, rfl, wk⟩
        · exact ⟨_, ev, d, od, rfl, .inl ⟨ks, upd_same, for_core rl wk e po'⟩⟩
        · exact ⟨_, ev, d, od, rfl, .inr ⟨ks, upd_same, for_core rl wk e po'⟩⟩
      · refine .inr ?_
        rcases dict_walk iu hk rep hd with ⟨ks, rfl, wk⟩ | ⟨ks, rfl, wk⟩
        · exact ⟨_, ev, d, o, rfl, .inl ⟨ks, rel1.fh _ _ hd, for_core rel1 wk e (po.weak ss)⟩⟩
        · exact ⟨_, ev, d, o, rfl, .inr ⟨ks, rel1.fh _ _ hd, for_core rel1 wk e (po.weak ss)⟩⟩
/-- a comprehension over a dict: under its lock -/
theorem d_compD {i : Nat} {x : Str} {scope : Scope} {own : List (Str × Nat)} {k : TgE} {ws : List Nat} (hc : X.calm = true) (hN : X.N.Nodup) (hi : X.N[i]? = some x) (hv : Vis X.env.scope x) (ok : BlkOk X.N X.env.scope scope own)
    (hg : ∀ (s : Shared) (H : Hp) (C : Addr) (cl : List (Str × Addr)) (fp : List Addr), PG (X.blk s H scope (compEnvC scope cl C X.env) fp) tg (tG X.K k ws)) (ht : ∀ (s : Shared) (H : Hp) (C : Addr) (cl : List (Str × Addr)) (fp : List Addr), PTs (X.blk s H scope (compEnvC scope cl C X.env) fp) ifs (tT X.K E0 t))
    (he : ∀ (s : Shared) (H : Hp) (C : Addr) (cl : List (Str × Addr)) (fp : List Addr), PE (X.blk s H scope (compEnvC scope cl C X.env) fp) elt (tD X.K E0 y)) (pu1 : Pu t) (pu2 : Pu y) (tk : TgOk k ws) (hw : ∀ j ∈ ws, j ∈ own.map (·.2))
    (hd : (x == ("__debug__" : Str)) = false := by decide) (hcd : (x == ("__classdict__" : Str)) = false := by decide) (hs : ∀ v, foldedSetIterable (.Name x px) X.env v = pure v := by intro _; rfl) : PE X (.ListComp elt [⟨tg, .Name x px, ifs, 0⟩] scope pos) (tF X.K E (mComp (mKeys i) (own.map (·.2)) k t y)) :=
  PE.imp (PE.or (pe_lock (pe_lc hc hN (pi_keys (pv i hi hv hd hcd)) ok hg ht he hs)) (pe_lc hc hN (pi_keys (pv i hi hv hd hcd)) ok hg ht he hs)) fun σ H Q ⟨F0, H0, ρ, F, z, rel, e, p⟩ => by
    unfold mComp bnd at e
    cases em : mKeys i ρ with
    | none => rw [em] at e; cases e
    | some r =>
      rw [em] at e
      obtain ⟨dd, ds, ρ1, F1, d, u, rfl, hk, ev, ss, rel1, rep, iu, hd⟩ := mKeys_some rel em
      dsimp only at e
      obtain ⟨ys, no, ec, hz, rfl⟩ := compE_some e
      rcases hd with hd | ⟨o, hd⟩
      · refine .inl ⟨d, u, rel1.fh _ _ hd, iu.mut, fun od => ?_⟩
        have ok := rel1.lkOk iu hd
        have rl := rel1.lock (o := od) iu hd
        have fin : ∀ (Dd : Addr), (upd H d (.frz od u)) Dd = none → ∀ F' H' us, Same (upd F1 d (.frz od u)) F' → Rel X.K (lk F0 d u od) (lk H0 d u od) ρ1 F' σ H' → H' Dd = some (.lst us) → F' Dd = none → Reps X.K F' ys us → H' d = some (.frz od u) ∧ Q (.ref Dd) (upd H' d u) := fun Dd hDd F' H' us s rel' hD fD ra => by
          have q1 : F' d = some (.frz od u) := s _ _ upd_same
          have hDd' : Dd ≠ d := by rintro rfl; rw [q1] at fD; cases fD
          have h0 := rl.ext.hh.free hDd
          rw [lk_ne hDd'] at h0
          exact ⟨rel'.fh _ _ q1, p _ _ _ (same_back ss hd s) (rel'.unlock ok q1) ⟨Dd, rfl, by rw [upd_ne hDd']; exact fD, h0, ⟨us, by rw [upd_ne hDd']; exact hD, Reps.mono (rdE_unlock iu q1) ra⟩, rl.noslot hDd⟩⟩
        rcases dict_walk (K := X.K) (F := upd F1 d (.frz od u)) iu hk (Rep.mono (rdE_lock iu hd) rep) upd_same with ⟨ks, rfl, wk⟩ | ⟨ks, rfl, wk⟩
        · exact ⟨_, ev, d, od, rfl, .inl ⟨ks, upd_same, fun Dd hDd => comp_loop (Q := fun v H' => H' d = some (.frz od _) ∧ Q v (upd H' d _)) hDd rl wk no pu1 pu2 tk hw ec hz (fin Dd hDd)⟩⟩
        · exact ⟨_, ev, d, od, rfl, .inr ⟨ks, upd_same, fun Dd hDd => comp_loop (Q := fun v H' => H' d = some (.frz od _) ∧ Q v (upd H' d _)) hDd rl wk no pu1 pu2 tk hw ec hz (fin Dd hDd)⟩⟩
      · refine .inr ?_
        have fin : ∀ (Dd : Addr), H Dd = none → ∀ F' H' us, Same F1 F' → Rel X.K F0 H0 ρ1 F' σ H' → H' Dd = some (.lst us) → F' Dd = none → Reps X.K F' ys us → Q (.ref Dd) H' := fun Dd hDd F' H' us s rel' hD fD ra => p _ F' H' (ss.trans s) rel' ⟨Dd, rfl, fD, rel1.ext.hh.free hDd, ⟨us, hD, ra⟩, rel1.noslot hDd⟩
        rcases dict_walk iu hk rep hd with ⟨ks, rfl, wk⟩ | ⟨ks, rfl, wk⟩
        · exact ⟨_, ev, d, o, rfl, .inl ⟨ks, rel1.fh _ _ hd, fun Dd hDd => comp_loop (Q := Q) hDd rel1 wk no pu1 pu2 tk hw ec hz (fin Dd hDd)⟩⟩
        · exact ⟨_, ev, d, o, rfl, .inr ⟨ks, rel1.fh _ _ hd, fun Dd hDd => comp_loop (Q := Q) hDd rel1 wk no pu1 pu2 tk hw ec hz (fin Dd hDd)⟩⟩
end
end
end Dl
/-! Dicts whose keys are tuples: copies, displays. -/
namespace Dl
open PySem PySem.Spec PyProof.Rows L2
section
variable {prog : Program} {w : World} {κ : Type} [DecidableEq κ] {kn : HeapKind prog w κ} {A : Around} {E : Value → Shared → Prop} {s : Shared}
/-- dict(o), o a dict whose keys are tuples with hashes apart -/
theorem dict_ofH {o : Addr} {more : List (κ × Addr × Value)} {Q : Value → Shared → Prop} (room : ∀ B, B.units ≤ A.units + 2 → kn.room B) (nS : (o == sysModules) = false) (old : s.heap.DictOfH kn o more) (lim : more.length ≤ sizeLine)
    (ty : ∀ x ∈ more, ∀ t : Shared, t.heap = s.heap.push { cls := .type "dict", data := .dict #[] } → t.TypeIs (.ref x.2.1) "tuple") (ap : (more.map fun x => kn.hash x.1).Nodup) (keep : (s.heap.push { cls := .type "dict", data := .dict #[] }).DictOfH kn o more)
    (fin : ∀ h', h'.DictOfH kn s.heap.objs.size more → Heap.SameBut s.heap.objs.size (s.heap.push { cls := .type "dict", data := .dict #[] }) h' → Q (.ref s.heap.objs.size) { s with heap := h' }) :
    wpAny (model prog w) A (call (.type "dict") [.ref o]) Q E s := by
  refine callType_codes (Q₁ := fun r t => r = .ref s.heap.objs.size ∧ t = { s with heap := s.heap.push { cls := .type "dict", data := .dict #[] } }) F.kt_called_dict (F.kt_typeCall_dict_1 _) F.entry_dict_init (kt_code_dict_new _ ⟨rfl, rfl⟩) ?_
  intro r t ⟨e1, e2⟩; subst e1 e2
  have em : (s.heap.push { cls := .type "dict", data := .dict #[] }).DictOfH kn s.heap.objs.size [] := Heap.DictOfH.new s.heap
  have nd := old.nodup
  have ne : s.heap.objs.size ≠ o := by
    obtain ⟨_, _, _, g, _⟩ := old
    exact fun z => Nat.lt_irrefl _ (z ▸ Heap.lt_size g)
  refine ⟨em.typeIs, F.args_dict_init_2 _ _, ?_⟩
  unfold Builtin.«dict.__init__»; refine wpAny_bind ?_
  unfold Builtin.Dict.selfAndRest; refine wpAny_bind (wpAny_notOrdered_dict em.typeIs ?_)
  show wpAny _ _ (pure (s.heap.objs.size, [Value.ref o])) _ _ _; refine wpAny_pure ?_
  show wpAny _ _ (Builtin.Dict.updateFrom "dict.__init__" s.heap.objs.size (.ref o) [] .none) _ _ _; unfold Builtin.Dict.updateFrom
  refine wpAny_bind (wpAny_typeOf keep.typeIs ?_); rw [if_neg (by decide)]
  refine wpAny_bind ?_; unfold Builtin.Dict.merge
  refine wpAny_bind ?_; unfold Builtin.Dict.readDirectly
  refine wpAny_bind (wpAny_isInstance keep.typeIs isSubtype_dict_dict ?_); simp only [Bool.not_true, Bool.false_eq_true, if_false]
  refine wpAny_bind (wpAny_specialOf keep.typeIs F.slot_dict_iter.lookup (wpAny_pure ?_)); simp only [beq_self_eq_true, if_true]
  refine wpAny_bind (wpAny_pure ?_)
  refine wpAny_mergeDict_heap (hsz := by simpa using lim) (room _ ?_) ne nS em keep (.inr ⟨fun x hx => ty x hx _ rfl, ap⟩) fun h' d' _ sb => ?_
  · exact Nat.le_refl _
  · show wpAny _ _ (Builtin.Dict.addKeywords s.heap.objs.size [] >>= _) _ _ _; rw [storedAllH_nil_of_nodup more nd] at d'
    exact wpAny_bind (wpAny_pure (wpAny_pure ⟨rfl, fin h' d' sb⟩))
end
/-! ### dict(d) -/
section
variable {K : PySem.W.Frag} {F0 H0 F H : Hp}
theorem kt_hash {α : Type} (f : List Key → α) {H : Hp} : ∀ {ks : List (List Key × V)} {xs : List (List Key × Addr × Value)}, KT H ks xs → (xs.map fun x => f x.1) = ks.map fun k => f k.1
  | _, _, .nil => rfl
  | _, _, .cons h t => by rw [List.map_cons, List.map_cons, kt_hash f t, h.1]
def rDictT (X : Cx) : List V → Hp → VK → Prop := fun xs H Q => ∃ a ks, xs = [V.ref a] ∧ Rd H a (.dT ks) ∧ (∀ a ∈ ks, ∀ b ∈ ks, (tupleKind (mixKind X.prog X.w)).hash a.1 = (tupleKind (mixKind X.prog X.w)).hash b.1 → a.1 = b.1) ∧ ∀ p, H p = none → Q (.ref p) (upd H p (.dT ks))
theorem call_dictT {X : Cx} (hu : X.A.units + 2 < cLine) : CallR X (.type "dict") (rDictT X) := by
  intro pins s σ H xs us Q I r ⟨a, ks, e, rd, nh, q⟩
  subst e
  obtain ⟨u, rfl, rx⟩ := vals1 r
  cases rx
  obtain ⟨z, lo, ys, kt, od⟩ := dt_rd I.hok rd
  have nd := od.nodup
  have tyA : ∀ x ∈ ys, ∀ t : Shared, t.heap = s.heap.push { cls := .type "dict", data := .dict #[] } → t.TypeIs (.ref x.2.1) "tuple" := fun x hx t et => by
    obtain ⟨_, _, _, _, _, _, _, his, _⟩ := id od
    have st : (tupleKind (mixKind X.prog X.w)).Stays := tupleKind_stays
    exact st.tuple (s := t) (by rw [et]; exact st.stays (fun b o _ _ e _ => Heap.get?_push_of_some _ e) (his x hx))
  refine dict_ofH (kn := tupleKind (mixKind X.prog X.w)) (fun B hB => Nat.lt_of_le_of_lt hB hu) lo od (by rw [← Paired.length kt]; exact z) tyA (by
    rw [kt_hash _ kt]
    have e : ks.map (fun k => k.1) = ys.map (·.1) := (kt_hash id kt).symm
    have n2 : (ks.map fun k => k.1).Nodup := by rw [e]; exact nd
    refine List.pairwise_map.mpr ((List.pairwise_map.mp n2).imp_of_mem fun {a b} ha hb hne hh => hne (nh a ha b hb hh))) (od.at' (fun o e => Heap.get?_push_of_some _ e) fun y hy => by
    obtain ⟨_, _, _, _, _, _, _, his, _⟩ := id od
    exact (tupleKind_stays (knd := mixKind X.prog X.w)).stays (fun b o _ _ e _ => Heap.get?_push_of_some _ e) (his y hy)) fun h' d' sb => ?_
  have nb : ∀ b o, s.heap.get? b = some o → h'.get? b = some o := fun b o e => (sb.2 b (Nat.ne_of_lt (Heap.lt_size e))).trans (Heap.get?_push_of_some _ e)
  have big : (s.heap.objs.size == sysModules) = false := beq_eq_false_iff_ne.mpr (Nat.ne_of_gt I.big)
  obtain ⟨o, es, ep, d1, d2, d3, d4, _, d5⟩ := d'
  have hn := I.hok.fresh (Nat.le_refl s.heap.objs.size)
  exact ⟨.ref s.heap.objs.size, upd H s.heap.objs.size (.dT ks), I.laid (t' := s.toks) nb (Nat.le_refl _) ⟨z, big, ys, kt.keeps fun b xs e => by rw [upd_ne (ne_of_none e hn)]; exact e, o, es, ep, d1, d2, d3, d4, d5⟩, rfl, q _ hn⟩
/-! ### {k: v}, k a tuple -/
def tDispT1 (tk tv : TE) : TE := fun σ H Q => ∀ p, H p = none → tk σ (upd H p (.dT [])) fun x H1 => tv σ H1 fun y H2 => H2 p = some (.dT []) ∧ ∃ (ks : List Key) (b : Addr), x = .ref b ∧ H2 b = some (.tup (ks.map kV)) ∧ Q (.ref p) (upd H2 p (.dT [(ks, y)]))
theorem pe_dispT1 {X : Cx} {pos : Pos} {k v : Expr} {tk tv : TE} (hu : X.A.units + 1 < cLine) (hk : PE X k tk) (hv : PE X v tv) : PE X (.Dict [some k] [v] pos) (tDispT1 tk tv) := by
  refine ⟨fun pins s σ H Q I q => ?_⟩
  have hn := I.hok.fresh (Nat.le_refl s.heap.objs.size)
  have I1 := I.laid (a := s.heap.objs.size) (o := .dT []) (h' := s.heap.push { cls := .type "dict", data := .dict #[] }) (t' := s.toks) (fun _ _ q => Heap.get?_push_of_some _ q) (Nat.le_refl _) (dt_empty s.heap I.big)
  have sh := zip_pairTrees [some k] [v] X.env pos rfl rfl
  have ne : pairTrees [some k] [v] X.env pos ≠ [] := by unfold pairTrees; exact fun z => nomatch z
  rw [arm_eval_Dict, sh, dictDisplay_pairs _ ne (by unfold pairTrees pairTrees; rw [List.length_singleton]; decide)]
  refine wpAny_bind (wpAny_standAt (wpAny_bind (wpAny_subDictH (knd := tupleKind (mixKind X.prog X.w)) (show X.A.units < cLine by omega) (by unfold pairTrees pairTrees; rw [List.length_singleton]; decide) ?_)))
  refine pairTrees_cons_walk (thn (hk.run pins _ σ _ _ I1 (q _ hn)) fun u s1 ⟨x, H1, I2, rx, q1⟩ => thn (hv.run pins s1 σ H1 _ I2 q1) fun w2 s2 ⟨y, H2, I3, ry, e, ks, b, ex, eb, q2⟩ => pairTrees_nil_walk ?_)
  subst ex
  cases rx
  obtain ⟨z, hd, vs0, r0, dd⟩ := dt_of I3.hok e
  cases r0
  refine ⟨[(ks, b, w2)], ⟨rfl, rfl, key_of I3.hok eb, trivial⟩, dd, fun h' tk d' sb => wpAny_pure ⟨.ref s.heap.objs.size, _, ?_, rfl, q2⟩⟩
  obtain ⟨o, es, ep, d1, d2, d3, d4, _, d5⟩ := d'
  have hbp : b ≠ s.heap.objs.size := ne_of eb e fun z => nomatch z
  exact d_write I3 (by rw [e]; exact True.intro) sb ⟨o, d1⟩ ⟨by show 1 ≤ sizeLine; decide, hd, [(ks, b, w2)], .cons ⟨rfl, by rw [upd_ne hbp]; exact eb, ry⟩ .nil, o, es, ep, d1, d2, d3, d4, d5⟩
end
end Dl
/-! {k: v for ..}, the keys tuples (the core as HandS.DictComp's, the dict of the other kind). -/
namespace Dl
open PySem PySem.Spec PyProof.Rows L2
theorem d_dictSetT {X : Cx} {pinz : List (Addr × Obj)} {σ : L2.St} {H : Hp} {s : Shared} {E : Value → Shared → Prop} {D b : Addr} {ks : List (List Key × V)} {k : List Key} {v : V} {r : Value} {Q : Unit → Shared → Prop} (hu : X.A.units + 1 < cLine) (I : Inv X pinz σ H s) (hD : H D = some (.dT ks)) (hb : H b = some (.tup (k.map kV))) (hz : ks.length < sizeLine)
    (rv : RelV v r) (h : ∀ s', Inv X pinz σ (upd H D (.dT (putK ks k v))) s' → Q () s') : wpAny (model X.prog X.w) X.A (dictSet D (.ref b) r) Q E s := by
  obtain ⟨z, hd, ys, rel, dd⟩ := dt_of I.hok hD
  have hy : ys.length ≤ sizeLine := by rw [← Paired.length rel]; exact z
  have hl : (putK ks k v).length ≤ sizeLine := by have := length_putK ks k v; omega
  refine wpAny_dictSet_heap (hsz := hy) (knd := tupleKind (mixKind X.prog X.w)) (show X.A.units < cLine by omega) (key_of I.hok hb) dd fun h' d' sb => h _ ?_
  obtain ⟨o, es, ep, d1, d2, d3, d4, _, d5⟩ := d'
  refine d_write I (by rw [hD]; exact True.intro) sb ⟨o, d1⟩ ⟨hl, hd, _, (rel.put k hb rv).keeps fun c xs ec => ?_, o, es, ep, d1, d2, d3, d4, d5⟩
  rw [upd_ne (ne_of ec hD fun z => nomatch z)]; exact ec
section
variable {X : Cx}
abbrev St := L2.St
/-- D: the new dict -/
def tDcT (wj : TI) (g : TG) (tq : TT) (tk tv : TE) (vs : List Nat) : TE := fun σ H Q => wj σ H fun J H1 => ∀ D, H1 D = none → ∃ W : Nat → Nat → Hp → Prop, (∃ m, W 0 m (upd H1 D (.dT []))) ∧ ∀ i m H, W i m H →
  (J.stop i H ∧ Q (.ref D) H) ∨ (J.go i H ∧ ∃ Nx : Hp → Prop, (∀ H', Nx H' → ∃ m', m' < m ∧ W (i + 1) m' H') ∧ ∀ x H', J.yld i H x H' → g x (wipe σ vs) H' fun σ2 H2 => wipe σ2 vs = wipe σ vs ∧ tq σ2 H2 fun b H3 =>
    if b = true then tk σ2 H3 fun y H4 => tv σ2 H4 fun z H5 => ∃ (kvs : List (List Key × V)) (k : List Key) (b : Addr), y = .ref b ∧ H5 b = some (.tup (k.map kV)) ∧ H5 D = some (.dT kvs) ∧ kvs.length < sizeLine ∧ Nx (upd H5 D (.dT (putK kvs k z))) else Nx H3)
theorem dcT_core {pinz : List (Addr × Obj)} {s : Shared} {σ : St} {H : Hp} {Q : VK} {kex vex tgt src : Expr} {cnd : List Expr} {sco : Scope} {own : List (Str × Nat)} {pos pos' : Pos} {wj : TI} {g : TG} {tq : TT} {tk tv : TE} {use : Option (Value → Sem Unit)} {Qf : Value → Shared → Prop}
    (hcalm : X.calm = true) (hNn : X.N.Nodup) (I : Inv X pinz σ H s) (hii : PI X tgt src wj) (okb : BlkOk X.N X.env.scope sco own)
    (hg : ∀ (s : Shared) (H : Hp) (C : Addr) (cz : List (Str × Addr)) (fq : List Addr), PG (X.blk s H sco (compEnvC sco cz C X.env) fq) tgt g) (ht : ∀ (s : Shared) (H : Hp) (C : Addr) (cz : List (Str × Addr)) (fq : List Addr), PTs (X.blk s H sco (compEnvC sco cz C X.env) fq) cnd tq)
    (hu : ∀ (s : Shared) (H : Hp) (C : Addr) (cz : List (Str × Addr)) (fq : List Addr), (X.blk s H sco (compEnvC sco cz C X.env) fq).A.units + 1 < cLine) (hk : ∀ (s : Shared) (H : Hp) (C : Addr) (cz : List (Str × Addr)) (fq : List Addr), PE (X.blk s H sco (compEnvC sco cz C X.env) fq) kex tk)
    (he : ∀ (s : Shared) (H : Hp) (C : Addr) (cz : List (Str × Addr)) (fq : List Addr), PE (X.blk s H sco (compEnvC sco cz C X.env) fq) vex tv) (hs : ∀ x, foldedSetIterable src X.env x = pure x)
    (h : tDcT wj g tq tk tv (own.map (·.2)) σ H Q)
    (hRR : ∀ D C s' m H', Inv X pinz σ H' s' → Q (.ref D) H' → s'.heap.Ns C m → FpOk X pinz H' C → compPost (model X.prog X.w) X.A X.xe use Qf (.ref D) C (.ok .next) s') :
    wpAny (model X.prog X.w) X.A (comprehension (.DictComp kex vex [⟨tgt, src, cnd, 0⟩] sco pos) sco X.env pos' newDict false (eval src X.env) use) Qf X.xe s := by
  have hfree : ∀ y ∈ sco.names, y.2 = .free → ∃ c, X.env.cells.lookup y.1 = some c := fun y hy e => by
    rcases okb.free y hy e with k | k
    · exact I.ok.has _ (.inl k)
    · exact I.ok.has _ (.inr k)
  refine wpAny_comprehension_free (use := use) rfl hs (closure_ok hfree) okb.kind (fun y hy e => by rw [okb.uniq y hy, e])
    (thn (hii.run pinz s σ H _ I h) fun xv ss1 hx => thn hx fun itv ss2 h2 => ?_)
  obtain ⟨it, fq, tn, J, G2, e, V2, T, tt2, f2, q⟩ := h2
  subst e
  refine wpAny_newObj_type (newEnv_comp ?_)
  generalize hDd : ss2.heap.objs.size = D
  have hDn : G2 D = none := V2.hok.fresh (Nat.le_of_eq hDd)
  obtain ⟨W, ⟨m0, w0⟩, turn⟩ := q D hDn
  -- the new list
  generalize hs3 : ({ ss2 with heap := ss2.heap.push { cls := .type "dict", data := .dict #[] } } : Shared) = ss3
  have V3 : Inv X pinz σ (upd G2 D (.dT [])) ss3 := by
    rw [← hs3]
    refine V2.laid (t' := ss2.toks) (fun b o e => Heap.get?_push_of_some _ e) (Nat.le_of_eq hDd) ?_
    rw [← hDd]
    exact dt_empty ss2.heap V2.big
  have h3 : ss3.heap = ss2.heap.push { cls := .type "dict", data := .dict #[] } := by rw [← hs3]
  have sz : ∀ b ∈ fq, b < ss2.heap.objs.size := fun b hb => by
    obtain ⟨o, e, _⟩ := T.obj _ _ tt2 b hb
    exact Heap.lt_size e
  have f3 : ∀ b ∈ fq, FpOk X pinz (upd G2 D (.dT [])) b ∧ b < ss3.heap.objs.size := fun b hb => by
    have hlt := sz b hb
    refine ⟨⟨?_, (f2 b hb).2⟩, by rw [h3, Heap.size_push]; exact Nat.lt_succ_of_lt hlt⟩
    rw [upd_ne (by rw [← hDd]; exact Nat.ne_of_lt hlt)]
    exact (f2 b hb).1
  have tt3 : tn 0 ss3.heap := T.keep _ _ _ tt2 fun b _ o e => by rw [h3]; exact Heap.get?_push_of_some _ e
  have V4 := block_start V3 okb hNn f3
  have uu := hu ss3 (upd G2 D (.dT [])) ss3.heap.objs.size (cellsFrom (ss3.heap.objs.size + 1) sco.names (cloFrom X.env.cells sco.names [])) fq
  have ug := hg ss3 (upd G2 D (.dT [])) ss3.heap.objs.size (cellsFrom (ss3.heap.objs.size + 1) sco.names (cloFrom X.env.cells sco.names [])) fq
  have ut := ht ss3 (upd G2 D (.dT [])) ss3.heap.objs.size (cellsFrom (ss3.heap.objs.size + 1) sco.names (cloFrom X.env.cells sco.names [])) fq
  have uk := hk ss3 (upd G2 D (.dT [])) ss3.heap.objs.size (cellsFrom (ss3.heap.objs.size + 1) sco.names (cloFrom X.env.cells sco.names [])) fq
  have ue := he ss3 (upd G2 D (.dT [])) ss3.heap.objs.size (cellsFrom (ss3.heap.objs.size + 1) sco.names (cloFrom X.env.cells sco.names [])) fq
  show codeAny _ _ (.compStart (.DictComp kex vex [⟨tgt, src, cnd, 0⟩] sco pos) 0 (.ref it) (.ref D) (compEnvC sco (cellsFrom (ss3.heap.objs.size + 1) sco.names (cloFrom X.env.cells sco.names [])) ss3.heap.objs.size X.env)) (compPost (model X.prog X.w) X.A X.xe use Qf (.ref D) ss3.heap.objs.size) { ss3 with heap := pushCells (ss3.heap.push { cls := .type "dict", data := .dict #[] }) sco.names }
  have nfp : ∀ b ∈ fq, (upd G2 D (.dT [])) b = none := fun b hb => (f3 b hb).1.1
  generalize hce : compEnvC sco (cellsFrom (ss3.heap.objs.size + 1) sco.names (cloFrom X.env.cells sco.names [])) ss3.heap.objs.size X.env = cv at V4 uu ug ut uk ue ⊢
  have cL : cv.locals = ss3.heap.objs.size := by subst hce; rfl
  generalize hH3 : upd G2 D (.dT []) = G3 at V3 V4 uu ug ut uk ue w0 nfp f3
  generalize hs4 : ({ ss3 with heap := pushCells (ss3.heap.push { cls := .type "dict", data := .dict #[] }) sco.names } : Shared) = ss4 at V4 ⊢
  have tt4 : tn 0 ss4.heap := T.keep _ _ _ tt3 fun b _ o e => by rw [← hs4]; exact pushCells_keeps _ _ _ _ (Heap.get?_push_of_some _ e)
  have stat : ∀ {σ' : St} {H' : Hp} {s' : Shared}, Inv (X.blk ss3 G3 sco cv fq) [] σ' H' s' → (∀ b ∈ fq, H' b = none) → ∀ b ∈ fq, FpOk (X.blk ss3 G3 sco cv fq) [] H' b := fun {σ' H' s'} I' hn b hb =>
    ⟨hn b hb, (I'.ok.exf b hb).1, I'.ok.exfs b hb, .inl hb, fun x c e => (I'.ok.exf b hb).2 x c e, fun p hp => absurd (show p ∈ ([] : List (Addr × Obj)) ++ [] from hp) (by simp)⟩
  have loop : codeAny (model X.prog X.w) X.A (.compLoop (.DictComp kex vex [⟨tgt, src, cnd, 0⟩] sco pos) 0 (.ref it) (.ref D) cv) (compPost (model X.prog X.w) X.A X.xe use Qf (.ref D) ss3.heap.objs.size) ss4 := by
    refine compLoop_anyD (fun n s' => ∃ i H', Inv (X.blk ss3 G3 sco cv fq) [] (wipe σ (own.map (·.2))) H' s' ∧ tn i s'.heap ∧ (∀ b ∈ fq, H' b = none) ∧ W i n H') ?_ m0 ⟨0, G3, V4, tt4, nfp, w0⟩
    rintro n ss5 ⟨i, G5, V5, tt5, n5, w5⟩
    rcases turn i n G5 w5 with ⟨stop, qq⟩ | ⟨go, Nx, hNx, step⟩
    · have td := T.done (X.blk ss3 G3 sco cv fq) rfl rfl rfl hcalm i [] ss5 _ G5 (fun _ _ => False) V5 (stat V5 n5) tt5 stop
      refine thnF td fun r ss6 ⟨hr, V6⟩ => ?_
      subst hr
      -- back in the def's context
      have V7 : Inv X pinz σ G5 ss6 := V3.call' (ch := fq) V6.os V6.base V6.hok V6.bare fun b hb => ⟨(f3 b hb).1.2.2.2.1, (f3 b hb).1.2.1, (f3 b hb).1.2.2.2.2.1, (f3 b hb).1.2.2.2.2.2⟩
      have nC : G5 ss3.heap.objs.size = none := by
        have z : G5 cv.locals = none := V6.free
        rw [cL] at z
        exact z
      obtain ⟨m, hn, _⟩ := V6.loc
      have hn : ss6.heap.Ns cv.locals m := hn
      rw [cL] at hn
      exact hRR D ss3.heap.objs.size ss6 m G5 V7 qq hn (V3.fpOk (Nat.le_refl _) nC)
    · have ti := T.item (X.blk ss3 G3 sco cv fq) rfl rfl rfl hcalm i [] ss5 _ G5 (fun _ _ => False) V5 (stat V5 n5) tt5 go
      refine thnF ti fun r ss6 ⟨u, hr, h6⟩ => ?_
      subst hr
      refine thnF h6 fun _ ss7 ⟨x, G7, V7, r7, y7, tt7, n7⟩ => ?_
      have V7' := V7.pinned (stat V7 n7) (T.obj _ _ tt7)
      refine thnF (ug.run _ ss7 _ G7 x u _ V7' r7 (step x G7 y7)) fun _ ss8 ⟨σ8, G8, V8, hw8, q8⟩ => ?_
      refine thnF (ut.run _ ss8 σ8 G8 _ V8 q8) fun b ss9 ⟨G9, V9, q9⟩ => ?_
      -- the turn's end
      have fin : ∀ {s' : Shared} {H' : Hp}, Inv (X.blk ss3 G3 sco cv fq) ([] ++ pinsAt fq ss7.heap) σ8 H' s' → Nx H' → ∃ m, m < n ∧ ∃ i H', Inv (X.blk ss3 G3 sco cv fq) [] (wipe σ (own.map (·.2))) H' s' ∧ tn i s'.heap ∧ (∀ b ∈ fq, H' b = none) ∧ W i m H' := fun {s' H'} I' nx => by
        obtain ⟨m', hm, w'⟩ := hNx H' nx
        have pin' : ∀ b ∈ fq, ∀ o, ss7.heap.get? b = some o → s'.heap.get? b = some o ∧ H' b = none := fun b hb o e =>
          let z := I'.pin (b, o) (List.mem_append_right _ (List.mem_append_right _ (mem_pinsAt hb e)))
          ⟨z.1, z.2.1⟩
        have hl : (wipe σ (own.map (·.2))).length = σ8.length := by rw [← hw8, wipe_length]
        refine ⟨m', hm, i + 1, H', (I'.unpinned (pins := [])).weak hl (fun j v e => ?_), T.keep _ _ _ tt7 fun b hb o e => (pin' b hb o e).1, fun b hb => ?_, w'⟩
        · rw [← hw8] at e
          exact (wipe_some e).1
        · obtain ⟨o, e, _⟩ := T.obj _ _ tt7 b hb
          exact (pin' b hb o e).2
      cases b with
      | false =>
        simp only [Bool.false_eq_true, if_false] at q9 ⊢
        exact fin V9 q9
      | true =>
        simp only [if_true] at q9 ⊢
        refine thnF (uk.run _ ss9 σ8 G9 _ V9 q9) fun z ss10 ⟨yk, G10, V10, r10, q10⟩ => ?_
        refine thnF (ue.run _ ss10 σ8 G10 _ V10 q10) fun z2 ss11 ⟨yv, G11, V11, r11, kvs, k, b, ek, hb11, hD11, hz11, nx⟩ => ?_
        subst ek
        cases r10
        exact d_dictSetT (X := X.blk ss3 G3 sco cv fq) uu V11 hD11 hb11 hz11 r11 fun ss12 V12 => fin V12 nx
  exact codeAny_compStart_dict loop (T.self X.A 0 _ _ _ tt4 loop)
/-- as a value -/
theorem pe_dcT {kex vex tgt src : Expr} {cnd : List Expr} {sco : Scope} {own : List (Str × Nat)} {pos : Pos} {wj : TI} {g : TG} {tq : TT} {tk tv : TE} (hcalm : X.calm = true) (hNn : X.N.Nodup) (hii : PI X tgt src wj) (okb : BlkOk X.N X.env.scope sco own)
    (hg : ∀ (s : Shared) (H : Hp) (C : Addr) (cz : List (Str × Addr)) (fq : List Addr), PG (X.blk s H sco (compEnvC sco cz C X.env) fq) tgt g) (ht : ∀ (s : Shared) (H : Hp) (C : Addr) (cz : List (Str × Addr)) (fq : List Addr), PTs (X.blk s H sco (compEnvC sco cz C X.env) fq) cnd tq)
    (hu : ∀ (s : Shared) (H : Hp) (C : Addr) (cz : List (Str × Addr)) (fq : List Addr), (X.blk s H sco (compEnvC sco cz C X.env) fq).A.units + 1 < cLine) (hk : ∀ (s : Shared) (H : Hp) (C : Addr) (cz : List (Str × Addr)) (fq : List Addr), PE (X.blk s H sco (compEnvC sco cz C X.env) fq) kex tk)
    (he : ∀ (s : Shared) (H : Hp) (C : Addr) (cz : List (Str × Addr)) (fq : List Addr), PE (X.blk s H sco (compEnvC sco cz C X.env) fq) vex tv) (hs : ∀ x, foldedSetIterable src X.env x = pure x := by intro _; rfl) :
    PE X (.DictComp kex vex [⟨tgt, src, cnd, 0⟩] sco pos) (tDcT wj g tq tk tv (own.map (·.2))) := by
  refine ⟨fun pinz s σ H Q I h => ?_⟩
  rw [arm_eval_DictComp]
  refine dcT_core hcalm hNn I hii okb hg ht hu hk he hs h fun D C s' m H' I' q hn f => ⟨m, hn, fun h'' sb => ?_⟩
  obtain ⟨f0, f1, f2, f3, f4, f5⟩ := f
  exact ⟨.ref D, H', I'.turned (t' := s'.toks) (fun b o hb e => (sb.2 b hb).trans e) f0 f1 f3 f4 f5, rfl, q⟩

end
end Dl
/-! New dicts: empty ones, copies, displays, comprehensions. -/
namespace Dl
open PySem PySem.Spec PyProof.Rows L2
section
variable {X : Cx} {E : XK} {a b c e o i tg iter elt kx vx : Expr} {es ifs : List Expr} {pos p px : Pos} {f g h y ky : M D} {l : M (List D)} {t u : M Bool}
theorem d_newK : PE X (.Dict [] [] pos) (tF X.K E (ret (.dK []))) := PE.imp pe_dnewK fun σ H Q ⟨F0, H0, ρ, F, z, rel, e, p⟩ => by
  cases e
  intro q hq
  exact p _ F _ (Same.refl F) (rel.grow (Ext.put rel.fh hq)) ⟨q, rfl, rel.fh.free hq, rel.ext.hh.free hq, ⟨[], upd_same, rfl⟩, rel.noslot hq⟩
theorem d_newT : PE X (.Dict [] [] pos) (tF X.K E (ret (.dT []))) := PE.imp pe_dnewT fun σ H Q ⟨F0, H0, ρ, F, z, rel, e, p⟩ => by
  cases e
  intro q hq
  exact p _ F _ (Same.refl F) (rel.grow (Ext.put rel.fh hq)) ⟨q, rfl, rel.fh.free hq, rel.ext.hh.free hq, ⟨[], upd_same, rfl⟩, rel.noslot hq⟩

/-! ### dict(d) -/
/-- hashes of tuple keys of this kind tell them apart -/
def Apart (P : List Key → Bool) : Prop := ∀ (pr : Program) (w : World) (a b : List Key), P a = true → P b = true → (tupleKind (mixKind pr w)).hash a = (tupleKind (mixKind pr w)).hash b → a = b
def oDict (P : List Key → Bool) : D → Option D
  | .dK kvs => some (.dK kvs)
  | .dT kvs => if (kvs.all fun kv => P kv.1) = true then some (.dT kvs) else none
  | _ => none
def mDict (P : List Key → Bool) (f : M D) : M D := bnd f fun d => opt (oDict P d)
theorem repT_mem {K : PySem.W.Frag} {F : Hp} {kvs : List (List Key × D)} {ks : List (List Key × V)} (r : RepT K F kvs ks) {k : List Key × V} (h : k ∈ ks) : ∃ kv ∈ kvs, kv.1 = k.1 := by
  obtain ⟨i, hi, e⟩ := List.mem_iff_getElem.mp h
  have g := repT_get (i := i) r
  rw [List.getElem?_map, List.getElem?_map, List.getElem?_eq_getElem hi, e] at g
  obtain ⟨kv, e1, e2⟩ := Option.map_eq_some_iff.mp g
  exact ⟨kv, List.mem_of_getElem? e1, e2⟩
theorem d_dict {k : Nat} {P : List Key → Bool} (hr : Room k X.A) (hP : Apart P) (hg : Gl X "dict") (hm : X.mg "dict" = none) (ha : PE X e (tB X.K E f)) (he : starEach [e] X.env = (false, eval e X.env) :: starEach [] X.env := by rfl) : PE X (.Call (.Name "dict" p) [e] [] pos) (tF X.K E (mDict P f)) :=
  PE.imp (pe_callTy (call_dictD.or (call_dictT (by have := hr.un; omega))) hg hm boot_dict (pa_cons ha pa_nil he) (by decide) (by decide) he rfl) fun σ H Q ⟨F0, H0, ρ, F, z, rel, e, p⟩ => by
    refine step rel e p fun ρ1 F1 H1 d v s1 rel1 ra e1 p1 ef1 => ?_
    have rb := rel1.rb ra
    unfold opt at e1
    cases ec : oDict P d with
    | none => rw [ec] at e1; cases e1
    | some c =>
      rw [ec] at e1
      cases e1
      have fin : ∀ {o : HO} (q : Addr), H1 q = none → Own X.K F1 (upd H1 q o) q c → Q (.ref q) (upd H1 q o) := fun q hq ow => p1 _ F1 _ (Same.refl F1) (rel1.grow (Ext.put rel1.fh hq)) ⟨q, rfl, rel1.fh.free hq, rel1.ext.hh.free hq, ow, rel1.noslot hq⟩
      unfold oDict at ec
      split at ec
      · cases ec
        obtain ⟨a, ks, rfl, h, zz⟩ := rb.dK rel1.fh
        exact .inl ⟨a, ks, rfl, h, fun q hq => fin q hq ⟨ks, upd_same, zz⟩⟩
      · split at ec
        · rename_i hall
          cases ec
          obtain ⟨a, ks, rfl, h, zz⟩ := rb.dT rel1.fh
          refine .inr ⟨a, ks, rfl, h, fun x hx y hy hh => ?_, fun q hq => fin q hq ⟨ks, upd_same, zz⟩⟩
          obtain ⟨kx, k1, k2⟩ := repT_mem zz hx
          obtain ⟨ky, k3, k4⟩ := repT_mem zz hy
          have hall' := List.all_eq_true.mp hall
          exact hP _ _ _ _ (by rw [← k2]; exact hall' _ k1) (by rw [← k4]; exact hall' _ k3) hh
        · cases ec
      · cases ec

/-! ### {k: v} -/
def mDisp1 (g h : M D) : M D := bnd g fun k => bnd h fun v => match k with
  | .tup es => opt ((keysOf es).map fun q => .dT [(q, v)])
  | _ => fun _ => none
theorem d_disp1 {k : Nat} (hr : Room k X.A) (ha : PE X a (tD X.K E g)) (hb : PE X b (tD X.K E h)) : PE X (.Dict [some a] [b] pos) (tF X.K E (mDisp1 g h)) := PE.imp (pe_dispT1 (hu_of (k := k) hr) ha hb) fun σ H Q ⟨F0, H0, ρ, F, z, rel, e, p⟩ => by
  intro q hq
  have fq := rel.fh.free hq
  have hq0 := rel.ext.hh.free hq
  have relA : Rel X.K F0 (upd H0 q (.dT [])) ρ F σ (upd H q (.dT [])) := (rel.grow (Ext.put rel.fh hq)).aside .dT hq0 upd_same fq (rel.noslot hq)
  unfold mDisp1 bnd at e
  cases eg : g ρ with
  | none => rw [eg] at e; cases e
  | some r =>
    rw [eg] at e
    refine ⟨F0, _, ρ, F, r, relA, eg, ?_⟩
    cases r with
    | ex c d => cases e; exact fun a' F' H' s' x xa => p a' F' H' s' (x.base hq0) xa
    | ok kd ρ1 =>
      intro kv F1 H1 s1 rel1 r1
      dsimp only at e
      cases eh : h ρ1 with
      | none => rw [eh] at e; cases e
      | some r =>
        rw [eh] at e
        refine ⟨F0, _, ρ1, F1, r, rel1, eh, ?_⟩
        cases r with
        | ex c d => cases e; exact fun a' F' H' s' x xa => p a' F' H' (s1.trans s') (x.base hq0) xa
        | ok vd ρ2 =>
          intro vv F2 H2 s2 rel2 r2
          dsimp only at e
          split at e
          · rename_i es
            unfold opt at e
            cases ek : keysOf es with
            | none => rw [ek] at e; cases e
            | some ks =>
              rw [ek] at e
              cases e
              have q1 : H2 q = some (.dT []) := rel2.ext.hh.keep upd_same (fun _ z => nomatch z)
              have q2 : F2 q = none := rel2.ext.new _ _ (rel.ext.ff.free fq) upd_same fun _ z => nomatch z
              have rel3 := rel2.back (o' := .dT [(ks, vv)]) hq0 .dT q2
              obtain ⟨kb, kvs', rfl, hkb, zk⟩ := r1
              have ekk := keysOf_rep zk ek
              subst ekk
              have ns2 : ∀ (i : Nat) (t : Option Addr) (d : D), ρ2[i]? = some (SL.ow t d) → σ[i]? ≠ some (some (V.ref q)) := fun i t d h1 h2 => by
                obtain ⟨_, e3, c, ec, _, hc, _⟩ := rel2.get h1
                rw [h2] at e3
                cases e3
                cases ec
                rw [upd_same] at hc
                cases hc
              exact ⟨q1, ks, kb, rfl, rel2.fh _ _ (s2 _ _ hkb), p _ F2 _ (s1.trans s2) rel3 ⟨q, rfl, q2, hq0, ⟨_, upd_same, vv, [], rfl, r2, rfl⟩, ns2⟩⟩
          · cases e

/-! ### {k: v for ..} -/
def compDT (vs : List Nat) (tg : TgE) (tst : M Bool) (ke ve : M D) (ρ : Env) : List D → List (List Key × D) → Option (List (List Key × D))
  | [], acc => some acc
  | d :: ds, acc => match tg d (wipeE ρ vs) with
    | none => none
    | some ρ2 => match tst ρ2 with
      | some (.ok true _) => (match ke ρ2 with
        | some (.ok (.tup es) _) => (match keysOf es with
          | some k => (match ve ρ2 with
            | some (.ok v _) => if acc.length < sizeLine then compDT vs tg tst ke ve ρ ds (putD acc k v) else none
            | _ => none)
          | none => none)
        | _ => none)
      | some (.ok false _) => compDT vs tg tst ke ve ρ ds acc
      | _ => none
def mCompT (l : M (List D)) (vs : List Nat) (tg : TgE) (tst : M Bool) (ke ve : M D) : M D := bnd l fun ds ρ =>
  if noOw ρ vs = true then match compDT vs tg tst ke ve ρ ds [] with
    | some kvs => some (.ok (.dT kvs) ρ)
    | none => none
  else none
theorem compT_loop {K : PySem.W.Frag} {F0 H0 F1 H1 : Hp} {ρ : Env} {σ : L2.St} {J : It} {ds : List D} {fin : List (List Key × D)} {vs ws : List Nat} {k : TgE} {Q : VK} {Dd : Addr} (hN : H1 Dd = none) (rel : Rel K F0 H0 ρ F1 σ H1) (wk : Wk K J ds F1) (no : noOw ρ vs = true)
    (pu1 : Pu t) (pu2 : Pu ky) (pu3 : Pu y) (tk : TgOk k ws) (hw : ∀ j ∈ ws, j ∈ vs) (ec : compDT vs k t ky y ρ ds [] = some fin)
    (done : ∀ F' H' us, Same F1 F' → Rel K F0 H0 ρ F' σ H' → H' Dd = some (.dT us) → F' Dd = none → RepT K F' fin us → Q (.ref Dd) H') :
    ∃ W : Nat → Nat → Hp → Prop, (∃ m, W 0 m (upd H1 Dd (.dT []))) ∧ ∀ i m H, W i m H →
      (J.stop i H ∧ Q (.ref Dd) H) ∨ (J.go i H ∧ ∃ Nx : Hp → Prop, (∀ H', Nx H' → ∃ m', m' < m ∧ W (i + 1) m' H') ∧ ∀ x H', J.yld i H x H' → tG K k ws x (wipe σ vs) H' fun σ2 H2 => wipe σ2 vs = wipe σ vs ∧ tT K E0 t σ2 H2 fun b H3 =>
        if b = true then tD K E0 ky σ2 H3 fun y' H4 => tD K E0 y σ2 H4 fun z H5 => ∃ (kvs : List (List Key × V)) (k : List Key) (b : Addr), y' = .ref b ∧ H5 b = some (.tup (k.map kV)) ∧ H5 Dd = some (.dT kvs) ∧ kvs.length < sizeLine ∧ Nx (upd H5 Dd (.dT (putK kvs k z))) else Nx H3) := by
  have f1 : F1 Dd = none := rel.fh.free hN
  have h0 : H0 Dd = none := rel.ext.hh.free hN
  have ns := rel.noslot hN
  have nt : ∀ us : List (List Key × V), ∀ xs, HO.dT us ≠ .tup xs := fun _ _ z => nomatch z
  let Inv' : Nat → Hp → Prop := fun i H => ∃ F acc us, Same F1 F ∧ Rel K F0 H0 ρ F σ H ∧ H Dd = some (.dT us) ∧ F Dd = none ∧ RepT K F acc us ∧ compDT vs k t ky y ρ (ds.drop i) acc = some fin
  refine ⟨fun i m H => m = ds.length - i ∧ i ≤ ds.length ∧ Inv' i H, ⟨_, rfl, Nat.zero_le _, F1, [], [], Same.refl _, rel.grow (Ext.put rel.fh hN), upd_same, f1, rfl, ec⟩, ?_⟩
  rintro i m H ⟨rfl, hi, F, acc, us, s1, rl, hD, fD, ra, er⟩
  by_cases hlt : i < ds.length
  · refine .inr ⟨wk.go i F H s1 rl.fh hlt, Inv' (i + 1), fun H' q => ⟨_, by omega, rfl, hlt, q⟩, fun x H' yy => ?_⟩
    obtain ⟨F3, xt, rx⟩ := wk.yl i F H x H' _ s1 rl.fh (List.getElem?_eq_getElem hlt) yy
    rw [List.drop_eq_getElem_cons hlt] at er
    unfold compDT at er
    split at er
    · cases er
    · rename_i ρ2 e2
      have hD3 : H' Dd = some (.dT us) := xt.hh.keep hD (fun _ z => nomatch z)
      have fD3 : F3 Dd = none := xt.new _ _ fD hD (nt us)
      have rl3 := rl.grow xt
      have rl4 := (rl3.aside .dT h0 hD3 fD3 ns).wiped vs
      refine ⟨F0, _, _, F3, _, ρ2, rl4, rx, e2, fun σ5 F5 H5 s5 rl5 b5 => ?_⟩
      have b5' : But vs (wipe σ vs) σ5 := ⟨b5.1, fun j hj => b5.2 j fun z => hj (hw j z)⟩
      have b2 := tk _ _ _ e2
      have b2' : But vs (wipeE ρ vs) ρ2 := ⟨b2.1, fun j hj => b2.2 j fun z => hj (hw j z)⟩
      refine ⟨?_, ?_⟩
      · refine wipe_eq ?_ fun j hj => (b5'.2 j hj).trans (wipe_off hj)
        rw [b5'.1, wipe_length]
      · have turn : ∀ F6 H6, Same F5 F6 → Rel K F0 (upd H0 Dd (.dT us)) ρ2 F6 σ5 H6 → H6 Dd = some (.dT us) ∧ F6 Dd = none ∧ ∀ o', Rel K F0 H0 ρ F6 σ (upd H6 Dd o') := fun F6 H6 s6 rl6 => by
          have q1 : H6 Dd = some (.dT us) := rl6.ext.hh.keep upd_same (fun _ z => nomatch z)
          have q2 : F6 Dd = none := rl6.ext.new Dd _ (rel.ext.ff.free f1) upd_same (nt us)
          have rlb := (rl3.aside .dT h0 hD3 fD3 ns).unwiped rl6 (s5.trans s6) no b2' b5'
          exact ⟨q1, q2, fun o' => rlb.back h0 .dT q2⟩
        cases et : t ρ2 with
        | none => rw [et] at er; cases er
        | some r =>
          cases r with
          | ex c d => rw [et] at er; cases er
          | ok b ρ2' =>
            cases pu1 _ _ _ et
            rw [et] at er
            refine ⟨F0, _, ρ2, F5, .ok b ρ2, rl5, et, fun b' F6 H6 s6 rl6 eb => ?_⟩
            subst eb
            cases b with
            | false =>
              refine iteF ?_
              obtain ⟨q1, q2, q3⟩ := turn F6 H6 s6 rl6
              have ue : upd H6 Dd (.dT us) = H6 := by
                funext b
                unfold upd
                split
                · rename_i h; rw [h, q1]
                · rfl
              have q4 := q3 (.dT us)
              rw [ue] at q4
              exact ⟨F6, acc, us, ((s1.trans xt.ff).trans s5).trans s6, q4, q1, q2, RepT.mono (.of ((xt.ff.trans s5).trans s6)) ra, er⟩
            | true =>
              refine iteT ?_
              dsimp only at er
              split at er
              · rename_i es ρx ek
                cases pu2 _ _ _ ek
                split at er
                · rename_i kk ekk
                  split at er
                  · rename_i vd ρy ev
                    cases pu3 _ _ _ ev
                    split at er
                    · rename_i hl
                      refine ⟨F0, _, ρ2, F6, .ok (.tup es) ρ2, rl6, ek, fun kv F7 H7 s7 rl7 rk => ⟨F0, _, ρ2, F7, .ok vd ρ2, rl7, ev, fun vv F8 H8 s8 rl8 rv => ?_⟩⟩
                      obtain ⟨q1, q2, q3⟩ := turn F8 H8 ((s6.trans s7).trans s8) rl8
                      have sA : Same F F8 := ((((xt.ff.trans s5).trans s6).trans s7).trans s8)
                      obtain ⟨kb, kvs', rfl, hkb, zk⟩ := rk
                      have e9 := keysOf_rep zk ekk
                      subst e9
                      have ra' := RepT.mono (.of sA) ra
                      refine ⟨us, kk, kb, rfl, rl8.fh _ _ (s8 _ _ hkb), q1, by rw [← ra'.len]; exact hl, F8, putD acc kk vd, putK us kk vv, s1.trans sA, q3 _, upd_same, q2, ra'.put kk rv, er⟩
                    · cases er
                  · cases er
                · cases er
              · cases er
  · have ei : i = ds.length := by omega
    subst ei
    rw [List.drop_length] at er
    cases er
    exact .inl ⟨wk.st F H s1 rl.fh, done F H us s1 rl hD fD ra⟩
end
end Dl
/-! Dict comprehensions as rules; two fors. -/
namespace Dl
open PySem PySem.Spec PyProof.Rows L2
section
variable {X : Cx} {E : XK} {a b c e o i tg iter elt kx vx tg1 iter1 : Expr} {es ifs ifs1 : List Expr} {pos p px : Pos} {f g h y ky : M D} {l l1 : M (List D)} {t u t1 : M Bool}
theorem compTE_some {ρ : Env} {ds : List D} {vs : List Nat} {k : TgE} {r : Rs D} (e : (if noOw ρ vs = true then match compDT vs k t ky y ρ ds [] with
    | some kvs => some (Rs.ok (D.dT kvs) ρ)
    | none => none
  else none) = some r) : ∃ kvs, noOw ρ vs = true ∧ compDT vs k t ky y ρ ds [] = some kvs ∧ r = .ok (.dT kvs) ρ := by
  split at e
  · rename_i no
    split at e
    · rename_i ys h
      cases e
      exact ⟨ys, no, h, rfl⟩
    · cases e
  · cases e
theorem d_compT {scope : Scope} {own : List (Str × Nat)} {k : TgE} {ws : List Nat} {n : Nat} (hr : Room n X.A) (hc : X.calm = true) (hN : X.N.Nodup) (hi : PI X tg iter (tI X.K E l)) (ok : BlkOk X.N X.env.scope scope own)
    (hg : ∀ (s : Shared) (H : Hp) (C : Addr) (cl : List (Str × Addr)) (fp : List Addr), PG (X.blk s H scope (compEnvC scope cl C X.env) fp) tg (tG X.K k ws)) (ht : ∀ (s : Shared) (H : Hp) (C : Addr) (cl : List (Str × Addr)) (fp : List Addr), PTs (X.blk s H scope (compEnvC scope cl C X.env) fp) ifs (tT X.K E0 t))
    (hk : ∀ (s : Shared) (H : Hp) (C : Addr) (cl : List (Str × Addr)) (fp : List Addr), PE (X.blk s H scope (compEnvC scope cl C X.env) fp) kx (tD X.K E0 ky))
    (he : ∀ (s : Shared) (H : Hp) (C : Addr) (cl : List (Str × Addr)) (fp : List Addr), PE (X.blk s H scope (compEnvC scope cl C X.env) fp) vx (tD X.K E0 y)) (pu1 : Pu t) (pu2 : Pu ky) (pu3 : Pu y) (tk : TgOk k ws) (hw : ∀ j ∈ ws, j ∈ own.map (·.2))
    (hs : ∀ x, foldedSetIterable iter X.env x = pure x := by intro _; rfl) : PE X (.DictComp kx vx [⟨tg, iter, ifs, 0⟩] scope pos) (tF X.K E (mCompT l (own.map (·.2)) k t ky y)) :=
  PE.imp (pe_dcT hc hN hi ok hg ht (fun _ _ _ _ _ => hu_of (k := n) hr) hk he hs) fun σ H Q ⟨F0, H0, ρ, F, z, rel, e, p⟩ => by
    unfold mCompT bnd at e
    cases ef : l ρ with
    | none => rw [ef] at e; cases e
    | some r =>
      rw [ef] at e
      refine ⟨F0, H0, ρ, F, r, rel, ef, ?_⟩
      cases r with
      | ex c d => cases e; exact p
      | ok ds ρ1 =>
        obtain ⟨kvs, no, ec, rfl⟩ := compTE_some e
        intro J F1 H1 s1 rel1 wk Dd hN
        exact compT_loop (Q := Q) hN rel1 wk no pu1 pu2 pu3 tk hw ec fun F' H' us s2 rel2 hD fD ra => p _ F' H' (s1.trans s2) rel2 ⟨Dd, rfl, fD, rel1.ext.hh.free hN, ⟨us, hD, ra⟩, rel1.noslot hN⟩
theorem d_compTD {i : Nat} {x : Str} {scope : Scope} {own : List (Str × Nat)} {k : TgE} {ws : List Nat} {n : Nat} (hr : Room n X.A) (hc : X.calm = true) (hN : X.N.Nodup) (hi : X.N[i]? = some x) (hv : Vis X.env.scope x) (ok : BlkOk X.N X.env.scope scope own)
    (hg : ∀ (s : Shared) (H : Hp) (C : Addr) (cl : List (Str × Addr)) (fp : List Addr), PG (X.blk s H scope (compEnvC scope cl C X.env) fp) tg (tG X.K k ws)) (ht : ∀ (s : Shared) (H : Hp) (C : Addr) (cl : List (Str × Addr)) (fp : List Addr), PTs (X.blk s H scope (compEnvC scope cl C X.env) fp) ifs (tT X.K E0 t))
    (hk : ∀ (s : Shared) (H : Hp) (C : Addr) (cl : List (Str × Addr)) (fp : List Addr), PE (X.blk s H scope (compEnvC scope cl C X.env) fp) kx (tD X.K E0 ky))
    (he : ∀ (s : Shared) (H : Hp) (C : Addr) (cl : List (Str × Addr)) (fp : List Addr), PE (X.blk s H scope (compEnvC scope cl C X.env) fp) vx (tD X.K E0 y)) (pu1 : Pu t) (pu2 : Pu ky) (pu3 : Pu y) (tk : TgOk k ws) (hw : ∀ j ∈ ws, j ∈ own.map (·.2))
    (hd : (x == ("__debug__" : Str)) = false := by decide) (hcd : (x == ("__classdict__" : Str)) = false := by decide) (hs : ∀ v, foldedSetIterable (.Name x px) X.env v = pure v := by intro _; rfl) :
    PE X (.DictComp kx vx [⟨tg, .Name x px, ifs, 0⟩] scope pos) (tF X.K E (mCompT (mKeys i) (own.map (·.2)) k t ky y)) :=
  PE.imp (PE.or (pe_lock (pe_dcT hc hN (pi_keys (pv i hi hv hd hcd)) ok hg ht (fun _ _ _ _ _ => hu_of (k := n) hr) hk he hs)) (pe_dcT hc hN (pi_keys (pv i hi hv hd hcd)) ok hg ht (fun _ _ _ _ _ => hu_of (k := n) hr) hk he hs)) fun σ H Q ⟨F0, H0, ρ, F, z, rel, e, p⟩ => by
    unfold mCompT bnd at e
    cases em : mKeys i ρ with
    | none => rw [em] at e; cases e
    | some r =>
      rw [em] at e
      obtain ⟨dd, ds, ρ1, F1, d, u, rfl, hk, ev, ss, rel1, rep, iu, hd⟩ := mKeys_some rel em
      dsimp only at e
      obtain ⟨kvs, no, ec, rfl⟩ := compTE_some e
      rcases hd with hd | ⟨o, hd⟩
      · refine .inl ⟨d, u, rel1.fh _ _ hd, iu.mut, fun od => ?_⟩
        have ok := rel1.lkOk iu hd
        have rl := rel1.lock (o := od) iu hd
        have fin : ∀ (Dd : Addr), (upd H d (.frz od u)) Dd = none → ∀ F' H' us, Same (upd F1 d (.frz od u)) F' → Rel X.K (lk F0 d u od) (lk H0 d u od) ρ1 F' σ H' → H' Dd = some (.dT us) → F' Dd = none → RepT X.K F' kvs us → H' d = some (.frz od u) ∧ Q (.ref Dd) (upd H' d u) := fun Dd hDd F' H' us s rel' hD fD ra => by
          have q1 : F' d = some (.frz od u) := s _ _ upd_same
          have hDd' : Dd ≠ d := by rintro rfl; rw [q1] at fD; cases fD
          have h0 := rl.ext.hh.free hDd
          rw [lk_ne hDd'] at h0
          exact ⟨rel'.fh _ _ q1, p _ _ _ (same_back ss hd s) (rel'.unlock ok q1) ⟨Dd, rfl, by rw [upd_ne hDd']; exact fD, h0, ⟨us, by rw [upd_ne hDd']; exact hD, RepT.mono (rdE_unlock iu q1) ra⟩, rl.noslot hDd⟩⟩
        rcases dict_walk (K := X.K) (F := upd F1 d (.frz od u)) iu hk (Rep.mono (rdE_lock iu hd) rep) upd_same with ⟨ks, rfl, wk⟩ | ⟨ks, rfl, wk⟩
        · exact ⟨_, ev, d, od, rfl, .inl ⟨ks, upd_same, fun Dd hDd => compT_loop (Q := fun v H' => H' d = some (.frz od _) ∧ Q v (upd H' d _)) hDd rl wk no pu1 pu2 pu3 tk hw ec (fin Dd hDd)⟩⟩
        · exact ⟨_, ev, d, od, rfl, .inr ⟨ks, upd_same, fun Dd hDd => compT_loop (Q := fun v H' => H' d = some (.frz od _) ∧ Q v (upd H' d _)) hDd rl wk no pu1 pu2 pu3 tk hw ec (fin Dd hDd)⟩⟩
      · refine .inr ?_
        have fin : ∀ (Dd : Addr), H Dd = none → ∀ F' H' us, Same F1 F' → Rel X.K F0 H0 ρ1 F' σ H' → H' Dd = some (.dT us) → F' Dd = none → RepT X.K F' kvs us → Q (.ref Dd) H' := fun Dd hDd F' H' us s rel' hD fD ra => p _ F' H' (ss.trans s) rel' ⟨Dd, rfl, fD, rel1.ext.hh.free hDd, ⟨us, hD, ra⟩, rel1.noslot hDd⟩
        rcases dict_walk iu hk rep hd with ⟨ks, rfl, wk⟩ | ⟨ks, rfl, wk⟩
        · exact ⟨_, ev, d, o, rfl, .inl ⟨ks, rel1.fh _ _ hd, fun Dd hDd => compT_loop (Q := Q) hDd rel1 wk no pu1 pu2 pu3 tk hw ec (fin Dd hDd)⟩⟩
        · exact ⟨_, ev, d, o, rfl, .inr ⟨ks, rel1.fh _ _ hd, fun Dd hDd => compT_loop (Q := Q) hDd rel1 wk no pu1 pu2 pu3 tk hw ec (fin Dd hDd)⟩⟩
end
end Dl
/-! [e for .. for ..]. -/
namespace Dl
open PySem PySem.Spec PyProof.Rows L2
section
variable {X : Cx} {E : XK} {a b c e o i tg iter elt kx vx tg1 iter1 : Expr} {es ifs ifs1 : List Expr} {pos p px : Pos} {f g h y ky : M D} {l l1 : M (List D)} {t u t1 : M Bool}
theorem upd_same_eq {H : Hp} {a : Addr} {o : HO} (h : H a = some o) : upd H a o = H := by
  funext b
  unfold upd
  split
  · rename_i e; rw [e, h]
  · rfl
/-- slots know nothing of what is put aside -/
theorem Rel.noAside {K : PySem.W.Frag} {F0 H0 F H : Hp} {ρ : Env} {σ : L2.St} {a : Addr} {o : HO} (rel : Rel K F0 (upd H0 a o) ρ F σ H) : ∀ (i : Nat) (t : Option Addr) (d : D), ρ[i]? = some (SL.ow t d) → σ[i]? ≠ some (some (V.ref a)) := fun i t d h1 h2 => by
  obtain ⟨_, e3, c, ec, _, hc, _⟩ := rel.get h1
  rw [h2] at e3
  cases e3
  cases ec
  rw [upd_same] at hc
  cases hc
/-- what is put aside is changed -/
theorem Rel.reaside {K : PySem.W.Frag} {F0 H0 F H : Hp} {ρ : Env} {σ : L2.St} {a : Addr} {o o' : HO} (rel : Rel K F0 (upd H0 a o) ρ F σ H) (ha0 : H0 a = none) (ic : IsC o) (ic' : IsC o') (fa : F a = none) : Rel K F0 (upd H0 a o') ρ F σ (upd H a o') :=
  (rel.back (o' := o') ha0 ic fa).aside ic' ha0 upd_same fa rel.noAside
/-- the inner loop: a list that grows -/
theorem comp_inner {K : PySem.W.Frag} {F0 H0 F1 H1 : Hp} {ρ : Env} {σ : L2.St} {J : It} {ds ys acc0 : List D} {us0 : List V} {vs ws : List Nat} {k : TgE} {Nq : Hp → Prop} {Dd : Addr} (h0 : H0 Dd = none) (f0 : F0 Dd = none) (rel : Rel K F0 (upd H0 Dd (.lst us0)) ρ F1 σ H1) (ra0 : Reps K F1 acc0 us0) (wk : Wk K J ds F1) (no : noOw ρ vs = true)
    (pu1 : Pu t) (pu2 : Pu y) (tk : TgOk k ws) (hw : ∀ j ∈ ws, j ∈ vs) (ec : compD vs k t y ρ ds = some ys) (hz : acc0.length + ys.length ≤ sizeLine)
    (fin : ∀ F' H' us, Same F1 F' → Rel K F0 (upd H0 Dd (.lst us)) ρ F' σ H' → Reps K F' (acc0 ++ ys) us → Nq H') :
    ∃ W : Nat → Nat → Hp → Prop, (∃ m, W 0 m H1) ∧ ∀ i m H, W i m H →
      (J.stop i H ∧ Nq H) ∨ (J.go i H ∧ ∃ Nx : Hp → Prop, (∀ H', Nx H' → ∃ m', m' < m ∧ W (i + 1) m' H') ∧ ∀ x H', J.yld i H x H' → tG K k ws x (wipe σ vs) H' fun σ2 H2 => wipe σ2 vs = wipe σ vs ∧ tT K E0 t σ2 H2 fun b H3 =>
        if b = true then tD K E0 y σ2 H3 fun z H4 => ∃ acc, H4 Dd = some (.lst acc) ∧ acc.length < sizeLine ∧ Nx (upd H4 Dd (.lst (acc ++ [z]))) else Nx H3) := by
  have nt : ∀ us : List V, ∀ xs, HO.lst us ≠ .tup xs := fun _ _ z => nomatch z
  have at_ : ∀ {ρ' : Env} {σ' : L2.St} {us : List V} {F H : Hp}, Rel K F0 (upd H0 Dd (.lst us)) ρ' F σ' H → H Dd = some (.lst us) ∧ F Dd = none := fun {ρ' σ' us F H} r => ⟨r.ext.hh.keep upd_same (fun _ z => nomatch z), r.ext.new Dd _ f0 upd_same (nt us)⟩
  let Inv' : Nat → Hp → Prop := fun i H => ∃ F acc us rest, Same F1 F ∧ Rel K F0 (upd H0 Dd (.lst us)) ρ F σ H ∧ Reps K F acc us ∧ compD vs k t y ρ (ds.drop i) = some rest ∧ acc ++ rest = acc0 ++ ys
  refine ⟨fun i m H => m = ds.length - i ∧ i ≤ ds.length ∧ Inv' i H, ⟨_, rfl, Nat.zero_le _, F1, acc0, us0, ys, Same.refl _, rel, ra0, ec, rfl⟩, ?_⟩
  rintro i m H ⟨rfl, hi, F, acc, us, rest, s1, rl, ra, er, ea⟩
  by_cases hlt : i < ds.length
  · refine .inr ⟨wk.go i F H s1 rl.fh hlt, Inv' (i + 1), fun H' q => ⟨_, by omega, rfl, hlt, q⟩, fun x H' yy => ?_⟩
    obtain ⟨F3, xt, rx⟩ := wk.yl i F H x H' _ s1 rl.fh (List.getElem?_eq_getElem hlt) yy
    rw [List.drop_eq_getElem_cons hlt] at er
    unfold compD at er
    split at er
    · cases er
    · rename_i ρ2 e2
      have rl3 := rl.grow xt
      have rl4 := rl3.wiped vs
      refine ⟨F0, _, _, F3, _, ρ2, rl4, rx, e2, fun σ5 F5 H5 s5 rl5 b5 => ?_⟩
      have b5' : But vs (wipe σ vs) σ5 := ⟨b5.1, fun j hj => b5.2 j fun z => hj (hw j z)⟩
      have b2 := tk _ _ _ e2
      have b2' : But vs (wipeE ρ vs) ρ2 := ⟨b2.1, fun j hj => b2.2 j fun z => hj (hw j z)⟩
      refine ⟨?_, ?_⟩
      · refine wipe_eq ?_ fun j hj => (b5'.2 j hj).trans (wipe_off hj)
        rw [b5'.1, wipe_length]
      · have turn : ∀ F6 H6, Same F5 F6 → Rel K F0 (upd H0 Dd (.lst us)) ρ2 F6 σ5 H6 → Rel K F0 (upd H0 Dd (.lst us)) ρ F6 σ H6 := fun F6 H6 s6 rl6 => rl3.unwiped rl6 (s5.trans s6) no b2' b5'
        cases et : t ρ2 with
        | none => rw [et] at er; cases er
        | some r =>
          cases r with
          | ex c d => rw [et] at er; cases er
          | ok b ρ2' =>
            cases pu1 _ _ _ et
            rw [et] at er
            refine ⟨F0, _, ρ2, F5, .ok b ρ2, rl5, et, fun b' F6 H6 s6 rl6 eb => ?_⟩
            subst eb
            cases b with
            | false =>
              exact iteF ⟨F6, acc, us, rest, ((s1.trans xt.ff).trans s5).trans s6, turn F6 H6 s6 rl6, Reps.mono (.of ((xt.ff.trans s5).trans s6)) ra, er, ea⟩
            | true =>
              refine iteT ?_
              dsimp only at er
              cases ey : y ρ2 with
              | none => rw [ey] at er; cases er
              | some r =>
                cases r with
                | ex c d => rw [ey] at er; cases er
                | ok z ρ2' =>
                  cases pu2 _ _ _ ey
                  rw [ey] at er
                  obtain ⟨rest', er', rfl⟩ := Option.map_eq_some_iff.mp er
                  refine ⟨F0, _, ρ2, F6, .ok z ρ2, rl6, ey, fun v F7 H7 s7 rl7 rz => ?_⟩
                  have q := turn F7 H7 (s6.trans s7) rl7
                  obtain ⟨q1, q2⟩ := at_ q
                  have sA : Same F F7 := ((xt.ff.trans s5).trans s6).trans s7
                  refine ⟨us, q1, ?_, F7, acc ++ [z], us ++ [v], rest', s1.trans sA, q.reaside h0 .lst .lst q2, Reps.app (Reps.mono (.of sA) ra) (Reps.one rz), er', by rw [List.append_assoc]; exact ea⟩
                  have l1 := ra.len
                  have l2 : acc.length + (1 + rest'.length) = acc0.length + ys.length := by rw [← List.length_append, ← ea, List.length_append, List.length_cons, Nat.add_comm 1]
                  omega
  · have ei : i = ds.length := by omega
    subst ei
    rw [List.drop_length] at er
    cases er
    rw [List.append_nil] at ea
    subst ea
    exact .inl ⟨wk.st F H s1 rl.fh, fin F H us s1 rl ra⟩
def compD2 (vs : List Nat) (k : TgE) (t : M Bool) (l1 : M (List D)) (vs1 : List Nat) (k1 : TgE) (t1 : M Bool) (y : M D) (ρ : Env) : List D → Option (List D)
  | [] => some []
  | d :: ds => match k d (wipeE ρ vs) with
    | none => none
    | some ρ2 => match t ρ2 with
      | some (.ok true _) => (match l1 ρ2 with
        | some (.ok ds1 _) => if noOw ρ2 vs1 = true then (compD vs1 k1 t1 y ρ2 ds1).bind fun ys => (compD2 vs k t l1 vs1 k1 t1 y ρ ds).map fun zs => ys ++ zs else none
        | _ => none)
      | some (.ok false _) => compD2 vs k t l1 vs1 k1 t1 y ρ ds
      | _ => none
def mComp2 (l : M (List D)) (vs : List Nat) (k : TgE) (t : M Bool) (l1 : M (List D)) (vs1 : List Nat) (k1 : TgE) (t1 : M Bool) (y : M D) : M D := bnd l fun ds ρ =>
  if noOw ρ vs = true then match (compD2 vs k t l1 vs1 k1 t1 y ρ ds).bind lenOk with
    | some ys => some (.ok (.lst ys) ρ)
    | none => none
  else none
theorem comp2E_some {ρ : Env} {ds : List D} {vs vs1 : List Nat} {k k1 : TgE} {r : Rs D} (e : (if noOw ρ vs = true then match (compD2 vs k t l1 vs1 k1 t1 y ρ ds).bind lenOk with
    | some ys => some (Rs.ok (D.lst ys) ρ)
    | none => none
  else none) = some r) : ∃ ys, noOw ρ vs = true ∧ compD2 vs k t l1 vs1 k1 t1 y ρ ds = some ys ∧ ys.length ≤ sizeLine ∧ r = .ok (.lst ys) ρ := by
  split at e
  · rename_i no
    split at e
    · rename_i ys h
      cases e
      obtain ⟨zs, h1, h2⟩ := Option.bind_eq_some_iff.mp h
      unfold lenOk at h2
      split at h2
      · rename_i hl
        cases h2
        exact ⟨_, no, h1, hl, rfl⟩
      · cases h2
    · cases e
  · cases e
theorem d_comp2 {scope : Scope} {own : List (Str × Nat)} {vs1 ws ws1 : List Nat} {k k1 : TgE} (hc : X.calm = true) (hN : X.N.Nodup) (hi : PI X tg iter (tI X.K E l)) (ok : BlkOk X.N X.env.scope scope own) (hv : ∀ i ∈ vs1, i ∈ own.map (·.2))
    (hg : ∀ (s : Shared) (H : Hp) (C : Addr) (cl : List (Str × Addr)) (fp : List Addr), PG (X.blk s H scope (compEnvC scope cl C X.env) fp) tg (tG X.K k ws)) (ht : ∀ (s : Shared) (H : Hp) (C : Addr) (cl : List (Str × Addr)) (fp : List Addr), PTs (X.blk s H scope (compEnvC scope cl C X.env) fp) ifs (tT X.K E0 t))
    (hi1 : ∀ (s : Shared) (H : Hp) (C : Addr) (cl : List (Str × Addr)) (fp : List Addr), PI (X.blk s H scope (compEnvC scope cl C X.env) fp) tg1 iter1 (tI X.K E0 l1))
    (hg1 : ∀ (s : Shared) (H : Hp) (C : Addr) (cl : List (Str × Addr)) (fp : List Addr), PG (X.blk s H scope (compEnvC scope cl C X.env) fp) tg1 (tG X.K k1 ws1)) (ht1 : ∀ (s : Shared) (H : Hp) (C : Addr) (cl : List (Str × Addr)) (fp : List Addr), PTs (X.blk s H scope (compEnvC scope cl C X.env) fp) ifs1 (tT X.K E0 t1))
    (he : ∀ (s : Shared) (H : Hp) (C : Addr) (cl : List (Str × Addr)) (fp : List Addr), PE (X.blk s H scope (compEnvC scope cl C X.env) fp) elt (tD X.K E0 y)) (put : Pu t) (pul : Pu l1) (put1 : Pu t1) (puy : Pu y) (tk : TgOk k ws) (tk1 : TgOk k1 ws1) (hw : ∀ j ∈ ws, j ∈ own.map (·.2)) (hw1 : ∀ j ∈ ws1, j ∈ vs1)
    (hs : ∀ x, foldedSetIterable iter X.env x = pure x := by intro _; rfl) (hs1 : ∀ env x, foldedSetIterable iter1 env x = pure x := by intro _ _; rfl) :
    PE X (.ListComp elt [⟨tg, iter, ifs, 0⟩, ⟨tg1, iter1, ifs1, 0⟩] scope pos) (tF X.K E (mComp2 l (own.map (·.2)) k t l1 vs1 k1 t1 y)) :=
  PE.imp (pe_lc2 hc hN hi ok hv hg ht hi1 hg1 ht1 he hs hs1) fun σ H Q ⟨F0, H0, ρ, F, z, rel, e, p⟩ => by
    unfold mComp2 bnd at e
    cases ef : l ρ with
    | none => rw [ef] at e; cases e
    | some r =>
      rw [ef] at e
      refine ⟨F0, H0, ρ, F, r, rel, ef, ?_⟩
      cases r with
      | ex c d => cases e; exact p
      | ok ds ρ1 =>
        obtain ⟨ys, no, ec, hz, rfl⟩ := comp2E_some e
        intro J F1 H1 s1 rel1 wk Dd hN
        have nt : ∀ us : List V, ∀ xs, HO.lst us ≠ .tup xs := fun _ _ z => nomatch z
        have f1 : F1 Dd = none := rel1.fh.free hN
        have h0 : H0 Dd = none := rel1.ext.hh.free hN
        have f0 : F0 Dd = none := rel1.ext.ff.free f1
        have at_ : ∀ {ρ' : Env} {σ' : L2.St} {us : List V} {F H : Hp}, Rel X.K F0 (upd H0 Dd (.lst us)) ρ' F σ' H → H Dd = some (.lst us) ∧ F Dd = none := fun {ρ' σ' us F H} r => ⟨r.ext.hh.keep upd_same (fun _ z => nomatch z), r.ext.new Dd _ f0 upd_same (nt us)⟩
        let Inv' : Nat → Hp → Prop := fun i H => ∃ F acc us rest, Same F1 F ∧ Rel X.K F0 (upd H0 Dd (.lst us)) ρ1 F σ H ∧ Reps X.K F acc us ∧ compD2 (own.map (·.2)) k t l1 vs1 k1 t1 y ρ1 (ds.drop i) = some rest ∧ acc ++ rest = ys
        refine ⟨fun i m H => m = ds.length - i ∧ i ≤ ds.length ∧ Inv' i H, ⟨_, rfl, Nat.zero_le _, F1, [], [], ys, Same.refl _, (rel1.grow (Ext.put rel1.fh hN)).aside .lst h0 upd_same f1 (rel1.noslot hN), rfl, ec, rfl⟩, ?_⟩
        rintro i m H ⟨rfl, hi, F, acc, us, rest, sF, rl, ra, er, ea⟩
        by_cases hlt : i < ds.length
        · refine .inr ⟨wk.go i F H sF rl.fh hlt, Inv' (i + 1), fun H' q => ⟨_, by omega, rfl, hlt, q⟩, fun x H' yy => ?_⟩
          obtain ⟨F3, xt, rx⟩ := wk.yl i F H x H' _ sF rl.fh (List.getElem?_eq_getElem hlt) yy
          rw [List.drop_eq_getElem_cons hlt] at er
          unfold compD2 at er
          split at er
          · cases er
          · rename_i ρ2 e2
            have rl3 := rl.grow xt
            refine ⟨F0, _, _, F3, _, ρ2, rl3.wiped _, rx, e2, fun σ5 F5 H5 s5 rl5 b5 => ?_⟩
            have b5' : But (own.map (·.2)) (wipe σ (own.map (·.2))) σ5 := ⟨b5.1, fun j hj => b5.2 j fun z => hj (hw j z)⟩
            have b2 := tk _ _ _ e2
            have b2' : But (own.map (·.2)) (wipeE ρ1 (own.map (·.2))) ρ2 := ⟨b2.1, fun j hj => b2.2 j fun z => hj (hw j z)⟩
            refine ⟨?_, ?_⟩
            · refine wipe_eq ?_ fun j hj => (b5'.2 j hj).trans (wipe_off hj)
              rw [b5'.1, wipe_length]
            · cases et : t ρ2 with
              | none => rw [et] at er; cases er
              | some r =>
                cases r with
                | ex c d => rw [et] at er; cases er
                | ok b ρ2' =>
                  cases put _ _ _ et
                  rw [et] at er
                  refine ⟨F0, _, ρ2, F5, .ok b ρ2, rl5, et, fun b' F6 H6 s6 rl6 eb => ?_⟩
                  subst eb
                  cases b with
                  | false =>
                    exact iteF ⟨F6, acc, us, rest, ((sF.trans xt.ff).trans s5).trans s6, rl3.unwiped rl6 (s5.trans s6) no b2' b5', Reps.mono (.of ((xt.ff.trans s5).trans s6)) ra, er, ea⟩
                  | true =>
                    refine iteT ?_
                    dsimp only at er
                    cases el : l1 ρ2 with
                    | none => rw [el] at er; cases er
                    | some r =>
                      cases r with
                      | ex c d => rw [el] at er; cases er
                      | ok ds1 ρ2' =>
                        cases pul _ _ _ el
                        rw [el] at er
                        dsimp only at er
                        split at er
                        · rename_i no1
                          obtain ⟨ys1, ec1, er2⟩ := Option.bind_eq_some_iff.mp er
                          obtain ⟨rest', er', rfl⟩ := Option.map_eq_some_iff.mp er2
                          refine ⟨F0, _, ρ2, F6, .ok ds1 ρ2, rl6, el, fun J1 F7 H7 s7 rl7 wk1 => ?_⟩
                          have sA : Same F F7 := ((xt.ff.trans s5).trans s6).trans s7
                          have lz : acc.length + ys1.length ≤ sizeLine := by
                            have : (acc ++ (ys1 ++ rest')).length ≤ sizeLine := by rw [ea]; exact hz
                            rw [List.length_append, List.length_append] at this
                            omega
                          refine comp_inner (Nq := Inv' (i + 1)) h0 f0 rl7 (Reps.mono (.of sA) ra) wk1 no1 put1 puy tk1 hw1 ec1 lz fun F' H' us' s' rel' ra' => ?_
                          have q3 := (at_ rl3).2
                          have q7 := at_ rel'
                          exact ⟨F', acc ++ ys1, us', rest', (sF.trans sA).trans s', (rl3.reaside h0 .lst .lst q3).unwiped rel' (((s5.trans s6).trans s7).trans s') no b2' b5', ra', er', by rw [List.append_assoc]; exact ea⟩
                        · cases er
        · have ei : i = ds.length := by omega
          subst ei
          rw [List.drop_length] at er
          cases er
          rw [List.append_nil] at ea
          subst ea
          obtain ⟨q1, q2⟩ := at_ rl
          have q := rl.back (o' := .lst us) h0 .lst q2
          rw [upd_same_eq q1] at q
          exact .inl ⟨wk.st F H sF rl.fh, p _ F H (s1.trans sF) q ⟨Dd, rfl, q2, h0, ⟨us, q1, ra⟩, rl.noAside⟩⟩
end
end Dl
/-! The program's own error, made: class Refused(GreedyError), its __init__ with super().__init__(at). -/
namespace Dl
open PySem PySem.Spec PyProof.Rows PySem.W PySem.Calls
/-! ### the text of __init__ -/
def rfA (p1 p2 : Pos) : Arguments := { posonlyargs := [], args := [{ arg := "self", annotation := none, pos := p1 }, { arg := "at", annotation := none, pos := p2 }], vararg := none, kwonlyargs := [], kw_defaults := [], kwarg := none, defaults := [] }
def rfB (a1 a2 a3 a4 a5 a6 q1 q2 q3 q4 : Pos) : List Stmt := [.Expr (.Call (.Attribute (.Call (.Name "super" a1) [] [] a2) "__init__" a3) [.Name "at" a4] [] a5) a6, .Assign [.Attribute (.Name "self" q1) "at" q2] (.Name "at" q3) q4]
def rfS : Scope := { kind := .function, names := [(PySem.Str.ofString "self", .local), (PySem.Str.ofString "at", .local), (PySem.Str.ofString "__class__", .free), (PySem.Str.ofString "super", .globalImplicit)], isGenerator := false, isCoroutine := false, more := [] }
/-- what the written part says of the class, at C, of its __init__, at fI, of the cell of its class, at cc, of its code, at cda -/
structure RefTxt (P : Program) (K : Frag) (mg : Str → Option Value) (C fI cc cda : Addr) : Prop where
  gC : mg "Refused" = some (.ref C)
  cls : ∃ nm q N bs bm sn sub ab col dd k0 k1 k2 k3 k5, K.lookup C = some (excClassObj nm q C N bs bm true sn sub ab col dd k0 k1 k2 k3 k5 "ValueError.__new__") ∧ HandSPX.refsVE bm = true
  sa : findIn K (.ref C) "__setattr__" = some (some (.builtin "object.__setattr__"))
  ga : findIn K (.ref C) "__getattribute__" = some (some (.builtin "BaseException.__getattribute__"))
  gg : findIn K (.ref C) "__getattr__" = some none
  noN : findIn K (.ref C) "at" = some none
  iC : findIn K (.ref C) "__init__" = some (some (.ref fI))
  tC : typeIn K (.ref fI) = some (.type "function")
  kC : keepIn K (.ref C) = true
  exC : subIn K (.ref C) (.type "BaseException") = some true
  tyC : typeIn K (.ref C) = some (.type "type")
  hdC : hasDictIn K C = true
  te : exmOne K (.ref C) (.ref C) = some true
  sup : ks_superIn K C C "__init__" = some (some (.builtin "ValueError.__init__"))
  isB : subIn K (.ref C) (.type "ValueError") = some true
  mroC : mroIn K C (.ref C) = some true
  opq : nsIn K cStatics "thirdparty.any" = some none
  noS : mg "super" = none
  top : (P.main.scope.names.lookup ("super" : Str)).isSome = false
  cell : ∃ cl cld csl, K.lookup cc = some ⟨cl, cld, .cell (some (.ref C)), csl⟩
  code : ∃ ccl cdd vs ccs file tf, K.lookup cda = some ⟨ccl, cdd, .fields vs, ccs⟩ ∧ vs[2]? = some (.str file tf) ∧ ((P.main.file : Str) == file) = true
  fn : ∃ (oc : Value) (od : Option Addr) (doc pm : Value) (an : Option Addr) (ct : Value) (osl : Array (Option Value)) (p1 p2 a1 a2 a3 a4 a5 a6 q1 q2 q3 q4 : Pos),
    K.lookup fI = some ⟨oc, od, .func (ksFn "__init__" "Refused.__init__" (rfA p1 p2) (rfB a1 a2 a3 a4 a5 a6 q1 q2 q3 q4) rfS .none .none doc pm an (.ref cda) ct cc), osl⟩ ∧ (a3.endLine == a5.line) = true ∧ codeIn K (.ref cda) "Refused.__init__" = true
/-- what __init__ leaves of a fresh exception at x -/
structure RfEnd (h h' : Heap) (x C dx t1 : Addr) (v : Value) : Prop where
  keep : ∀ b o, b ≠ x → h.get? b = some o → h'.get? b = some o
  obj : h'.get? x = some { cls := .ref C, dict := some dx, data := .fields #[.ref t1, .none, .none, .none, .bool false, .none] }
  dbig : h.objs.size ≤ dx
  dne : dx ≠ x
  ns : h'.Ns1 dx (fun y => if y = "at" then some v else none)
section
variable {prog : Program} {w : World} {M : Model} {A : Around} {E : Value → Shared → Prop} {R : Result → Shared → Prop} {s : Shared} {K : Frag} {mg : Str → Option Value} {C fI cc cda : Addr}
/-- ValueError.__init__, bound to x, called -/
theorem call_vei {hh : Heap} {g : Array GenState} {d : Drawn} {tk : Nat} {os : OsState} {u x t0 : Addr} {rest : List Value} {Q : Value → Shared → Prop} {nm q : Str} {N : Addr} {bs bm : List Value} {sn : List Str} {sub : List Value} {ab : Bool} {col : Option Bool} {dd : Option Addr} {k0 k1 k2 k3 k5 : Option Value}
    (hC : hh.get? C = some (excClassObj nm q C N bs bm true sn sub ab col dd k0 k1 k2 k3 k5 "ValueError.__new__")) (he : hh.get? x = some (excObj C t0 none .none)) (hu : hh.get? u = some (kxs_mw "ValueError.__init__" x)) (hz : rest.length ≤ sizeLine)
    (fin : ∀ h', (∀ b o, b ≠ x → hh.get? b = some o → h'.get? b = some o) → h'.get? x = some (excObj C hh.objs.size none .none) → Q .none ⟨h', g, d, tk, os⟩) :
    wpAny (model prog w) A (call (.ref u) rest) Q E ⟨hh, g, d, tk, os⟩ := by
  refine wpAny_call (codeAny_of_tree ?_)
  show wpAny _ A.in1 (callAny (.ref u) ⟨rest, []⟩) _ _ _; simp only [callAny]
  refine wpAny_bind (wpAny_load hu ?_)
  simp only [kxs_mw, show (Value.type "method-wrapper" == Value.type "method" || Value.type "method-wrapper" == Value.type "builtin_function_or_method" || Value.type "method-wrapper" == Value.type "method-wrapper") = true by decide, if_true]
  refine KFB.if_so (by decide) (wpAny_bind (check_bound_init F.excBase_ValueError.toExcCallFacts hC he rfl (wpAny_bind (wpAny_pure (wpAny_pure ?_)))))
  refine ⟨plainId_quiet F.excBase_ValueError.init.plain _, codeAny_builtin F.excBase_ValueError.initEntry ?_⟩
  exact exc_init_tree (cls := .ref C) (t0 := t0) (dv := none) (c2 := .none) (c3 := .none) (b4 := .bool false) he hz fun h' k e' _ => fin h' k e'
theorem he_line {o : Expr} {m : Str} {apos pos : Pos} {args : List Expr} {env : PySem.Env} (hf : methodCallForm args.length (backTo pos (starEach args env)) [] = true) (hl : (apos.endLine == pos.line) = true) :
    eval (.Call (.Attribute o m apos) args [] pos) env = (do
      let ov ← attributeBase o m env (eval o env)
      standAt apos.atName
      let (f, first) ← holding [ov] (getMethod ov m (L2.plainOf o env))
      callWith pos f first (backTo pos (starEach args env)) []) := by
  rw [arm_eval_Call]
  have e : (fun ov => methodCall o m apos pos env ov (args.length + ([] : List Keyword).length) (backTo pos (starEach args env)) (backToKw pos (keywordEach [] env))) = fun ov => (do
      let (f, first) ← holding [ov] (getMethod ov m (L2.plainOf o env))
      callWith pos f first (backTo pos (starEach args env)) []) := funext fun ov => L2.mcall_line hf hl
  exact congrArg (fun k => attributeBase o m env (eval o env) >>= fun ov => standAt apos.atName >>= fun _ => k ov) e
theorem one_le (v : Value) : [v].length ≤ sizeLine := by rw [List.length_singleton]; decide
theorem ref_init (T : RefTxt prog K mg C fI cc cda) {x t0 : Addr} {v : Value} (X : K.In s.heap) (G : s.heap.Ns mainGlobals mg) (Bt : ∃ mb, s.heap.Ns builtinsNs mb ∧ ∀ y : Str, y ≠ "__name__" → mb y = bootBuiltins y) (hlim : s.heap.NoLimit) (hx : s.heap.get? x = some (excObj C t0 none .none)) (hnx : K.lookup x = none) (hroom : A.depth < recursionLimit)
    (hq : ∀ h' tk dx t1, RfEnd s.heap h' x C dx t1 v → R (.ok (.ret .none)) { s with heap := h', toks := tk }) :
    codeAny (model prog w) A (.call (.ref fI) ⟨[.ref x, v], []⟩) R s := by
  obtain ⟨oc, od, doc, pm, an, ct, osl, p1, p2, a1, a2, a3, a4, a5, a6, q1, q2, q3, q4, ho, hl, hcd⟩ := T.fn
  obtain ⟨nm, q, N, bs, bm, sn, sub, ab, col, dd, k0, k1, k2, k3, k5, hC, hbm⟩ := T.cls
  obtain ⟨ccl, cdd, vs, ccs, file, tf, hcode, hvs, hfile⟩ := T.code
  obtain ⟨cl0, cld, csl, hcell⟩ := T.cell
  obtain ⟨mb, hmb, hbb⟩ := Bt
  have hcl : clsIn K C = some { name := nm, bases := bs, mro := .ref C :: bm, ns := N, qualname := q, hasDict := true, slotNames := sn, subclasses := sub, abstract := ab, collection := col, hasDel := false } := by unfold clsIn; rw [hC] <;> rfl
  obtain ⟨sh, g, dr, tk0, os⟩ := s
  refine ks_codeAny_call_defAt (fd := ksFn "__init__" "Refused.__init__" (rfA p1 p2) (rfB a1 a2 a3 a4 a5 a6 q1 q2 q3 q4) rfS .none .none doc pm an (.ref cda) ct cc) (body := rfB a1 a2 a3 a4 a5 a6 q1 q2 q3 q4) (binds := [("self", .ref x), ("at", v)]) hroom (X _ _ ho) rfl hlim (codeRec_of X hcd) rfl
    (BindsTo.of_eq (by first | rfl | with_unfolding_all rfl)) (show ∀ y ∈ rfS.names, y.2 ≠ .cell by decide +kernel) (fun y hy => ?_) (fun h₁ hns k => ?_)
  · show rfS.names.lookup y.1 = some .local
    rcases List.mem_cons.mp hy with rfl | hy
    · show List.lookup ("self" : Str) rfS.names = some NameKind.local; decide +kernel
    · rcases List.mem_cons.mp hy with rfl | hy
      · show List.lookup ("at" : Str) rfS.names = some NameKind.local; decide +kernel
      · cases hy
  have X₁ : K.In h₁ := X.keeps k
  have hx₁ := k _ _ hx
  have hxs : sh.objs.size ≠ x := Nat.ne_of_gt (Heap.lt_size hx)
  refine ks_wpAt_execs_cons (ks_wpAt_Expr_any (ks_wpAt_MethodCall (ks_wpAt_super_base (f := fI) (cc := cda) rfl rfl (by decide) rfl (X₁ _ _ ho) rfl rfl rfl (X₁ _ _ hcode) rfl hvs hfile T.top ?_) (he_line rfl hl)))
  refine ks_loadName_global rfl rfl (loadGlobal_builtin (G.keeps k) T.noS (hmb.keeps k) ((hbb _ (by decide)).trans (by first | rfl | decide +kernel)) ⟨rfl, ?_⟩)
  refine wpAny_loadName_free rfl rfl rfl ⟨_, X₁ _ _ hcell, rfl⟩ ?_
  refine wpAny_loadName_local rfl rfl hns (by first | rfl | with_unfolding_all rfl | kernel_rfl) ?_
  refine ks_wpAny_isType_cls (X₁ _ _ hC) rfl ⟨rfl, ?_⟩
  refine ks_wpAny_call_super (X₁ _ _ hC) rfl hx₁ rfl (fun c z => nomatch z) (looks_mroIn X₁ T.mroC) (fun h₂ e2 k2 => ?_)
  have X₂ : K.In h₂ := X₁.keeps k2
  have hx₂ := k2 _ _ hx₁
  have I₂ : InstAt h₂ x (excObj C t0 none .none) C none := ⟨hx₂, rfl, rfl, trivial⟩
  refine kxs_getMethod kxs_ValueError e2 (looks_opaque X₂ T.opq) (l₀ := .ref C :: bm) (by have := looks_clsIn (M := model prog w) X₂ hcl; exact this.andThen .now) rfl X₂ (by have := T.sup; unfold ks_superIn at this; rw [hcl] at this; exact this) (I₂.type.andThen (looks_subIn X₂ T.isB)) (ks_ne X₂ I₂ hcl) (by decide) ?_
  refine kxs_callWith (i := "ValueError.__init__") (x := x) rfl (evalArgs_plain ?_)
  have k3 : ∀ b o, h₂.get? b = some o → (h₂.push (kxs_mw "ValueError.__init__" x)).get? b = some o := fun b o e => Heap.get?_push_of_some _ e
  have X₃ := X₂.keeps k3
  have hns₃ := (hns.keeps k2).keeps k3
  refine Calls.spliced_cons (wpAny_Name (wpAny_loadName_local rfl rfl hns₃ (by first | rfl | with_unfolding_all rfl | kernel_rfl) (Calls.spliced_nil ⟨Heap.get?_push_size _ rfl, ?_⟩)) (by decide))
  refine call_vei (X₃ _ _ hC) (k3 _ _ hx₂) (Heap.get?_push_size _ rfl) (one_le v) fun h₄ k4 hx₄ => ?_
  have xN : ∀ b, K.lookup b ≠ none → b ≠ x := fun b hb z => hb (by rw [z]; exact hnx)
  have X₄ : K.In h₄ := fun b o e => k4 b o (xN b (by rw [e]; exact fun z => nomatch z)) (X₃ _ _ e)
  have hns₄ := hns₃.at fun o e => k4 _ o hxs e
  refine wpAt_of_wpAny (wpAny_execs_cons (plainObj_wpAny_Assign_Attribute (wpAny_Name (wpAny_loadName_local rfl rfl hns₄ (by first | rfl | with_unfolding_all rfl | kernel_rfl) (wpAny_Name (wpAny_loadName_local rfl rfl hns₄ (by first | rfl | with_unfolding_all rfl | kernel_rfl) ?_) (by decide))) (by decide))))
  refine set_plain X₄ (ox := HandSPX.excO C _) (od := none) ⟨hx₄, rfl, rfl, trivial⟩ T.sa ?_
  refine HandSPX.exc_osa X₄ hx₄ hcl (show HandSPX.refsVE (.ref C :: bm) = true from hbm) rfl T.noN (fun h₅ tk₅ dx k5 dn dne hx₅ hn₅ => ?_)
  refine wpAny_execs_nil (hq h₅ tk₅ dx _ ⟨fun b o hb e => k5 b o hb (k4 b o hb (k3 b o (k2 b o (k b o e)))), hx₅, ?_, dne, hn₅⟩)
  exact Nat.le_of_lt (Nat.lt_of_lt_of_le hns₄.lt dn)
end
end Dl
/-! raise Refused(e). -/
namespace Dl
open PySem PySem.Spec PyProof.Rows
section
open PySem.W PySem.Calls
variable {prog : Program} {w : World} {A : Around} {E : Value → Shared → Prop} {R : Result → Shared → Prop} {s : Shared} {K : Frag} {mg : Str → Option Value} {C fI cc cda : Addr}
/-- a made error -/
structure RfMade (h h' : Heap) (e C d : Addr) (v : Value) : Prop where
  old : ∀ b o, h.get? b = some o → h'.get? b = some o
  young : h.objs.size ≤ e
  itself : ∃ oe vs, h'.get? e = some oe ∧ oe.cls = .ref C ∧ oe.dict = some d ∧ oe.data = .fields vs ∧ vs[1]? = some .none
  dyoung : h.objs.size ≤ d
  apart : d ≠ e
  fld : h'.Ns1 d (fun y => if y = "at" then some v else none)
theorem ref_made (T : RefTxt prog K mg C fI cc cda) {v : Value} (X : K.In s.heap) (G : s.heap.Ns mainGlobals mg) (Bt : ∃ mb, s.heap.Ns builtinsNs mb ∧ ∀ y : Str, y ≠ "__name__" → mb y = bootBuiltins y) (hlim : s.heap.NoLimit) (hroom : A.depth + 1 < recursionLimit)
    (fin : ∀ h' tk e d, RfMade s.heap h' e C d v → R (.ok (.ret (.ref e))) { s with heap := h', toks := tk }) :
    codeAny (model prog w) A (.call (.ref C) ⟨[v], []⟩) R s := by
  obtain ⟨nm, q, N, bs, bm, sn, sub, ab, col, dd, k0, k1, k2, k3, k5, hC, hbm⟩ := T.cls
  obtain ⟨mb, hmb, hbb⟩ := Bt
  obtain ⟨sh, g, dr, tk, os⟩ := s
  have up : ∀ b o, sh.get? b = some o → ((sh.push (kdv_tup [v])).push (HandSPX.excO C sh.objs.size)).get? b = some o := fun b o e => Heap.get?_push_of_some _ (Heap.get?_push_of_some _ e)
  have gx : ((sh.push (kdv_tup [v])).push (HandSPX.excO C sh.objs.size)).get? (sh.objs.size + 1) = some (HandSPX.excO C sh.objs.size) := by heap_get
  have nx : K.lookup (sh.objs.size + 1) = none := by
    cases e : K.lookup (sh.objs.size + 1) with
    | none => rfl
    | some o => exact absurd (Nat.lt_of_succ_lt (Heap.lt_size (show sh.get? (sh.objs.size + 1) = some o from X _ _ e))) (Nat.lt_irrefl _)
  refine HandSPX.call_own F.excBase_ValueError (fun Y => HandSPX.refsVE_contains Y bm hbm) (X _ _ hC) (looks_findIn X T.iC) (fun self => bind_fn X self T.tC) (one_le v) ?_
  refine ref_init (s := ⟨(sh.push (kdv_tup [v])).push (HandSPX.excO C sh.objs.size), g, dr, tk, os⟩) T (X.keeps up) (G.keeps up) ⟨mb, hmb.keeps up, hbb⟩ (hlim.keeps up) gx nx (show A.depth + 1 < recursionLimit from hroom) fun h' tk' dx t1 Z => ⟨rfl, fin h' tk' (sh.objs.size + 1) dx ?_⟩
  have z := Z.dbig
  refine ⟨fun b o e => Z.keep b o (Nat.ne_of_lt (Nat.lt_succ_of_lt (Heap.lt_size e))) (up b o e), Nat.le_succ _, ⟨_, _, Z.obj, rfl, rfl, rfl, rfl⟩, ?_, Z.dne, Z.ns⟩
  rw [Heap.size_push, Heap.size_push] at z
  exact Nat.le_trans (Nat.le_trans (Nat.le_succ _) (Nat.le_succ _)) z
end
open L2
theorem relO_at {v : V} {u : Value} (r : RelV v u) (f : Str) : RelO (List.lookup f [(("at" : Str), v)]) (if f = "at" then some u else none) := by
  by_cases h : f = "at"
  · subst h
    rw [if_pos rfl, show List.lookup ("at" : Str) [(("at" : Str), v)] = some v by simp [List.lookup]]
    exact r
  · have h2 : (f == ("at" : Str)) = false := by simpa using h
    rw [if_neg h, show List.lookup f [(("at" : Str), v)] = none by simp [List.lookup, h2]]
    trivial
section
variable {X : Cx} {C fI cc cda : Addr}
def tMkR (C : Addr) (ta : TA) : L2.St → Hp → XK → Prop := fun σ H Q => ta σ H fun vs H1 => ∃ v, vs = [v] ∧ ∀ d, H1 d = none → Q (.ref C) (some d) (upd H1 d (.xd [(("at" : Str), v)]))
theorem pmk_ref {a : Expr} {ta : TA} {p pos : Pos} {k : Nat} (T : RefTxt X.prog X.K X.mg C fI cc cda) (hr : Room k X.A) (ha : PA X [a] ta) (hg : Gl X "Refused" := by rfl)
    (he : starEach (a :: []) X.env = (false, eval a X.env) :: starEach [] X.env := by rfl) (hpl : (backTo pos (starEach [] X.env)).any (·.1) = false := by rfl) :
    PMk X (.Call (.Name "Refused" p) [a] [] pos) (tMkR C ta) := by
  intro pins s σ H Q I h
  refine wpAny_Call_Name_kw (ld_glob I hg T.gC ?_)
  refine PySem.W.callWith_K (h₀ := X.base) I.ok.mod.kin T.kC (thn (ha.run pos pins s σ H _ I h) fun us s1 ⟨vs, H1, I1, r1, v, ev, q1⟩ => ?_) he hpl
  subst ev
  refine ⟨I1.kIn, ?_⟩
  obtain ⟨u, rfl, rv⟩ := vals1 r1
  show wpAny _ _ (call (.ref C) [u]) _ _ _
  have hlim := I1.nolimit
  have G1 : s1.heap.Ns mainGlobals X.mg := I1.mod.glob.keeps I1.bk
  obtain ⟨mb, m1, m2⟩ := I1.mod.blt
  obtain ⟨sh, g, dr, tk, os⟩ := s1
  refine wpAny_call (ref_made T I1.kIn G1 ⟨mb, m1.keeps I1.bk, m2⟩ hlim (by have := hr.dp; omega) fun h' tk' e d M => ?_)
  show MkP X pins σ Q (.ref e) ⟨h', g, dr, tk', os⟩
  obtain ⟨oe, fv, hoe, hc, hd, hdat, h1⟩ := M.itself
  obtain ⟨G', g1, g2⟩ := restrict h' fun b => decide (b ≠ e)
  have gk : ∀ b, b ≠ e → G'.get? b = h'.get? b := fun b hb => g1 b (decide_eq_true hb)
  have ge : G'.get? e = none := g2 e (by simp)
  have old : ∀ b o, sh.get? b = some o → G'.get? b = some o := fun b o q => (gk b (Nat.ne_of_lt (Nat.lt_of_lt_of_le (Heap.lt_size q) M.young))).trans (M.old b o q)
  have ob : ObjOk X.prog X.w (upd H1 d (.xd [(("at" : Str), v)])) G' d (.xd [(("at" : Str), v)]) := ⟨_, M.fld.at (fun o q => (gk d M.apart).trans q), fun f => relO_at rv f⟩
  have J : Inv X pins σ (upd H1 d (.xd [(("at" : Str), v)])) ⟨G', g, dr, tk', os⟩ := I1.laid (t' := tk') old M.dyoung ob
  refine ⟨e, oe, fv, ⟨G', g, dr, tk', os⟩, _, .ref C, some d, rfl, J, fun b o q => ?_, ge, hoe, ⟨hc, hd⟩, hdat, h1, ?_, rfl, I1.bare, raises_own T.exC T.tyC, q1 d (I1.hok.fresh M.dyoung)⟩
  · by_cases hb : b = e
    · have q' : G'.get? b = some o := q
      rw [hb, ge] at q'
      cases q'
    · exact (gk b hb).symm.trans q
  · rw [upd_ne (Ne.symm M.apart)]
    exact I1.hok.fresh M.young
end
section
variable {X : Cx} {E : XK} {e : Expr} {f : M D} {p pos pos2 : Pos} {fI cc cda : Addr}
def sRaise (c : String) (f : M D) : S := thenS (mCons f (ret [])) fun ds _ => match ds with
  | [d] => some (.ex c d)
  | _ => none
/-- raise Refused(e) -/
theorem s_raise {k : Nat} (hc : X.calm = true) (T : RefTxt X.prog X.K X.mg (clsA X.K "Refused") fI cc cda) (hr : Room k X.A) (tk : Takes X fun cls d _ H => E cls d H) (he : PE X e (tD X.K E f)) (hg : Gl X "Refused" := by rfl)
    (hs : starEach (e :: []) X.env = (false, eval e X.env) :: starEach [] X.env := by rfl) (hpl : (backTo pos (starEach [] X.env)).any (·.1) = false := by rfl) :
    PS X (.Raise (some (.Call (.Name "Refused" p) [e] [] pos)) none pos2) (tS X.K E (sRaise "Refused" f)) :=
  PS.imp (ps_raise hc tk (pmk_ref T hr (dl_cons he dl_nil hs) hg hs hpl)) fun Dn σ H ⟨F0, H0, ρ, F, z, rel, e, po⟩ => by
    unfold sRaise at e
    show tM (rL X.K) X.K E (mCons f (ret [])) σ H _
    refine stepS rel e po fun ρ1 F1 H1 ds vs s1 rel1 ra e1 p1 ef1 => ?_
    split at e1
    · rename_i d
      cases e1
      obtain ⟨v, t, rfl, rd, rt⟩ := ra
      cases rt
      refine ⟨v, rfl, fun a ha => ?_⟩
      have xt : Ext X.K F0 H0 F1 (upd H1 a (.xd [(("at" : Str), v)])) := rel1.ext.trans (Ext.put rel1.fh ha)
      exact p1 a F1 _ (Same.refl _) xt ⟨v, upd_same, rd⟩
    · cases e1
end
end Dl
/-! _law_refused(lambda: ..). -/
namespace Dl
open PySem PySem.Spec PyProof.Rows L2
section
variable {X : Cx} {C fI cc cda : Addr}
def TTref (C : Addr) : (XK → Hp → VK → Prop) → Hp → VK → Prop := fun tl H Q =>
  tl (fun cls d H' => cls = .ref C ∧ ∃ dd v, d = some dd ∧ H' dd = some (.xd [("at", v)]) ∧ ∀ p, H' p = none → Q (.ref p) (upd H' p (.tup [.str "refused", v]))) H fun _ H' => Q .non H'
theorem RefTxt.xf (T : RefTxt X.prog X.K X.mg C fI cc cda) : XfC X.K C := ⟨T.ga, T.gg, T.exC, T.hdC⟩
theorem PE.len {e : Expr} {t : TE} {n : Nat} (h : PE X e t) (hn : X.N.length = n) : PE X e fun σ H Q => σ.length = n → t σ H Q := ⟨fun pins s σ H Q I q => h.run pins s σ H Q I (q (I.len.trans hn))⟩
theorem ref_gives {x q : Str} {sg : Scope} (hsl : sg.names.lookup ("e" : Str) = some .local) (hw : sg.names.lookup ("work" : Str) = some .local) (hgR : sg.names.lookup ("Refused" : Str) = some .globalImplicit) {g : Addr} {cdg : Value} {j j2 k8 : Nat} {p1 p2 p3 p4 p5 p6 p7 p8 p9 p10 p11 p12 p13 : Pos} (T : RefTxt X.prog X.K X.mg C fI cc cda) :
    LamX.GivesTo X ["work", "e"] x sg g cdg [.Try [.Expr (.Call (.Name "work" p1) [] [] p2) p3] [.ExceptHandler (some (.Name "Refused" p4)) (some "e") [.Return (some (.Tuple [.Constant (.str "refused") j p5, .Attribute (.Name "e" p6) "at" p7] k8 p8)) p9] p10] [] [] p11, .Return (some (.Constant .none j2 p12)) p13] "work" q (TTref C) := by
  intro f c' s H Q tl act hc h
  have hgl : Gl (cxOf C8.CX0 X.prog X.w X.K X.mg X.base ["work", "e"] x sg g cdg X.A X.stack s H C8.E0).nox "Refused" := hgR
  refine ⟨_, pss_cons (ps_try_as (X := (cxOf C8.CX0 X.prog X.w X.K X.mg X.base ["work", "e"] x sg g cdg X.A X.stack s H C8.E0).nox) (c := .ref C) (i := 1)
      (ts := fun a cls d => tRet (tTup (tCons (tC (.str "refused")) (tCons (tXf a cls d C "at" fun σ H Q => σ.length = 2 → tVar 1 σ H Q) tNil))))
      (tb := fun W D σ H => ∃ Ech : XK, (∀ cls d σ' H', Ech cls d H' → W cls d σ' H') ∧ σ[0]? = some (some (.ref f)) ∧ H c' = some (LamX.CodeO c' q) ∧ tl Ech H (fun _ H' => D.nx σ H'))
      rfl rfl (show ([PySem.Str.ofString "work", PySem.Str.ofString "e"] : List Str).Nodup by decide) rfl hsl ⟨hgl, by decide, .inl T.gC⟩ LamX.takes0 (fun W pn xe tk _ => ?_) (fun a oe cls d pn hz hf => pss_one (ps_ret (pe_tup (pa_cons pe_str (pa_cons (pe_xf (C := C) T.xf T.noN hz hf (PE.len (n := 2) (pv (x := "e") 1 rfl (.inl hsl)) rfl)) pa_nil)))))) (pss_one (ps_ret pe_non)), ?_⟩
  · refine ⟨fun pins s' σ H' D I h' => ?_⟩
    obtain ⟨Ech, hW, h1, h2, h3⟩ := h'
    have hp := act W pn xe Ech p1 p2 tk hW
    exact (pss_one (ps_expr (pos := p3) hp)).run pins s' σ H' D I ⟨h1, h2, h3⟩
  · refine ⟨_, fun cls d σ' H' z => ?_, rfl, hc, h⟩
    obtain ⟨rfl, dd, v, rfl, e1, e2⟩ := z
    refine ⟨true, T.te, fun _ a ha => ?_, fun z => nomatch z⟩
    refine fun hl => ?_
    have hl2 : 1 < (σ'.set 1 (some (V.ref a))).length := by rw [hl]; show 1 < 2; decide
    exact ⟨.ref a, by rw [List.length_set] at hl2; exact List.getElem?_set_self hl2, rfl, rfl, dd, _, v, rfl, e1, by simp [List.lookup], by show 2 ≤ sizeLine; decide, fun p hp => e2 p hp⟩
end
end Dl
/-! Lambdas: what stays is told in full. -/
namespace Dl
open PySem PySem.Spec PyProof.Rows L2 LamX
/-- all stays, but tables that grow -/
def GrowT (T : List (Addr × Str)) (H H' : Hp) : Prop := ∀ a o, H a = some o → H' a = some o ∨ (∃ p ∈ T, p.1 = a) ∧ ∃ ps ps', o = .tbl ps ∧ H' a = some (.tbl ps')
section
variable {X : Cx} {pnz : List (Addr × Obj)} {σ : L2.St} {H : Hp} {s : Shared}
/-- a lambda made, as LamX.lam_make2; of all but the table it is told that it stays -/
theorem lam_mk {T : List (Addr × Str)} {c P : Addr} {prm : Arguments} {body : Expr} {sco : Scope} {pos : Pos} {E : Value → Shared → Prop} {Q : Value → Shared → Prop} (I : Inv X pnz σ H s) (TBb : TabB X.base X.mg c P) (hcd2 : X.env.code = .ref c)
    (hm : (P, X.env.qual ++ "<lambda>") ∈ T) (hu : ∀ p ∈ T, p.1 = P → p.2 = X.env.qual ++ "<lambda>") (hT : Tabs T H) (hdf : defaultsOf prm X.env = ([], [])) (hfr2 : ∀ y ∈ sco.names, y.2 = .free → ∃ c, X.env.cells.lookup y.1 = some c)
    (h : ∀ (f c' : Addr) (pm ctw : Value) (H1 : Hp) (s' : Shared), Inv X pnz σ H1 s' → GrowT T H H1 → Tabs T H1 →
      s'.heap.get? f = some (PySem.W.kla_obj "<lambda>" (X.env.qual ++ "<lambda>") prm body sco (cloFrom X.env.cells sco.names []) pm c' ctw) → H1 f = none → f ∉ frs X.stack → H1 c' = some (CodeO c' (X.env.qual ++ "<lambda>")) → Q (.ref f) s') :
    wpAny (model X.prog X.w) X.A (eval (.Lambda prm body sco pos) X.env) Q E s := by
  obtain ⟨ps, hPt, ht, ha⟩ := hT _ hm
  refine PySem.W.kla_eval hdf ?_
  have bP : s.heap.BuiltinsAt X.mg P := TBb.bm.keeps I.bk
  have hPt' : s.heap.get? P = some { cls := .none, data := .fields ps } := I.hok P _ hPt
  have nofr : ∀ f, s.heap.objs.size ≤ f → f ∉ frs X.stack := fun f hf z => by
    rcases List.mem_cons.mp (I.stkSub _ z) with e | e
    · have h1 := I.lt
      rw [← e] at h1
      exact Nat.lt_irrefl _ (Nat.lt_of_lt_of_le h1 hf)
    · exact I.nofs hf e
  cases hc : codeAmong pos ps.toList with
  | none =>
    refine PySem.W.kla_makeFunction (mg := X.mg) (c := c) (P := P) (ps := ps) (closure_ok hfr2) I.ok.glob (I.mod.glob.keeps I.bk) hcd2 (TBb.code.keeps I.bk) hPt' ht hc TBb.gP bP fun c' ctw h' tk hx hg2 hlt hrec htb => ?_
    obtain ⟨c2, oc, vs, t, e2, hoc, hd, hv⟩ := hrec
    cases e2
    have hz2 : s.heap.objs.size ≤ h'.objs.size := Nat.le_trans hg2 (Nat.le_of_lt hlt)
    have nCc : H c' = none := I.hok.fresh hg2
    have J1 := inv_table (t' := tk) (more := #[rawInt pos.line, rawInt pos.col, .ref c']) (h' := h'.push (PySem.W.kla_obj "<lambda>" (X.env.qual ++ "<lambda>") prm body sco (cloFrom X.env.cells sco.names []) ((X.mg "__name__").getD .none) c' ctw)) I hPt
      (fun b o hb e => Heap.get?_push_of_some _ (hx b o hb e)) (Heap.get?_push_of_some _ htb) hg2 ⟨oc, vs, t, Heap.get?_push_of_some _ hoc, hd, hv⟩
    have hE : ExtN H (upd (upd H P (.tbl (ps ++ #[rawInt pos.line, rawInt pos.col, .ref c']))) c' (CodeO c' (X.env.qual ++ "<lambda>"))) := fun b o e n => by
      rw [upd_ne (ne_of_none e nCc), upd_ne (fun z => n ps (Option.some.inj (e.symm.trans (by rw [z]; exact hPt))))]
      exact e
    have hG : GrowT T H (upd (upd H P (.tbl (ps ++ #[rawInt pos.line, rawInt pos.col, .ref c']))) c' (CodeO c' (X.env.qual ++ "<lambda>"))) := fun b o e => by
      rw [upd_ne (ne_of_none e nCc)]
      by_cases hb : b = P
      · subst hb
        rw [hPt] at e
        cases e
        exact .inr ⟨⟨_, hm, rfl⟩, ps, _, rfl, upd_same⟩
      · exact .inl (by rw [upd_ne hb]; exact e)
    have eL : (ps ++ #[rawInt pos.line, rawInt pos.col, .ref c']).toList = ps.toList ++ [rawInt pos.line, rawInt pos.col, .ref c'] := by simp
    refine h h'.objs.size c' ((X.mg "__name__").getD .none) ctw _ _ J1 hG (fun p hp => ?_) (Heap.get?_push_size _ rfl) ?_ (nofr _ hz2) upd_same
    · by_cases hb : p.1 = P
      · rw [hu p hp hb, hb]
        refine ⟨_, by rw [upd_ne (ne_of_none hPt nCc), upd_same], by rw [eL]; exact PySem.TriplesOk_snoc _ _ _ _ ht, fun p' cv hcv => ?_⟩
        rw [eL] at hcv
        rcases among_app _ ht hcv with z | z
        · obtain ⟨c0, e1, e2⟩ := ha p' cv z
          exact ⟨c0, e1, hE _ _ e2 codeO_ne⟩
        · exact ⟨c', z, upd_same⟩
      · obtain ⟨ps', a1, a2, a3⟩ := hT p hp
        refine ⟨ps', by rw [upd_ne (ne_of_none a1 nCc), upd_ne hb]; exact a1, a2, fun p' cv hcv => ?_⟩
        obtain ⟨c0, e1, e2⟩ := a3 p' cv hcv
        exact ⟨c0, e1, hE _ _ e2 codeO_ne⟩
    · have n1 : h'.objs.size ≠ c' := Nat.ne_of_gt hlt
      have n2 : h'.objs.size ≠ P := Nat.ne_of_gt (Nat.lt_of_lt_of_le (Heap.lt_size hPt') hz2)
      rw [upd_ne n1, upd_ne n2]
      exact I.hok.fresh hz2
  | some cv =>
    obtain ⟨c', e, hco⟩ := ha pos cv hc
    subst e
    refine PySem.W.kla_makeFunctionHit (mg := X.mg) (c := c) (P := P) (ps := ps) (closure_ok hfr2) I.ok.glob (I.mod.glob.keeps I.bk) hcd2 (TBb.code.keeps I.bk) hPt' ht hc bP fun ctw h' tk hx hz2 => ?_
    have J1 : Inv X pnz σ H { s with heap := h'.push (PySem.W.kla_obj "<lambda>" (X.env.qual ++ "<lambda>") prm body sco (cloFrom X.env.cells sco.names []) ((X.mg "__name__").getD .none) c' ctw), toks := tk } := I.kept fun b o e => Heap.get?_push_of_some _ (hx b o e)
    exact h h'.objs.size c' ((X.mg "__name__").getD .none) ctw H _ J1 (fun b o e => .inl e) hT (Heap.get?_push_size _ rfl) (I.hok.fresh hz2) (nofr _ hz2) hco
end
def tLamG (T : List (Addr × Str)) (TT : (XK → Hp → VK → Prop) → Hp → VK → Prop) (t : XK → TE) : TE := fun σ H Q => Tabs T H ∧ ∀ H1, GrowT T H H1 → Tabs T H1 → TT (fun E H' Q' => t E σ H' Q') H1 Q
section
variable {X : Cx}
/-- x(lambda: body), as LamX.pe_lamcall -/
theorem pe_lamC {T : List (Addr × Str)} {TT : (XK → Hp → VK → Prop) → Hp → VK → Prop} {x a : Str} {g c P : Addr} {k : Nat} {pg : Arguments} {bg : List Stmt} {sg : Scope} {dV kV doc pm cdv ct oc : Value} {an od : Option Addr} {osl : Array (Option Value)} {Ng : List Str}
    {prm : Arguments} {body : Expr} {sco : Scope} {t : XK → TE} {p lpos pos : Pos} (hg : Gl X x) (hm : X.mg x = some (.ref g)) (hk : PySem.W.keepIn X.K (.ref g) = true)
    (lk : X.K.lookup g = some ⟨oc, od, .func (PySem.W.fnOf x x pg bg sg dV kV doc pm an cdv ct), osl⟩) (hcg : PySem.W.codeIn X.K cdv x = true) (hb : L2.Binds X.K (PySem.W.fnOf x x pg bg sg dV kV doc pm an cdv ct) [a] []) (Sg : FnScope Ng [a] sg) (hN0 : Ng[0]? = some a) (hv0 : Vis sg a)
    (hG : GivesTo X Ng x sg g cdv bg a (X.env.qual ++ "<lambda>") TT)
    (TBb : TabB X.base X.mg c P) (hcd2 : X.env.code = .ref c) (hmt : (P, X.env.qual ++ "<lambda>") ∈ T) (hu : ∀ p ∈ T, p.1 = P → p.2 = X.env.qual ++ "<lambda>") (hr : Room (k + 2) X.A) (L : LamS X.env.scope sco) (hdf : defaultsOf prm X.env = ([], []))
    (hbd : ∀ (q : Str) (cl : List (Str × Addr)) (pm cv ctw : Value), bindArgs (PySem.W.kla_fn "<lambda>" q prm body sco cl pm cv ctw) ⟨[], []⟩ = pure [])
    (hby : ∀ (A : Around) (outer : List PySem.Env) (s : Shared) (H : Hp) (E : XK) (f c' : Addr), Room k (A.deeper (lamEnv X sco s.heap.objs.size f c')) → PE (lamCx X A outer s H E sco f c') body (t E))
    (hdb : (x == ("__debug__" : Str)) = false := by decide) (hd : (a == ("__debug__" : Str)) = false := by decide) (hcd : (a == ("__classdict__" : Str)) = false := by decide) :
    PE X (.Call (.Name x p) [.Lambda prm body sco lpos] [] pos) (tLamG T TT t) := by
  refine ⟨fun pnz s σ H Q I h => ?_⟩
  obtain ⟨hT, h⟩ := h
  refine wpAny_Call_Name_kw (ld_glob I hg hm ?_ hdb)
  refine PySem.W.callWith_K (h₀ := X.base) I.ok.mod.kin hk ?_ (by rfl) (by rfl)
  show wpAny _ _ (spliced ((false, eval (.Lambda prm body sco lpos) X.env) :: backTo pos (starEach [] X.env))) _ _ s
  refine Calls.spliced_cons (lam_mk I TBb hcd2 hmt hu hT hdf (L.has I.ok) fun f c' pm' ctw H1 s' J1 eN T1 hf hfn hfr hco => ?_)
  refine Calls.spliced_nil ⟨J1.kIn, ?_⟩
  have rc : codeAny (model X.prog X.w) X.A (.call (.ref g) ⟨[.ref f], []⟩) (CR C8.CX0 X.stack X.prog X.w H1 s' Q C8.E0) s' := by
    refine run_ofS (N := Ng) (ps := [a]) (us := [.ref f]) (vs := [.ref f]) lk hcg Sg hr J1.env0 (hb s' [.ref f] J1.kIn rfl) (.cons rfl .nil) rfl fun hr' => ?_
    obtain ⟨t', ht', hq'⟩ := hG f c' s' H1 Q (fun E H' Q' => t E σ H' Q') (fun W pn xe E p1 p2 tk hW => pe_act (i := 0) J1 L hf hfn hfr (hbd _ _ _ _ _) tk hW hr' (fun A outer s H hr2 => hby A outer s H E f c' hr2) hN0 hv0 hd hcd) hco (h H1 eN T1)
    exact ⟨t', ht'.nox, hq'⟩
  refine wpAny_call (codeAny_mono rc fun r s2 hq => ?_)
  cases r with
  | error e => exact (show False from hq).elim
  | ok fl =>
    cases fl with
    | ret u => exact J1.after hq
    | next => exact False.elim hq
    | brk => exact False.elim hq
    | cont => exact False.elim hq
end
end Dl
/-! _law_refused(lambda: e) by data. -/
namespace Dl
open PySem PySem.Spec PyProof.Rows L2
def forget (ρ : Env) : Env := ρ.map fun s => match s with
  | .ow _ _ => .no
  | s => s
section
variable {K : PySem.W.Frag} {F0 H0 F H F' H' : Hp} {ρ : Env} {σ : L2.St}
theorem forget_get {i : Nat} {s : SL} (h : (forget ρ)[i]? = some s) : s = .no ∨ ∃ d, s = .sh d ∧ ρ[i]? = some (.sh d) := by
  unfold forget at h
  rw [List.getElem?_map] at h
  obtain ⟨s', e, rfl⟩ := Option.map_eq_some_iff.mp h
  cases s' with
  | no => exact .inl rfl
  | sh d => exact .inr ⟨d, rfl, e⟩
  | ow t d => exact .inl rfl
/-- without the own ones, at any state behind -/
theorem Rel.forget (rel : Rel K F0 H0 ρ F σ H) (s : Same F F') (x : Ext K F0 H0 F' H') : Rel K F0 H0 (forget ρ) F' σ H' := by
  refine ⟨x, by unfold Dl.forget; rw [List.length_map]; exact rel.len, fun i sl v q1 q2 => ?_, fun i j t u d e a q1 => ?_, rel.tt⟩
  · rcases forget_get q1 with rfl | ⟨d, rfl, q⟩
    · trivial
    · obtain ⟨y, ey, r⟩ := rel.sl i _ v q q2
      exact ⟨y, ey, Rep.mono (.of s) r⟩
  · rcases forget_get q1 with z | ⟨d', z, _⟩ <;> cases z
end
def mRefd (f : M D) : M D := fun ρ => match f (forget ρ) with
  | some (.ok _ _) => some (.ok .non (forget ρ))
  | some (.ex "Refused" d) => some (.ok (.tup [.str "refused", d]) (forget ρ))
  | _ => none
section
variable {X : Cx} {E : XK} {f : M D} {fI cc cda : Addr}
theorem tD_lam {σ : L2.St} {H : Hp} {Q : VK} (pu : Pu f) (q : tD X.K E (mRefd f) σ H Q) : tLamG (TK X.K) (TTref (clsA X.K "Refused")) (fun E => tD X.K E f) σ H Q := by
  obtain ⟨F0, H0, ρ, F, z, rel, e, p⟩ := q
  have tb := rel.tabs
  refine ⟨tb.1, fun H1 gr tb1 => ?_⟩
  have x1 : Ext X.K F H F H1 := by
    refine ⟨Same.refl F, ⟨fun a o e => ?_, fun _ => tb1⟩, fun a o e => ?_, fun a o q1 _ _ => q1⟩
    · rcases gr a o e with h | ⟨_, h⟩
      · exact .inl h
      · exact .inr h
    · rcases gr a o (rel.fh _ _ e) with h | ⟨⟨p, hp, rfl⟩, _⟩
      · exact h
      · rw [tb.2 p hp] at e; cases e
  have rel1 : Rel X.K F0 H0 (forget ρ) F σ H1 := rel.forget (Same.refl F) (rel.ext.trans x1)
  unfold mRefd at e
  split at e
  · rename_i d ρ' ef
    cases e
    cases pu _ _ _ ef
    exact ⟨F0, H0, forget ρ, F, _, rel1, ef, fun v F' H' s rel' _ => p .non F' H' s rel' rfl⟩
  · rename_i d ef
    cases e
    refine ⟨F0, H0, forget ρ, F, _, rel1, ef, fun a F' H' s x xa => ?_⟩
    obtain ⟨v, hv, rv⟩ := xa
    refine ⟨rfl, a, v, rfl, hv, fun q hq => ?_⟩
    have xl : Ext X.K F' H' (upd F' q (.tup [.str "refused", v])) (upd H' q (.tup [.str "refused", v])) := Ext.laid x.fh hq
    have rel2 := rel.forget (s.trans xl.ff) (x.trans xl)
    exact p _ _ _ (s.trans xl.ff) rel2 ⟨q, _, rfl, upd_same, _, _, rfl, rfl, _, _, rfl, Rep.mono (.of xl.ff) rv, rfl⟩
  · cases e
/-- _law_refused(lambda: body) -/
theorem d_lam {x : Str} {g c P : Addr} {k : Nat} {pg : Arguments} {sg : Scope} {dV kV doc pm cdv ct oc : Value} {an od : Option Addr} {osl : Array (Option Value)} {j j2 k8 : Nat} {p1 p2 p3 p4 p5 p6 p7 p8 p9 p10 p11 p12 p13 : Pos}
    {params : Arguments} {body : Expr} {scope : Scope} {p lpos pos : Pos} (pu : Pu f) (T : RefTxt X.prog X.K X.mg (clsA X.K "Refused") fI cc cda) (hg : Gl X x) (hm : X.mg x = some (.ref g)) (hk : PySem.W.keepIn X.K (.ref g) = true)
    (lk : X.K.lookup g = some ⟨oc, od, .func (PySem.W.fnOf x x pg [.Try [.Expr (.Call (.Name "work" p1) [] [] p2) p3] [.ExceptHandler (some (.Name "Refused" p4)) (some "e") [.Return (some (.Tuple [.Constant (.str "refused") j p5, .Attribute (.Name "e" p6) "at" p7] k8 p8)) p9] p10] [] [] p11, .Return (some (.Constant .none j2 p12)) p13] sg dV kV doc pm an cdv ct), osl⟩)
    (hcg : PySem.W.codeIn X.K cdv x = true) (hb : L2.Binds X.K (PySem.W.fnOf x x pg [.Try [.Expr (.Call (.Name "work" p1) [] [] p2) p3] [.ExceptHandler (some (.Name "Refused" p4)) (some "e") [.Return (some (.Tuple [.Constant (.str "refused") j p5, .Attribute (.Name "e" p6) "at" p7] k8 p8)) p9] p10] [] [] p11, .Return (some (.Constant .none j2 p12)) p13] sg dV kV doc pm an cdv ct) ["work"] []) (Sg : FnScope ["work", "e"] ["work"] sg)
    (hsl : sg.names.lookup ("e" : Str) = some .local) (hw : sg.names.lookup ("work" : Str) = some .local) (hgR : sg.names.lookup ("Refused" : Str) = some .globalImplicit)
    (TB : LamX.TabB X.base X.mg c P) (hcode : X.env.code = .ref c) (hmT : (P, X.env.qual ++ "<lambda>") ∈ TK X.K) (hu : ∀ p ∈ TK X.K, p.1 = P → p.2 = X.env.qual ++ "<lambda>") (hr : Room (k + 2) X.A) (L : LamX.LamS X.env.scope scope) (hdef : defaultsOf params X.env = ([], []))
    (hbind : ∀ (q : Str) (cl : List (Str × Addr)) (pm cv ctv : Value), bindArgs (PySem.W.kla_fn "<lambda>" q params body scope cl pm cv ctv) ⟨[], []⟩ = pure [])
    (hbody : ∀ (A : Around) (outer : List PySem.Env) (s : Shared) (H : Hp) (E : XK) (f' c' : Addr), Room k (A.deeper (LamX.lamEnv X scope s.heap.objs.size f' c')) → PE (LamX.lamCx X A outer s H E scope f' c') body (tD X.K E f))
    (hdb : (x == ("__debug__" : Str)) = false := by decide) : PE X (.Call (.Name x p) [.Lambda params body scope lpos] [] pos) (tD X.K E (mRefd f)) :=
  PE.imp (pe_lamC hg hm hk lk hcg hb Sg rfl (.inl hw) (ref_gives hsl hw hgR T) TB hcode hmT hu hr L hdef hbind hbody hdb) fun σ H Q q => tD_lam pu q
end
end Dl
/-! Defs as values. -/
namespace Dl
open PySem PySem.Spec PyProof.Rows L2
/-- the module's def of that name does g -/
structure FnV (X : Cx) (k : Nat) (nm : String) (g : List D → Option Rv) : Prop where
  ex : ∃ (fd : FuncData) (ps : List Str), FnOk X.prog X.w X.K X.mg X.base (L2.CX X.prog X.w) k (clsA X.K nm) fd ps (spD X.K g) ∧ PySem.W.keepIn X.K (.ref (clsA X.K nm)) = true ∧ Binds X.K fd ps []
def mCallV (S : String → Option (List D → Option Rv)) (i : Nat) (l : M (List D)) : M D := fun ρ => match ρ[i]? with
  | some (.sh (.fn nm)) => (match S nm with
    | some g => mCall g [] l ρ
    | none => none)
  | _ => none
section
variable {X : Cx} {E : XK} {e : Expr} {es : List Expr} {pos p : Pos} {l : M (List D)} {k i : Nat} {x : Str}
theorem d_callV {S : String → Option (List D → Option Rv)} (A : ∀ nm g, S nm = some g → FnV X k nm g) (hr : Room k X.A) (hN : X.N[i]? = some x) (hv : Vis X.env.scope x) (hx : Passes (L2.CX X.prog X.w) X E) (ha : PA X (e :: es) (tL X.K E l))
    (hdb : (x == ("__debug__" : Str)) = false := by decide) (hcd : (x == ("__classdict__" : Str)) = false := by decide)
    (he : starEach (e :: es) X.env = (false, eval e X.env) :: starEach es X.env := by rfl) (hpl : (backTo pos (starEach es X.env)).any (·.1) = false := by rfl) : PE X (.Call (.Name x p) (e :: es) [] pos) (tD X.K E (mCallV S i l)) := by
  refine ⟨fun pins s σ H Q I ⟨F0, H0, ρ, F, z, rel, ez, pz⟩ => ?_⟩
  unfold mCallV at ez
  split at ez
  · rename_i nm q
    split at ez
    · rename_i g hS
      obtain ⟨fd, ps, Fk, hk, hb⟩ := (A nm g hS).ex
      obtain ⟨v, ev, y, ey, ry⟩ := rel.get q
      subst ey
      cases ry
      exact (pe_callL (i := i) Fk hr hN hv hk hb .nil hx ha hdb hcd he hpl).run pins s σ H Q I ⟨ev, tCall_D (dvs := []) (dds := []) (fun _ => rfl) ⟨F0, H0, ρ, F, z, rel, ez, pz⟩⟩
    · cases ez
  · cases ez
end
end Dl
/-! Short words for the walks. -/
namespace Dl
open PySem PySem.Spec PyProof.Rows L2
/-- the module's def x does g -/
structure Fk (P : Program) (w : World) (K : PySem.W.Frag) (mg : Str → Option Value) (base : Heap) (k : Nat) (x : Str) (g : List D → Option Rv) : Prop where
  ex : ∃ (fa : Addr) (fd : FuncData) (ps : List Str), FnOk P w K mg base (L2.CX P w) k fa fd ps (spD K g) ∧ mg x = some (.ref fa) ∧ PySem.W.keepIn K (.ref fa) = true ∧ Binds K fd ps []
/-- .. its first argument lent -/
structure FkG (P : Program) (w : World) (K : PySem.W.Frag) (mg : Str → Option Value) (base : Heap) (k : Nat) (x : Str) (g : D → List D → Option (D × D)) : Prop where
  ex : ∃ (fa : Addr) (fd : FuncData) (ps : List Str), FnOk P w K mg base (L2.CX P w) k fa fd ps (spG K g) ∧ mg x = some (.ref fa) ∧ PySem.W.keepIn K (.ref fa) = true ∧ Binds K fd ps []
section
variable {X : Cx} {E : XK} {e : Expr} {es : List Expr} {pos p : Pos} {l : M (List D)} {k n i : Nat} {x : Str} {g : List D → Option Rv} {f : M D}
theorem c_call (A : Fk X.prog X.w X.K X.mg X.base k x g) (hr : Room n X.A) (hkn : k ≤ n) (hg : Gl X x) (hx : Passes (L2.CX X.prog X.w) X E) (ha : PA X (e :: es) (tL X.K E l)) (hdb : (x == ("__debug__" : Str)) = false := by decide)
    (he : starEach (e :: es) X.env = (false, eval e X.env) :: starEach es X.env := by rfl) (hpl : (backTo pos (starEach es X.env)).any (·.1) = false := by rfl) : PE X (.Call (.Name x p) (e :: es) [] pos) (tD X.K E (mCall g [] l)) := by
  obtain ⟨fa, fd, ps, F, hm, hk, hb⟩ := A.ex
  exact d_call F (hr.mono hkn) hg hm hk hb .nil (fun _ => rfl) hx ha hdb he hpl
theorem c_callF (A : Fk X.prog X.w X.K X.mg X.base k x g) (hr : Room n X.A) (hkn : k ≤ n) (hg : Gl X x) (hx : Passes (L2.CX X.prog X.w) X E) (ha : PA X (e :: es) (tL X.K E l)) (hdb : (x == ("__debug__" : Str)) = false := by decide)
    (he : starEach (e :: es) X.env = (false, eval e X.env) :: starEach es X.env := by rfl) (hpl : (backTo pos (starEach es X.env)).any (·.1) = false := by rfl) : PE X (.Call (.Name x p) (e :: es) [] pos) (tF X.K E (mCallF g [] l)) := by
  obtain ⟨fa, fd, ps, F, hm, hk, hb⟩ := A.ex
  exact d_callF F (hr.mono hkn) hg hm hk hb .nil (fun _ => rfl) hx ha hdb he hpl
theorem c_callG {y : Str} {py : Pos} {gg : D → List D → Option (D × D)} (A : FkG X.prog X.w X.K X.mg X.base k x gg) (hr : Room n X.A) (hkn : k ≤ n) (hg : Gl X x) (hx : Passes (L2.CX X.prog X.w) X E) (hN : X.N[i]? = some y) (hv : Vis X.env.scope y) (ha : PA X es (tL X.K E l))
    (hd1 : (y == ("__debug__" : Str)) = false := by decide) (hd2 : (y == ("__classdict__" : Str)) = false := by decide) (hdb : (x == ("__debug__" : Str)) = false := by decide)
    (he : starEach (.Name y py :: es) X.env = (false, eval (.Name y py) X.env) :: starEach es X.env := by rfl) (hpl : (backTo pos (starEach es X.env)).any (·.1) = false := by rfl) : PE X (.Call (.Name x p) (.Name y py :: es) [] pos) (tD X.K E (mCallG gg i l)) := by
  obtain ⟨fa, fd, ps, F, hm, hk, hb⟩ := A.ex
  exact d_callG F (hr.mono hkn) hg hm hk hb hx hN hv ha hd1 hd2 hdb he hpl
theorem iop_mulW : OpR X (inplaceOp .Mult) (rI CMulW fun i j => .int (i * j)) := opI fun _ _ _ _ _ _ _ hc q => imul_int q hc.ok
theorem s_augMul {x : Str} {pos' : Pos} (hN : X.N.Nodup) (hi : X.N[i]? = some x) (hx : Loc X.env.scope x) (he : PE X e (tD X.K E f)) (hf : X.fn x = true ∨ X.env.scope.names.lookup x = some .local := by first | exact .inl rfl | exact .inr rfl | assumption) :
    PS X (.AugAssign (.Name x pos') .Mult e pos) (tS X.K E (sAug i oMul f)) := s_aug hN hi hx he iop_mulW (db_I (fun _ _ h => mulOk_c h) fun _ _ _ => rfl) hf
theorem s_augAdd {x : Str} {pos' : Pos} (hN : X.N.Nodup) (hi : X.N[i]? = some x) (hx : Loc X.env.scope x) (he : PE X e (tD X.K E f)) (hf : X.fn x = true ∨ X.env.scope.names.lookup x = some .local := by first | exact .inl rfl | exact .inr rfl | assumption) :
    PS X (.AugAssign (.Name x pos') .Add e pos) (tS X.K E (sAug i oAdd f)) := s_aug hN hi hx he iop_add (db_I0 fun _ _ _ => rfl) hf
/-- one range's end -/
theorem len1 {f : M D} : ∀ ρ ds ρ', mCons f (ret []) ρ = some (.ok ds ρ') → ds.length = 1 := fun ρ ds ρ' e => by
  unfold mCons bnd ret at e
  cases h : f ρ with
  | none => rw [h] at e; cases e
  | some r =>
    rw [h] at e
    cases r with
    | ex _ _ => cases e
    | ok a ρ1 => cases e; rfl
theorem len2 {f g : M D} : ∀ ρ ds ρ', mCons f (mCons g (ret [])) ρ = some (.ok ds ρ') → ds.length = 2 := fun ρ ds ρ' e => by
  unfold mCons bnd ret at e
  cases h : f ρ with
  | none => rw [h] at e; cases e
  | some r =>
    rw [h] at e
    cases r with
    | ex _ _ => cases e
    | ok a ρ1 =>
      dsimp only at e
      cases h2 : g ρ1 with
      | none => rw [h2] at e; cases e
      | some r =>
        rw [h2] at e
        cases r with
        | ex _ _ => cases e
        | ok b ρ2 => cases e; rfl
theorem pu_ix {f g : M D} (h : Pu f) (h' : Pu g) : Pu (mOp oIx f g) := pu_op h h'
theorem pu_asB {f : M D} (h : Pu f) : Pu (asB f) := pu_bnd h fun d => by
  cases d with
  | bl b => exact pu_ret
  | _ => exact fun _ _ _ e => nomatch e
theorem pu_mAnd {t u : M Bool} (h : Pu t) (h' : Pu u) : Pu (mAnd t u) := pu_bnd h fun b => by
  cases b with
  | true => exact h'
  | false => exact pu_ret
theorem pu_mOr {t u : M Bool} (h : Pu t) (h' : Pu u) : Pu (mOr t u) := pu_bnd h fun b => by
  cases b with
  | true => exact pu_ret
  | false => exact h'
theorem pu_mNot {t : M Bool} (h : Pu t) : Pu (mNot t) := pu_bnd h fun _ => pu_ret
theorem pu_mIf {α : Type} {t : M Bool} {f g : M α} (h : Pu t) (h1 : Pu f) (h2 : Pu g) : Pu (mIf t f g) := pu_bnd h fun b => by
  cases b with
  | true => exact h1
  | false => exact h2
theorem pu_mAndV {f g : M D} (h : Pu f) (h' : Pu g) : Pu (mAndV f g) := pu_mIf (pu_asB h) h' pu_ret
theorem pu_mOrV {f g : M D} (h : Pu f) (h' : Pu g) : Pu (mOrV f g) := pu_mIf (pu_asB h) pu_ret h'
theorem pu_mNotV {f : M D} (h : Pu f) : Pu (mNotV f) := pu_bnd (pu_asB h) fun _ => pu_ret
theorem pu_mTup {l : M (List D)} (h : Pu l) : Pu (mTup l) := pu_bnd h fun _ => pu_opt
theorem pu_mLst {l : M (List D)} (h : Pu l) : Pu (mLst l) := pu_bnd h fun _ => pu_opt
theorem pu_mCall {g : List D → Option Rv} {dds : List D} {l : M (List D)} (h : Pu l) : Pu (mCall g dds l) := pu_bnd h fun ds ρ a ρ' e => by
  split at e
  · cases e; rfl
  · cases e
  · cases e
theorem pu_mCallF {g : List D → Option Rv} {dds : List D} {l : M (List D)} (h : Pu l) : Pu (mCallF g dds l) := pu_bnd h fun ds ρ a ρ' e => by
  split at e
  · cases e; rfl
  · cases e
  · cases e
theorem pu_mSlT {f : M D} {lo hi : M (Option Int)} (h : Pu f) (h1 : Pu lo) (h2 : Pu hi) : Pu (mSlT f lo hi) := pu_bnd h fun d => pu_bnd h1 fun _ => pu_bnd h2 fun _ => by
  cases d with
  | tup ds => exact pu_ret
  | _ => exact fun _ _ _ e => nomatch e
theorem pu_mPart {f : M D} (h : Pu f) : Pu (mPart f) := pu_bnd h fun d => by
  cases d with
  | int _ => exact pu_ret
  | _ => exact fun _ _ _ e => nomatch e
theorem pu_unF {h : D → Option (List D)} (hf : Pu f) : Pu (mUnF h f) := pu_bnd hf fun _ => pu_opt
theorem pu_opF {h : D → D → Option (List D)} {g : M D} (hf : Pu f) (hg : Pu g) : Pu (mOpF h f g) := pu_bnd hf fun _ => pu_bnd hg fun _ => pu_opt
theorem pu_mIt {f : M D} (h : Pu f) : Pu (mIt f) := pu_bnd h fun _ => pu_opt
theorem pu_mRg {l : M (List D)} (h : Pu l) : Pu (mRg l) := pu_bnd h fun ds ρ a ρ' e => by
  split at e
  · split at e
    · cases e; rfl
    · cases e
  · split at e
    · cases e; rfl
    · cases e
  · cases e
theorem pu_mComp {l : M (List D)} {vs : List Nat} {tg : TgE} {t : M Bool} {y : M D} (h : Pu l) : Pu (mComp l vs tg t y) := pu_bnd h fun ds ρ a ρ' e => by
  obtain ⟨_, _, _, _, e2⟩ := compE_some e
  cases e2
  rfl
theorem pu_mGet {f g h : M D} (h1 : Pu f) (h2 : Pu g) (h3 : Pu h) : Pu (mGet (asDc f) g h) := pu_bnd (pu_bnd h1 fun d ρ a ρ' e => by
  split at e
  · cases e; rfl
  · cases e) fun _ => pu_bnd h2 fun _ => pu_bnd h3 fun _ => pu_opt
end
end Dl
/-! Lent first arguments of defs with defaults. -/
namespace Dl
open PySem PySem.Spec PyProof.Rows L2
section
variable {P : Program} {w : World} {K : PySem.W.Frag} {mg : Str → Option Value} {base : Heap}
theorem fn_GG {x qual : Str} {params : Arguments} {body : List Stmt} {scope : Scope} {dvs : List V} {kws : List (Str × V)} {f : Addr} {fd : FuncData} {N ps : List Str} {k : Nat} {G : S} {g : D → List D → Option (D × D)} (F : FunD K x qual params body scope dvs kws f fd) (Sc : FnScope N ps scope) (hle : ps.length ≤ N.length)
    (hg : ∀ gd ds r, g gd ds = some r → ds.length + 1 = ps.length ∧ ∀ b, ∃ o, G (envG N.length b gd ds) = some o ∧ FinG b o r)
    (hbody : ∀ (cdv : Value) (A : Around) (outer : List PySem.Env) (s : Shared) (H : Hp) (E : XK), Room k (A.deeper (envOfC qual scope s.heap.objs.size f cdv)) → PSs (cxOf (L2.CX P w) P w K mg base N qual scope f cdv A outer s H E) body (tS K E G)) :
    FnOk P w K mg base (L2.CX P w) (k + 1) f fd ps (spG K g) := by
  refine F.ok Sc (fun vs H Q E ⟨b, xs, F', gd, ds, d, gd', ev, _, s, fb, ow, ra, e, _⟩ => ?_) fun cdv A outer s H vs Q E hr ⟨b, xs, F', gd, ds, d, gd', ev, tb, sm, fb, ow, ra, e, p⟩ => ⟨_, hbody cdv A outer s H E hr, ?_⟩
  · rw [ev, List.length_cons, ← ra.len]; exact (hg _ _ _ e).1
  · obtain ⟨hl, q⟩ := hg _ _ _ e
    obtain ⟨o, e1, fi⟩ := q b
    subst ev
    exact body_endG tb sm fb ow ra (by omega) e1 fi p
end
section
variable {X : Cx} {E : XK} {f g : M D} {i : Nat} {pos px : Pos}
/-- x, y = a, b where the stores keep their order: the second may be a new container -/
theorem s_tupX {j : Nat} {x y : Str} {a b : Expr} {py pt : Pos} {kt k2 pt2} {o2 : Bool} (hc : X.calm = true) (hN : X.N.Nodup) (hi : X.N[i]? = some x) (hj : X.N[j]? = some y)
    (hx : Loc X.env.scope x) (hy : Loc X.env.scope y) (ha : PE X a (tX X.K E false f)) (hb : PE X b (tX X.K E o2 g))
    (hf : X.fn x = true ∨ X.env.scope.names.lookup x = some .local := by first | exact .inl rfl | exact .inr rfl | assumption)
    (hf2 : X.fn y = true ∨ X.env.scope.names.lookup y = some .local := by first | exact .inl rfl | exact .inr rfl | assumption)
    (hw : swappedStores [.Tuple [.Name x px, .Name y py] kt pt] (.Tuple [a, b] k2 pt2) X.env = pure none := by rfl)
    (s1 : starEach [a, b] X.env = (false, eval a X.env) :: starEach [b] X.env := by rfl) (s2 : starEach [b] X.env = (false, eval b X.env) :: starEach [] X.env := by rfl)
    (hs : swapsWithSole [.Tuple [.Name x px, .Name y py] kt pt] (.Tuple [a, b] k2 pt2) pos.line X.env = pure false := by rfl)
    (h1 : (assignEach [.Tuple [.Name x px, .Name y py] kt pt] X.env).map (·.2) = [assign (.Tuple [.Name x px, .Name y py] kt pt) X.env] := by rfl) 
    (hn : (assignEach [.Name x px, .Name y py] X.env).length = 2 := by rfl) (hst : (assignEach [.Name x px, .Name y py] X.env).findIdx? (·.1) = none := by rfl)
    (h2 : (assignEach [.Name x px, .Name y py] X.env).map (·.2) = assign (.Name x px) X.env :: (assignEach [.Name y py] X.env).map (·.2) := by rfl)
    (h3 : (assignEach [.Name y py] X.env).map (·.2) = assign (.Name y py) X.env :: (assignEach [] X.env).map (·.2) := by rfl) :
    PS X (.Assign [.Tuple [.Name x px, .Name y py] kt pt] (.Tuple [a, b] k2 pt2) pos) (tS X.K E (sParX i j false o2 f g)) :=
  PS.imp (ps_asg (pe_tup (pa_cons ha (pa_cons hb pa_nil s2) s1)) (pg_tup hc (pgs_cons (pg_name hN hi hx hf) (pgs_cons (pg_name hN hj hy hf2) pgs_nil h3) h2) hn hst) hs hw h1) fun Dn σ H ⟨F0, H0, ρ, F, z, rel, e, po⟩ => by
    refine stepS rel e po fun ρ1 F1 H1 d1 v1 ss1 rel1 r1 e1 p1 ef1 => ?_
    refine stepS rel1 e1 p1 fun ρ2 F2 H2 d2 v2 ss2 rel2 r2 e2 p2 ef2 => ?_
    cases e2
    refine ⟨by show 2 ≤ sizeLine; decide, fun q hq => ?_⟩
    have x := Ext.laid (K := X.K) (o := .tup [v1, v2]) rel2.fh hq
    have rel3 := rel2.grow x
    have r1' : rX X.K false H0 ρ2 σ (upd F2 q (.tup [v1, v2])) (upd H2 q (.tup [v1, v2])) d1 v1 := (if_neg (by decide)).mpr (Rep.mono (.of x.ff) (Rep.mono (.of ss2) ((if_neg (by decide)).mp r1)))
    have r2' : rX X.K o2 H0 ρ2 σ (upd F2 q (.tup [v1, v2])) (upd H2 q (.tup [v1, v2])) d2 v2 := by
      cases o2 with
      | false => exact (if_neg (by decide)).mpr (Rep.mono (.of x.ff) ((if_neg (by decide)).mp r2))
      | true =>
        obtain ⟨b, rfl, fb, hb0, ow, ns⟩ := (if_pos rfl).mp r2
        obtain ⟨ob, ho, ic⟩ := ow.isC
        have ne : b ≠ q := ne_of_none ho hq
        exact (if_pos rfl).mpr ⟨b, rfl, by rw [upd_ne ne]; exact fb, hb0, Own.mono (.of x.ff) (fun o' _ h => by rw [upd_ne ne]; exact h) ow, ns⟩
    exact ⟨q, [v1, v2], rfl, SqT.of upd_same, rfl, v1, [v2], rfl, v2, [], rfl, rfl, p2 _ _ _ x.ff ((rel3.putX r1').putX (rX_after r2' fun t e z _ => nomatch z))⟩
end
end Dl
/-! Sets of tuples with unlike hashes, up to 200 of them: the table. -/
namespace Ws
open PySem PySem.Spec PyProof.Rows L2

/-! ### the round of 512 slots, by where each number stands on it -/
def stand : List Nat := [0, 1, 326, 495, 412, 365, 2, 379, 376, 281, 254, 327, 404, 261, 58, 339, 496, 305, 438, 415, 140, 413, 370, 43, 360, 73, 366, 247, 132, 309, 426, 3, 480, 97, 38, 335, 380, 461, 226, 219, 344, 377, 478, 167, 372, 357, 282, 179, 464, 401, 150, 255, 108, 509, 82, 395, 328, 169, 78, 87, 100, 405, 138, 355, 448, 193, 262, 175, 348, 45, 450, 59, 312, 473, 190, 7, 340, 453, 506, 19, 432, 497, 374, 95, 76, 93, 306, 235, 296, 265, 302, 439, 68, 501, 362, 195, 416, 289, 486, 15, 316, 141, 162, 411, 280, 57, 414, 359, 308, 37, 218, 371, 400, 81, 86, 447, 44, 189, 18, 75, 264, 361, 14, 279, 36, 85, 74, 35, 384, 385, 198, 367, 284, 237, 386, 251, 248, 153, 126, 199, 276, 133, 442, 211, 368, 177, 310, 287, 12, 285, 242, 427, 232, 457, 238, 119, 4, 181, 298, 387, 352, 481, 422, 207, 252, 333, 98, 91, 216, 249, 350, 39, 244, 229, 154, 51, 336, 273, 22, 127, 492, 381, 466, 267, 200, 41, 462, 471, 484, 277, 10, 227, 320, 65, 134, 47, 220, 429, 322, 443, 184, 345, 62, 391, 212, 325, 378, 403, 304, 369, 246, 479, 460, 477, 178, 107, 168, 137, 174, 311, 452, 373, 234, 67, 288, 161, 358, 399, 188, 13, 34, 283, 152, 441, 286, 231, 180, 421, 90, 243, 272, 465, 470, 319, 428, 61, 402, 459, 136, 233, 398, 151, 420, 469, 458, 419, 256, 257, 70, 239, 156, 109, 258, 123, 120, 25, 510, 71, 148, 5, 314, 83, 240, 49, 182, 159, 396, 157, 114, 299, 104, 329, 110, 503, 388, 53, 170, 259, 224, 353, 294, 79, 124, 205, 482, 475, 88, 121, 222, 423, 116, 101, 26, 435, 208, 145, 406, 511, 364, 253, 338, 139, 72, 425, 334, 343, 356, 149, 394, 99, 192, 449, 6, 431, 92, 301, 194, 315, 56, 217, 446, 263, 84, 197, 250, 275, 176, 241, 118, 351, 332, 349, 50, 491, 40, 9, 46, 183, 324, 245, 106, 451, 160, 33, 230, 271, 60, 397, 418, 155, 24, 313, 158, 103, 52, 293, 474, 115, 144, 337, 342, 191, 300, 445, 274, 331, 8, 105, 270, 23, 292, 341, 330, 291, 128, 129, 454, 111, 28, 493, 130, 507, 504, 409, 382, 455, 20, 389, 186, 467, 112, 433, 54, 31, 268, 29, 498, 171, 488, 201, 494, 375, 260, 437, 42, 131, 96, 225, 166, 463, 508, 77, 354, 347, 472, 505, 94, 295, 500, 485, 410, 307, 80, 17, 278, 383, 236, 125, 210, 11, 456, 297, 206, 215, 228, 21, 266, 483, 64, 321, 390, 303, 476, 173, 66, 187, 440, 89, 318, 135, 468, 69, 122, 147, 48, 113, 502, 223, 204, 221, 434, 363, 424, 393, 430, 55, 196, 117, 490, 323, 32, 417, 102, 143, 444, 269, 290, 27, 408, 185, 30, 487, 436, 165, 346, 499, 16, 209, 214, 63, 172, 317, 146, 203, 392, 489, 142, 407, 164, 213, 202, 163]
def onRound (b : Nat) : Nat := (5 ^ b - 1) / 4 % 512
theorem lcgN_closed : ∀ b, lcgN 511 b = onRound b ∧ 5 ^ b % 4 = 1
  | 0 => ⟨by decide, by decide⟩
  | b + 1 => by
    obtain ⟨h, g⟩ := lcgN_closed b
    have e : lcgN 511 (b + 1) = (lcgN 511 b * 5 + 1) % 512 := rfl
    rw [e, h]
    unfold onRound
    rw [Nat.pow_succ]
    generalize 5 ^ b = z at g
    omega
theorem stand_ok : ((stand.zip (List.range 512)).all fun p => onRound p.1 == p.2 && Nat.blt p.1 512) = true := by decide +kernel
theorem round_has {j : Nat} (hj : j ≤ 511) : ∃ b, b ≤ 511 ∧ lcgN 511 b = j := by
  have hl : j < stand.length := Nat.lt_succ_of_le hj
  have hr : j < (List.range 512).length := by rw [List.length_range]; omega
  have hm : (stand[j], j) ∈ stand.zip (List.range 512) := by
    refine List.mem_of_getElem? (i := j) ?_
    rw [List.getElem?_zip_eq_some]
    exact ⟨List.getElem?_eq_getElem hl, by rw [List.getElem?_eq_getElem hr, List.getElem_range]⟩
  have a := List.all_eq_true.mp stand_ok _ hm
  rw [Bool.and_eq_true, beq_iff_eq, Nat.blt_eq] at a
  exact ⟨stand[j], Nat.le_of_lt_succ a.2, by rw [(lcgN_closed _).1]; exact a.1⟩
theorem round_ends : ∀ k, lcgN 511 (512 + k) = lcgN 511 k
  | 0 => by rw [(lcgN_closed _).1, (lcgN_closed _).1]; decide +kernel
  | k + 1 => congrArg (fun z => (z * 5 + 1) % 512) (round_ends k)
/-- the masks -/
def Mk (m : Nat) : Prop := MaskOk m ∨ m = 511
theorem Mk.odd {m : Nat} (h : Mk m) : m % 2 = 1 := by
  rcases h with h | rfl
  · exact mask_odd h
  · rfl
theorem Mk.le {m : Nat} (h : Mk m) : m ≤ 511 := by
  rcases h with (rfl | rfl | rfl) | rfl <;> decide
/-- each slot begins some run -/
theorem Mk.begins {m : Nat} (hm : Mk m) (h : Int) {j : Nat} (hj : j ≤ m) : ∃ n, n ≤ m + 12 ∧ runI m (SetTable.bits h) n = j := by
  rcases hm with hm | rfl
  · exact run_meets hm h hj
  · obtain ⟨a, a1, a2⟩ := round_has (runI_le 511 (SetTable.bits h) 12)
    obtain ⟨b, b1, b2⟩ := round_has hj
    have key : ∀ k, a + k = b ∨ a + k = 512 + b → runI 511 (SetTable.bits h) (12 + k) = j := fun k hk => by
      rw [runI_tail (bits_lt h), ← a2, lcgN_add]
      rcases hk with z | z
      · rw [z, b2]
      · rw [z, round_ends, b2]
    rcases Nat.lt_or_ge b a with c | c
    · exact ⟨12 + (512 + b - a), by omega, key _ (.inr (by omega))⟩
    · exact ⟨12 + (b - a), by omega, key _ (.inl (by omega))⟩
/-- the first place of the way that a short list leaves out -/
theorem Mk.first {m : Nat} (hm : Mk m) (h : Int) {l : List Nat} (hl : l.length ≤ m) : ∃ K, K < 10 * SetTable.turns m ∧ way m h K ∉ l ∧ ∀ k, k < K → way m h k ∈ l := by
  obtain ⟨j, j1, j2⟩ := st_missing l (m + 1) (Nat.lt_succ_of_le hl)
  obtain ⟨n, n1, n2⟩ := hm.begins h (Nat.le_of_lt_succ j1)
  obtain ⟨k, k1, k2⟩ := run_nth m (SetTable.bits h) n
  have z : way m h k ∉ l := by
    show (nth m (runAt m (SetTable.bits h % (m + 1)) (SetTable.bits h)) k).j ∉ l
    rw [k2]
    show runI m (SetTable.bits h) n ∉ l
    rw [n2]
    exact j2
  obtain ⟨K, K1, K2, K3⟩ := st_least (p := fun k => way m h k ∉ l) k z
  exact ⟨K, by unfold SetTable.turns; omega, K2, fun q hq => Classical.byContradiction fun y => K3 q hq y⟩
/-- a free place is found where there is one -/
theorem Mk.free {m : Nat} (hm : Mk m) (ow : Array (Option Nat)) (h : Int) {j : Nat} (hj : j ≤ m) (hf : oAt ow j = none) :
    ∃ q, q ≤ m ∧ oAt ow q = none ∧ SetTable.layClean.free m ow (SetTable.turns m) (SetTable.bits h % (m + 1)) (SetTable.bits h) = some q := by
  obtain ⟨n, n1, n2⟩ := hm.begins h hj
  let b := SetTable.bits h
  have e : (nth m (runAt m (b % (m + 1)) b) (off m (b % (m + 1)) b n)).j = j := by
    rw [nth_off, itL_run]
    exact n2
  obtain ⟨K, K1, K2, K3⟩ := st_least (p := fun k => oAt ow (nth m (runAt m (b % (m + 1)) b) k).j = none) _ (by show oAt ow _ = none; rw [e]; exact hf)
  refine ⟨(nth m (runAt m (b % (m + 1)) b) K).j, ?_, K2, free_spec m ow _ n _ _ K (by unfold SetTable.turns; omega) K1 (fun k hk => ?_) (by rw [K2] <;> rfl)⟩
  · have r := runEnd_bd (m := m) (i := b % (m + 1)) (Nat.le_of_lt_succ (Nat.mod_lt _ (Nat.succ_pos _)))
    have := nth_in (m := m) K (runAt m (b % (m + 1)) b) (by show b % (m + 1) + (SetTable.runEnd m (b % (m + 1)) - b % (m + 1)) ≤ m; omega)
    omega
  · cases z : oAt ow (nth m (runAt m (b % (m + 1)) b) k).j with
    | none => exact absurd z (K3 k hk)
    | some _ => rfl

/-! ### laying all anew -/
/-- n numbers are laid -/
structure Laid (m n : Nat) (ow : Array (Option Nat)) : Prop where
  size : ow.size = m + 1
  few : ∃ ps : List Nat, ps.length = n ∧ ∀ j, j ≤ m → oAt ow j ≠ none → j ∈ ps
  has : ∀ k, k < n → ∃ j, j ≤ m ∧ oAt ow j = some k
theorem Laid.more {m n : Nat} {ow : Array (Option Nat)} (hm : Mk m) (W : Laid m n ow) (hn : n ≤ m) (h : Int) : ∃ ow', stepF m (some (ow, n)) h = some (ow', n + 1) ∧ Laid m (n + 1) ow' := by
  obtain ⟨ps, p1, p2⟩ := W.few
  obtain ⟨j, j1, j2⟩ := st_missing ps (m + 1) (by omega)
  have jn : oAt ow j = none := Classical.byContradiction fun z => j2 (p2 j (Nat.le_of_lt_succ j1) z)
  obtain ⟨q, q1, q2, q3⟩ := hm.free ow h (Nat.le_of_lt_succ j1) jn
  have qs : q < ow.size := by rw [W.size]; omega
  have self := oAt_set_self (some n) qs
  refine ⟨_, stepF_some q3, by rw [Array.size_setIfInBounds]; exact W.size, ⟨q :: ps, by rw [List.length_cons, p1], fun i hi z => ?_⟩, fun k hk => ?_⟩
  · by_cases c : i = q
    · exact List.mem_cons.mpr (.inl c)
    · rw [oAt_set_ne _ c] at z
      exact List.mem_cons_of_mem _ (p2 i hi z)
  · by_cases c : k = n
    · exact ⟨q, q1, by rw [self, c]⟩
    · obtain ⟨i, i1, i2⟩ := W.has k (by omega)
      exact ⟨i, i1, by rw [oAt_set_ne _ fun z => (by rw [z, q2] at i2; cases i2)]; exact i2⟩
theorem laid_all {m : Nat} (hm : Mk m) : ∀ (hs : List Int) (n : Nat) (ow : Array (Option Nat)), Laid m n ow → n + hs.length ≤ m + 1 → ∃ ow', hs.foldl (stepF m) (some (ow, n)) = some (ow', n + hs.length) ∧ Laid m (n + hs.length) ow'
  | [], n, ow, W, _ => ⟨ow, rfl, W⟩
  | h :: hs, n, ow, W, hl => by
    rw [List.length_cons] at hl
    obtain ⟨o1, e1, W1⟩ := W.more hm (by omega) h
    obtain ⟨o2, e2, W2⟩ := laid_all hm hs (n + 1) o1 W1 (by omega)
    refine ⟨o2, ?_, by rw [List.length_cons, show n + (hs.length + 1) = n + 1 + hs.length by omega]; exact W2⟩
    rw [List.foldl_cons, e1, e2, List.length_cons, show n + (hs.length + 1) = n + 1 + hs.length by omega]
theorem anew {m : Nat} (hm : Mk m) (t : SetTable) (hs : Array Int) (wanted : Nat) (hw : SetTable.sizeAbove wanted = m + 1) (hl : hs.size ≤ m) :
    ∃ t' order, t.relaid hs wanted = some (t', order) ∧ order.toList.Perm (List.range hs.size) ∧ Ris t'.place.toList ∧ t'.place.size = hs.size ∧ t'.mask = m ∧ t'.led = t.led ∧ t'.plain = t.plain ∧ t'.dummies = #[] := by
  have W0 : Laid m 0 (Array.replicate (m + 1) none) := ⟨by simp, ⟨[], rfl, fun j hj z => absurd (oAt_init hj) z⟩, fun k hk => absurd hk (Nat.not_lt_zero _)⟩
  obtain ⟨ow, e, W⟩ := laid_all hm hs.toList 0 _ W0 (by rw [Array.length_toList]; omega)
  rw [Nat.zero_add, Array.length_toList] at e W
  have r := ris_live (fun j => ow.getD j none) (List.range (m + 1)) (by unfold Ris; exact List.pairwise_lt_range)
  have r1 : Ris ((liveOf m ow).map (·.1)) := r.1
  obtain ⟨ps, p1, p2⟩ := W.few
  have a : ((liveOf m ow).map (·.1)).length ≤ ps.length := nat_nodup_len _ ps (r1.imp Nat.ne_of_lt) fun x hx => by
    obtain ⟨⟨y, k⟩, h1, rfl⟩ := List.mem_map.mp hx
    obtain ⟨h2, h3⟩ := (mem_live W.size).1 h1
    exact p2 _ h2 (by rw [h3]; exact fun z => nomatch z)
  have up : ∀ k, k < hs.size → k ∈ (liveOf m ow).map (·.2) := fun k hk => by
    obtain ⟨j, j1, j2⟩ := W.has k hk
    exact List.mem_map.mpr ⟨(j, k), (mem_live W.size).2 ⟨j1, j2⟩, rfl⟩
  have b : (List.range hs.size).length ≤ ((liveOf m ow).map (·.2)).length := nat_nodup_len _ _ List.nodup_range fun k hk => up k (List.mem_range.mp hk)
  rw [List.length_map] at a b
  rw [List.length_range] at b
  have len : (liveOf m ow).length = hs.size := by omega
  refine ⟨tabOf t m ow, ((liveOf m ow).map (·.2)).toArray, ?_, ?_, r1, ?_, rfl, rfl, rfl, rfl⟩
  · rw [relaid_eq, hw, show m + 1 - 1 = m from rfl, layClean_eq, e] <;> rfl
  · exact perm_range hs.size _ (by show ((liveOf m ow).map (·.2)).length = _; rw [List.length_map, len]) up
  · show ((liveOf m ow).map (·.1)).toArray.size = _
    rw [List.size_toArray, List.length_map, len]
theorem pick_all {α : Type} : ∀ xs : List α, (List.range xs.length).filterMap (fun i => xs[i]?) = xs
  | [] => rfl
  | x :: xs => by
    rw [List.length_cons, List.range_succ_eq_map, List.filterMap_cons_some (f := fun i => (x :: xs)[i]?) (a := 0) (b := x) rfl, List.filterMap_map]
    exact congrArg (x :: ·) (pick_all xs)
theorem pick_perm' {α : Type} {es : Array α} {order : Array Nat} (h : order.toList.Perm (List.range es.size)) : (order.filterMap (es[·]?)).toList.Perm es.toList := by
  have e : (order.filterMap (es[·]?)).toList = order.toList.filterMap fun i => es.toList[i]? := by
    rw [Array.toList_filterMap]
    exact congrArg (fun f => List.filterMap f order.toList) (funext fun i => (Array.getElem?_toList).symm)
  rw [e]
  have p := h.filterMap fun i => es.toList[i]?
  rwa [← Array.length_toList, pick_all] at p
end Ws
/-! .. what the set is; one more is added. -/
namespace Ws
open PySem PySem.Spec PyProof.Rows L2
abbrev Row : Type := Addr × List Int
/-- the set at a has just the tuples of L -/
structure Holds (P : Program) (w : World) (h : Heap) (a : Addr) (L : List Row) (es : Array (Int × Value)) (ep : Nat) (t : SetTable) : Prop where
  ob : ∃ o, h.get? a = some o ∧ o.ExactSet ∧ o.data = .set es ep t
  rows : es.toList.Perm (rowsOf P w L)
  ris : Ris t.place.toList
  dm : t.dummies = #[]
  sz : t.place.size = es.size
  ms : Mk t.mask
  plain : t.plain = true
  led : w.params.followText "set-order" = true ∨ t.led = true
  room : es.size * 5 < t.mask * 3
  few : es.size ≤ 200
section
variable {P : Program} {w : World} {A : Around} {E : Value → Shared → Prop} {s : Shared} {h : Heap} {a : Addr} {L : List Row} {es : Array (Int × Value)} {ep : Nat} {t : SetTable}
theorem Holds.len (R : Holds P w h a L es ep t) : es.size = L.length := by
  have := R.rows.length_eq
  unfold rowsOf at this
  rwa [Array.length_toList, List.length_map] at this
theorem fits_of (dm : t.dummies = #[]) (sz : t.place.size = es.size) (l : es.size ≤ t.mask) : t.fits es.size = true := by
  unfold SetTable.fits SetTable.fill
  rw [dm, sz, Bool.and_eq_true, beq_iff_eq, decide_eq_true_eq]
  exact ⟨rfl, l⟩
theorem Holds.fits (R : Holds P w h a L es ep t) : t.fits es.size = true := fits_of R.dm R.sz (by have := R.room; omega)
/-- where a new one goes -/
theorem Holds.look (R : Holds P w s.heap a L es ep t) {x : Addr} {k : Int} (hn : ∀ p ∈ L, thash P w p.2 ≠ k) {Q : SetFound → Shared → Prop} (q : ∀ j, j ∉ t.place.toList → Q (.free j false) s) : wpAny (model P w) A (setSearch a (.ref x) k true) Q E s := by
  obtain ⟨o, ho, hex, hd⟩ := R.ob
  have hl : t.place.toList.length ≤ t.mask := by
    have h1 := R.sz
    have h2 := R.room
    rw [Array.length_toList]
    omega
  obtain ⟨K, K1, K2, K3⟩ := R.ms.first k hl
  have gone : t.probe (fun i => (es[i]?.map (·.1)).getD 0) k (t.probeStart k) = some (.empty (way t.mask k K) none) := by
    rcases go_spec t R.ris R.dm (fun i => (es[i]?.map (·.1)).getD 0) k (10 * SetTable.turns t.mask) K (t.probeStart k) rfl K1 K3 K2 with ⟨c, i, c1, c2, c3, _⟩ | ⟨_, c2⟩
    · exfalso
      have hi : i < es.size := by
        have h1 : i < t.place.toList.length := (List.getElem?_eq_some_iff.mp c2).1
        rw [Array.length_toList, R.sz] at h1
        exact h1
      have e1 : es[i]? = some es[i] := Array.getElem?_eq_getElem hi
      replace c3 : (es[i]?.map (·.1)).getD 0 = k := c3
      rw [e1] at c3
      have hm : es[i] ∈ es.toList := Array.mem_def.mp (Array.getElem_mem hi)
      obtain ⟨p, hp, e2⟩ := List.mem_map.mp (R.rows.mem_iff.mp hm)
      refine hn p hp ?_
      rw [← e2] at c3
      exact c3
    · exact c2
  have gw : ¬ t.gaveWay = true := by
    unfold SetTable.gaveWay
    rw [R.ms.odd]
    decide
  unfold setSearch
  rw [show (100000 : Nat) = 99999 + 1 from rfl, setSearchFrom_succ]
  refine wpAny_bind (wpAny_setState_of ho hd R.fits (wp_if_neg gw ?_))
  try refine wpAny_bind (wpAny_pure ?_)
  rw [show (none : Option SetTable.Probe).getD (t.probeStart k) = t.probeStart k from rfl, gone]
  exact wpAny_pure (q _ K2)
/-- the sizes that come -/
theorem grows {m n : Nat} (hm : Mk m) (hr : n * 5 < m * 3) (hf : m * 3 ≤ (n + 1) * 5) (hn : n < 200) : ∃ M, Mk M ∧ SetTable.sizeAbove (SetTable.grown (n + 1)) = M + 1 ∧ (n + 1) * 5 < M * 3 ∧ n + 1 ≤ m := by
  rcases hm with (rfl | rfl | rfl) | rfl
  · obtain rfl : n = 4 := by omega
    exact ⟨31, .inl (.inr (.inl rfl)), by decide +kernel, by decide, by decide⟩
  · obtain rfl : n = 18 := by omega
    exact ⟨127, .inl (.inr (.inr rfl)), by decide +kernel, by decide, by decide⟩
  · obtain rfl : n = 76 := by omega
    exact ⟨511, .inr rfl, by decide +kernel, by decide, by decide⟩
  · omega
/-- laid anew -/
theorem relay {o : Obj} (ho : s.heap.get? a = some o) (hex : o.ExactSet) (hd : o.data = .set es ep t) (rows : es.toList.Perm (rowsOf P w L)) (dm : t.dummies = #[]) (sz : t.place.size = es.size) (lm : es.size ≤ t.mask)
    (pl : t.plain = true) (ld : w.params.followText "set-order" = true ∨ t.led = true) (few : es.size ≤ 200) {wanted M : Nat} (hM : Mk M) (hw : SetTable.sizeAbove wanted = M + 1) (hr : es.size * 5 < M * 3) {Q : Unit → Shared → Prop}
    (q : ∀ h' es' ep' t', Heap.SameBut a s.heap h' → Holds P w h' a L es' ep' t' → Q () { s with heap := h' }) : wpAny (model P w) A (setRelay a wanted) Q E s := by
  obtain ⟨t', order, e, pm, r1, r2, r3, r4, r5, r6⟩ := anew hM t (es.map (·.1)) wanted hw (by rw [Array.size_map]; omega)
  rw [Array.size_map] at pm r2
  have pp := pick_perm' pm
  have zz : (order.filterMap (es[·]?)).size = es.size := by
    have := pp.length_eq
    rwa [Array.length_toList, Array.length_toList] at this
  rw [setRelay_eq]
  refine wpAny_bind (wpAny_setState_of ho hd (fits_of dm sz lm) ?_)
  have hle := hM.le
  refine wp_if_neg (by rw [sizeLine_eq, hw]; omega) ?_
  try refine wpAny_bind (wpAny_pure ?_)
  rw [e]
  refine wpAny_bind (wp_if_neg (by rw [zz]; simp) ?_)
  try refine wpAny_bind (wpAny_pure ?_)
  refine wpAny_pure (wpAny_storeSet_of ho hd ?_ (by rw [zz, sizeLine_eq]; omega))
  refine q _ _ (ep + 1) t' (Heap.SameBut.update ..) ⟨⟨_, store_at ho hd, ⟨hex.1, hex.2.1, hex.2.2⟩, rfl⟩, pp.trans rows, r1, r6, by rw [r2, zz], by rw [r3]; exact hM, by rw [r5]; exact pl, by rw [r4]; exact ld, by rw [zz, r3]; exact hr, by rw [zz]; exact few⟩
/-- one more -/
theorem Holds.add (R : Holds P w s.heap a L es ep t) {x : Addr} {k : List Int} (hx : IsT P w s.heap k x) (hn : ∀ p ∈ L, thash P w p.2 ≠ thash P w k) (few : L.length < 200) {Q : Bool → Shared → Prop}
    (q : ∀ h' es' ep' t', Heap.SameBut a s.heap h' → Holds P w h' a ((x, k) :: L) es' ep' t' → Q true { s with heap := h' }) : wpAny (model P w) A (setAddHashed a (.ref x) (thash P w k)) Q E s := by
  obtain ⟨o, ho, hex, hd⟩ := R.ob
  have hl := R.len
  unfold setAddHashed
  refine wpAny_holding ?_
  rw [show (100000 : Nat) = 99999 + 1 from rfl, setAddHashedIn_succ]
  refine wpAny_bind (wpAny_setState_of ho hd R.fits (wp_if_neg (by simp [byScan, Value.scannable]) ?_))
  try refine wpAny_bind (wpAny_pure ?_)
  refine wpAny_bind (R.look hn fun j hj => ?_)
  dsimp only
  refine wpAny_bind (wpAny_setState_of ho hd R.fits ?_)
  have np : t.place[SetTable.below t.place j]? ≠ some j := fun e => hj (List.mem_of_getElem? (by rw [Array.getElem?_toList]; exact e))
  have ris1 : Ris (t.put j).1.place.toList := ris_insert R.ris np
  have dm1 : (t.put j).1.dummies = #[] := put_dm R.dm j
  obtain ⟨c1, _, _⟩ := below_cut R.ris j
  have sz1 : (t.put j).1.place.size = es.size + 1 := by
    rw [← Array.length_toList, put_place, len_ins _ (by rw [Array.length_toList]; exact c1), Array.length_toList, R.sz]
  have pm1 : (SetTable.insertAt es (SetTable.below t.place j) (thash P w k, Value.ref x)).toList.Perm (rowsOf P w ((x, k) :: L)) := by
    rw [SetTable.toList_insertAt]
    exact (put_perm _ _ _).trans (R.rows.cons _)
  have es1 : (SetTable.insertAt es (SetTable.below t.place j) (thash P w k, Value.ref x)).size = es.size + 1 := by
    have := pm1.length_eq
    unfold rowsOf at this
    rw [Array.length_toList, List.length_map, List.length_cons] at this
    omega
  have pl1 : (t.put j).1.plain = true := R.plain
  have mk1 : (t.put j).1.mask = t.mask := rfl
  have ld1 : (t.put j).1.led = t.led := rfl
  have p1 : (t.put j).2 = SetTable.below t.place j := rfl
  generalize hpt : t.put j = pt at ris1 dm1 sz1 pl1 mk1 ld1 p1 ⊢
  obtain ⟨t1, p⟩ := pt
  dsimp only at ris1 dm1 sz1 pl1 mk1 ld1 p1 ⊢
  subst p1
  first
    | (refine wpAny_bind ?_; refine wp_if_pos pl1 ?_; refine hashBy_tup hx ?_)
    | refine wp_if_pos pl1 (wpAny_bind (hashBy_tup hx ?_))
  simp only [if_true]
  generalize SetTable.insertAt es (SetTable.below t.place j) (thash P w k, Value.ref x) = e1 at pm1 es1 ⊢
  have hroom := R.room
  refine wpAny_bind (wpAny_storeSet_of ho hd ?_ (by rw [es1, sizeLine_eq]; omega))
  have sb : Heap.SameBut a s.heap (s.heap.update a (Obj.putSet e1 t1)) := Heap.SameBut.update ..
  have o1 := store_at (es' := e1) (t' := t1) ho hd
  generalize s.heap.update a (Obj.putSet e1 t1) = h1 at sb o1 ⊢
  have full : t1.tooFull = decide (t.mask * 3 ≤ (L.length + 1) * 5) := by
    unfold SetTable.tooFull SetTable.fill
    rw [dm1, sz1, mk1, hl] <;> rfl
  have led1 : w.params.followText "set-order" = true ∨ t1.led = true := by rw [ld1]; exact R.led
  by_cases hf : t1.tooFull = true
  · obtain ⟨M, M1, M2, M3, M4⟩ := grows R.ms (by rw [← hl]; exact hroom) (of_decide_eq_true (full ▸ hf)) few
    first
      | (refine wpAny_bind ?_; refine wp_if_pos (by simp [hf]) ?_)
      | (refine wp_if_pos (by simp [hf]) ?_; refine wpAny_bind ?_)
    rw [hl]
    refine relay (s := { s with heap := h1 }) o1 ⟨hex.1, hex.2.1, hex.2.2⟩ rfl pm1 dm1 (by rw [sz1, es1]) (by rw [es1, mk1, hl]; exact M4) pl1 led1 (by rw [es1, hl]; exact few) M1 M2 (by rw [es1, hl]; exact M3) fun h2 e2 ep2 t2 sb2 R2 => ?_
    exact wpAny_pure (q h2 e2 ep2 t2 (sb.trans sb2) R2)
  · first
      | refine wp_if_neg (by simp [hf]) ?_
      | (refine wpAny_bind ?_; refine wp_if_neg (by simp [hf]) ?_; refine wpAny_pure ?_)
    have nf : ¬ t.mask * 3 ≤ (L.length + 1) * 5 := fun z => hf (by rw [full]; exact decide_eq_true z)
    exact wpAny_pure (q h1 e1 (ep + 1) t1 sb ⟨⟨_, o1, ⟨hex.1, hex.2.1, hex.2.2⟩, rfl⟩, pm1, ris1, dm1, by rw [sz1, es1], by rw [mk1]; exact R.ms, pl1, led1, by rw [es1, mk1]; omega, by rw [es1]; omega⟩)
end
end Ws
/-! .. set(xs) of a list of such tuples. -/
namespace Ws
open PySem PySem.Spec PyProof.Rows L2
section
variable {P : Program} {w : World} {A : Around} {E : Value → Shared → Prop} {s : Shared}
theorem Holds.still {h h' : Heap} {a : Addr} {L : List Row} {es : Array (Int × Value)} {ep : Nat} {t : SetTable} (R : Holds P w h a L es ep t) (k : ∀ o, h.get? a = some o → h'.get? a = some o) : Holds P w h' a L es ep t :=
  let ⟨o, ho, r⟩ := R.ob
  ⟨⟨o, k o ho, r⟩, R.rows, R.ris, R.dm, R.sz, R.ms, R.plain, R.led, R.room, R.few⟩
abbrev freshT (w : World) : SetTable := .fresh 0 0 (!w.params.followText "set-order")
abbrev freshO (w : World) : Obj := { cls := .type "set", dict := none, data := .set #[] 0 (freshT w) }
theorem holds_none {h : Heap} {a : Addr} (ho : h.get? a = some (freshO w)) : Holds P w h a [] #[] 0 (freshT w) where
  ob := ⟨_, ho, ⟨rfl, rfl, rfl⟩, rfl⟩
  rows := List.Perm.refl _
  ris := List.Pairwise.nil
  dm := rfl
  sz := rfl
  ms := .inl (.inl rfl)
  plain := rfl
  led := by
    show _ ∨ (!w.params.followText "set-order") = true
    cases w.params.followText "set-order" <;> simp
  room := (by decide : 0 * 5 < 7 * 3)
  few := Nat.zero_le _
theorem take_rev {α : Type} {l : List α} {i : Nat} {x : α} (h : l[i]? = some x) : (l.take (i + 1)).reverse = x :: (l.take i).reverse := by
  rw [take_next h, List.reverse_append] <;> rfl
/-- the loop of set.update -/
theorem upd_loop {I : Addr} {fp wr : List Addr} {G : Array GenState → Array GenState → Prop} {n : Nat} {Pv : Nat → Value → Prop} {St : Nat → Shared → Prop} {R : Result → Shared → Prop} (W : WalksS P w A.in1 I fp wr G n Pv St) (S : Addr) (out : S ∉ fp) (ks : List Row)
    (hn : ks.length = n) (few : n ≤ 200) (dis : (ks.map fun p => thash P w p.2).Nodup) (val : ∀ i v, Pv i v → ∃ p, ks[i]? = some p ∧ v = .ref p.1) (h0 : Heap) (tup : ∀ p ∈ ks, IsT P w h0 p.2 p.1) (noS : h0.get? S = none) (noW : ∀ b ∈ wr, h0.get? b = none) (hu : A.in1.units < cLine) :
    ∀ (d i : Nat) (s : Shared), i + d = n → St i s → (∀ b o, h0.get? b = some o → s.heap.get? b = some o) → (∃ es ep t, Holds P w s.heap S (ks.take i).reverse es ep t) →
      (∀ s' es ep t, Moved (S :: wr) G s s' → Holds P w s'.heap S ks.reverse es ep t → (∀ b o, h0.get? b = some o → s'.heap.get? b = some o) → R (.ok (.ret .none)) s') → codeAny (model P w) A (.builtin "set.update.loop" ⟨[.ref S, .ref I], []⟩) R s := by
  have offW : S ∉ wr := fun z => out (W.sub _ z)
  have widen : ∀ b ∈ wr, b ∈ S :: wr := fun b z => List.mem_cons_of_mem _ z
  have carry : ∀ {u v : Shared}, Moved wr G u v → (∀ b o, h0.get? b = some o → u.heap.get? b = some o) → ∀ b o, h0.get? b = some o → v.heap.get? b = some o := fun m c b o e => m.heap b o (fun z => nomatch (noW b z).symm.trans e) (c b o e)
  intro d
  induction d with
  | zero =>
    intro i s hi st kp ⟨es, ep, t, hS⟩ fin
    obtain rfl : i = n := hi
    refine codeAny_builtin F.entry_set_update_loop (?_ : wpAny _ _ _ _ _ _)
    rw [Around.under_plainId F.plain_set_update_loop _]
    refine wpAny_bind (m := pyNext (.ref I)) (W.done s _ _ st fun v m => wpAny_pure ?_)
    rw [← hn, List.take_length] at hS
    exact fin v es ep t (m.mono widen) (hS.still fun o e => m.heap S o offW e) (carry m kp)
  | succ d ih =>
    intro i s hi st kp ⟨es, ep, t, hS⟩ fin
    refine codeAny_builtin F.entry_set_update_loop (?_ : wpAny _ _ _ _ _ _)
    rw [Around.under_plainId F.plain_set_update_loop _]
    refine wpAny_bind (m := pyNext (.ref I)) (W.item i s _ _ (by omega) st fun x v px st' m => ?_)
    obtain ⟨p, hp, rfl⟩ := val i x px
    have kp' := carry m kp
    have hx : IsT P w v.heap p.2 p.1 := isT_keep (tup p (List.mem_of_getElem? hp)) kp'
    have new : ∀ q ∈ (ks.take i).reverse, thash P w q.2 ≠ thash P w p.2 := fun q hq => by
      have hq := List.mem_reverse.mp hq
      have hp1 : ks.take (i + 1) = ks.take i ++ [p] := take_next hp
      have nd : ((ks.take (i + 1)).map fun p => thash P w p.2).Nodup := (List.Sublist.map _ (List.take_sublist _ _)).nodup dis
      rw [hp1, List.map_append, List.nodup_append] at nd
      exact nd.2.2 _ (List.mem_map.mpr ⟨q, hq, rfl⟩) _ (List.mem_singleton.mpr rfl)
    show wpAny _ A.in1 (holding [Value.ref p.1] (setAdd S (.ref p.1)) >>= _) _ _ v
    refine wpAny_bind (wpAny_holding ?_)
    unfold setAdd
    refine wpAny_holding (wpAny_bind (wpAny_pyHash_tuple hu hx ?_))
    refine Holds.add (s := { v with toks := v.toks + (p.2.length + 1) }) (hS.still fun o e => m.heap S o offW e) hx new (by rw [List.length_reverse, List.length_take]; omega) fun h' es' ep' t' sb hS' => ?_
    rw [← take_rev hp] at hS'
    have kp2 : ∀ b o, h0.get? b = some o → h'.get? b = some o := fun b o e => (sb.2 b fun z => (by rw [z, noS] at e; cases e)).trans (kp' b o e)
    refine wpAny_pure ⟨plainId_quiet F.plain_set_update_loop _, ih (i + 1) _ (by omega) (W.frame _ v _ _ st' (Nat.le_add_right _ _) fun b hb o e => ?_) kp2 ⟨es', ep', t', hS'⟩ fun v2 e2 ep2 t2 m2 hS2 kp3 => ?_⟩
    · exact (sb.2 b fun z : b = S => out (z ▸ hb)).trans e
    · refine fin v2 e2 ep2 t2 (Moved.trans W.gtrans ((m.mono widen).then_heap (Nat.le_add_right _ _) fun b o hb e => ?_) m2) hS2 kp3
      exact (sb.2 b fun z : b = S => hb (List.mem_cons.mpr (.inl z))).trans e
end
end Ws
/-! .. the call. -/
namespace Ws
open PySem PySem.Spec PyProof.Rows L2
section
variable {P : Program} {w : World} {A : Around} {E : Value → Shared → Prop} {s : Shared}
abbrev hp1 (w : World) (s : Shared) : Heap := s.heap.push (freshO w)
theorem none_at {h : Heap} {b : Addr} (l : h.objs.size ≤ b) : h.get? b = none := by
  cases q : h.get? b with
  | none => rfl
  | some o => exact absurd (Heap.lt_size q) (Nat.not_lt_of_le l)
/-- what the new set's making comes to -/
def Came (P : Program) (w : World) (s : Shared) (ks : List Row) (r : Value) (v : Shared) : Prop := r = .none ∧ ∃ (h' : Heap) (tk : Nat) (es : Array (Int × Value)) (ep : Nat) (t : SetTable), v = { s with heap := h', toks := tk } ∧ Holds P w h' s.heap.objs.size ks.reverse es ep t ∧ ∀ b o, s.heap.get? b = some o → h'.get? b = some o
/-- set(xs) -/
theorem call_set {l : Addr} {items : Array Value} (ks : List Row) (hh : A.handled = none) (hl : s.heap.IsList l items) (hit : items.toList = ks.map fun p => Value.ref p.1) (tup : ∀ p ∈ ks, IsT P w s.heap p.2 p.1) (few : ks.length ≤ 200)
    (dis : (ks.map fun p => thash P w p.2).Nodup) (hu : A.units + 3 < cLine) {Q : Value → Shared → Prop}
    (q : ∀ (h' : Heap) (tk : Nat) es ep t, Holds P w h' s.heap.objs.size ks.reverse es ep t → (∀ b o, s.heap.get? b = some o → h'.get? b = some o) → Q (.ref s.heap.objs.size) { s with heap := h', toks := tk }) :
    wpAny (model P w) A (call (.type "set") [.ref l]) Q E s := by
  obtain ⟨c0, tl, hmro⟩ := F.called_set.mro
  have k1 := F.called_set.made
  have k2 := F.called_set.sub
  have k3 := F.called_set.notType
  have k4 := F.called_set.canCreate
  have k5 := F.typeCall_set_1 (.ref l)
  refine wpAny_call (codeAny_of_tree (?_ : wpAny _ _ (callAny (.type "set") _) _ _ _))
  refine wpAny_pure ⟨Code.quiet_builtin _ (by decide +kernel), codeAny_builtin F.entry_type_call ?_⟩
  rw [Around.under_plain (weight_type_call_type "set" [.ref l] []) rfl]
  repeat (any_goals (first | assumption | wp_step))
  refine codeAny_mono (code_set_led1 (.ref l) (E := E) (Q₁ := fun ob v => ob = .ref s.heap.objs.size ∧ v = { s with heap := hp1 w s }) ⟨rfl, rfl⟩) fun r v hr => ?_
  match r, hr with
  | .error e, hr => exact hr
  | .ok (.ret ob), ⟨eo, ev⟩ =>
    subst eo ev
    have hS : (hp1 w s).get? s.heap.objs.size = some (freshO w) := Heap.get?_push_size _ rfl
    have hT : Shared.TypeIs { s with heap := hp1 w s } (.ref s.heap.objs.size) "set" := ⟨_, hS, rfl⟩
    have k6 := F.called_set.init.lookup
    have k7 := F.called_set.init.bind (.ref s.heap.objs.size)
    repeat (any_goals (first | assumption | wp_step))
    refine codeAny_mono (codeAny_call_builtin (R := wants (Came P w s ks) E) F.called_set.init.plain F.entry_set_init (check_set_init_1 hT ?inn)) fun r2 v2 hr2 => ?_
    case inn =>
      have sz : items.size = ks.length := by
        have := congrArg List.length hit
        rwa [Array.length_toList, List.length_map] at this
      obtain ⟨⟨c1, c2, c3, c4⟩, ho, hc, nl, hd⟩ := hl
      dsimp only at hc hd
      subst hc hd
      have ho' : (hp1 w s).get? l = some { cls := .type "list", dict := c2, data := .seq items nl, slots := c4 } := Heap.get?_push_of_some _ ho
      have hsls := F.sub_list_set
      have hslf := F.sub_list_frozenset
      have hne : (Value.type "list" == Value.type "dict") = false := by decide
      have hl1 : (hp1 w s).IsList l items := ⟨_, ho', rfl, nl, rfl⟩
      unfold Builtin.«set.__init__» noKeywords Builtin.Frozenset.updateFrom
      generalize hPI : pyIter = PI
      wp_walk
      subst hPI
      refine wpAny_pyIter_list hl1 (wpAny_bind (wpAny_runValue ?_))
      have low : l < s.heap.objs.size := Heap.lt_size ho
      have h3 : A.in1.in1.in1.handled = none := by simp [hh]
      have neI : l ≠ (hp1 w s).objs.size := Heap.size_push s.heap (freshO w) ▸ Nat.ne_of_lt (Nat.lt_succ_of_lt low)
      have off : s.heap.objs.size ∉ [(hp1 w s).objs.size, l] := by
        rw [Heap.size_push]
        exact fun z => (List.mem_cons.mp z).elim (Nat.ne_of_lt (Nat.lt_succ_self _)) fun z => absurd (List.mem_singleton.mp z) (Nat.ne_of_gt low)
      have val : ∀ (i : Nat) (v : Value), items[i]? = some v → ∃ p, ks[i]? = some p ∧ v = .ref p.1 := fun i v hv => by
        rw [← Array.getElem?_toList, hit, List.getElem?_map, Option.map_eq_some_iff] at hv
        obtain ⟨p, e1, e2⟩ := hv
        exact ⟨p, e1, e2.symm⟩
      refine upd_loop ((Walks.list h3 _ l neI items).toS) s.heap.objs.size off ks sz.symm (by omega) dis val s.heap tup (none_at (Nat.le_refl _)) (fun b hb => none_at ?_) hu items.size 0 _ (Nat.zero_add _) ⟨⟨_, Heap.get?_push_size _ rfl, rfl, rfl⟩, hl1.push _⟩ (fun b o e => Heap.get?_push_of_some _ (Heap.get?_push_of_some _ e)) ⟨_, _, _, holds_none (Heap.get?_push_of_some _ hS)⟩ ?fin
      · rw [List.mem_singleton.mp hb, Heap.size_push]
        exact Nat.le_succ _
      case fin =>
        intro s' es ep t m R kp
        obtain ⟨h', g2, d', tk', os'⟩ := s'
        obtain rfl : g2 = s.gens := m.gens
        obtain rfl : d' = s.drawn := m.drawn
        obtain rfl : os' = s.os := m.os
        refine wpAny_pure (?_ : wpAny _ _ (ret Value.none) _ _ _)
        exact wpAny_pure ⟨rfl, h', tk', es, ep, t, rfl, R, kp⟩
    match r2, hr2 with
    | .error e, hr2 => exact hr2
    | .ok (.ret r), ⟨e1, h', tk, es, ep, t, e2, R, kp⟩ =>
      subst e1 e2
      repeat (any_goals (first | assumption | wp_step))
      exact q h' tk es ep t R kp
end
end Ws
/-! .. sorted(set), sorted(dict) of pairs. -/
namespace Ws
open PySem PySem.Spec PyProof.Rows L2
section
variable {P : Program} {w : World} {A : Around} {E : Value → Shared → Prop} {s : Shared}
abbrev ltv (k : Value → Int × Int) (v u : Value) : Bool := SrtO.lexB (k v) (k u)
/-- what the sort leaves -/
def SrtQ (s : Shared) (vs : List Value) (k : Value → Int × Int) (Q : Value → Shared → Prop) : Prop := ∀ (h' : Heap) (d : Addr) (out : List Value), SrtO.Srtd (ltv k) out → out.Perm vs → (∀ b o, s.heap.get? b = some o → h'.get? b = some o) → s.heap.objs.size ≤ d →
  (∃ n, h'.get? d = some (seqObj "list" out.toArray n)) → Q (.ref d) { s with heap := h' }
/-- sorted(x) by what the walk over x gives -/
theorem sorted_of {x : Addr} {Q : Value → Shared → Prop} {k : Value → Int × Int}
    (col : wpAny (model P w) A.in1 (collect (.ref x)) (fun vs s1 => vs.length ≤ sizeLine ∧ (∀ v ∈ vs, Srt.IsPair s1.heap v (k v).1 (k v).2) ∧ SrtQ s1 vs k Q) E s) : wpAny (model P w) A (call (.builtin "sorted") [.ref x]) Q E s := by
  refine Calls.call_function_entry kind_sorted plain_sorted entry_sorted (args_sorted1 _) ?_
  unfold Builtin.«sorted»
  refine wpAny_bind (m := checkCount "sorted" 1 1 _) (wpAny_pure ?_)
  refine wpAny_bind (wpAny_mono col (fun vs s1 z => ?_) fun _ _ z => z)
  obtain ⟨hz, hp, q⟩ := z
  refine wpAny_bind (wpAny_newList ?_ hz)
  have at_ : (s1.heap.push (seqObj "list" vs.toArray 0)).get? s1.heap.objs.size = some (seqObj "list" vs.toArray 0) := Heap.get?_push_size _ rfl
  have sw : SrtO.Swo (ltv k) := SrtO.swo_lex k
  refine wpAny_bind (wpAny_holding (wpAny_call_entry slot_list_sort ⟨_, at_, rfl⟩ entry_list_sort (SrtO.list_sort_ord (s := { s1 with heap := s1.heap.push (seqObj "list" vs.toArray 0) }) sw at_ hz (fun h2 => ?_) fun out h1 h2 => ⟨_, rfl, ?_⟩) (args_list_sort _)))
  · refine SrtO.pairs_sortableO (s := { s1 with heap := s1.heap.push (seqObj "list" vs.toArray 0) }) (by omega) (fun v hv => (hp v hv).keeps fun b o e _ => Heap.get?_push_of_some _ e) fun o e => ?_
    cases Option.some.inj (e.symm.trans at_)
    exact fun c => absurd (Value.type.inj c) (by decide)
  · obtain ⟨c, hc⟩ := sortedHeap_at (vs := vs) (out := out.toArray) at_
    refine wpAny_pure ⟨_, rfl, q _ s1.heap.objs.size out h1 h2.perm (fun b u e => ?_) (Nat.le_refl _) ⟨c, hc⟩⟩
    have lt := Heap.lt_size e
    show (sortedHeap (s1.heap.push (seqObj "list" vs.toArray 0)) s1.heap.objs.size vs out.toArray).get? b = some u
    exact (sortedHeap_old (Nat.ne_of_lt lt) (by rw [size_push']; exact Nat.lt_succ_of_lt lt)).trans (Heap.get?_push_of_some _ e)
theorem isPair_of {h : Heap} {x : Addr} {i j : Int} (t : IsT P w h [i, j] x) : Srt.IsPair h (.ref x) i j := by
  obtain ⟨o, its, n, ho, hc, hd, z⟩ := t
  have e := ints_of_items z
  obtain ⟨t1, t2, e⟩ : ∃ t1 t2, its.toList = [.int i t1, .int j t2] := by
    generalize its.toList = l at e
    cases e with
    | cons _ t1 r =>
      cases r with
      | cons _ t2 r =>
        cases r
        exact ⟨t1, t2, rfl⟩
  have e2 : its = #[.int i t1, .int j t2] := by rw [← Array.toArray_toList (xs := its), e]
  rw [e2] at hd
  exact ⟨x, o, t1, t2, n, rfl, ho, hc, hd⟩
end
/-- the set at a -/
def SetWO (P : Program) (w : World) (a : Addr) (L : List Row) : HO := .ext fun h => ∃ es ep t, Holds P w h a L es ep t
theorem setWO_new {P : Program} {w : World} {H : Hp} {h : Heap} {a : Addr} {L : List Row} {es : Array (Int × Value)} {ep : Nat} {t : SetTable} (R : Holds P w h a L es ep t) : ObjOk P w H h a (SetWO P w a L) := by
  have ⟨o, ho, _⟩ := R.ob
  exact ⟨⟨_, _, _, R⟩, ⟨o, ho⟩, fun h1 h2 p k => let ⟨es, ep, t, z⟩ := p; ⟨es, ep, t, z.still k⟩⟩
def rSetW (K : PySem.W.Frag) (P : Program) (w : World) : List V → Hp → VK → Prop := fun xs H Q => ∃ (l : Addr) (ks : List Row), xs = [V.ref l] ∧ SqL K H l (ks.map fun p => V.ref p.1) ∧ (∀ p ∈ ks, SqT K H p.1 (p.2.map V.int)) ∧ ks.length ≤ 200 ∧
  (ks.map fun p => thash P w p.2).Nodup ∧ ∀ a, H a = none → Q (.ref a) (upd H a (SetWO P w a ks.reverse))
def rSortW (P : Program) (w : World) : List V → Hp → VK → Prop := fun vs H Q => ∃ (a : Addr) (L : List Row) (k : V → Int × Int), vs = [V.ref a] ∧ H a = some (SetWO P w a L) ∧
  (∀ p ∈ L, p.2 = [(k (.ref p.1)).1, (k (.ref p.1)).2] ∧ H p.1 = some (.tup [.int (k (.ref p.1)).1, .int (k (.ref p.1)).2])) ∧
  ∀ ys p, SrtO.Srtd (ltP k) ys → ys.Perm (L.map fun p => V.ref p.1) → H p = none → Q (.ref p) (upd H p (.lst ys))
/-- the key tuples of a dict are pairs -/
def rSortD : List V → Hp → VK → Prop := fun vs H Q => ∃ (d : Addr) (kvs : List (List Key × V)) (ps : List (Int × Int)), vs = [V.ref d] ∧ Rd H d (.dT kvs) ∧ kvs.map (·.1) = ps.map (fun p => [Sum.inl p.1, Sum.inl p.2]) ∧
  ∀ (ys : List V) (k : V → Int × Int) p bs, IsKeys H kvs bs → (∀ x ∈ bs, H x = some (.tup [.int (k (.ref x)).1, .int (k (.ref x)).2])) → SrtO.Srtd (ltP k) ys → ys.Perm (bs.map V.ref) → H p = none → Q (.ref p) (upd H p (.lst ys))
section
variable {X : Cx}
theorem cr_setW (hc : X.calm = true) (hu : X.A.units + 64 < cLine) : CallR X (.type "set") (rSetW X.K X.prog X.w) := by
  intro pins s σ H xs us Q I r h
  obtain ⟨l, ks, rfl, hl, hk, hf, hd, q⟩ := h
  obtain rfl := Vals.ref1 r
  obtain ⟨its, rv, pl, _⟩ := I.list hl
  refine call_set (P := X.prog) (w := X.w) ks (I.ok.hd hc) pl.isList (by simpa using refs_of_vals rv) (fun p hp => I.isT (hk p hp)) hf hd (by omega) fun h' tk es ep t R kp => ?_
  exact ⟨.ref s.heap.objs.size, upd H s.heap.objs.size (SetWO X.prog X.w s.heap.objs.size ks.reverse), I.laid (t' := tk) kp (Nat.le_refl _) (setWO_new R), rfl, q _ (I.hok.fresh (Nat.le_refl _))⟩
/-- the sorted list is laid -/
theorem laid_out {pins : List (Addr × Obj)} {σ : L2.St} {H : Hp} {s s' : Shared} {Q : VK} (I : Inv X pins σ H s) (kp : ∀ b o, s.heap.get? b = some o → s'.heap.get? b = some o) (hg : s'.gens = s.gens) (ho : s'.os = s.os) {d : Addr} (hd : s.heap.objs.size ≤ d) {out : List Value} {n : Nat} (e : s'.heap.get? d = some (seqObj "list" out.toArray n)) (hz : out.length ≤ sizeLine)
    (hr : ∀ v ∈ out, ∃ a, v = Value.ref a) (q : Q (.ref d) (upd H d (.lst (out.map backV)))) : EP X pins σ Q (.ref d) s' := by
  have J : Inv X pins σ (upd H d (.lst (out.map backV))) { s with heap := s'.heap, gens := s'.gens, drawn := s'.drawn, toks := s'.toks } :=
    I.call (ch := []) (Un.laid kp hd (I.hok.fresh hd)) (I.hok.laid kp hd ⟨by rw [List.length_map]; exact hz, out, n, vals_back hr, e⟩) (by rw [hg]; exact I.bare) (fun _ z => nomatch z)
  have es : s' = { s with heap := s'.heap, gens := s'.gens, drawn := s'.drawn, toks := s'.toks } := by
    obtain ⟨_, _, _, _, _⟩ := s'
    obtain ⟨_, _, _, _, _⟩ := s
    cases ho
    rfl
  rw [es]
  exact ⟨.ref d, _, J, rfl, q⟩
theorem srt_back {k : V → Int × Int} {out : List Value} (h : SrtO.Srtd (ltv fun u => k (backV u)) out) : SrtO.Srtd (ltP k) (out.map backV) := List.pairwise_map.mpr h
theorem cr_sortW (hc : X.calm = true) : CallR X (.builtin "sorted") (rSortW X.prog X.w) := by
  intro pins s σ H vs us Q I r h
  obtain ⟨a, L, k, rfl, ha, hk, q⟩ := h
  obtain rfl := Vals.ref1 r
  obtain ⟨es, ep, t, R⟩ := (show ∃ es ep t, Holds X.prog X.w s.heap a L es ep t from (I.hok a _ ha).1)
  obtain ⟨o, ho, hex, hd⟩ := R.ob
  have hf := R.few
  have pr : ∀ p ∈ L, Srt.IsPair s.heap (.ref p.1) (k (.ref p.1)).1 (k (.ref p.1)).2 := fun p hp => isPair_of (P := X.prog) (w := X.w) (I.isT (SqT.of (hk p hp).2))
  refine sorted_of (k := fun u => k (backV u)) (collect_set (A := X.A.in1) (I.ok.hd hc) ⟨o, ho, hex.1, hd⟩ R.fits (by unfold scanBound; omega) R.ris R.led fun s1 vs k1 hz g1 o1 pm => ?_)
  have pm2 : vs.Perm (L.map fun p => Value.ref p.1) := by
    have z := R.rows.map (·.2)
    unfold rowsOf at z
    rw [List.map_map] at z
    exact pm.trans z
  have mem : ∀ v ∈ vs, ∃ p ∈ L, v = Value.ref p.1 := fun v hv => by
    obtain ⟨p, hp, e⟩ := List.mem_map.mp (pm2.mem_iff.mp hv)
    exact ⟨p, hp, e.symm⟩
  have hvl : vs.length ≤ sizeLine := by rw [pm.length_eq, List.length_map, Array.length_toList, sizeLine_eq]; omega
  refine ⟨hvl, fun v hv => ?_, fun h' d out h1 h2 kp hd2 hn => ?_⟩
  · obtain ⟨p, hp, rfl⟩ := mem v hv
    exact (pr p hp).keeps fun b o e _ => k1 b o e
  · obtain ⟨n, hn⟩ := hn
    refine laid_out (s' := { s1 with heap := h' }) I (fun b o e => kp b o (k1 b o e)) g1 o1 (Nat.le_trans hz hd2) hn (by rw [h2.length_eq]; exact hvl) (fun v hv => ?_) (q _ d (srt_back h1) ?_ (I.hok.fresh (Nat.le_trans hz hd2)))
    · obtain ⟨p, _, e⟩ := mem v (h2.mem_iff.mp hv)
      exact ⟨_, e⟩
    · have := (h2.trans pm2).map backV
      rw [List.map_map] at this
      exact this
theorem paired_at {α β : Type} {F : α → β → Prop} {l : List α} {m : List β} (p : Paired F l m) : ∀ {j : Nat} {x : β}, m[j]? = some x → ∃ y, l[j]? = some y ∧ F y x := by
  induction p with
  | nil => exact fun z => nomatch z
  | cons f _ ih =>
    intro j x z
    match j, z with
    | 0, z => cases z; exact ⟨_, rfl, f⟩
    | j + 1, z => exact ih z
theorem cr_sortD (hc : X.calm = true) : CallR X (.builtin "sorted") rSortD := by
  intro pins s σ H vs us Q I r h
  obtain ⟨d, kvs, ps, rfl, hd, hk, q⟩ := h
  obtain rfl := Vals.ref1 r
  obtain ⟨z, hs, ks, pr, o, es, ep, ho, hx, hdt, he, hn⟩ := (show ObjOk X.prog X.w H s.heap d (.dT kvs) from hd.ok I.hok)
  have l1 : es.size = ks.length := size_of_entries he
  have l2 : kvs.length = ks.length := Paired.length pr
  have keys := isKeys_of pr
  have tup : ∀ b ∈ ks.map (fun x => x.2.1), H b = some (.tup [.int (Dl.kHp H (.ref b)).1, .int (Dl.kHp H (.ref b)).2]) := fun b hb => by
    obtain ⟨x, hxm, rfl⟩ := List.mem_map.mp hb
    obtain ⟨j, hj⟩ := List.getElem?_of_mem hxm
    obtain ⟨e, e1, e2, e3, _⟩ := paired_at pr hj
    have m : e.1 ∈ kvs.map (·.1) := List.mem_map.mpr ⟨e, List.mem_of_getElem? e1, rfl⟩
    rw [hk] at m
    obtain ⟨p, _, ep⟩ := List.mem_map.mp m
    have e4 : H x.2.1 = some (.tup [.int p.1, .int p.2]) := by rw [e3, ← ep] <;> rfl
    have e5 : Dl.kHp H (.ref x.2.1) = p := by simp only [Dl.kHp, e4]
    rw [e5]
    exact e4
  refine sorted_of (k := fun u => Dl.kHp H (backV u)) (PySem.W.kdu_collect (A := X.A.in1) (kdl_raw hs hx hdt) (I.ok.hd hc) ho (by omega) fun h' tk acc kp it => ?_)
  have ea : acc.toList = (ks.map fun x => x.2.1).map Value.ref := by
    refine items_out (out := (ks.map fun x => x.2.1).map Value.ref) (by rw [List.length_map, List.length_map, ← l1]; exact it) fun j v hv => ?_
    obtain ⟨en, h1, rfl⟩ := hv
    have h2 := entry_at he j
    rw [h1] at h2
    obtain ⟨x, h3, h4⟩ := Option.map_eq_some_iff.mp h2.symm
    rw [List.getElem?_map, List.getElem?_map, h3, ← h4] <;> rfl
  have I1 : Inv X pins σ H { s with heap := h', toks := tk } := I.kept kp
  have hz : acc.toList.length ≤ sizeLine := by rw [ea, List.length_map, List.length_map]; omega
  have mem : ∀ v ∈ acc.toList, ∃ b ∈ ks.map (fun x => x.2.1), v = Value.ref b := fun v hv => by
    rw [ea] at hv
    obtain ⟨b, hb, e⟩ := List.mem_map.mp hv
    exact ⟨b, hb, e.symm⟩
  refine ⟨hz, fun v hv => ?_, fun h2 p out g1 g2 kp2 hp hn => ?_⟩
  · obtain ⟨b, hb, rfl⟩ := mem v hv
    exact isPair_of (P := X.prog) (w := X.w) (I1.isT (k := [_, _]) (SqT.of (tup b hb)))
  · obtain ⟨n, hn⟩ := hn
    refine laid_out (s' := { s with heap := h2, toks := tk }) I1 kp2 rfl rfl hp hn (by rw [g2.length_eq]; exact hz) (fun v hv => ?_) (q _ _ p _ keys tup (srt_back g1) ?_ (I1.hok.fresh hp))
    · obtain ⟨b, _, e⟩ := mem v (g2.mem_iff.mp hv)
      exact ⟨_, e⟩
    · have := g2.map backV
      rw [ea, List.map_map] at this
      exact this
end
end Ws
/-! sorted(set(pairs)), sorted(dict of pairs). -/
namespace Dl
open PySem PySem.Spec PyProof.Rows L2
def pairK (p : Int × Int) : List Key := [Sum.inl p.1, Sum.inl p.2]
def oSortSet (P : List Key → Bool) (d : D) : Option (List D) := (itemsL d).bind fun ds => (pairsOf ds).bind fun ps => if (ps.all fun p => P (pairK p)) = true ∧ ps.Nodup ∧ ps.length ≤ 200 then some ((sortP ps).map pairD) else none
def keyPair : List Key → Option (Int × Int)
  | [.inl i, .inl j] => some (i, j)
  | _ => none
def keyPairs : List (List Key × D) → Option (List (Int × Int))
  | [] => some []
  | kv :: r => (keyPair kv.1).bind fun p => (keyPairs r).map fun l => p :: l
def oSortDict : D → Option (List D)
  | .dT kvs => (keyPairs kvs).map fun ps => (sortP ps).map pairD
  | _ => none
theorem keyPair_eq {k : List Key} {p : Int × Int} (h : keyPair k = some p) : k = pairK p := by
  unfold keyPair at h
  split at h
  · cases h; rfl
  · cases h
theorem keyPairs_eq : ∀ {kvs : List (List Key × D)} {ps : List (Int × Int)}, keyPairs kvs = some ps → kvs.map (·.1) = ps.map pairK
  | [], _, h => by cases h; rfl
  | kv :: r, ps, h => by
    obtain ⟨p, e1, h⟩ := Option.bind_eq_some_iff.mp h
    obtain ⟨l, e2, rfl⟩ := Option.map_eq_some_iff.mp h
    rw [List.map_cons, List.map_cons, keyPair_eq e1, keyPairs_eq e2]
theorem repT_keys {K : PySem.W.Frag} {F : Hp} : ∀ {kvs : List (List Key × D)} {ks : List (List Key × V)}, RepT K F kvs ks → ks.map (·.1) = kvs.map (·.1)
  | [], _, r => by cases r; rfl
  | (k, d) :: r, _, z => by
    obtain ⟨v, t, rfl, _, y⟩ := z
    rw [List.map_cons, List.map_cons, repT_keys y]
/-- the address behind a reference -/
def adV : V → Addr
  | .ref a => a
  | _ => 0
theorem hash_pair {P : Program} {w : World} (p : Int × Int) : thash P w [p.1, p.2] = (tupleKind (mixKind P w)).hash (pairK p) := rfl
section
variable {K : PySem.W.Frag} {E : XK} {F0 H0 F H : Hp} {ρ : Env} {σ : L2.St} {Q : VK}
/-- .. the heap may have grown -/
theorem Post.newL2 {o : Option (List D)} {r : Rs D} (e : opt (o.map D.lst) ρ = some r) (rel : Rel K F0 H0 ρ F σ H) (p : Post (rF K) K E F0 H0 F σ Q r) :
    ∃ c, o = some c ∧ ∀ F' H' q ys, Ext K F H F' H' → H' q = none → Reps K F' c ys → Q (.ref q) (upd H' q (.lst ys)) := by
  cases o with
  | none => cases e
  | some c =>
    cases e
    refine ⟨c, rfl, fun F' H' q ys x hq r => ?_⟩
    have rel' := rel.grow x
    exact p _ F' _ x.ff (rel'.grow (Ext.put x.fh hq)) ⟨q, rfl, x.fh.free hq, rel'.ext.hh.free hq, ⟨ys, upd_same, r⟩, fun i t d e => rel'.noslot hq i t d e⟩
end
section
variable {X : Cx} {E : XK} {e : Expr} {pos p p2 pos2 : Pos} {f : M D} {n : Nat}
theorem d_sortSet {P : List Key → Bool} (hr : Room n X.A) (hc : X.calm = true) (hP : Apart P) (hg : Gl X "sorted") (hm : X.mg "sorted" = none) (hg2 : Gl X "set") (hm2 : X.mg "set" = none) (ha : PE X e (tB X.K E f))
    (he : starEach [e] X.env = (false, eval e X.env) :: starEach [] X.env := by rfl) (hpl : (backTo pos2 (starEach [] X.env)).any (·.1) = false := by rfl)
    (he2 : starEach [.Call (.Name "set" p2) [e] [] pos2] X.env = (false, eval (.Call (.Name "set" p2) [e] [] pos2) X.env) :: starEach [] X.env := by rfl) (hpl2 : (backTo pos (starEach [] X.env)).any (·.1) = false := by rfl) :
    PE X (.Call (.Name "sorted" p) [.Call (.Name "set" p2) [e] [] pos2] [] pos) (tF X.K E (mUnF (oSortSet P) f)) :=
  PE.imp (pe_callB (Ws.cr_sortW hc) hg hm boot_sorted (pa_cons (pe_callTy (Ws.cr_setW hc hr.units) hg2 hm2 PyProof.Rows.boot_set (pa_cons ha pa_nil he) (by decide) (by decide) he hpl) pa_nil he2) (by decide) (by decide) he2 hpl2) fun σ H Q q => by
    obtain ⟨F0, H0, ρ, F, z, rel, e0, po⟩ := q
    refine step rel e0 po fun ρ1 F1 H1 a v s1 rel1 ra e1 p1 ef1 => ?_
    obtain ⟨c, ec, gv⟩ := Post.newL2 e1 rel1 p1
    obtain ⟨ds, e2, ec⟩ := Option.bind_eq_some_iff.mp ec
    obtain ⟨ps, e3, ec⟩ := Option.bind_eq_some_iff.mp ec
    by_cases hq : (ps.all fun p => P (pairK p)) = true ∧ ps.Nodup ∧ ps.length ≤ 200
    · rw [if_pos hq] at ec
      cases ec
      obtain ⟨q1, q2, q3⟩ := hq
      have fh := rel1.fh
      obtain ⟨b, vs, rfl, hs, zr⟩ := (rel1.rb ra).sq e2 fh
      rw [pairsOf_eq e3] at zr
      obtain ⟨h1, h2⟩ := reps_pairs fh zr
      let row : V → Ws.Row := fun x => (adV x, [(kHp H1 x).1, (kHp H1 x).2])
      have back : ∀ x ∈ vs, V.ref (row x).1 = x := fun x hx => by
        obtain ⟨t, rfl, _⟩ := h2 x hx
        rfl
      have m1 : (vs.map row).map (fun p => V.ref p.1) = vs := by
        rw [List.map_map]
        exact (List.map_congr_left back).trans (List.map_id _)
      have at_ : ∀ p ∈ vs.map row, p.2 = [(kHp H1 (.ref p.1)).1, (kHp H1 (.ref p.1)).2] ∧ F1 p.1 = some (.tup [.int (kHp H1 (.ref p.1)).1, .int (kHp H1 (.ref p.1)).2]) := fun p hp => by
        obtain ⟨x, hx, rfl⟩ := List.mem_map.mp hp
        obtain ⟨t, rfl, e4⟩ := h2 x hx
        exact ⟨rfl, e4⟩
      refine ⟨b, vs.map row, rfl, by rw [m1]; exact hs, fun p hp => ?_, ?_, ?_, fun S hS => ⟨S, (vs.map row).reverse, kHp H1, rfl, upd_same, fun p hp => ?_, fun ys p hsd hpm hpn => ?_⟩⟩
      · obtain ⟨a1, a2⟩ := at_ p hp
        rw [a1]
        exact SqT.of (fh _ _ a2)
      · rw [List.length_map, show vs.length = ps.length by rw [← h1, List.length_map]]
        exact q3
      · have e5 : (vs.map row).map (fun p => thash X.prog X.w p.2) = ps.map fun p => (tupleKind (mixKind X.prog X.w)).hash (pairK p) := by
          rw [List.map_map, ← h1, List.map_map] <;> rfl
        rw [e5]
        refine List.pairwise_map.mpr (List.Pairwise.imp_of_mem (fun {x y} hx hy hne eh => hne ?_) q2)
        have h3 := hP X.prog X.w _ _ (List.all_eq_true.mp q1 x hx) (List.all_eq_true.mp q1 y hy) eh
        unfold pairK at h3
        injection h3 with h4 h5
        injection h5 with h5 _
        injection h4 with h4
        injection h5 with h5
        exact Prod.ext h4 h5
      · obtain ⟨a1, a2⟩ := at_ p (List.mem_reverse.mp hp)
        refine ⟨a1, ?_⟩
        rw [upd_ne (ne_of_none (fh _ _ a2) hS)]
        exact fh _ _ a2
      · rw [List.map_reverse, m1] at hpm
        have pv : ys.Perm vs := hpm.trans (List.reverse_perm vs)
        have e6 : ys.map (kHp H1) = sortP ps := sortP_uniq (SrtO.srtd_map hsd) (by rw [← h1]; exact pv.map _)
        have xt : Ext X.K F1 H1 F1 (upd H1 S (Ws.SetWO X.prog X.w S (vs.map row).reverse)) := Ext.put fh hS
        refine gv F1 _ p ys xt hpn ?_
        rw [← e6]
        refine reps_of_pairs fun x hx => ?_
        obtain ⟨t, rfl, e7⟩ := h2 x (pv.mem_iff.mp hx)
        exact ⟨t, rfl, e7⟩
    · rw [if_neg hq] at ec
      cases ec
theorem d_sortDict (hc : X.calm = true) (hg : Gl X "sorted") (hm : X.mg "sorted" = none) (ha : PE X e (tB X.K E f)) (he : starEach [e] X.env = (false, eval e X.env) :: starEach [] X.env := by rfl) (hpl : (backTo pos (starEach [] X.env)).any (·.1) = false := by rfl) :
    PE X (.Call (.Name "sorted" p) [e] [] pos) (tF X.K E (mUnF oSortDict f)) :=
  PE.imp (pe_callB (Ws.cr_sortD hc) hg hm boot_sorted (pa_cons ha pa_nil he) (by decide) (by decide) he hpl) fun σ H Q q => by
    obtain ⟨F0, H0, ρ, F, z, rel, e0, po⟩ := q
    refine step rel e0 po fun ρ1 F1 H1 a v s1 rel1 ra e1 p1 ef1 => ?_
    obtain ⟨c, ec, gv⟩ := Post.newL2 e1 rel1 p1
    unfold oSortDict at ec
    split at ec
    · rename_i kvs
      obtain ⟨ps, e3, rfl⟩ := Option.map_eq_some_iff.mp ec
      have fh := rel1.fh
      obtain ⟨b, ks, rfl, hs, zr⟩ := (rel1.rb ra).dT fh
      have hk : ks.map (·.1) = ps.map pairK := (repT_keys zr).trans (keyPairs_eq e3)
      refine ⟨b, ks, ps, rfl, hs, hk, fun ys k p bs hb ht hsd hpm hpn => ?_⟩
      obtain ⟨F2, x2, r2⟩ := addKeys fh zr hb
      have dk : kvs.map (fun kv => keyT kv.1) = ps.map pairD := by
        have e9 : kvs.map (fun kv => keyT kv.1) = (kvs.map (·.1)).map keyT := by rw [List.map_map] <;> rfl
        rw [e9, keyPairs_eq e3, List.map_map] <;> rfl
      rw [dk] at r2
      obtain ⟨h1, h2⟩ := reps_pairs x2.fh r2
      have kk : ∀ x ∈ bs.map V.ref, kHp H1 x = k x := fun x hx => by
        obtain ⟨t, ht2, rfl⟩ := List.mem_map.mp hx
        simp only [kHp, ht t ht2]
      have e6 : ys.map k = sortP ps := by
        refine sortP_uniq (SrtO.srtd_map hsd) ?_
        rw [← h1, List.map_congr_left kk]
        exact hpm.map _
      refine gv F2 H1 p ys x2 hpn ?_
      rw [← e6]
      refine reps_of_pairs fun x hx => ?_
      have hx2 := hpm.mem_iff.mp hx
      obtain ⟨t, e8, e7⟩ := h2 x hx2
      rw [kk x hx2] at e7
      exact ⟨t, e8, e7⟩
    · cases ec
theorem fnv_of {k j : Nat} {nm : String} {g : List D → Option Rv} (A : Fk X.prog X.w X.K X.mg X.base k nm g) (hm : X.mg nm = some (.ref (clsA X.K nm))) (hkj : k ≤ j) : FnV X j nm g := by
  obtain ⟨fa, fd, ps, F, h2, hk, hb⟩ := A.ex
  rw [hm] at h2
  cases h2
  exact ⟨fd, ps, F.mono hkj, hk, hb⟩
end
end Dl
/-! The law's own def; lambdas by the defs' facts. -/
namespace Dl
open PySem PySem.Spec PyProof.Rows L2
section
variable {P : Program} {w : World} {K : PySem.W.Frag} {mg : Str → Option Value} {base : Heap}
/-- .. of a def whose code object is known -/
theorem fn_DC {x qual : Str} {params : Arguments} {body : List Stmt} {scope : Scope} {f : Addr} {fd : FuncData} {N ps : List Str} {k : Nat} {G : S} (F : FunD K x qual params body scope [] [] f fd) (Sc : FnScope N ps scope) (hle : ps.length ≤ N.length)
    (hbody : ∀ (A : Around) (outer : List PySem.Env) (s : Shared) (H : Hp) (E : XK), Room k (A.deeper (envOfC qual scope s.heap.objs.size f fd.code)) → PSs (cxOf (L2.CX P w) P w K mg base N qual scope f fd.code A outer s H E) body (tS K E G)) :
    FnOk P w K mg base (L2.CX P w) (k + 1) f fd ps (spD K (runF N.length ps.length G)) := by
  obtain ⟨oc, od, dV, kV, doc, pm, an, cdv, ct, osl, rfl, lk, hcd, _, _⟩ := F.ex
  refine fn_of lk hcd Sc (fun vs H Q E ⟨F', ds, r, _, s, ra, e, _⟩ => ?_) fun A outer s H vs Q E hr ⟨F', ds, r, tb, sm, ra, e, p⟩ => ⟨_, hbody A outer s H E hr, ?_⟩
  · rw [← ra.len]; exact (runF_some e).1
  · obtain ⟨hl, o, e1, fi⟩ := runF_some e
    exact body_end tb sm ra (by omega) e1 fi p
end
/-- the lambdas' table behind the law's code object -/
structure Lz (X : Cx) : Prop where
  ex : ∃ (c P : Addr), LamX.TabB X.base X.mg c P ∧ X.env.code = .ref c ∧ (P, X.env.qual ++ "<lambda>") ∈ TK X.K ∧ ∀ p ∈ TK X.K, p.1 = P → p.2 = X.env.qual ++ "<lambda>"
section
variable {X : Cx} {E : XK} {f : M D} {fI cc cda : Addr}
/-- _law_refused(lambda: body) by the facts -/
theorem c_lam {x : Str} {g : Addr} {fd : FuncData} {k n : Nat} {pg : Arguments} {sg : Scope} {bg : List Stmt} {j j2 k8 : Nat} {p1 p2 p3 p4 p5 p6 p7 p8 p9 p10 p11 p12 p13 : Pos}
    {params : Arguments} {body : Expr} {scope : Scope} {p lpos pos : Pos} (F : FunD X.K x x pg bg sg [] [] g fd) (hm : X.mg x = some (.ref g)) (T : RefTxt X.prog X.K X.mg (clsA X.K "Refused") fI cc cda) (Z : Lz X)
    (hbg : bg = [.Try [.Expr (.Call (.Name "work" p1) [] [] p2) p3] [.ExceptHandler (some (.Name "Refused" p4)) (some "e") [.Return (some (.Tuple [.Constant (.str "refused") j p5, .Attribute (.Name "e" p6) "at" p7] k8 p8)) p9] p10] [] [] p11, .Return (some (.Constant .none j2 p12)) p13])
    (hbN : ∀ (kV doc pm : Value) (an : Option Addr) (cdv ct : Value) (us : List Value), us.length = 1 → bindArgs (PySem.W.fnOf x x pg bg sg .none kV doc pm an cdv ct) ⟨us, []⟩ = pure ((["work"] : List Str).zip us))
    (Sg : FnScope ["work", "e"] ["work"] sg) (hsl : sg.names.lookup ("e" : Str) = some .local) (hw : sg.names.lookup ("work" : Str) = some .local) (hgR : sg.names.lookup ("Refused" : Str) = some .globalImplicit)
    (hg : Gl X x) (hr : Room n X.A) (hkn : k + 2 ≤ n) (L : LamX.LamS X.env.scope scope) (hdef : defaultsOf params X.env = ([], []))
    (hbind : ∀ (q : Str) (cl : List (Str × Addr)) (pm cv ctv : Value), bindArgs (PySem.W.kla_fn "<lambda>" q params body scope cl pm cv ctv) ⟨[], []⟩ = pure []) (pu : Pu f)
    (hbody : ∀ (A : Around) (outer : List PySem.Env) (s : Shared) (H : Hp) (E : XK) (f' c' : Addr), Room k (A.deeper (LamX.lamEnv X scope s.heap.objs.size f' c')) → Takes (LamX.lamCx X A outer s H E scope f' c') (fun cls d _ H => E cls d H) → PE (LamX.lamCx X A outer s H E scope f' c') body (tD X.K E f))
    (hdb : (x == ("__debug__" : Str)) = false := by decide) : PE X (.Call (.Name x p) [.Lambda params body scope lpos] [] pos) (tD X.K E (mRefd f)) := by
  obtain ⟨c, Pp, TB, hcode, hmT, hu⟩ := Z.ex
  subst hbg
  have hb := F.bindsN (ps := (["work"] : List Str)) hbN
  obtain ⟨oc, od, dV, kV, doc, pm, an, cdv, ct, osl, rfl, lk, hcd, _, _⟩ := F.ex
  exact d_lam pu T hg hm F.kp lk hcd hb Sg hsl hw hgR TB hcode hmT hu (hr.mono hkn) L hdef hbind (fun A outer s H E f' c' hr' => hbody A outer s H E f' c' hr' (takes_of rfl rfl rfl rfl)) hdb
end
theorem pu_callV {S : String → Option (List D → Option Rv)} {i : Nat} {l : M (List D)} (h : Pu l) : Pu (mCallV S i l) := fun ρ a ρ' e => by
  unfold mCallV at e
  split at e
  · split at e
    · exact pu_mCall h _ _ _ e
    · cases e
  · cases e
end Dl
namespace K94
open PySem PySem.Spec PyProof.Rows L2 Dl
def pairP : List Key → Bool
  | [.inl b, .inl r] => decide (0 ≤ b) && decide (b < 40) && (decide (0 ≤ r) && decide (r < 5))
  | _ => false
def hN (n : Nat) : Int := reduceHash (Builtin.Tuple.tupleHashOf [hashInt ((n / 5 : Nat) : Int), hashInt ((n % 5 : Nat) : Int)])
theorem hN_distinct : ((List.range 200).map hN).Nodup := by decide +kernel
theorem hN_inj {n m : Nat} (hn : n < 200) (hm : m < 200) (h : hN n = hN m) : n = m := by
  have d := hN_distinct
  rw [List.nodup_iff_pairwise_ne, List.pairwise_map, List.pairwise_iff_getElem] at d
  rcases Nat.lt_trichotomy n m with q | q | q
  · have := d n m (by simpa using hn) (by simpa using hm) q
    simp at this
    exact absurd h this
  · exact q
  · have := d m n (by simpa using hm) (by simpa using hn) q
    simp at this
    exact absurd h.symm this
theorem pairP_shape {a : List Key} (h : pairP a = true) : ∃ b r : Nat, a = [.inl (b : Int), .inl (r : Int)] ∧ b < 40 ∧ r < 5 := by
  unfold pairP at h
  split at h
  · rename_i b r
    simp only [Bool.and_eq_true, decide_eq_true_eq] at h
    exact ⟨b.toNat, r.toNat, by rw [Int.toNat_of_nonneg h.1.1, Int.toNat_of_nonneg h.2.1], by omega, by omega⟩
  · cases h
theorem pair_hash {pr : Program} {w : World} {b r : Nat} (hr : r < 5) : (tupleKind (mixKind pr w)).hash [.inl (b : Int), .inl (r : Int)] = hN (b * 5 + r) := by
  have e1 : (b * 5 + r) / 5 = b := by omega
  have e2 : (b * 5 + r) % 5 = r := by omega
  unfold hN
  rw [e1, e2] <;> rfl
theorem pairP_apart : Apart pairP := by
  intro pr w a b ha hb h
  obtain ⟨b1, r1, rfl, h1, h2⟩ := pairP_shape ha
  obtain ⟨b2, r2, rfl, h3, h4⟩ := pairP_shape hb
  rw [pair_hash h2, pair_hash h4] at h
  have e := hN_inj (by omega) (by omega) h
  have e1 : b1 = b2 := by omega
  have e2 : r1 = r2 := by omega
  rw [e1, e2]

def top (i : Nat) : Stmt := PySem.Challenge.pw_evergreedy_k94_whole_counts_by_belts_and.main.body.getD i (.Pass ⟨0, 0, 0, 0⟩)
abbrev s_is_integer : Stmt := top 4
abbrev N_is_integer : List Str := ["value"]
theorem sc_is_integer : FnScope N_is_integer ["value"] (defScope s_is_integer) := ⟨rfl, rfl, rfl, by decide +kernel, rfl, by decide +kernel, by decide +kernel⟩
abbrev s_is_number : Stmt := top 5
abbrev N_is_number : List Str := ["value", "most"]
theorem sc_is_number : FnScope N_is_number ["value", "most"] (defScope s_is_number) := ⟨rfl, rfl, rfl, by decide +kernel, rfl, by decide +kernel, by decide +kernel⟩
abbrev s_need_places : Stmt := top 8
abbrev N_need_places : List Str := ["places"]
theorem sc_need_places : FnScope N_need_places ["places"] (defScope s_need_places) := ⟨rfl, rfl, rfl, by decide +kernel, rfl, by decide +kernel, by decide +kernel⟩
abbrev s_factorial : Stmt := top 9
abbrev N_factorial : List Str := ["many", "found", "one"]
theorem sc_factorial : FnScope N_factorial ["many"] (defScope s_factorial) := ⟨rfl, rfl, rfl, by decide +kernel, rfl, by decide +kernel, by decide +kernel⟩
abbrev s_all_pairs : Stmt := top 10
abbrev N_all_pairs : List Str := ["many", "i", "j"]
theorem sc_all_pairs : FnScope N_all_pairs ["many"] (defScope s_all_pairs) := ⟨rfl, rfl, rfl, by decide +kernel, rfl, by decide +kernel, by decide +kernel⟩
abbrev s_how_many : Stmt := top 11
abbrev N_how_many : List Str := ["places"]
theorem sc_how_many : FnScope N_how_many ["places"] (defScope s_how_many) := ⟨rfl, rfl, rfl, by decide +kernel, rfl, by decide +kernel, by decide +kernel⟩
abbrev s_need_counted : Stmt := top 14
abbrev N_need_counted : List Str := ["places"]
theorem sc_need_counted : FnScope N_need_counted ["places"] (defScope s_need_counted) := ⟨rfl, rfl, rfl, by decide +kernel, rfl, by decide +kernel, by decide +kernel⟩
abbrev s_chosen_from : Stmt := top 15
abbrev N_chosen_from : List Str := ["many", "some"]
theorem sc_chosen_from : FnScope N_chosen_from ["many", "some"] (defScope s_chosen_from) := ⟨rfl, rfl, rfl, by decide +kernel, rfl, by decide +kernel, by decide +kernel⟩
abbrev s_plus : Stmt := top 16
abbrev N_plus : List Str := ["one", "other", "times", "found", "key"]
theorem sc_plus : FnScope N_plus ["one", "other", "times"] (defScope s_plus) := ⟨rfl, rfl, rfl, by decide +kernel, rfl, by decide +kernel, by decide +kernel⟩
abbrev s_product : Stmt := top 17
abbrev N_product : List Str := ["one", "other", "found", "b", "r", "c", "q"]
theorem sc_product : FnScope N_product ["one", "other"] (defScope s_product) := ⟨rfl, rfl, rfl, by decide +kernel, rfl, by decide +kernel, by decide +kernel⟩
abbrev s_between : Stmt := top 18
abbrev N_between : List Str := ["many", "some"]
theorem sc_between : FnScope N_between ["many"] (defScope s_between) := ⟨rfl, rfl, rfl, by decide +kernel, rfl, by decide +kernel, by decide +kernel⟩
abbrev s_of_part : Stmt := top 19
abbrev N_of_part : List Str := ["many"]
theorem sc_of_part : FnScope N_of_part ["many"] (defScope s_of_part) := ⟨rfl, rfl, rfl, by decide +kernel, rfl, by decide +kernel, by decide +kernel⟩
abbrev s_signed_tables : Stmt := top 20
abbrev N_signed_tables : List Str := ["most", "found", "many", "table", "some"]
theorem sc_signed_tables : FnScope N_signed_tables ["most"] (defScope s_signed_tables) := ⟨rfl, rfl, rfl, by decide +kernel, rfl, by decide +kernel, by decide +kernel⟩
abbrev s_table_of : Stmt := top 21
abbrev N_table_of : List Str := ["places", "many", "signed", "found", "table", "some", "more"]
theorem sc_table_of : FnScope N_table_of ["places"] (defScope s_table_of) := ⟨rfl, rfl, rfl, by decide +kernel, rfl, by decide +kernel, by decide +kernel⟩
abbrev s_belts_and_rings : Stmt := top 22
abbrev N_belts_and_rings : List Str := ["places", "table", "belts", "rings"]
theorem sc_belts_and_rings : FnScope N_belts_and_rings ["places"] (defScope s_belts_and_rings) := ⟨rfl, rfl, rfl, by decide +kernel, rfl, by decide +kernel, by decide +kernel⟩
abbrev s_how_many_with : Stmt := top 23
abbrev N_how_many_with : List Str := ["places", "belts", "table", "key"]
theorem sc_how_many_with : FnScope N_how_many_with ["places", "belts"] (defScope s_how_many_with) := ⟨rfl, rfl, rfl, by decide +kernel, rfl, by decide +kernel, by decide +kernel⟩
abbrev s_how_many_ringless : Stmt := top 24
abbrev N_how_many_ringless : List Str := ["places", "table", "key"]
theorem sc_how_many_ringless : FnScope N_how_many_ringless ["places"] (defScope s_how_many_ringless) := ⟨rfl, rfl, rfl, by decide +kernel, rfl, by decide +kernel, by decide +kernel⟩
abbrev s_most_belts : Stmt := top 26
abbrev N_most_belts : List Str := ["places"]
theorem sc_most_belts : FnScope N_most_belts ["places"] (defScope s_most_belts) := ⟨rfl, rfl, rfl, by decide +kernel, rfl, by decide +kernel, by decide +kernel⟩
abbrev s_rows_of_groups : Stmt := top 27
abbrev N_rows_of_groups : List Str := ["many"]
theorem sc_rows_of_groups : FnScope N_rows_of_groups ["many"] (defScope s_rows_of_groups) := ⟨rfl, rfl, rfl, by decide +kernel, rfl, by decide +kernel, by decide +kernel⟩
abbrev s_how_many_fullest : Stmt := top 28
abbrev N_how_many_fullest : List Str := ["places"]
theorem sc_how_many_fullest : FnScope N_how_many_fullest ["places"] (defScope s_how_many_fullest) := ⟨rfl, rfl, rfl, by decide +kernel, rfl, by decide +kernel, by decide +kernel⟩
abbrev s_l_take : Stmt := top 30
abbrev N_l_take : List Str := ["box", "many", "raw", "digit"]
theorem sc_l_take : FnScope N_l_take ["box", "many"] (defScope s_l_take) := ⟨rfl, rfl, rfl, by decide +kernel, rfl, by decide +kernel, by decide +kernel⟩
abbrev s_l_box : Stmt := top 33
abbrev N_l_box : List Str := ["script", "k", "cell"]
theorem sc_l_box : FnScope N_l_box ["script", "k"] (defScope s_l_box) := ⟨rfl, rfl, rfl, by decide +kernel, rfl, by decide +kernel, by decide +kernel⟩
abbrev s_l_same : Stmt := top 34
abbrev N_l_same : List Str := ["value", "due", "at"]
theorem sc_l_same : FnScope N_l_same ["value", "due"] (defScope s_l_same) := ⟨rfl, rfl, rfl, by decide +kernel, rfl, by decide +kernel, by decide +kernel⟩
abbrev s_l_turns : Stmt := top 36
abbrev N_l_turns : List Str := ["belts", "found", "e", "f"]
theorem sc_l_turns : FnScope N_l_turns ["belts"] (defScope s_l_turns) := ⟨rfl, rfl, rfl, by decide +kernel, rfl, by decide +kernel, by decide +kernel⟩
abbrev s_l_reach : Stmt := top 37
abbrev N_l_reach : List Str := ["turns", "belts", "left", "found", "e", "turn", "rows", "on", "f", "g"]
theorem sc_l_reach : FnScope N_l_reach ["turns", "belts", "left"] (defScope s_l_reach) := ⟨rfl, rfl, rfl, by decide +kernel, rfl, by decide +kernel, by decide +kernel⟩
abbrev s_l_lots : Stmt := top 38
abbrev N_l_lots : List Str := ["turns", "belts", "left", "e", "reach", "found", "lot", "f"]
theorem sc_l_lots : FnScope N_l_lots ["turns", "belts", "left"] (defScope s_l_lots) := ⟨rfl, rfl, rfl, by decide +kernel, rfl, by decide +kernel, by decide +kernel⟩
abbrev s_l_fine : Stmt := top 39
abbrev N_l_fine : List Str := ["turns", "belts", "left", "lot", "e", "f"]
theorem sc_l_fine : FnScope N_l_fine ["turns", "belts", "left"] (defScope s_l_fine) := ⟨rfl, rfl, rfl, by decide +kernel, rfl, by decide +kernel, by decide +kernel⟩
abbrev s_l_choose : Stmt := top 40
abbrev N_l_choose : List Str := ["many", "some", "k", "top", "low"]
theorem sc_l_choose : FnScope N_l_choose ["many", "some"] (defScope s_l_choose) := ⟨rfl, rfl, rfl, by decide +kernel, rfl, by decide +kernel, by decide +kernel⟩
abbrev s_l_power : Stmt := top 41
abbrev N_l_power : List Str := ["base", "many", "found", "turn"]
theorem sc_l_power : FnScope N_l_power ["base", "many"] (defScope s_l_power) := ⟨rfl, rfl, rfl, by decide +kernel, rfl, by decide +kernel, by decide +kernel⟩
abbrev s_l_worth : Stmt := top 42
abbrev N_l_worth : List Str := ["many", "x", "y", "n", "signed", "found", "total", "k", "part", "one"]
theorem sc_l_worth : FnScope N_l_worth ["many", "x", "y"] (defScope s_l_worth) := ⟨rfl, rfl, rfl, by decide +kernel, rfl, by decide +kernel, by decide +kernel⟩
abbrev s_l_all : Stmt := top 43
abbrev N_l_all : List Str := ["many", "found", "bits", "a", "belts", "rest", "b", "lots", "key", "lot"]
theorem sc_l_all : FnScope N_l_all ["many"] (defScope s_l_all) := ⟨rfl, rfl, rfl, by decide +kernel, rfl, by decide +kernel, by decide +kernel⟩
abbrev s_l_right : Stmt := top 44
abbrev N_l_right : List Str := ["box", "many", "told", "pairs", "few", "most", "x", "y", "total", "belts", "rings", "some", "k", "row", "one"]
theorem sc_l_right : FnScope N_l_right ["box", "many"] (defScope s_l_right) := ⟨rfl, rfl, rfl, by decide +kernel, rfl, by decide +kernel, by decide +kernel⟩
abbrev s_l_refused : Stmt := top 45
abbrev N_l_refused : List Str := ["work", "e"]
theorem sc_l_refused : FnScope N_l_refused ["work"] (defScope s_l_refused) := ⟨rfl, rfl, rfl, by decide +kernel, rfl, by decide +kernel, by decide +kernel⟩
abbrev s_law : Stmt := top 46
abbrev N_law : List Str := ["script", "k", "value", "box", "work"]
theorem sc_law : FnScope N_law ["script"] (defScope s_law) := ⟨rfl, rfl, rfl, by decide +kernel, rfl, by decide +kernel, by decide +kernel⟩
/-- what stands behind the top -/
structure Tx (P : Program) (K : PySem.W.Frag) (mg : Str → Option Value) : Prop where
  f_abs : mg "abs" = none
  f_all : mg "all" = none
  f_bool : mg "bool" = none
  f_dict : mg "dict" = none
  f_int : mg "int" = none
  f_isinstance : mg "isinstance" = none
  f_len : mg "len" = none
  f_list : mg "list" = none
  f_max : mg "max" = none
  f_range : mg "range" = none
  f_set : mg "set" = none
  f_sorted : mg "sorted" = none
  f_str : mg "str" = none
  f_sum : mg "sum" = none
  f_tuple : mg "tuple" = none
  c_MOST_COUNTED : ∃ t, mg "MOST_COUNTED" = some (.int 8 t)
  c_MOST_PLAIN : ∃ t, mg "MOST_PLAIN" = some (.int 11 t)
  v_belts_and_rings : mg "belts_and_rings" = some (.ref (clsA K "belts_and_rings"))
  v_how_many_ringless : mg "how_many_ringless" = some (.ref (clsA K "how_many_ringless"))
  d_is_integer : ∃ fd, FunD K "is_integer" "is_integer" (defArgs s_is_integer) (defBody s_is_integer) (defScope s_is_integer) [] [] (clsA K "is_integer") fd ∧ mg "is_integer" = some (.ref (clsA K "is_integer"))
  d_is_number : ∃ fd, FunD K "is_number" "is_number" (defArgs s_is_number) (defBody s_is_number) (defScope s_is_number) [.non] [] (clsA K "is_number") fd ∧ mg "is_number" = some (.ref (clsA K "is_number"))
  d_need_places : ∃ fd, FunD K "need_places" "need_places" (defArgs s_need_places) (defBody s_need_places) (defScope s_need_places) [] [] (clsA K "need_places") fd ∧ mg "need_places" = some (.ref (clsA K "need_places"))
  d_factorial : ∃ fd, FunD K "factorial" "factorial" (defArgs s_factorial) (defBody s_factorial) (defScope s_factorial) [] [] (clsA K "factorial") fd ∧ mg "factorial" = some (.ref (clsA K "factorial"))
  d_all_pairs : ∃ fd, FunD K "all_pairs" "all_pairs" (defArgs s_all_pairs) (defBody s_all_pairs) (defScope s_all_pairs) [] [] (clsA K "all_pairs") fd ∧ mg "all_pairs" = some (.ref (clsA K "all_pairs"))
  d_how_many : ∃ fd, FunD K "how_many" "how_many" (defArgs s_how_many) (defBody s_how_many) (defScope s_how_many) [] [] (clsA K "how_many") fd ∧ mg "how_many" = some (.ref (clsA K "how_many"))
  d_need_counted : ∃ fd, FunD K "need_counted" "need_counted" (defArgs s_need_counted) (defBody s_need_counted) (defScope s_need_counted) [] [] (clsA K "need_counted") fd ∧ mg "need_counted" = some (.ref (clsA K "need_counted"))
  d_chosen_from : ∃ fd, FunD K "chosen_from" "chosen_from" (defArgs s_chosen_from) (defBody s_chosen_from) (defScope s_chosen_from) [] [] (clsA K "chosen_from") fd ∧ mg "chosen_from" = some (.ref (clsA K "chosen_from"))
  d_plus : ∃ fd, FunD K "plus" "plus" (defArgs s_plus) (defBody s_plus) (defScope s_plus) [] [] (clsA K "plus") fd ∧ mg "plus" = some (.ref (clsA K "plus"))
  d_product : ∃ fd, FunD K "product" "product" (defArgs s_product) (defBody s_product) (defScope s_product) [] [] (clsA K "product") fd ∧ mg "product" = some (.ref (clsA K "product"))
  d_between : ∃ fd, FunD K "between" "between" (defArgs s_between) (defBody s_between) (defScope s_between) [] [] (clsA K "between") fd ∧ mg "between" = some (.ref (clsA K "between"))
  d_of_part : ∃ fd, FunD K "of_part" "of_part" (defArgs s_of_part) (defBody s_of_part) (defScope s_of_part) [] [] (clsA K "of_part") fd ∧ mg "of_part" = some (.ref (clsA K "of_part"))
  d_signed_tables : ∃ fd, FunD K "signed_tables" "signed_tables" (defArgs s_signed_tables) (defBody s_signed_tables) (defScope s_signed_tables) [] [] (clsA K "signed_tables") fd ∧ mg "signed_tables" = some (.ref (clsA K "signed_tables"))
  d_table_of : ∃ fd, FunD K "table_of" "table_of" (defArgs s_table_of) (defBody s_table_of) (defScope s_table_of) [] [] (clsA K "table_of") fd ∧ mg "table_of" = some (.ref (clsA K "table_of"))
  d_belts_and_rings : ∃ fd, FunD K "belts_and_rings" "belts_and_rings" (defArgs s_belts_and_rings) (defBody s_belts_and_rings) (defScope s_belts_and_rings) [] [] (clsA K "belts_and_rings") fd ∧ mg "belts_and_rings" = some (.ref (clsA K "belts_and_rings"))
  d_how_many_with : ∃ fd, FunD K "how_many_with" "how_many_with" (defArgs s_how_many_with) (defBody s_how_many_with) (defScope s_how_many_with) [] [] (clsA K "how_many_with") fd ∧ mg "how_many_with" = some (.ref (clsA K "how_many_with"))
  d_how_many_ringless : ∃ fd, FunD K "how_many_ringless" "how_many_ringless" (defArgs s_how_many_ringless) (defBody s_how_many_ringless) (defScope s_how_many_ringless) [] [] (clsA K "how_many_ringless") fd ∧ mg "how_many_ringless" = some (.ref (clsA K "how_many_ringless"))
  d_most_belts : ∃ fd, FunD K "most_belts" "most_belts" (defArgs s_most_belts) (defBody s_most_belts) (defScope s_most_belts) [] [] (clsA K "most_belts") fd ∧ mg "most_belts" = some (.ref (clsA K "most_belts"))
  d_rows_of_groups : ∃ fd, FunD K "rows_of_groups" "rows_of_groups" (defArgs s_rows_of_groups) (defBody s_rows_of_groups) (defScope s_rows_of_groups) [] [] (clsA K "rows_of_groups") fd ∧ mg "rows_of_groups" = some (.ref (clsA K "rows_of_groups"))
  d_how_many_fullest : ∃ fd, FunD K "how_many_fullest" "how_many_fullest" (defArgs s_how_many_fullest) (defBody s_how_many_fullest) (defScope s_how_many_fullest) [] [] (clsA K "how_many_fullest") fd ∧ mg "how_many_fullest" = some (.ref (clsA K "how_many_fullest"))
  d_l_take : ∃ fd, FunD K "_law_take" "_law_take" (defArgs s_l_take) (defBody s_l_take) (defScope s_l_take) [] [] (clsA K "_law_take") fd ∧ mg "_law_take" = some (.ref (clsA K "_law_take"))
  d_l_box : ∃ fd, FunD K "_law_box" "_law_box" (defArgs s_l_box) (defBody s_l_box) (defScope s_l_box) [] [] (clsA K "_law_box") fd ∧ mg "_law_box" = some (.ref (clsA K "_law_box"))
  d_l_same : ∃ fd, FunD K "_law_same" "_law_same" (defArgs s_l_same) (defBody s_l_same) (defScope s_l_same) [] [] (clsA K "_law_same") fd ∧ mg "_law_same" = some (.ref (clsA K "_law_same"))
  d_l_turns : ∃ fd, FunD K "_law_turns" "_law_turns" (defArgs s_l_turns) (defBody s_l_turns) (defScope s_l_turns) [] [] (clsA K "_law_turns") fd ∧ mg "_law_turns" = some (.ref (clsA K "_law_turns"))
  d_l_reach : ∃ fd, FunD K "_law_reach" "_law_reach" (defArgs s_l_reach) (defBody s_l_reach) (defScope s_l_reach) [] [] (clsA K "_law_reach") fd ∧ mg "_law_reach" = some (.ref (clsA K "_law_reach"))
  d_l_lots : ∃ fd, FunD K "_law_lots" "_law_lots" (defArgs s_l_lots) (defBody s_l_lots) (defScope s_l_lots) [] [] (clsA K "_law_lots") fd ∧ mg "_law_lots" = some (.ref (clsA K "_law_lots"))
  d_l_fine : ∃ fd, FunD K "_law_fine" "_law_fine" (defArgs s_l_fine) (defBody s_l_fine) (defScope s_l_fine) [] [] (clsA K "_law_fine") fd ∧ mg "_law_fine" = some (.ref (clsA K "_law_fine"))
  d_l_choose : ∃ fd, FunD K "_law_choose" "_law_choose" (defArgs s_l_choose) (defBody s_l_choose) (defScope s_l_choose) [] [] (clsA K "_law_choose") fd ∧ mg "_law_choose" = some (.ref (clsA K "_law_choose"))
  d_l_power : ∃ fd, FunD K "_law_power" "_law_power" (defArgs s_l_power) (defBody s_l_power) (defScope s_l_power) [] [] (clsA K "_law_power") fd ∧ mg "_law_power" = some (.ref (clsA K "_law_power"))
  d_l_worth : ∃ fd, FunD K "_law_worth" "_law_worth" (defArgs s_l_worth) (defBody s_l_worth) (defScope s_l_worth) [] [] (clsA K "_law_worth") fd ∧ mg "_law_worth" = some (.ref (clsA K "_law_worth"))
  d_l_all : ∃ fd, FunD K "_law_all" "_law_all" (defArgs s_l_all) (defBody s_l_all) (defScope s_l_all) [] [] (clsA K "_law_all") fd ∧ mg "_law_all" = some (.ref (clsA K "_law_all"))
  d_l_right : ∃ fd, FunD K "_law_right" "_law_right" (defArgs s_l_right) (defBody s_l_right) (defScope s_l_right) [] [] (clsA K "_law_right") fd ∧ mg "_law_right" = some (.ref (clsA K "_law_right"))
  d_l_refused : ∃ fd, FunD K "_law_refused" "_law_refused" (defArgs s_l_refused) (defBody s_l_refused) (defScope s_l_refused) [] [] (clsA K "_law_refused") fd ∧ mg "_law_refused" = some (.ref (clsA K "_law_refused"))
  d_law : ∃ fd, FunD K "law" "law" (defArgs s_law) (defBody s_law) (defScope s_law) [] [] (clsA K "law") fd ∧ mg "law" = some (.ref (clsA K "law"))
  ref : ∃ fI cc cda, RefTxt P K mg (clsA K "Refused") fI cc cda
def G_is_integer : S := sRet (mAndV (mUn (oIsi "int") (mB 0)) (mNotV (mUn (oIsi "bool") (mB 0))))
def g_is_integer := runF 1 1 G_is_integer
section
variable {P : Program} {w : World} {K : PySem.W.Frag} {mg : Str → Option Value} {base : Heap}
theorem ok_is_integer (T : Tx P K mg) : Fk P w K mg base 1 "is_integer" g_is_integer := by
  obtain ⟨fd, F, gm⟩ := T.d_is_integer
  refine ⟨_, fd, ["value"], fn_DD (N := N_is_integer) F sc_is_integer (by decide) (fun cdv A outer s H E hr => ?_), gm, F.kp, F.bindsN fun _ _ _ _ _ _ us hl => match us, hl with | [_], _ => rfl⟩
  have tk := takes_of (X := cxOf (L2.CX P w) P w K mg base N_is_integer "is_integer" (defScope s_is_integer) (clsA K "is_integer") cdv A outer s H E) rfl rfl rfl rfl
  exact s_one (s_ret (d_and (d_isi (by rfl) T.f_isinstance (by rfl) T.f_int boot_int (by decide) (by decide) (db 0)) (d_one (d_not (d_isi (by rfl) T.f_isinstance (by rfl) T.f_bool boot_bool (by decide) (by decide) (db 0))))))
end
def G_is_number : S := sRet (mAndV (mCall g_is_integer [] (mCons (slotD 0) (ret []))) (mAndV (mOp oGe (slotD 0) (ret (.int 0))) (mOrV (mUn oIsN (slotD 1)) (mOp oLe (slotD 0) (slotD 1)))))
def g_is_number := runF 2 2 G_is_number
section
variable {P : Program} {w : World} {K : PySem.W.Frag} {mg : Str → Option Value} {base : Heap}
theorem ok_is_number (T : Tx P K mg) : Fk P w K mg base 2 "is_number" g_is_number := by
  have A_is_integer := ok_is_integer (w := w) (base := base) T
  obtain ⟨fd, F, gm⟩ := T.d_is_number
  refine ⟨_, fd, ["value", "most"], fn_DD (N := N_is_number) F sc_is_number (by decide) (fun cdv A outer s H E hr => ?_), gm, F.kp, (by obtain ⟨ds, h1, h2⟩ := F.binds1 (ps := ["value", "most"]) 2 1 (by simp) rfl (fun T kV doc pm an cdv ct us its hl hl2 => match us, its, hl, hl2 with | [a, b], [c], _, _ => ⟨_, rfl, rfl⟩); cases h1; exact h2)⟩
  have tk := takes_of (X := cxOf (L2.CX P w) P w K mg base N_is_number "is_number" (defScope s_is_number) (clsA K "is_number") cdv A outer s H E) rfl rfl rfl rfl
  exact s_one (s_ret (d_and (c_call A_is_integer hr (by decide) (by rfl) (passes_call tk fun _ _ _ _ h => h) (dl_cons (de_v 0) dl_nil)) (d_and ((d_ge (de_v 0) de_int).pe) (d_one (d_or ((d_isN (de_v 1)).pe) (d_one ((d_le (de_v 0) (de_v 1)).pe)))))))
end
def G_need_places : S := sIf (mOr (mNot (asB (mCall g_is_number [] (mCons (slotD 0) (mCons (ret (.int 11)) (ret [])))))) (asB (mOp oEq (mB 0) (ret (.int 0)))))
  (sRaise "Refused" (ret (.str "places")))
  (sNil)
def g_need_places := runF 1 1 G_need_places
section
variable {P : Program} {w : World} {K : PySem.W.Frag} {mg : Str → Option Value} {base : Heap}
theorem ok_need_places (T : Tx P K mg) : Fk P w K mg base 3 "need_places" g_need_places := by
  have A_is_number := ok_is_number (w := w) (base := base) T
  obtain ⟨t_MOST_PLAIN, h_MOST_PLAIN⟩ := T.c_MOST_PLAIN
  obtain ⟨fI, cc, cda, TR⟩ := T.ref
  obtain ⟨fd, F, gm⟩ := T.d_need_places
  refine ⟨_, fd, ["places"], fn_DD (N := N_need_places) F sc_need_places (by decide) (fun cdv A outer s H E hr => ?_), gm, F.kp, F.bindsN fun _ _ _ _ _ _ us hl => match us, hl with | [_], _ => rfl⟩
  have tk := takes_of (X := cxOf (L2.CX P w) P w K mg base N_need_places "need_places" (defScope s_need_places) (clsA K "need_places") cdv A outer s H E) rfl rfl rfl rfl
  exact s_one (s_if ((w_or (t_not (t_val (c_call A_is_number hr (by decide) (by rfl) (passes_call tk fun _ _ _ _ h => h) (dl_cons (de_v 0) (dl_cons (de_glob (d := .int 11) (v := .int 11) (by rfl) h_MOST_PLAIN ⟨_, rfl⟩ fun _ => rfl) dl_nil))))) (w_or1 ((d_eq hr pu_ret (db 0) (db_of de_int)).pt))).pt)
      (s_one (s_raise rfl TR hr tk de_str))
      s_nil)
end
def G_factorial : S := sSeq (sSet 1 (ret (.int 1)))
  (sSeq (sFor (mRg (mCons (ret (.int 2)) (mCons (mOp oAdd (slotD 0) (ret (.int 1))) (ret [])))) (gNm 2)
  (sAug 1 oMul (slotD 2)))
  (sRet (slotD 1)))
def g_factorial := runF 3 1 G_factorial
section
variable {P : Program} {w : World} {K : PySem.W.Frag} {mg : Str → Option Value} {base : Heap}
theorem ok_factorial (T : Tx P K mg) : Fk P w K mg base 1 "factorial" g_factorial := by
  obtain ⟨fd, F, gm⟩ := T.d_factorial
  refine ⟨_, fd, ["many"], fn_DD (N := N_factorial) F sc_factorial (by decide) (fun cdv A outer s H E hr => ?_), gm, F.kp, F.bindsN fun _ _ _ _ _ _ us hl => match us, hl with | [_], _ => rfl⟩
  have tk := takes_of (X := cxOf (L2.CX P w) P w K mg base N_factorial "factorial" (defScope s_factorial) (clsA K "factorial") cdv A outer s H E) rfl rfl rfl rfl
  exact s_cons (s_set (i := 1) sc_factorial.nd rfl (by first | exact Or.inl rfl | exact Or.inr rfl | exact Or.inr (Or.inl rfl) | exact Or.inr (Or.inr rfl)) de_int)
      (s_cons (s_for (passes_of rfl) rfl (i_rg2 (by rfl) T.f_range (dl_cons de_int (dl_cons (d_add (de_v 0) de_int) dl_nil)) len2) (g_nm (i := 2) sc_factorial.nd rfl (by first | exact Or.inl rfl | exact Or.inr rfl | exact Or.inr (Or.inl rfl) | exact Or.inr (Or.inr rfl)))
      (s_one (s_augMul (i := 1) sc_factorial.nd rfl (by first | exact Or.inl rfl | exact Or.inr rfl | exact Or.inr (Or.inl rfl) | exact Or.inr (Or.inr rfl)) (de_v 2))))
      (s_one (s_ret (de_v 1))))
end
def G_all_pairs : S := sRet (mComp2 (mRg (mCons (slotD 0) (ret []))) [1, 2] (gNm 1) (ret true) (mRg (mCons (mOp oAdd (slotD 1) (ret (.int 1))) (mCons (slotD 0) (ret [])))) [2] (gNm 2) (ret true) (mTup (mCons (slotD 1) (mCons (slotD 2) (ret [])))))
def g_all_pairs := runF 3 1 G_all_pairs
section
variable {P : Program} {w : World} {K : PySem.W.Frag} {mg : Str → Option Value} {base : Heap}
theorem ok_all_pairs (T : Tx P K mg) : Fk P w K mg base 1 "all_pairs" g_all_pairs := by
  obtain ⟨fd, F, gm⟩ := T.d_all_pairs
  refine ⟨_, fd, ["many"], fn_DD (N := N_all_pairs) F sc_all_pairs (by decide) (fun cdv A outer s H E hr => ?_), gm, F.kp, F.bindsN fun _ _ _ _ _ _ us hl => match us, hl with | [_], _ => rfl⟩
  have tk := takes_of (X := cxOf (L2.CX P w) P w K mg base N_all_pairs "all_pairs" (defScope s_all_pairs) (clsA K "all_pairs") cdv A outer s H E) rfl rfl rfl rfl
  exact s_one (s_ret (d_fz (d_comp2 (own := [("i", 1), ("j", 2)]) (vs1 := [2]) rfl sc_all_pairs.nd (i_rg1 (by rfl) T.f_range (dl_cons (de_v 0) dl_nil) rfl len1) (blkOk_by (own := [("i", 1), ("j", 2)]) (N := N_all_pairs) (sc := defScope s_all_pairs) (by decide +kernel)) (by decide) (fun _ _ _ _ _ => (g_nm (i := 1) sc_all_pairs.nd rfl (by first | exact Or.inl rfl | exact Or.inr rfl | exact Or.inr (Or.inl rfl) | exact Or.inr (Or.inr rfl)))) (fun _ _ _ _ _ => t_yes) (fun _ _ _ _ _ => (i_rg2 (by rfl) T.f_range (dl_cons (d_add (de_v 1) de_int) (dl_cons (de_v 0) dl_nil)) len2)) (fun _ _ _ _ _ => (g_nm (i := 2) sc_all_pairs.nd rfl (by first | exact Or.inl rfl | exact Or.inr rfl | exact Or.inr (Or.inl rfl) | exact Or.inr (Or.inr rfl)))) (fun _ _ _ _ _ => t_yes) (fun _ _ _ _ _ => d_tup (dl_cons (de_v 1) (dl_cons (de_v 2) dl_nil))) pu_ret (pu_mRg (pu_cons (pu_op pu_slot pu_ret) (pu_cons pu_slot pu_ret))) pu_ret (pu_mTup (pu_cons pu_slot (pu_cons pu_slot pu_ret))) tg_nm tg_nm (by decide) (by decide))))
end
def G_how_many : S := sSeq (sExpr (mCall g_need_places [] (mCons (slotD 0) (ret []))))
  (sRet (mOp oShl (mCall g_factorial [] (mCons (slotD 0) (ret []))) (mUn oLen (mCall g_all_pairs [] (mCons (slotD 0) (ret []))))))
def g_how_many := runF 1 1 G_how_many
section
variable {P : Program} {w : World} {K : PySem.W.Frag} {mg : Str → Option Value} {base : Heap}
theorem ok_how_many (T : Tx P K mg) : Fk P w K mg base 4 "how_many" g_how_many := by
  have A_all_pairs := ok_all_pairs (w := w) (base := base) T
  have A_factorial := ok_factorial (w := w) (base := base) T
  have A_need_places := ok_need_places (w := w) (base := base) T
  obtain ⟨fd, F, gm⟩ := T.d_how_many
  refine ⟨_, fd, ["places"], fn_DD (N := N_how_many) F sc_how_many (by decide) (fun cdv A outer s H E hr => ?_), gm, F.kp, F.bindsN fun _ _ _ _ _ _ us hl => match us, hl with | [_], _ => rfl⟩
  have tk := takes_of (X := cxOf (L2.CX P w) P w K mg base N_how_many "how_many" (defScope s_how_many) (clsA K "how_many") cdv A outer s H E) rfl rfl rfl rfl
  exact s_cons (s_expr (c_call A_need_places hr (by decide) (by rfl) (passes_call tk fun _ _ _ _ h => h) (dl_cons (de_v 0) dl_nil)))
      (s_one (s_ret (d_shl (c_call A_factorial hr (by decide) (by rfl) (passes_call tk fun _ _ _ _ h => h) (dl_cons (de_v 0) dl_nil)) (d_len (by rfl) T.f_len (db_of (c_call A_all_pairs hr (by decide) (by rfl) (passes_call tk fun _ _ _ _ h => h) (dl_cons (de_v 0) dl_nil)))))))
end
def G_need_counted : S := sIf (mOr (mNot (asB (mCall g_is_number [] (mCons (slotD 0) (mCons (ret (.int 8)) (ret [])))))) (asB (mOp oEq (mB 0) (ret (.int 0)))))
  (sRaise "Refused" (ret (.str "places")))
  (sNil)
def g_need_counted := runF 1 1 G_need_counted
section
variable {P : Program} {w : World} {K : PySem.W.Frag} {mg : Str → Option Value} {base : Heap}
theorem ok_need_counted (T : Tx P K mg) : Fk P w K mg base 3 "need_counted" g_need_counted := by
  have A_is_number := ok_is_number (w := w) (base := base) T
  obtain ⟨t_MOST_COUNTED, h_MOST_COUNTED⟩ := T.c_MOST_COUNTED
  obtain ⟨fI, cc, cda, TR⟩ := T.ref
  obtain ⟨fd, F, gm⟩ := T.d_need_counted
  refine ⟨_, fd, ["places"], fn_DD (N := N_need_counted) F sc_need_counted (by decide) (fun cdv A outer s H E hr => ?_), gm, F.kp, F.bindsN fun _ _ _ _ _ _ us hl => match us, hl with | [_], _ => rfl⟩
  have tk := takes_of (X := cxOf (L2.CX P w) P w K mg base N_need_counted "need_counted" (defScope s_need_counted) (clsA K "need_counted") cdv A outer s H E) rfl rfl rfl rfl
  exact s_one (s_if ((w_or (t_not (t_val (c_call A_is_number hr (by decide) (by rfl) (passes_call tk fun _ _ _ _ h => h) (dl_cons (de_v 0) (dl_cons (de_glob (d := .int 8) (v := .int 8) (by rfl) h_MOST_COUNTED ⟨_, rfl⟩ fun _ => rfl) dl_nil))))) (w_or1 ((d_eq hr pu_ret (db 0) (db_of de_int)).pt))).pt)
      (s_one (s_raise rfl TR hr tk de_str))
      s_nil)
end
def G_chosen_from : S := sRet (mOp oDiv (mCall g_factorial [] (mCons (slotD 0) (ret []))) (mOp oMul (mCall g_factorial [] (mCons (slotD 1) (ret []))) (mCall g_factorial [] (mCons (mOp oSub (slotD 0) (slotD 1)) (ret [])))))
def g_chosen_from := runF 2 2 G_chosen_from
section
variable {P : Program} {w : World} {K : PySem.W.Frag} {mg : Str → Option Value} {base : Heap}
theorem ok_chosen_from (T : Tx P K mg) : Fk P w K mg base 2 "chosen_from" g_chosen_from := by
  have A_factorial := ok_factorial (w := w) (base := base) T
  obtain ⟨fd, F, gm⟩ := T.d_chosen_from
  refine ⟨_, fd, ["many", "some"], fn_DD (N := N_chosen_from) F sc_chosen_from (by decide) (fun cdv A outer s H E hr => ?_), gm, F.kp, F.bindsN fun _ _ _ _ _ _ us hl => match us, hl with | [_, _], _ => rfl⟩
  have tk := takes_of (X := cxOf (L2.CX P w) P w K mg base N_chosen_from "chosen_from" (defScope s_chosen_from) (clsA K "chosen_from") cdv A outer s H E) rfl rfl rfl rfl
  exact s_one (s_ret (d_div (c_call A_factorial hr (by decide) (by rfl) (passes_call tk fun _ _ _ _ h => h) (dl_cons (de_v 0) dl_nil)) (d_mul (c_call A_factorial hr (by decide) (by rfl) (passes_call tk fun _ _ _ _ h => h) (dl_cons (de_v 1) dl_nil)) (c_call A_factorial hr (by decide) (by rfl) (passes_call tk fun _ _ _ _ h => h) (dl_cons (d_sub (de_v 0) (de_v 1)) dl_nil)))))
end
def G_plus : S := sSeq (sSetF 3 (mDict pairP (mB 0)))
  (sSeq (sForD 1 (gNm 4)
  (sAsg (gIx 3 (slotD 4)) (mOp oAdd (mGet (asDc (mB 3)) (slotD 4) (ret (.int 0))) (mOp oMul (slotD 2) (mOp oIx (mB 1) (slotD 4))))))
  (sRet (mCompT (mKeys 3) [4] (gNm 4) (asB (mOp oNe (mOp oIx (mB 3) (slotD 4)) (ret (.int 0)))) (slotD 4) (mOp oIx (mB 3) (slotD 4)))))
def g_plus := runF 5 3 G_plus
section
variable {P : Program} {w : World} {K : PySem.W.Frag} {mg : Str → Option Value} {base : Heap}
theorem ok_plus (T : Tx P K mg) : Fk P w K mg base 1 "plus" g_plus := by
  obtain ⟨fd, F, gm⟩ := T.d_plus
  refine ⟨_, fd, ["one", "other", "times"], fn_DD (N := N_plus) F sc_plus (by decide) (fun cdv A outer s H E hr => ?_), gm, F.kp, F.bindsN fun _ _ _ _ _ _ us hl => match us, hl with | [_, _, _], _ => rfl⟩
  have tk := takes_of (X := cxOf (L2.CX P w) P w K mg base N_plus "plus" (defScope s_plus) (clsA K "plus") cdv A outer s H E) rfl rfl rfl rfl
  exact s_cons (s_setF (i := 3) sc_plus.nd rfl (by first | exact Or.inl rfl | exact Or.inr rfl | exact Or.inr (Or.inl rfl) | exact Or.inr (Or.inr rfl)) (d_dict hr pairP_apart (by rfl) T.f_dict (db 0)))
      (s_cons (s_forD (i := 1) (passes_of rfl) rfl rfl (by first | exact Or.inl rfl | exact Or.inr rfl | exact Or.inr (Or.inl rfl) | exact Or.inr (Or.inr rfl)) (g_nm (i := 4) sc_plus.nd rfl (by first | exact Or.inl rfl | exact Or.inr rfl | exact Or.inr (Or.inl rfl) | exact Or.inr (Or.inr rfl)))
      (s_one (s_asg (d_add (d_get hr pu_slot pu_ret (db 3) (de_v 4) de_int ⟨rfl, rfl, rfl, rfl⟩) (d_mul (de_v 2) (d_ix hr pu_slot (db 1) (de_v 4)))) (g_ix (i := 3) hr pu_slot rfl (by first | exact Or.inl rfl | exact Or.inr rfl | exact Or.inr (Or.inl rfl) | exact Or.inr (Or.inr rfl)) (de_v 4)))))
      (s_one (s_ret (d_fz (d_compTD (own := [("key", 4)]) (i := 3) hr rfl sc_plus.nd rfl (by first | exact Or.inl rfl | exact Or.inr rfl | exact Or.inr (Or.inl rfl) | exact Or.inr (Or.inr rfl)) (blkOk_by (own := [("key", 4)]) (N := N_plus) (sc := defScope s_plus) (by decide +kernel)) (fun _ _ _ _ _ => (g_nm (i := 4) sc_plus.nd rfl (by first | exact Or.inl rfl | exact Or.inr rfl | exact Or.inr (Or.inl rfl) | exact Or.inr (Or.inr rfl)))) (fun _ _ _ _ _ => t_one ((d_ne hr pu_ret (db_of (d_ix hr pu_slot (db 3) (de_v 4))) (db_of de_int)).pt)) (fun _ _ _ _ _ => de_v 4) (fun _ _ _ _ _ => d_ix hr pu_slot (db 3) (de_v 4)) (pu_asB (pu_op (pu_op pu_mB pu_slot) pu_ret)) pu_slot (pu_op pu_mB pu_slot) tg_nm (by decide))))))
end
def G_product : S := sSeq (sSetF 2 (ret (.dT [])))
  (sSeq (sForD 0 (gTp 2 (gsCons (gNm 3) (gsCons (gNm 4) (gsNil))))
  (sForD 1 (gTp 2 (gsCons (gNm 5) (gsCons (gNm 6) (gsNil))))
  (sAsg (gIx 2 (mTup (mCons (mOp oAdd (slotD 3) (slotD 5)) (mCons (mOp oAdd (slotD 4) (slotD 6)) (ret []))))) (mOp oAdd (mGet (asDc (mB 2)) (mTup (mCons (mOp oAdd (slotD 3) (slotD 5)) (mCons (mOp oAdd (slotD 4) (slotD 6)) (ret [])))) (ret (.int 0))) (mOp oMul (mOp oIx (mB 0) (mTup (mCons (slotD 3) (mCons (slotD 4) (ret []))))) (mOp oIx (mB 1) (mTup (mCons (slotD 5) (mCons (slotD 6) (ret []))))))))))
  (sRet (mV 2)))
def g_product := runF 7 2 G_product
section
variable {P : Program} {w : World} {K : PySem.W.Frag} {mg : Str → Option Value} {base : Heap}
theorem ok_product (T : Tx P K mg) : Fk P w K mg base 1 "product" g_product := by
  obtain ⟨fd, F, gm⟩ := T.d_product
  refine ⟨_, fd, ["one", "other"], fn_DD (N := N_product) F sc_product (by decide) (fun cdv A outer s H E hr => ?_), gm, F.kp, F.bindsN fun _ _ _ _ _ _ us hl => match us, hl with | [_, _], _ => rfl⟩
  have tk := takes_of (X := cxOf (L2.CX P w) P w K mg base N_product "product" (defScope s_product) (clsA K "product") cdv A outer s H E) rfl rfl rfl rfl
  exact s_cons (s_setF (i := 2) sc_product.nd rfl (by first | exact Or.inl rfl | exact Or.inr rfl | exact Or.inr (Or.inl rfl) | exact Or.inr (Or.inr rfl)) d_newT)
      (s_cons (s_forD (i := 0) (passes_of rfl) rfl rfl (by first | exact Or.inl rfl | exact Or.inr rfl | exact Or.inr (Or.inl rfl) | exact Or.inr (Or.inr rfl)) (g_tup rfl (gs_cons (g_nm (i := 3) sc_product.nd rfl (by first | exact Or.inl rfl | exact Or.inr rfl | exact Or.inr (Or.inl rfl) | exact Or.inr (Or.inr rfl))) (gs_cons (g_nm (i := 4) sc_product.nd rfl (by first | exact Or.inl rfl | exact Or.inr rfl | exact Or.inr (Or.inl rfl) | exact Or.inr (Or.inr rfl))) gs_nil)))
      (s_one (s_forD (i := 1) (passes_of rfl) rfl rfl (by first | exact Or.inl rfl | exact Or.inr rfl | exact Or.inr (Or.inl rfl) | exact Or.inr (Or.inr rfl)) (g_tup rfl (gs_cons (g_nm (i := 5) sc_product.nd rfl (by first | exact Or.inl rfl | exact Or.inr rfl | exact Or.inr (Or.inl rfl) | exact Or.inr (Or.inr rfl))) (gs_cons (g_nm (i := 6) sc_product.nd rfl (by first | exact Or.inl rfl | exact Or.inr rfl | exact Or.inr (Or.inl rfl) | exact Or.inr (Or.inr rfl))) gs_nil)))
      (s_one (s_asg (d_add (d_get hr (pu_mTup (pu_cons (pu_op pu_slot pu_slot) (pu_cons (pu_op pu_slot pu_slot) pu_ret))) pu_ret (db 2) (d_tup (dl_cons (d_add (de_v 3) (de_v 5)) (dl_cons (d_add (de_v 4) (de_v 6)) dl_nil))) de_int ⟨rfl, rfl, rfl, rfl⟩) (d_mul (d_ix hr (pu_mTup (pu_cons pu_slot (pu_cons pu_slot pu_ret))) (db 0) (d_tup (dl_cons (de_v 3) (dl_cons (de_v 4) dl_nil)))) (d_ix hr (pu_mTup (pu_cons pu_slot (pu_cons pu_slot pu_ret))) (db 1) (d_tup (dl_cons (de_v 5) (dl_cons (de_v 6) dl_nil)))))) (g_ix (i := 2) hr (pu_mTup (pu_cons (pu_op pu_slot pu_slot) (pu_cons (pu_op pu_slot pu_slot) pu_ret))) rfl (by first | exact Or.inl rfl | exact Or.inr rfl | exact Or.inr (Or.inl rfl) | exact Or.inr (Or.inr rfl)) (d_tup (dl_cons (d_add (de_v 3) (de_v 5)) (dl_cons (d_add (de_v 4) (de_v 6)) dl_nil)))))))))
      (s_one (s_ret (dv 2))))
end
def G_between : S := sRet (mCompT (mRg (mCons (mOp oAdd (slotD 0) (ret (.int 1))) (ret []))) [1] (gNm 1) (ret true) (mTup (mCons (slotD 1) (mCons (ret (.int 0)) (ret [])))) (mCall g_chosen_from [] (mCons (slotD 0) (mCons (slotD 1) (ret [])))))
def g_between := runF 2 1 G_between
section
variable {P : Program} {w : World} {K : PySem.W.Frag} {mg : Str → Option Value} {base : Heap}
theorem ok_between (T : Tx P K mg) : Fk P w K mg base 3 "between" g_between := by
  have A_chosen_from := ok_chosen_from (w := w) (base := base) T
  obtain ⟨fd, F, gm⟩ := T.d_between
  refine ⟨_, fd, ["many"], fn_DD (N := N_between) F sc_between (by decide) (fun cdv A outer s H E hr => ?_), gm, F.kp, F.bindsN fun _ _ _ _ _ _ us hl => match us, hl with | [_], _ => rfl⟩
  have tk := takes_of (X := cxOf (L2.CX P w) P w K mg base N_between "between" (defScope s_between) (clsA K "between") cdv A outer s H E) rfl rfl rfl rfl
  exact s_one (s_ret (d_fz (d_compT (own := [("some", 1)]) hr rfl sc_between.nd (i_rg1 (by rfl) T.f_range (dl_cons (d_add (de_v 0) de_int) dl_nil) rfl len1) (blkOk_by (own := [("some", 1)]) (N := N_between) (sc := defScope s_between) (by decide +kernel)) (fun _ _ _ _ _ => (g_nm (i := 1) sc_between.nd rfl (by first | exact Or.inl rfl | exact Or.inr rfl | exact Or.inr (Or.inl rfl) | exact Or.inr (Or.inr rfl)))) (fun _ _ _ _ _ => t_yes) (fun _ _ _ _ _ => d_tup (dl_cons (de_v 1) (dl_cons de_int dl_nil))) (fun _ _ _ _ _ => c_call A_chosen_from hr (by decide) (by rfl) passL (dl_cons (de_v 0) (dl_cons (de_v 1) dl_nil))) pu_ret (pu_mTup (pu_cons pu_slot (pu_cons pu_ret pu_ret))) (pu_mCall (pu_cons pu_slot (pu_cons pu_slot pu_ret))) tg_nm (by decide))))
end
def G_of_part : S := sRet (mIf (asB (mOp oEq (mB 0) (ret (.int 1)))) (mDisp1 (mTup (mCons (ret (.int 0)) (mCons (ret (.int 0)) (ret [])))) (ret (.int 1))) (mDisp1 (mTup (mCons (slotD 0) (mCons (ret (.int 1)) (ret [])))) (mCall g_factorial [] (mCons (mOp oSub (slotD 0) (ret (.int 1))) (ret [])))))
def g_of_part := runF 1 1 G_of_part
section
variable {P : Program} {w : World} {K : PySem.W.Frag} {mg : Str → Option Value} {base : Heap}
theorem ok_of_part (T : Tx P K mg) : Fk P w K mg base 2 "of_part" g_of_part := by
  have A_factorial := ok_factorial (w := w) (base := base) T
  obtain ⟨fd, F, gm⟩ := T.d_of_part
  refine ⟨_, fd, ["many"], fn_DD (N := N_of_part) F sc_of_part (by decide) (fun cdv A outer s H E hr => ?_), gm, F.kp, F.bindsN fun _ _ _ _ _ _ us hl => match us, hl with | [_], _ => rfl⟩
  have tk := takes_of (X := cxOf (L2.CX P w) P w K mg base N_of_part "of_part" (defScope s_of_part) (clsA K "of_part") cdv A outer s H E) rfl rfl rfl rfl
  exact s_one (s_ret (d_if ((d_eq hr pu_ret (db 0) (db_of de_int)).pt) (d_fz (d_disp1 hr (d_tup (dl_cons de_int (dl_cons de_int dl_nil))) de_int)) (d_fz (d_disp1 hr (d_tup (dl_cons (de_v 0) (dl_cons de_int dl_nil))) (c_call A_factorial hr (by decide) (by rfl) (passes_call tk fun _ _ _ _ h => h) (dl_cons (d_sub (de_v 0) de_int) dl_nil))))))
end
def G_signed_tables : S := sSeq (sSetF 1 (mLst (mCons (mDisp1 (mTup (mCons (ret (.int 0)) (mCons (ret (.int 0)) (ret [])))) (ret (.int 1))) (ret []))))
  (sSeq (sFor (mRg (mCons (ret (.int 1)) (mCons (mOp oAdd (slotD 0) (ret (.int 1))) (ret [])))) (gNm 2)
  (sSeq (sSet 3 (ret (.dT [])))
  (sSeq (sFor (mRg (mCons (ret (.int 1)) (mCons (mOp oAdd (slotD 2) (ret (.int 1))) (ret [])))) (gNm 4)
  (sSet 3 (mCall g_plus [] (mCons (slotD 3) (mCons (mCall g_product [] (mCons (mCall g_of_part [] (mCons (slotD 4) (ret []))) (mCons (mOp oIx (mB 1) (mOp oSub (slotD 2) (slotD 4))) (ret [])))) (mCons (mUn oNeg (mCall g_chosen_from [] (mCons (mOp oSub (slotD 2) (ret (.int 1))) (mCons (mOp oSub (slotD 4) (ret (.int 1))) (ret []))))) (ret [])))))))
  (sApp 1 (slotD 3)))))
  (sRet (mV 1)))
def g_signed_tables := runF 5 1 G_signed_tables
section
variable {P : Program} {w : World} {K : PySem.W.Frag} {mg : Str → Option Value} {base : Heap}
theorem ok_signed_tables (T : Tx P K mg) : Fk P w K mg base 3 "signed_tables" g_signed_tables := by
  have A_chosen_from := ok_chosen_from (w := w) (base := base) T
  have A_of_part := ok_of_part (w := w) (base := base) T
  have A_plus := ok_plus (w := w) (base := base) T
  have A_product := ok_product (w := w) (base := base) T
  obtain ⟨fd, F, gm⟩ := T.d_signed_tables
  refine ⟨_, fd, ["most"], fn_DD (N := N_signed_tables) F sc_signed_tables (by decide) (fun cdv A outer s H E hr => ?_), gm, F.kp, F.bindsN fun _ _ _ _ _ _ us hl => match us, hl with | [_], _ => rfl⟩
  have tk := takes_of (X := cxOf (L2.CX P w) P w K mg base N_signed_tables "signed_tables" (defScope s_signed_tables) (clsA K "signed_tables") cdv A outer s H E) rfl rfl rfl rfl
  exact s_cons (s_setF (i := 1) sc_signed_tables.nd rfl (by first | exact Or.inl rfl | exact Or.inr rfl | exact Or.inr (Or.inl rfl) | exact Or.inr (Or.inr rfl)) (d_lst (dl_cons (d_fz (d_disp1 hr (d_tup (dl_cons de_int (dl_cons de_int dl_nil))) de_int)) dl_nil)))
      (s_cons (s_for (passes_of rfl) rfl (i_rg2 (by rfl) T.f_range (dl_cons de_int (dl_cons (d_add (de_v 0) de_int) dl_nil)) len2) (g_nm (i := 2) sc_signed_tables.nd rfl (by first | exact Or.inl rfl | exact Or.inr rfl | exact Or.inr (Or.inl rfl) | exact Or.inr (Or.inr rfl)))
      (s_cons (s_set (i := 3) sc_signed_tables.nd rfl (by first | exact Or.inl rfl | exact Or.inr rfl | exact Or.inr (Or.inl rfl) | exact Or.inr (Or.inr rfl)) (d_fz d_newT))
      (s_cons (s_for (passes_of rfl) rfl (i_rg2 (by rfl) T.f_range (dl_cons de_int (dl_cons (d_add (de_v 2) de_int) dl_nil)) len2) (g_nm (i := 4) sc_signed_tables.nd rfl (by first | exact Or.inl rfl | exact Or.inr rfl | exact Or.inr (Or.inl rfl) | exact Or.inr (Or.inr rfl)))
      (s_one (s_set (i := 3) sc_signed_tables.nd rfl (by first | exact Or.inl rfl | exact Or.inr rfl | exact Or.inr (Or.inl rfl) | exact Or.inr (Or.inr rfl)) (c_call A_plus hr (by decide) (by rfl) (passes_call tk fun _ _ _ _ h => h) (dl_cons (de_v 3) (dl_cons (c_call A_product hr (by decide) (by rfl) (passes_call tk fun _ _ _ _ h => h) (dl_cons (c_call A_of_part hr (by decide) (by rfl) (passes_call tk fun _ _ _ _ h => h) (dl_cons (de_v 4) dl_nil)) (dl_cons (d_ix hr (pu_op pu_slot pu_slot) (db 1) (d_sub (de_v 2) (de_v 4))) dl_nil))) (dl_cons (d_neg (c_call A_chosen_from hr (by decide) (by rfl) (passes_call tk fun _ _ _ _ h => h) (dl_cons (d_sub (de_v 2) de_int) (dl_cons (d_sub (de_v 4) de_int) dl_nil)))) dl_nil)))))))
      (s_one (s_app (i := 1) rfl (by first | exact Or.inl rfl | exact Or.inr rfl | exact Or.inr (Or.inl rfl) | exact Or.inr (Or.inr rfl)) (de_v 3))))))
      (s_one (s_ret (dv 1))))
end
def G_table_of : S := sSeq (sExpr (mCall g_need_counted [] (mCons (slotD 0) (ret []))))
  (sSeq (sParX 2 3 false true (mCall g_signed_tables [] (mCons (slotD 0) (ret []))) (mLst (mCons (mDisp1 (mTup (mCons (ret (.int 0)) (mCons (ret (.int 0)) (ret [])))) (ret (.int 1))) (ret []))))
  (sSeq (sFor (mRg (mCons (ret (.int 1)) (mCons (mOp oAdd (slotD 0) (ret (.int 1))) (ret [])))) (gNm 1)
  (sSeq (sSet 4 (ret (.dT [])))
  (sSeq (sFor (mRg (mCons (ret (.int 1)) (mCons (mOp oAdd (slotD 1) (ret (.int 1))) (ret [])))) (gNm 5)
  (sSeq (sSet 6 (mCall g_product [] (mCons (mCall g_product [] (mCons (mOp oIx (mB 2) (slotD 5)) (mCons (mOp oIx (mB 3) (mOp oSub (slotD 1) (slotD 5))) (ret [])))) (mCons (mCall g_between [] (mCons (mOp oMul (slotD 5) (mOp oSub (slotD 1) (slotD 5))) (ret []))) (ret [])))))
  (sSet 4 (mCall g_plus [] (mCons (slotD 4) (mCons (slotD 6) (mCons (mUn oNeg (mCall g_chosen_from [] (mCons (slotD 1) (mCons (slotD 5) (ret []))))) (ret []))))))))
  (sApp 3 (slotD 4)))))
  (sRet (mOp oIx (mB 3) (slotD 0)))))
def g_table_of := runF 7 1 G_table_of
section
variable {P : Program} {w : World} {K : PySem.W.Frag} {mg : Str → Option Value} {base : Heap}
theorem ok_table_of (T : Tx P K mg) : Fk P w K mg base 4 "table_of" g_table_of := by
  have A_between := ok_between (w := w) (base := base) T
  have A_chosen_from := ok_chosen_from (w := w) (base := base) T
  have A_need_counted := ok_need_counted (w := w) (base := base) T
  have A_plus := ok_plus (w := w) (base := base) T
  have A_product := ok_product (w := w) (base := base) T
  have A_signed_tables := ok_signed_tables (w := w) (base := base) T
  obtain ⟨fd, F, gm⟩ := T.d_table_of
  refine ⟨_, fd, ["places"], fn_DD (N := N_table_of) F sc_table_of (by decide) (fun cdv A outer s H E hr => ?_), gm, F.kp, F.bindsN fun _ _ _ _ _ _ us hl => match us, hl with | [_], _ => rfl⟩
  have tk := takes_of (X := cxOf (L2.CX P w) P w K mg base N_table_of "table_of" (defScope s_table_of) (clsA K "table_of") cdv A outer s H E) rfl rfl rfl rfl
  exact s_cons (s_expr (c_call A_need_counted hr (by decide) (by rfl) (passes_call tk fun _ _ _ _ h => h) (dl_cons (de_v 0) dl_nil)))
      (s_cons (s_parX (i := 2) (j := 3) rfl sc_table_of.nd rfl rfl (by decide) rfl rfl (x_fz (c_call A_signed_tables hr (by decide) (by rfl) (passes_call tk fun _ _ _ _ h => h) (dl_cons (de_v 0) dl_nil))) (x_own (d_lst (dl_cons (d_fz (d_disp1 hr (d_tup (dl_cons de_int (dl_cons de_int dl_nil))) de_int)) dl_nil))) rfl)
      (s_cons (s_for (passes_of rfl) rfl (i_rg2 (by rfl) T.f_range (dl_cons de_int (dl_cons (d_add (de_v 0) de_int) dl_nil)) len2) (g_nm (i := 1) sc_table_of.nd rfl (by first | exact Or.inl rfl | exact Or.inr rfl | exact Or.inr (Or.inl rfl) | exact Or.inr (Or.inr rfl)))
      (s_cons (s_set (i := 4) sc_table_of.nd rfl (by first | exact Or.inl rfl | exact Or.inr rfl | exact Or.inr (Or.inl rfl) | exact Or.inr (Or.inr rfl)) (d_fz d_newT))
      (s_cons (s_for (passes_of rfl) rfl (i_rg2 (by rfl) T.f_range (dl_cons de_int (dl_cons (d_add (de_v 1) de_int) dl_nil)) len2) (g_nm (i := 5) sc_table_of.nd rfl (by first | exact Or.inl rfl | exact Or.inr rfl | exact Or.inr (Or.inl rfl) | exact Or.inr (Or.inr rfl)))
      (s_cons (s_set (i := 6) sc_table_of.nd rfl (by first | exact Or.inl rfl | exact Or.inr rfl | exact Or.inr (Or.inl rfl) | exact Or.inr (Or.inr rfl)) (c_call A_product hr (by decide) (by rfl) (passes_call tk fun _ _ _ _ h => h) (dl_cons (c_call A_product hr (by decide) (by rfl) (passes_call tk fun _ _ _ _ h => h) (dl_cons (d_ix hr pu_slot (db 2) (de_v 5)) (dl_cons (d_ix hr (pu_op pu_slot pu_slot) (db 3) (d_sub (de_v 1) (de_v 5))) dl_nil))) (dl_cons (c_call A_between hr (by decide) (by rfl) (passes_call tk fun _ _ _ _ h => h) (dl_cons (d_mul (de_v 5) (d_sub (de_v 1) (de_v 5))) dl_nil)) dl_nil))))
      (s_one (s_set (i := 4) sc_table_of.nd rfl (by first | exact Or.inl rfl | exact Or.inr rfl | exact Or.inr (Or.inl rfl) | exact Or.inr (Or.inr rfl)) (c_call A_plus hr (by decide) (by rfl) (passes_call tk fun _ _ _ _ h => h) (dl_cons (de_v 4) (dl_cons (de_v 6) (dl_cons (d_neg (c_call A_chosen_from hr (by decide) (by rfl) (passes_call tk fun _ _ _ _ h => h) (dl_cons (de_v 1) (dl_cons (de_v 5) dl_nil)))) dl_nil))))))))
      (s_one (s_app (i := 3) rfl (by first | exact Or.inl rfl | exact Or.inr rfl | exact Or.inr (Or.inl rfl) | exact Or.inr (Or.inr rfl)) (de_v 4))))))
      (s_one (s_ret (d_ix hr pu_slot (db 3) (de_v 0))))))
end
def G_belts_and_rings : S := sSeq (sSet 1 (mCall g_table_of [] (mCons (slotD 0) (ret []))))
  (sRet (mUn oTuple (mComp (mIt (mUnF oSortP (mUnF oList (mB 1)))) [2, 3] (gTp 2 (gsCons (gNm 2) (gsCons (gNm 3) (gsNil)))) (ret true) (mTup (mCons (slotD 2) (mCons (slotD 3) (mCons (mOp oIx (mB 1) (mTup (mCons (slotD 2) (mCons (slotD 3) (ret []))))) (ret []))))))))
def g_belts_and_rings := runF 4 1 G_belts_and_rings
section
variable {P : Program} {w : World} {K : PySem.W.Frag} {mg : Str → Option Value} {base : Heap}
theorem ok_belts_and_rings (T : Tx P K mg) : Fk P w K mg base 5 "belts_and_rings" g_belts_and_rings := by
  have A_table_of := ok_table_of (w := w) (base := base) T
  obtain ⟨fd, F, gm⟩ := T.d_belts_and_rings
  refine ⟨_, fd, ["places"], fn_DD (N := N_belts_and_rings) F sc_belts_and_rings (by decide) (fun cdv A outer s H E hr => ?_), gm, F.kp, F.bindsN fun _ _ _ _ _ _ us hl => match us, hl with | [_], _ => rfl⟩
  have tk := takes_of (X := cxOf (L2.CX P w) P w K mg base N_belts_and_rings "belts_and_rings" (defScope s_belts_and_rings) (clsA K "belts_and_rings") cdv A outer s H E) rfl rfl rfl rfl
  exact s_cons (s_set (i := 1) sc_belts_and_rings.nd rfl (by first | exact Or.inl rfl | exact Or.inr rfl | exact Or.inr (Or.inl rfl) | exact Or.inr (Or.inr rfl)) (c_call A_table_of hr (by decide) (by rfl) (passes_call tk fun _ _ _ _ h => h) (dl_cons (de_v 0) dl_nil)))
      (s_one (s_ret (d_tuple (by rfl) T.f_tuple (db_of (d_fz (d_comp (own := [("belts", 2), ("rings", 3)]) rfl sc_belts_and_rings.nd (i_seq (d_fz (d_sortP (by rfl) T.f_sorted (db_of (d_fz (d_list rfl (by rfl) T.f_list (db 1))))))) (blkOk_by (own := [("belts", 2), ("rings", 3)]) (N := N_belts_and_rings) (sc := defScope s_belts_and_rings) (by decide +kernel)) (fun _ _ _ _ _ => (g_tup rfl (gs_cons (g_nm (i := 2) sc_belts_and_rings.nd rfl (by first | exact Or.inl rfl | exact Or.inr rfl | exact Or.inr (Or.inl rfl) | exact Or.inr (Or.inr rfl))) (gs_cons (g_nm (i := 3) sc_belts_and_rings.nd rfl (by first | exact Or.inl rfl | exact Or.inr rfl | exact Or.inr (Or.inl rfl) | exact Or.inr (Or.inr rfl))) gs_nil)))) (fun _ _ _ _ _ => t_yes) (fun _ _ _ _ _ => d_tup (dl_cons (de_v 2) (dl_cons (de_v 3) (dl_cons (d_ix hr (pu_mTup (pu_cons pu_slot (pu_cons pu_slot pu_ret))) (db 1) (d_tup (dl_cons (de_v 2) (dl_cons (de_v 3) dl_nil)))) dl_nil)))) pu_ret (pu_mTup (pu_cons pu_slot (pu_cons pu_slot (pu_cons (pu_op pu_mB (pu_mTup (pu_cons pu_slot (pu_cons pu_slot pu_ret)))) pu_ret)))) (tg_tup (tgs_cons tg_nm (tgs_cons tg_nm tgs_nil))) (by decide)))))))
end
def G_how_many_with : S := sSeq (sSet 2 (mCall g_table_of [] (mCons (slotD 0) (ret []))))
  (sRet (mUn oSum (mComp (mKeys 2) [3] (gNm 3) (asB (mOp oEq (mOp oIx (mB 3) (ret (.int 0))) (mB 1))) (mOp oIx (mB 2) (slotD 3)))))
def g_how_many_with := runF 4 2 G_how_many_with
section
variable {P : Program} {w : World} {K : PySem.W.Frag} {mg : Str → Option Value} {base : Heap}
theorem ok_how_many_with (T : Tx P K mg) : Fk P w K mg base 5 "how_many_with" g_how_many_with := by
  have A_table_of := ok_table_of (w := w) (base := base) T
  obtain ⟨fd, F, gm⟩ := T.d_how_many_with
  refine ⟨_, fd, ["places", "belts"], fn_DD (N := N_how_many_with) F sc_how_many_with (by decide) (fun cdv A outer s H E hr => ?_), gm, F.kp, F.bindsN fun _ _ _ _ _ _ us hl => match us, hl with | [_, _], _ => rfl⟩
  have tk := takes_of (X := cxOf (L2.CX P w) P w K mg base N_how_many_with "how_many_with" (defScope s_how_many_with) (clsA K "how_many_with") cdv A outer s H E) rfl rfl rfl rfl
  exact s_cons (s_set (i := 2) sc_how_many_with.nd rfl (by first | exact Or.inl rfl | exact Or.inr rfl | exact Or.inr (Or.inl rfl) | exact Or.inr (Or.inr rfl)) (c_call A_table_of hr (by decide) (by rfl) (passes_call tk fun _ _ _ _ h => h) (dl_cons (de_v 0) dl_nil)))
      (s_one (s_ret (d_sum rfl (by rfl) T.f_sum (db_of (d_fz (d_compD (own := [("key", 3)]) (i := 2) rfl sc_how_many_with.nd rfl (by first | exact Or.inl rfl | exact Or.inr rfl | exact Or.inr (Or.inl rfl) | exact Or.inr (Or.inr rfl)) (blkOk_by (own := [("key", 3)]) (N := N_how_many_with) (sc := defScope s_how_many_with) (by decide +kernel)) (fun _ _ _ _ _ => (g_nm (i := 3) sc_how_many_with.nd rfl (by first | exact Or.inl rfl | exact Or.inr rfl | exact Or.inr (Or.inl rfl) | exact Or.inr (Or.inr rfl)))) (fun _ _ _ _ _ => t_one ((d_eq hr pu_mB (db_of (d_ix hr pu_ret (db 3) de_int)) (db 1)).pt)) (fun _ _ _ _ _ => d_ix hr pu_slot (db 2) (de_v 3)) (pu_asB (pu_op (pu_op pu_mB pu_ret) pu_mB)) (pu_op pu_mB pu_slot) tg_nm (by decide)))))))
end
def G_how_many_ringless : S := sSeq (sSet 1 (mCall g_table_of [] (mCons (slotD 0) (ret []))))
  (sRet (mUn oSum (mComp (mKeys 1) [2] (gNm 2) (asB (mOp oEq (mOp oIx (mB 2) (ret (.int 1))) (ret (.int 0)))) (mOp oIx (mB 1) (slotD 2)))))
def g_how_many_ringless := runF 3 1 G_how_many_ringless
section
variable {P : Program} {w : World} {K : PySem.W.Frag} {mg : Str → Option Value} {base : Heap}
theorem ok_how_many_ringless (T : Tx P K mg) : Fk P w K mg base 5 "how_many_ringless" g_how_many_ringless := by
  have A_table_of := ok_table_of (w := w) (base := base) T
  obtain ⟨fd, F, gm⟩ := T.d_how_many_ringless
  refine ⟨_, fd, ["places"], fn_DD (N := N_how_many_ringless) F sc_how_many_ringless (by decide) (fun cdv A outer s H E hr => ?_), gm, F.kp, F.bindsN fun _ _ _ _ _ _ us hl => match us, hl with | [_], _ => rfl⟩
  have tk := takes_of (X := cxOf (L2.CX P w) P w K mg base N_how_many_ringless "how_many_ringless" (defScope s_how_many_ringless) (clsA K "how_many_ringless") cdv A outer s H E) rfl rfl rfl rfl
  exact s_cons (s_set (i := 1) sc_how_many_ringless.nd rfl (by first | exact Or.inl rfl | exact Or.inr rfl | exact Or.inr (Or.inl rfl) | exact Or.inr (Or.inr rfl)) (c_call A_table_of hr (by decide) (by rfl) (passes_call tk fun _ _ _ _ h => h) (dl_cons (de_v 0) dl_nil)))
      (s_one (s_ret (d_sum rfl (by rfl) T.f_sum (db_of (d_fz (d_compD (own := [("key", 2)]) (i := 1) rfl sc_how_many_ringless.nd rfl (by first | exact Or.inl rfl | exact Or.inr rfl | exact Or.inr (Or.inl rfl) | exact Or.inr (Or.inr rfl)) (blkOk_by (own := [("key", 2)]) (N := N_how_many_ringless) (sc := defScope s_how_many_ringless) (by decide +kernel)) (fun _ _ _ _ _ => (g_nm (i := 2) sc_how_many_ringless.nd rfl (by first | exact Or.inl rfl | exact Or.inr rfl | exact Or.inr (Or.inl rfl) | exact Or.inr (Or.inr rfl)))) (fun _ _ _ _ _ => t_one ((d_eq hr pu_ret (db_of (d_ix hr pu_ret (db 2) de_int)) (db_of de_int)).pt)) (fun _ _ _ _ _ => d_ix hr pu_slot (db 1) (de_v 2)) (pu_asB (pu_op (pu_op pu_mB pu_ret) pu_ret)) (pu_op pu_mB pu_slot) tg_nm (by decide)))))))
end
def G_most_belts : S := sSeq (sExpr (mCall g_need_places [] (mCons (slotD 0) (ret []))))
  (sRet (mOp oAdd (mOp oDiv (mOp oMul (slotD 0) (mOp oSub (slotD 0) (ret (.int 1)))) (ret (.int 2))) (mOp oDiv (slotD 0) (ret (.int 2)))))
def g_most_belts := runF 1 1 G_most_belts
section
variable {P : Program} {w : World} {K : PySem.W.Frag} {mg : Str → Option Value} {base : Heap}
theorem ok_most_belts (T : Tx P K mg) : Fk P w K mg base 4 "most_belts" g_most_belts := by
  have A_need_places := ok_need_places (w := w) (base := base) T
  obtain ⟨fd, F, gm⟩ := T.d_most_belts
  refine ⟨_, fd, ["places"], fn_DD (N := N_most_belts) F sc_most_belts (by decide) (fun cdv A outer s H E hr => ?_), gm, F.kp, F.bindsN fun _ _ _ _ _ _ us hl => match us, hl with | [_], _ => rfl⟩
  have tk := takes_of (X := cxOf (L2.CX P w) P w K mg base N_most_belts "most_belts" (defScope s_most_belts) (clsA K "most_belts") cdv A outer s H E) rfl rfl rfl rfl
  exact s_cons (s_expr (c_call A_need_places hr (by decide) (by rfl) (passes_call tk fun _ _ _ _ h => h) (dl_cons (de_v 0) dl_nil)))
      (s_one (s_ret (d_add (d_div (d_mul (de_v 0) (d_sub (de_v 0) de_int)) de_int) (d_div (de_v 0) de_int))))
end
def G_rows_of_groups : S := sRet (mOp oShr (mCall g_factorial [] (mCons (slotD 0) (ret []))) (mOp oDiv (slotD 0) (ret (.int 2))))
def g_rows_of_groups := runF 1 1 G_rows_of_groups
section
variable {P : Program} {w : World} {K : PySem.W.Frag} {mg : Str → Option Value} {base : Heap}
theorem ok_rows_of_groups (T : Tx P K mg) : Fk P w K mg base 2 "rows_of_groups" g_rows_of_groups := by
  have A_factorial := ok_factorial (w := w) (base := base) T
  obtain ⟨fd, F, gm⟩ := T.d_rows_of_groups
  refine ⟨_, fd, ["many"], fn_DD (N := N_rows_of_groups) F sc_rows_of_groups (by decide) (fun cdv A outer s H E hr => ?_), gm, F.kp, F.bindsN fun _ _ _ _ _ _ us hl => match us, hl with | [_], _ => rfl⟩
  have tk := takes_of (X := cxOf (L2.CX P w) P w K mg base N_rows_of_groups "rows_of_groups" (defScope s_rows_of_groups) (clsA K "rows_of_groups") cdv A outer s H E) rfl rfl rfl rfl
  exact s_one (s_ret (d_shr (c_call A_factorial hr (by decide) (by rfl) (passes_call tk fun _ _ _ _ h => h) (dl_cons (de_v 0) dl_nil)) (d_div (de_v 0) de_int)))
end
def G_how_many_fullest : S := sSeq (sExpr (mCall g_need_places [] (mCons (slotD 0) (ret []))))
  (sRet (mOp oMul (mIf (asB (mOp oEq (mOp oMod (slotD 0) (ret (.int 2))) (ret (.int 1)))) (mOp oAdd (mOp oDiv (slotD 0) (ret (.int 2))) (ret (.int 1))) (ret (.int 1))) (mCall g_rows_of_groups [] (mCons (slotD 0) (ret [])))))
def g_how_many_fullest := runF 1 1 G_how_many_fullest
section
variable {P : Program} {w : World} {K : PySem.W.Frag} {mg : Str → Option Value} {base : Heap}
theorem ok_how_many_fullest (T : Tx P K mg) : Fk P w K mg base 4 "how_many_fullest" g_how_many_fullest := by
  have A_need_places := ok_need_places (w := w) (base := base) T
  have A_rows_of_groups := ok_rows_of_groups (w := w) (base := base) T
  obtain ⟨fd, F, gm⟩ := T.d_how_many_fullest
  refine ⟨_, fd, ["places"], fn_DD (N := N_how_many_fullest) F sc_how_many_fullest (by decide) (fun cdv A outer s H E hr => ?_), gm, F.kp, F.bindsN fun _ _ _ _ _ _ us hl => match us, hl with | [_], _ => rfl⟩
  have tk := takes_of (X := cxOf (L2.CX P w) P w K mg base N_how_many_fullest "how_many_fullest" (defScope s_how_many_fullest) (clsA K "how_many_fullest") cdv A outer s H E) rfl rfl rfl rfl
  exact s_cons (s_expr (c_call A_need_places hr (by decide) (by rfl) (passes_call tk fun _ _ _ _ h => h) (dl_cons (de_v 0) dl_nil)))
      (s_one (s_ret (d_mul (d_if ((d_eq hr pu_ret (db_of (d_mod (de_v 0) de_int)) (db_of de_int)).pt) (d_add (d_div (de_v 0) de_int) de_int) de_int) (c_call A_rows_of_groups hr (by decide) (by rfl) (passes_call tk fun _ _ _ _ h => h) (dl_cons (de_v 0) dl_nil)))))
end
def fnTab : String → Option (List D → Option Rv)
  | "belts_and_rings" => some g_belts_and_rings
  | "how_many_ringless" => some g_how_many_ringless
  | _ => none
theorem fnTab_ok {X : Cx} (T : Tx X.prog X.K X.mg) : ∀ nm g, fnTab nm = some g → FnV X 5 nm g := by
  intro nm g h
  unfold fnTab at h
  split at h
  · cases h; exact fnv_of (ok_belts_and_rings T) T.v_belts_and_rings (by decide)
  · cases h; exact fnv_of (ok_how_many_ringless T) T.v_how_many_ringless (by decide)
  · cases h
def G_l_take : S := sSeq (sIf (asB (mOp oGt (mOp oIx (mB 0) (ret (.int 0))) (ret (.int 0))))
  (sSeq (sSet 3 (mOp oMod (mN nInt (mCons (mOp oIx (mB 0) (ret (.int 0))) (ret []))) (slotD 1)))
  (sSeq (sAsg (gIx 0 (ret (.int 0))) (mOp oDiv (mOp oIx (mB 0) (ret (.int 0))) (slotD 1)))
  (sRet (slotD 3))))
  (sNil))
  (sSeq (sAsg (gIx 0 (ret (.int 2))) (mOp oAdd (mOp oIx (mB 0) (ret (.int 2))) (ret (.int 1))))
  (sSeq (sSet 2 (mOp oMod (mN nInt (mCons (mOp oAdd (mOp oMul (mOp oAdd (mOp oIx (mB 0) (ret (.int 1))) (mOp oMul (ret (.int 69031)) (mOp oIx (mB 0) (ret (.int 2))))) (ret (.int 48611))) (ret (.int 911))) (ret []))) (ret (.int 2147483543))))
  (sSeq (sAsg (gIx 0 (ret (.int 1))) (mOp oAdd (mOp oMod (mN nInt (mCons (mOp oAdd (mOp oMul (slotD 2) (ret (.int 39019))) (ret (.int 28001))) (ret []))) (ret (.int 2147483629))) (ret (.int 1))))
  (sRet (mOp oMod (mN nInt (mCons (mOp oDiv (mOp oAdd (mOp oMul (slotD 2) (ret (.int 2147483647))) (mOp oIx (mB 0) (ret (.int 1)))) (ret (.int 3571))) (ret []))) (slotD 1))))))
def takeR (a b c m : Int) : D × D :=
  if 0 < a then (.int (a % m), .lst [.int (a / m), .int b, .int c])
  else (.int ((((b + 69031 * (c + 1)) * 48611 + 911) % 2147483543 * 2147483647 + ((((b + 69031 * (c + 1)) * 48611 + 911) % 2147483543 * 39019 + 28001) % 2147483629 + 1)) / 3571 % m),
    .lst [.int a, .int ((((b + 69031 * (c + 1)) * 48611 + 911) % 2147483543 * 39019 + 28001) % 2147483629 + 1), .int (c + 1)])
def g_l_take (gd : D) (ds : List D) : Option (D × D) := match gd, ds with
  | .lst [.int a, .int b, .int c], [.int m] => if 0 < m ∧ m < 10000000000 ∧ 0 ≤ b ∧ b < 10000000000 ∧ 0 ≤ c ∧ c < 10000000000 then some (takeR a b c m) else none
  | _, _ => none
theorem mulOk_64 {i j : Int} (h1 : -(2 ^ 100) < i) (h2 : i < 2 ^ 100) (h3 : -(2 ^ 100) < j) (h4 : j < 2 ^ 100) : mulOk i j = true := by
  have k : ∀ n : Nat, n < 2 ^ 100 → n.log2 ≤ 100 := fun n hn => by
    by_cases h : n = 0
    · subst h; decide
    · exact Nat.le_of_lt ((Nat.log2_lt h).mpr hn)
  have a := k i.natAbs (by omega)
  have b := k j.natAbs (by omega)
  unfold mulOk
  simp only [decide_eq_true_eq]
  omega
theorem divOk_64 {i j : Int} (h3 : 0 < j) (h4 : j < 2 ^ 100) : divOk i j = true := by
  have k : ∀ n : Nat, n < 2 ^ 100 → n.log2 ≤ 100 := fun n hn => by
    by_cases h : n = 0
    · subst h; decide
    · exact Nat.le_of_lt ((Nat.log2_lt h).mpr hn)
  have b := k j.natAbs (by omega)
  unfold divOk
  simp only [Bool.and_eq_true, decide_eq_true_eq]
  omega
theorem take_ok (gd : D) (ds : List D) (r : D × D) (h : g_l_take gd ds = some r) : ds.length + 1 = 2 ∧ ∀ b, ∃ o, G_l_take (envG 4 b gd ds) = some o ∧ FinG b o r := by
  unfold g_l_take at h
  split at h
  · rename_i a b c m
    split at h
    · rename_i hc
      obtain ⟨m0, m1, b0, b1, c0, c1⟩ := hc
      cases h
      refine ⟨rfl, fun q => ?_⟩
      have e1 : divOk a m = true := divOk_64 m0 (by omega)
      have e2 : decide (0 < m) = true := decide_eq_true m0
      have r0 := Int.emod_nonneg ((b + 69031 * (c + 1)) * 48611 + 911) (b := 2147483543) (by decide)
      have r1 := Int.emod_lt_of_pos ((b + 69031 * (c + 1)) * 48611 + 911) (b := 2147483543) (by decide)
      have e3 : mulOk 69031 (c + 1) = true := mulOk_64 (by decide) (by decide) (by omega) (by omega)
      have e4 : mulOk (b + 69031 * (c + 1)) 48611 = true := mulOk_64 (by omega) (by omega) (by decide) (by decide)
      have e5 : mulOk (((b + 69031 * (c + 1)) * 48611 + 911) % 2147483543) 39019 = true := mulOk_64 (by omega) (by omega) (by decide) (by decide)
      have e6 : mulOk (((b + 69031 * (c + 1)) * 48611 + 911) % 2147483543) 2147483647 = true := mulOk_64 (by omega) (by omega) (by decide) (by decide)
      have e7 : ∀ x, divOk x 3571 = true := fun x => divOk_64 (by decide) (by decide)
      by_cases h0 : 0 < a
      · refine ⟨.rt (takeR a b c m).1 [.ow (some q) (takeR a b c m).2, .sh (.int m), .no, .sh (.int (a % m))], ?_, rfl, rfl⟩
        simp [G_l_take, sSeq, sIf, sSet, sRet, sAsg, thenS, asB, mOp, mN, mCons, bnd, mB, slotD, Dl.ret, opt, oIx, atD, ixN, oGt, oMod, oDiv, i2, i2c, nInt, envG, gIx, Dl.putAt, h0, e1, e2, m0, takeR]
      · refine ⟨.rt (takeR a b c m).1 [.ow (some q) (takeR a b c m).2, .sh (.int m), .sh (.int (((b + 69031 * (c + 1)) * 48611 + 911) % 2147483543)), .no], ?_, rfl, rfl⟩
        simp [G_l_take, sSeq, sIf, sNil, sSet, sRet, sAsg, thenS, asB, mOp, mN, mCons, bnd, mB, slotD, Dl.ret, opt, oIx, atD, ixN, oGt, oMod, oDiv, oAdd, oMul, i2, i2c, nInt, envG, gIx, Dl.putAt, h0, e1, e2, m0, e3, e4, e5, e6, e7, takeR]
    · cases h
  · cases h
section
variable {P : Program} {w : World} {K : PySem.W.Frag} {mg : Str → Option Value} {base : Heap}
theorem ok_l_take (T : Tx P K mg) : FkG P w K mg base 1 "_law_take" g_l_take := by
  obtain ⟨fd, F, gm⟩ := T.d_l_take
  refine ⟨_, fd, ["box", "many"], fn_GG (N := N_l_take) (G := G_l_take) F sc_l_take (by decide) take_ok (fun cdv A outer s H E hr => ?_), gm, F.kp, F.bindsN fun _ _ _ _ _ _ us hl => match us, hl with | [_, _], _ => rfl⟩
  have tk := takes_of (X := cxOf (L2.CX P w) P w K mg base N_l_take "_law_take" (defScope s_l_take) (clsA K "_law_take") cdv A outer s H E) rfl rfl rfl rfl
  exact s_cons (s_if ((d_gt (d_ix hr pu_ret (db 0) de_int) de_int).pt)
      (s_cons (s_set (i := 3) sc_l_take.nd rfl (by first | exact Or.inl rfl | exact Or.inr rfl | exact Or.inr (Or.inl rfl) | exact Or.inr (Or.inr rfl)) (d_mod (d_int (by rfl) T.f_int (d_ix hr pu_ret (db 0) de_int)) (de_v 1)))
      (s_cons (s_asg (d_div (d_ix hr pu_ret (db 0) de_int) (de_v 1)) (g_ix (i := 0) hr pu_ret rfl (by first | exact Or.inl rfl | exact Or.inr rfl | exact Or.inr (Or.inl rfl) | exact Or.inr (Or.inr rfl)) de_int))
      (s_one (s_ret (de_v 3)))))
      s_nil)
      (s_cons (s_asg (d_add (d_ix hr pu_ret (db 0) de_int) de_int) (g_ix (i := 0) hr pu_ret rfl (by first | exact Or.inl rfl | exact Or.inr rfl | exact Or.inr (Or.inl rfl) | exact Or.inr (Or.inr rfl)) de_int))
      (s_cons (s_set (i := 2) sc_l_take.nd rfl (by first | exact Or.inl rfl | exact Or.inr rfl | exact Or.inr (Or.inl rfl) | exact Or.inr (Or.inr rfl)) (d_mod (d_int (by rfl) T.f_int (d_add (d_mul (d_add (d_ix hr pu_ret (db 0) de_int) (d_mul de_int (d_ix hr pu_ret (db 0) de_int))) de_int) de_int)) de_int))
      (s_cons (s_asg (d_add (d_mod (d_int (by rfl) T.f_int (d_add (d_mul (de_v 2) de_int) de_int)) de_int) de_int) (g_ix (i := 0) hr pu_ret rfl (by first | exact Or.inl rfl | exact Or.inr rfl | exact Or.inr (Or.inl rfl) | exact Or.inr (Or.inr rfl)) de_int))
      (s_one (s_ret (d_mod (d_int (by rfl) T.f_int (d_div (d_add (d_mul (de_v 2) de_int) (d_ix hr pu_ret (db 0) de_int)) de_int)) (de_v 1)))))))
end
def G_l_box : S := sSeq (sSet 2 (mOp oAdd (mOp oMul (ret (.int 5501)) (slotD 1)) (ret (.int 3307))))
  (sSeq (sIf (asB (mOp oLt (slotD 1) (mUn oLen (mB 0))))
  (sSet 2 (mOp oMod (mN nInt (mCons (mN nAbs (mCons (mOp oIx (mB 0) (slotD 1)) (ret []))) (ret []))) (mOp oMul (mOp oMul (mOp oPow (ret (.int 10)) (ret (.int 60))) (mOp oPow (ret (.int 10)) (ret (.int 60)))) (mOp oPow (ret (.int 10)) (ret (.int 60))))))
  (sIf (asB (mOp oGt (mUn oLen (mB 0)) (ret (.int 0))))
  (sSet 2 (mOp oAdd (slotD 2) (mOp oMul (mOp oMod (mN nInt (mCons (mN nAbs (mCons (mOp oIx (mB 0) (mOp oMod (mN nInt (mCons (slotD 1) (ret []))) (mUn oLen (mB 0)))) (ret []))) (ret []))) (ret (.int 2147483629))) (ret (.int 61001)))))
  (sNil)))
  (sRetF (mLst (mCons (mOp oIx (mLst (mCons (ret (.int 0)) (mCons (slotD 2) (ret [])))) (mN nInt (mCons (mOp oGe (slotD 2) (mOp oPow (ret (.int 10)) (ret (.int 18)))) (ret [])))) (mCons (mOp oAdd (mOp oMod (mN nInt (mCons (mOp oAdd (mOp oMul (mOp oMod (mN nInt (mCons (slotD 2) (ret []))) (ret (.int 2147483629))) (ret (.int 31013))) (mOp oMul (ret (.int 46021)) (slotD 1))) (ret []))) (ret (.int 2147483629))) (ret (.int 1))) (mCons (ret (.int 0)) (ret [])))))))
def g_l_box := runF 3 2 G_l_box
section
variable {P : Program} {w : World} {K : PySem.W.Frag} {mg : Str → Option Value} {base : Heap}
theorem ok_l_box (T : Tx P K mg) : Fk P w K mg base 1 "_law_box" g_l_box := by
  obtain ⟨fd, F, gm⟩ := T.d_l_box
  refine ⟨_, fd, ["script", "k"], fn_DD (N := N_l_box) F sc_l_box (by decide) (fun cdv A outer s H E hr => ?_), gm, F.kp, F.bindsN fun _ _ _ _ _ _ us hl => match us, hl with | [_, _], _ => rfl⟩
  have tk := takes_of (X := cxOf (L2.CX P w) P w K mg base N_l_box "_law_box" (defScope s_l_box) (clsA K "_law_box") cdv A outer s H E) rfl rfl rfl rfl
  exact s_cons (s_set (i := 2) sc_l_box.nd rfl (by first | exact Or.inl rfl | exact Or.inr rfl | exact Or.inr (Or.inl rfl) | exact Or.inr (Or.inr rfl)) (d_add (d_mul de_int (de_v 1)) de_int))
      (s_cons (s_if ((d_lt (de_v 1) (d_len (by rfl) T.f_len (db 0))).pt)
      (s_one (s_set (i := 2) sc_l_box.nd rfl (by first | exact Or.inl rfl | exact Or.inr rfl | exact Or.inr (Or.inl rfl) | exact Or.inr (Or.inr rfl)) (d_mod (d_int (by rfl) T.f_int (d_abs (by rfl) T.f_abs (d_ix hr pu_slot (db 0) (de_v 1)))) (d_mul (d_mul (d_pow de_int de_int) (d_pow de_int de_int)) (d_pow de_int de_int)))))
      (s_one (s_if ((d_gt (d_len (by rfl) T.f_len (db 0)) de_int).pt)
      (s_one (s_set (i := 2) sc_l_box.nd rfl (by first | exact Or.inl rfl | exact Or.inr rfl | exact Or.inr (Or.inl rfl) | exact Or.inr (Or.inr rfl)) (d_add (de_v 2) (d_mul (d_mod (d_int (by rfl) T.f_int (d_abs (by rfl) T.f_abs (d_ix hr (pu_op (pu_n (pu_cons pu_slot pu_ret)) (pu_un pu_mB)) (db 0) (d_mod (d_int (by rfl) T.f_int (de_v 1)) (d_len (by rfl) T.f_len (db 0)))))) de_int) de_int))))
      s_nil)))
      (s_one (s_retF (d_lst (dl_cons (d_ix hr (pu_n (pu_cons (pu_op pu_slot (pu_op pu_ret pu_ret)) pu_ret)) (db_of (d_fz (d_lst (dl_cons de_int (dl_cons (de_v 2) dl_nil))))) (d_int (by rfl) T.f_int ((d_ge (de_v 2) (d_pow de_int de_int)).pe))) (dl_cons (d_add (d_mod (d_int (by rfl) T.f_int (d_add (d_mul (d_mod (d_int (by rfl) T.f_int (de_v 2)) de_int) de_int) (d_mul de_int (de_v 1)))) de_int) de_int) (dl_cons de_int dl_nil)))))))
end
def G_l_same (g : List D → Option Rv) : S := sSeq (sIf (mOr (asB (mUn oIsN (slotD 1))) (mOr (asB (mOp oIsB (slotD 1) (ret (.bl true)))) (asB (mOp oIsB (slotD 1) (ret (.bl false))))))
  (sRet (mOp oIx (mLst (mCons (mUn oIsN (slotD 0)) (mCons (mOp oIsB (slotD 0) (ret (.bl true))) (mCons (mOp oIsB (slotD 0) (ret (.bl false))) (ret []))))) (mOp oIndex (mLst (mCons (ret .non) (mCons (ret (.bl true)) (mCons (ret (.bl false)) (ret []))))) (slotD 1))))
  (sNil))
  (sSeq (sIf (asB (mUn (oIsi "str") (mB 1)))
  (sRet (mAndV (mUn (oIsi "str") (mB 0)) (mOp oEq (mB 0) (mB 1))))
  (sNil))
  (sSeq (sIf (asB (mUn (oIsi "int") (mB 1)))
  (sRet (mAndV (mUn (oIsi "int") (mB 0)) (mAndV (mNotV (mUn (oIsi "bool") (mB 0))) (mOp oEq (mB 0) (mB 1)))))
  (sNil))
  (sSeq (sIf (mOr (mNot (asB (mUn (oIsi "tuple") (mB 0)))) (asB (mOp oNe (mUn oLen (mB 0)) (mUn oLen (mB 1)))))
  (sRet (ret (.bl false)))
  (sNil))
  (sRet (mUn oAll (mComp (mRg (mCons (mUn oLen (mB 1)) (ret []))) [2] (gNm 2) (ret true) (mCall g [] (mCons (mOp oIx (mB 0) (slotD 2)) (mCons (mOp oIx (mB 1) (slotD 2)) (ret []))))))))))
def g_l_same_ : Nat → List D → Option Rv
  | 0 => fun _ => none
  | k + 1 => runF 3 2 (G_l_same (g_l_same_ k))
def g_l_same := g_l_same_ 4
section
variable {P : Program} {w : World} {K : PySem.W.Frag} {mg : Str → Option Value} {base : Heap}
theorem ok_l_same_ (T : Tx P K mg) : ∀ k, Fk P w K mg base (0 + k) "_law_same" (g_l_same_ k)
  | 0 => by
    obtain ⟨fd, F, gm⟩ := T.d_l_same
    exact ⟨_, fd, ["value", "due"], fn_none, gm, F.kp, F.bindsN fun _ _ _ _ _ _ us hl => match us, hl with | [_, _], _ => rfl⟩
  | k + 1 => by
    have A := ok_l_same_ T k
    obtain ⟨fd, F, gm⟩ := T.d_l_same
    refine ⟨_, fd, ["value", "due"], fn_DD F sc_l_same (by decide) (fun cdv A0 outer s H E hr => ?_), gm, F.kp, F.bindsN fun _ _ _ _ _ _ us hl => match us, hl with | [_, _], _ => rfl⟩
    have tk := takes_of (X := cxOf (L2.CX P w) P w K mg base N_l_same "_law_same" (defScope s_l_same) (clsA K "_law_same") cdv A0 outer s H E) rfl rfl rfl rfl
    exact s_cons (s_if ((w_or ((d_isN (de_v 1)).pt) (w_or ((d_isB (de_v 1) de_bl).pt) (w_or1 ((d_isB (de_v 1) de_bl).pt)))).pt)
      (s_one (s_ret (d_ix hr (pu_op (pu_mLst (pu_cons pu_ret (pu_cons pu_ret (pu_cons pu_ret pu_ret)))) pu_slot) (db_of (d_fz (d_lst (dl_cons ((d_isN (de_v 0)).pe) (dl_cons ((d_isB (de_v 0) de_bl).pe) (dl_cons ((d_isB (de_v 0) de_bl).pe) dl_nil)))))) (d_index pu_slot (db_of (d_fz (d_lst (dl_cons de_non (dl_cons de_bl (dl_cons de_bl dl_nil)))))) (de_v 1) mLst_isL))))
      s_nil)
      (s_cons (s_if (t_val (d_isi (by rfl) T.f_isinstance (by rfl) T.f_str boot_str (by decide) (by decide) (db 1)))
      (s_one (s_ret (d_and (d_isi (by rfl) T.f_isinstance (by rfl) T.f_str boot_str (by decide) (by decide) (db 0)) (d_one ((d_eq hr pu_mB (db 0) (db 1)).pe)))))
      s_nil)
      (s_cons (s_if (t_val (d_isi (by rfl) T.f_isinstance (by rfl) T.f_int boot_int (by decide) (by decide) (db 1)))
      (s_one (s_ret (d_and (d_isi (by rfl) T.f_isinstance (by rfl) T.f_int boot_int (by decide) (by decide) (db 0)) (d_and (d_not (d_isi (by rfl) T.f_isinstance (by rfl) T.f_bool boot_bool (by decide) (by decide) (db 0))) (d_one ((d_eq hr pu_mB (db 0) (db 1)).pe))))))
      s_nil)
      (s_cons (s_if ((w_or (t_not (t_val (d_isi (by rfl) T.f_isinstance (by rfl) T.f_tuple boot_tuple (by decide) (by decide) (db 0)))) (w_or1 ((d_ne hr (pu_un pu_mB) (db_of (d_len (by rfl) T.f_len (db 0))) (db_of (d_len (by rfl) T.f_len (db 1)))).pt))).pt)
      (s_one (s_ret de_bl))
      s_nil)
      (s_one (s_ret (d_all rfl (by rfl) T.f_all (db_of (d_fz (d_comp (own := [("at", 2)]) rfl sc_l_same.nd (i_rg1 (by rfl) T.f_range (dl_cons (d_len (by rfl) T.f_len (db 1)) dl_nil) rfl len1) (blkOk_by (own := [("at", 2)]) (N := N_l_same) (sc := defScope s_l_same) (by decide +kernel)) (fun _ _ _ _ _ => (g_nm (i := 2) sc_l_same.nd rfl (by first | exact Or.inl rfl | exact Or.inr rfl | exact Or.inr (Or.inl rfl) | exact Or.inr (Or.inr rfl)))) (fun _ _ _ _ _ => t_yes) (fun _ _ _ _ _ => c_call A hr (by first | exact Nat.le_refl _ | (simp only [Nat.add_eq]; omega)) (by rfl) passL (dl_cons (d_ix hr pu_slot (db 0) (de_v 2)) (dl_cons (d_ix hr pu_slot (db 1) (de_v 2)) dl_nil))) pu_ret (pu_mCall (pu_cons (pu_op pu_mB pu_slot) (pu_cons (pu_op pu_mB pu_slot) pu_ret))) tg_nm (by decide))))))))))
theorem ok_l_same (T : Tx P K mg) : Fk P w K mg base 4 "_law_same" g_l_same := ok_l_same_ T 4
end
def G_l_turns : S := sSeq (sSet 1 (mLst (ret [])))
  (sSeq (sFor (mRg (mCons (mUn oLen (mB 0)) (ret []))) (gNm 2)
  (sSet 1 (mOpF oCat (mB 1) (mComp (mRg (mCons (mUn oLen (mB 0)) (ret []))) [3] (gNm 3) (mAnd (asB (mOp oNe (mB 2) (mB 3))) (asB (mOp oEq (mOp oIx (mOp oIx (mB 0) (slotD 2)) (ret (.int 1))) (mOp oIx (mOp oIx (mB 0) (slotD 3)) (ret (.int 0)))))) (mTup (mCons (slotD 2) (mCons (slotD 3) (ret []))))))))
  (sRet (slotD 1)))
def g_l_turns := runF 4 1 G_l_turns
section
variable {P : Program} {w : World} {K : PySem.W.Frag} {mg : Str → Option Value} {base : Heap}
theorem ok_l_turns (T : Tx P K mg) : Fk P w K mg base 1 "_law_turns" g_l_turns := by
  obtain ⟨fd, F, gm⟩ := T.d_l_turns
  refine ⟨_, fd, ["belts"], fn_DD (N := N_l_turns) F sc_l_turns (by decide) (fun cdv A outer s H E hr => ?_), gm, F.kp, F.bindsN fun _ _ _ _ _ _ us hl => match us, hl with | [_], _ => rfl⟩
  have tk := takes_of (X := cxOf (L2.CX P w) P w K mg base N_l_turns "_law_turns" (defScope s_l_turns) (clsA K "_law_turns") cdv A outer s H E) rfl rfl rfl rfl
  exact s_cons (s_set (i := 1) sc_l_turns.nd rfl (by first | exact Or.inl rfl | exact Or.inr rfl | exact Or.inr (Or.inl rfl) | exact Or.inr (Or.inr rfl)) (d_fz (d_lst dl_nil)))
      (s_cons (s_for (passes_of rfl) rfl (i_rg1 (by rfl) T.f_range (dl_cons (d_len (by rfl) T.f_len (db 0)) dl_nil) rfl len1) (g_nm (i := 2) sc_l_turns.nd rfl (by first | exact Or.inl rfl | exact Or.inr rfl | exact Or.inr (Or.inl rfl) | exact Or.inr (Or.inr rfl)))
      (s_one (s_set (i := 1) sc_l_turns.nd rfl (by first | exact Or.inl rfl | exact Or.inr rfl | exact Or.inr (Or.inl rfl) | exact Or.inr (Or.inr rfl)) (d_fz (d_cat (pu_mComp (pu_mRg (pu_cons (pu_un pu_mB) pu_ret))) (db 1) (db_of (d_fz (d_comp (own := [("f", 3)]) rfl sc_l_turns.nd (i_rg1 (by rfl) T.f_range (dl_cons (d_len (by rfl) T.f_len (db 0)) dl_nil) rfl len1) (blkOk_by (own := [("f", 3)]) (N := N_l_turns) (sc := defScope s_l_turns) (by decide +kernel)) (fun _ _ _ _ _ => (g_nm (i := 3) sc_l_turns.nd rfl (by first | exact Or.inl rfl | exact Or.inr rfl | exact Or.inr (Or.inl rfl) | exact Or.inr (Or.inr rfl)))) (fun _ _ _ _ _ => t_one ((w_and ((d_ne hr pu_mB (db 2) (db 3)).pt) (w_and1 ((d_eq hr (pu_op (pu_op pu_mB pu_slot) pu_ret) (db_of (d_ix hr pu_ret (db_of (d_ix hr pu_slot (db 0) (de_v 2))) de_int)) (db_of (d_ix hr pu_ret (db_of (d_ix hr pu_slot (db 0) (de_v 3))) de_int))).pt))).pt)) (fun _ _ _ _ _ => d_tup (dl_cons (de_v 2) (dl_cons (de_v 3) dl_nil))) (pu_mAnd (pu_asB (pu_op pu_mB pu_mB)) (pu_asB (pu_op (pu_op (pu_op pu_mB pu_slot) pu_ret) (pu_op (pu_op pu_mB pu_slot) pu_ret)))) (pu_mTup (pu_cons pu_slot (pu_cons pu_slot pu_ret))) tg_nm (by decide)))))))))
      (s_one (s_ret (de_v 1))))
end
def G_l_reach : S := sSeq (sSetF 3 (ret (.dK [])))
  (sSeq (sFor (mIt (slotD 2)) (gNm 4)
  (sSeq (sAsg (gTp 2 (gsCons (gIx 3 (slotD 4)) (gsCons (gNm 6) (gsNil)))) (mTup (mCons (mLst (mCons (slotD 4) (ret []))) (mCons (mLst (mCons (slotD 4) (ret []))) (ret [])))))
  (sFor (mRg (mCons (mUn oLen (mB 2)) (ret []))) (gNm 5)
  (sIf (asB (mOp oLt (slotD 5) (mUn oLen (mB 6))))
  (sSeq (sSetF 7 (mComp (mIt (slotD 0)) [8, 9] (gTp 2 (gsCons (gNm 8) (gsCons (gNm 9) (gsNil)))) (mAnd (asB (mOp oEq (mB 8) (mOp oIx (mB 6) (slotD 5)))) (mAnd (asB (mOp oIn (slotD 9) (mB 2))) (asB (mOp oNotIn (slotD 9) (mOp oIx (mB 3) (slotD 4)))))) (slotD 9)))
  (sAsg (gTp 2 (gsCons (gIx 3 (slotD 4)) (gsCons (gNm 6) (gsNil)))) (mTup (mCons (mOpF oCat (mOp oIx (mB 3) (slotD 4)) (mB 7)) (mCons (mOpF oCat (mB 6) (mB 7)) (ret []))))))
  (sNil)))))
  (sRet (mV 3)))
def g_l_reach := runF 10 3 G_l_reach
section
variable {P : Program} {w : World} {K : PySem.W.Frag} {mg : Str → Option Value} {base : Heap}
theorem ok_l_reach (T : Tx P K mg) : Fk P w K mg base 1 "_law_reach" g_l_reach := by
  obtain ⟨fd, F, gm⟩ := T.d_l_reach
  refine ⟨_, fd, ["turns", "belts", "left"], fn_DD (N := N_l_reach) F sc_l_reach (by decide) (fun cdv A outer s H E hr => ?_), gm, F.kp, F.bindsN fun _ _ _ _ _ _ us hl => match us, hl with | [_, _, _], _ => rfl⟩
  have tk := takes_of (X := cxOf (L2.CX P w) P w K mg base N_l_reach "_law_reach" (defScope s_l_reach) (clsA K "_law_reach") cdv A outer s H E) rfl rfl rfl rfl
  exact s_cons (s_setF (i := 3) sc_l_reach.nd rfl (by first | exact Or.inl rfl | exact Or.inr rfl | exact Or.inr (Or.inl rfl) | exact Or.inr (Or.inr rfl)) d_newK)
      (s_cons (s_for (passes_of rfl) rfl (i_seq (de_v 2)) (g_nm (i := 4) sc_l_reach.nd rfl (by first | exact Or.inl rfl | exact Or.inr rfl | exact Or.inr (Or.inl rfl) | exact Or.inr (Or.inr rfl)))
      (s_cons (s_asg (d_tup (dl_cons (d_fz (d_lst (dl_cons (de_v 4) dl_nil))) (dl_cons (d_fz (d_lst (dl_cons (de_v 4) dl_nil))) dl_nil))) (g_tup rfl (gs_cons (g_ix (i := 3) hr pu_slot rfl (by first | exact Or.inl rfl | exact Or.inr rfl | exact Or.inr (Or.inl rfl) | exact Or.inr (Or.inr rfl)) (de_v 4)) (gs_cons (g_nm (i := 6) sc_l_reach.nd rfl (by first | exact Or.inl rfl | exact Or.inr rfl | exact Or.inr (Or.inl rfl) | exact Or.inr (Or.inr rfl))) gs_nil))))
      (s_one (s_for (passes_of rfl) rfl (i_rg1 (by rfl) T.f_range (dl_cons (d_len (by rfl) T.f_len (db 2)) dl_nil) rfl len1) (g_nm (i := 5) sc_l_reach.nd rfl (by first | exact Or.inl rfl | exact Or.inr rfl | exact Or.inr (Or.inl rfl) | exact Or.inr (Or.inr rfl)))
      (s_one (s_if ((d_lt (de_v 5) (d_len (by rfl) T.f_len (db 6))).pt)
      (s_cons (s_setC (own := [("f", 8), ("g", 9)]) (i := 7) rfl sc_l_reach.nd rfl rfl (sw_true rfl rfl rfl (by decide +kernel)) (i_seq (de_v 0)) (blkOk_by (own := [("f", 8), ("g", 9)]) (N := N_l_reach) (sc := defScope s_l_reach) (by decide +kernel)) (fun _ _ _ _ _ => (g_tup rfl (gs_cons (g_nm (i := 8) sc_l_reach.nd rfl (by first | exact Or.inl rfl | exact Or.inr rfl | exact Or.inr (Or.inl rfl) | exact Or.inr (Or.inr rfl))) (gs_cons (g_nm (i := 9) sc_l_reach.nd rfl (by first | exact Or.inl rfl | exact Or.inr rfl | exact Or.inr (Or.inl rfl) | exact Or.inr (Or.inr rfl))) gs_nil)))) (fun _ _ _ _ _ => t_one ((w_and ((d_eq hr (pu_op pu_mB pu_slot) (db 8) (db_of (d_ix hr pu_slot (db 6) (de_v 5)))).pt) (w_and ((d_in hr pu_mB (de_v 9) (db 2) rfl).pt) (w_and1 ((d_notIn hr (pu_op pu_mB pu_slot) (de_v 9) (db_of (d_ix hr pu_slot (db 3) (de_v 4))) rfl).pt)))).pt)) (fun _ _ _ _ _ => de_v 9) (pu_mAnd (pu_asB (pu_op pu_mB (pu_op pu_mB pu_slot))) (pu_mAnd (pu_asB (pu_op pu_slot pu_mB)) (pu_asB (pu_op pu_slot (pu_op pu_mB pu_slot))))) pu_slot (tg_tup (tgs_cons tg_nm (tgs_cons tg_nm tgs_nil))) (by decide))
      (s_one (s_asg (d_tup (dl_cons (d_fz (d_cat pu_mB (db_of (d_ix hr pu_slot (db 3) (de_v 4))) (db 7))) (dl_cons (d_fz (d_cat pu_mB (db 6) (db 7))) dl_nil))) (g_tup rfl (gs_cons (g_ix (i := 3) hr pu_slot rfl (by first | exact Or.inl rfl | exact Or.inr rfl | exact Or.inr (Or.inl rfl) | exact Or.inr (Or.inr rfl)) (de_v 4)) (gs_cons (g_nm (i := 6) sc_l_reach.nd rfl (by first | exact Or.inl rfl | exact Or.inr rfl | exact Or.inr (Or.inl rfl) | exact Or.inr (Or.inr rfl))) gs_nil))))))
      s_nil))))))
      (s_one (s_ret (dv 3))))
end
def G_l_lots : S := sSeq (sParX 4 5 false true (mCall g_l_reach [] (mCons (slotD 0) (mCons (slotD 1) (mCons (slotD 2) (ret []))))) (mLst (ret [])))
  (sSeq (sFor (mIt (slotD 2)) (gNm 3)
  (sSeq (sSet 6 (mUn oTuple (mComp (mIt (slotD 2)) [7] (gNm 7) (mAnd (asB (mOp oIn (slotD 7) (mOp oIx (mB 4) (slotD 3)))) (asB (mOp oIn (slotD 3) (mOp oIx (mB 4) (slotD 7))))) (slotD 7))))
  (sIf (asB (mOp oNotIn (slotD 6) (mB 5)))
  (sApp 5 (slotD 6))
  (sNil))))
  (sRet (mV 5)))
def g_l_lots := runF 8 3 G_l_lots
section
variable {P : Program} {w : World} {K : PySem.W.Frag} {mg : Str → Option Value} {base : Heap}
theorem ok_l_lots (T : Tx P K mg) : Fk P w K mg base 2 "_law_lots" g_l_lots := by
  have A_l_reach := ok_l_reach (w := w) (base := base) T
  obtain ⟨fd, F, gm⟩ := T.d_l_lots
  refine ⟨_, fd, ["turns", "belts", "left"], fn_DD (N := N_l_lots) F sc_l_lots (by decide) (fun cdv A outer s H E hr => ?_), gm, F.kp, F.bindsN fun _ _ _ _ _ _ us hl => match us, hl with | [_, _, _], _ => rfl⟩
  have tk := takes_of (X := cxOf (L2.CX P w) P w K mg base N_l_lots "_law_lots" (defScope s_l_lots) (clsA K "_law_lots") cdv A outer s H E) rfl rfl rfl rfl
  exact s_cons (s_tupX (i := 4) (j := 5) rfl sc_l_lots.nd rfl rfl (by first | exact Or.inl rfl | exact Or.inr rfl | exact Or.inr (Or.inl rfl) | exact Or.inr (Or.inr rfl)) (by first | exact Or.inl rfl | exact Or.inr rfl | exact Or.inr (Or.inl rfl) | exact Or.inr (Or.inr rfl)) (x_fz (c_call A_l_reach hr (by decide) (by rfl) (passes_call tk fun _ _ _ _ h => h) (dl_cons (de_v 0) (dl_cons (de_v 1) (dl_cons (de_v 2) dl_nil))))) (x_own (d_lst dl_nil)))
      (s_cons (s_for (passes_of rfl) rfl (i_seq (de_v 2)) (g_nm (i := 3) sc_l_lots.nd rfl (by first | exact Or.inl rfl | exact Or.inr rfl | exact Or.inr (Or.inl rfl) | exact Or.inr (Or.inr rfl)))
      (s_cons (s_set (i := 6) sc_l_lots.nd rfl (by first | exact Or.inl rfl | exact Or.inr rfl | exact Or.inr (Or.inl rfl) | exact Or.inr (Or.inr rfl)) (d_tuple (by rfl) T.f_tuple (db_of (d_fz (d_comp (own := [("f", 7)]) rfl sc_l_lots.nd (i_seq (de_v 2)) (blkOk_by (own := [("f", 7)]) (N := N_l_lots) (sc := defScope s_l_lots) (by decide +kernel)) (fun _ _ _ _ _ => (g_nm (i := 7) sc_l_lots.nd rfl (by first | exact Or.inl rfl | exact Or.inr rfl | exact Or.inr (Or.inl rfl) | exact Or.inr (Or.inr rfl)))) (fun _ _ _ _ _ => t_one ((w_and ((d_in hr (pu_op pu_mB pu_slot) (de_v 7) (db_of (d_ix hr pu_slot (db 4) (de_v 3))) rfl).pt) (w_and1 ((d_in hr (pu_op pu_mB pu_slot) (de_v 3) (db_of (d_ix hr pu_slot (db 4) (de_v 7))) rfl).pt))).pt)) (fun _ _ _ _ _ => de_v 7) (pu_mAnd (pu_asB (pu_op pu_slot (pu_op pu_mB pu_slot))) (pu_asB (pu_op pu_slot (pu_op pu_mB pu_slot)))) pu_slot tg_nm (by decide))))))
      (s_one (s_if ((d_notIn hr pu_mB (de_v 6) (db 5) rfl).pt)
      (s_one (s_app (i := 5) rfl (by first | exact Or.inl rfl | exact Or.inr rfl | exact Or.inr (Or.inl rfl) | exact Or.inr (Or.inr rfl)) (de_v 6)))
      s_nil))))
      (s_one (s_ret (dv 5))))
end
def G_l_fine : S := sSeq (sFor (mIt (mCall g_l_lots [] (mCons (slotD 0) (mCons (slotD 1) (mCons (slotD 2) (ret [])))))) (gNm 3)
  (sIf (mAnd (asB (mOp oGt (mUn oLen (mB 3)) (ret (.int 1)))) (asB (mOp oNe (mUn oLen (mComp (mIt (slotD 0)) [4, 5] (gTp 2 (gsCons (gNm 4) (gsCons (gNm 5) (gsNil)))) (mAnd (asB (mOp oIn (slotD 4) (mB 3))) (asB (mOp oIn (slotD 5) (mB 3)))) (ret (.int 1)))) (mUn oLen (mB 3)))))
  (sRet (ret (.bl false)))
  (sNil)))
  (sRet (ret (.bl true)))
def g_l_fine := runF 6 3 G_l_fine
section
variable {P : Program} {w : World} {K : PySem.W.Frag} {mg : Str → Option Value} {base : Heap}
theorem ok_l_fine (T : Tx P K mg) : Fk P w K mg base 3 "_law_fine" g_l_fine := by
  have A_l_lots := ok_l_lots (w := w) (base := base) T
  obtain ⟨fd, F, gm⟩ := T.d_l_fine
  refine ⟨_, fd, ["turns", "belts", "left"], fn_DD (N := N_l_fine) F sc_l_fine (by decide) (fun cdv A outer s H E hr => ?_), gm, F.kp, F.bindsN fun _ _ _ _ _ _ us hl => match us, hl with | [_, _, _], _ => rfl⟩
  have tk := takes_of (X := cxOf (L2.CX P w) P w K mg base N_l_fine "_law_fine" (defScope s_l_fine) (clsA K "_law_fine") cdv A outer s H E) rfl rfl rfl rfl
  exact s_cons (s_for (passes_of rfl) rfl (i_seq (c_call A_l_lots hr (by decide) (by rfl) (passes_call tk fun _ _ _ _ h => h) (dl_cons (de_v 0) (dl_cons (de_v 1) (dl_cons (de_v 2) dl_nil))))) (g_nm (i := 3) sc_l_fine.nd rfl (by first | exact Or.inl rfl | exact Or.inr rfl | exact Or.inr (Or.inl rfl) | exact Or.inr (Or.inr rfl)))
      (s_one (s_if ((w_and ((d_gt (d_len (by rfl) T.f_len (db 3)) de_int).pt) (w_and1 ((d_ne hr (pu_un pu_mB) (db_of (d_len (by rfl) T.f_len (db_of (d_fz (d_comp (own := [("e", 4), ("f", 5)]) rfl sc_l_fine.nd (i_seq (de_v 0)) (blkOk_by (own := [("e", 4), ("f", 5)]) (N := N_l_fine) (sc := defScope s_l_fine) (by decide +kernel)) (fun _ _ _ _ _ => (g_tup rfl (gs_cons (g_nm (i := 4) sc_l_fine.nd rfl (by first | exact Or.inl rfl | exact Or.inr rfl | exact Or.inr (Or.inl rfl) | exact Or.inr (Or.inr rfl))) (gs_cons (g_nm (i := 5) sc_l_fine.nd rfl (by first | exact Or.inl rfl | exact Or.inr rfl | exact Or.inr (Or.inl rfl) | exact Or.inr (Or.inr rfl))) gs_nil)))) (fun _ _ _ _ _ => t_one ((w_and ((d_in hr pu_mB (de_v 4) (db 3) rfl).pt) (w_and1 ((d_in hr pu_mB (de_v 5) (db 3) rfl).pt))).pt)) (fun _ _ _ _ _ => de_int) (pu_mAnd (pu_asB (pu_op pu_slot pu_mB)) (pu_asB (pu_op pu_slot pu_mB))) pu_ret (tg_tup (tgs_cons tg_nm (tgs_cons tg_nm tgs_nil))) (by decide)))))) (db_of (d_len (by rfl) T.f_len (db 3)))).pt))).pt)
      (s_one (s_ret de_bl))
      s_nil)))
      (s_one (s_ret de_bl))
end
def G_l_choose : S := sSeq (sAsg (gTp 2 (gsCons (gNm 3) (gsCons (gNm 4) (gsNil)))) (mTup (mCons (ret (.int 1)) (mCons (ret (.int 1)) (ret [])))))
  (sSeq (sFor (mRg (mCons (slotD 1) (ret []))) (gNm 2)
  (sParX 3 4 false false (mOp oMul (slotD 3) (mOp oSub (slotD 0) (slotD 2))) (mOp oMul (slotD 4) (mOp oAdd (slotD 2) (ret (.int 1))))))
  (sRet (mOp oDiv (slotD 3) (slotD 4))))
def g_l_choose := runF 5 2 G_l_choose
section
variable {P : Program} {w : World} {K : PySem.W.Frag} {mg : Str → Option Value} {base : Heap}
theorem ok_l_choose (T : Tx P K mg) : Fk P w K mg base 1 "_law_choose" g_l_choose := by
  obtain ⟨fd, F, gm⟩ := T.d_l_choose
  refine ⟨_, fd, ["many", "some"], fn_DD (N := N_l_choose) F sc_l_choose (by decide) (fun cdv A outer s H E hr => ?_), gm, F.kp, F.bindsN fun _ _ _ _ _ _ us hl => match us, hl with | [_, _], _ => rfl⟩
  have tk := takes_of (X := cxOf (L2.CX P w) P w K mg base N_l_choose "_law_choose" (defScope s_l_choose) (clsA K "_law_choose") cdv A outer s H E) rfl rfl rfl rfl
  exact s_cons (s_asg (d_tup (dl_cons de_int (dl_cons de_int dl_nil))) (g_tup rfl (gs_cons (g_nm (i := 3) sc_l_choose.nd rfl (by first | exact Or.inl rfl | exact Or.inr rfl | exact Or.inr (Or.inl rfl) | exact Or.inr (Or.inr rfl))) (gs_cons (g_nm (i := 4) sc_l_choose.nd rfl (by first | exact Or.inl rfl | exact Or.inr rfl | exact Or.inr (Or.inl rfl) | exact Or.inr (Or.inr rfl))) gs_nil))))
      (s_cons (s_for (passes_of rfl) rfl (i_rg1 (by rfl) T.f_range (dl_cons (de_v 1) dl_nil) rfl len1) (g_nm (i := 2) sc_l_choose.nd rfl (by first | exact Or.inl rfl | exact Or.inr rfl | exact Or.inr (Or.inl rfl) | exact Or.inr (Or.inr rfl)))
      (s_one (s_parX (i := 3) (j := 4) rfl sc_l_choose.nd rfl rfl (by decide) rfl rfl (x_fz (d_mul (de_v 3) (d_sub (de_v 0) (de_v 2)))) (x_fz (d_mul (de_v 4) (d_add (de_v 2) de_int))) rfl)))
      (s_one (s_ret (d_div (de_v 3) (de_v 4)))))
end
def G_l_power : S := sSeq (sSet 2 (ret (.int 1)))
  (sSeq (sFor (mRg (mCons (slotD 1) (ret []))) (gNm 3)
  (sSet 2 (mOp oMul (slotD 2) (slotD 0))))
  (sRet (slotD 2)))
def g_l_power := runF 4 2 G_l_power
section
variable {P : Program} {w : World} {K : PySem.W.Frag} {mg : Str → Option Value} {base : Heap}
theorem ok_l_power (T : Tx P K mg) : Fk P w K mg base 1 "_law_power" g_l_power := by
  obtain ⟨fd, F, gm⟩ := T.d_l_power
  refine ⟨_, fd, ["base", "many"], fn_DD (N := N_l_power) F sc_l_power (by decide) (fun cdv A outer s H E hr => ?_), gm, F.kp, F.bindsN fun _ _ _ _ _ _ us hl => match us, hl with | [_, _], _ => rfl⟩
  have tk := takes_of (X := cxOf (L2.CX P w) P w K mg base N_l_power "_law_power" (defScope s_l_power) (clsA K "_law_power") cdv A outer s H E) rfl rfl rfl rfl
  exact s_cons (s_set (i := 2) sc_l_power.nd rfl (by first | exact Or.inl rfl | exact Or.inr rfl | exact Or.inr (Or.inl rfl) | exact Or.inr (Or.inr rfl)) de_int)
      (s_cons (s_for (passes_of rfl) rfl (i_rg1 (by rfl) T.f_range (dl_cons (de_v 1) dl_nil) rfl len1) (g_nm (i := 3) sc_l_power.nd rfl (by first | exact Or.inl rfl | exact Or.inr rfl | exact Or.inr (Or.inl rfl) | exact Or.inr (Or.inr rfl)))
      (s_one (s_set (i := 2) sc_l_power.nd rfl (by first | exact Or.inl rfl | exact Or.inr rfl | exact Or.inr (Or.inl rfl) | exact Or.inr (Or.inr rfl)) (d_mul (de_v 2) (de_v 0)))))
      (s_one (s_ret (de_v 2))))
end
def G_l_worth : S := sSeq (sParX 4 5 true true (mLst (mCons (ret (.int 1)) (ret []))) (mLst (mCons (ret (.int 1)) (ret []))))
  (sSeq (sFor (mRg (mCons (ret (.int 1)) (mCons (mOp oAdd (slotD 0) (ret (.int 1))) (ret [])))) (gNm 3)
  (sSeq (sSet 6 (ret (.int 0)))
  (sSeq (sFor (mRg (mCons (ret (.int 1)) (mCons (mOp oAdd (slotD 3) (ret (.int 1))) (ret [])))) (gNm 7)
  (sSeq (sSet 8 (mIf (asB (mOp oEq (mB 7) (ret (.int 1)))) (ret (.int 1)) (mOp oMul (slotD 2) (mCall g_l_power [] (mCons (slotD 1) (mCons (slotD 7) (ret [])))))))
  (sSeq (sFor (mRg (mCons (ret (.int 2)) (mCons (slotD 7) (ret [])))) (gNm 9)
  (sSet 8 (mOp oMul (slotD 8) (slotD 9))))
  (sSet 6 (mOp oSub (slotD 6) (mOp oMul (mOp oMul (mCall g_l_choose [] (mCons (mOp oSub (slotD 3) (ret (.int 1))) (mCons (mOp oSub (slotD 7) (ret (.int 1))) (ret [])))) (slotD 8)) (mOp oIx (mB 4) (mOp oSub (slotD 3) (slotD 7)))))))))
  (sApp 4 (slotD 6)))))
  (sSeq (sFor (mRg (mCons (ret (.int 1)) (mCons (mOp oAdd (slotD 0) (ret (.int 1))) (ret [])))) (gNm 3)
  (sSeq (sSet 6 (ret (.int 0)))
  (sSeq (sFor (mRg (mCons (ret (.int 1)) (mCons (mOp oAdd (slotD 3) (ret (.int 1))) (ret [])))) (gNm 7)
  (sSet 6 (mOp oSub (slotD 6) (mOp oMul (mOp oMul (mOp oMul (mCall g_l_choose [] (mCons (slotD 3) (mCons (slotD 7) (ret [])))) (mCall g_l_power [] (mCons (mOp oAdd (ret (.int 1)) (slotD 1)) (mCons (mOp oMul (slotD 7) (mOp oSub (slotD 3) (slotD 7))) (ret []))))) (mOp oIx (mB 4) (slotD 7))) (mOp oIx (mB 5) (mOp oSub (slotD 3) (slotD 7)))))))
  (sApp 5 (slotD 6)))))
  (sRet (mOp oIx (mB 5) (slotD 0)))))
def g_l_worth := runF 10 3 G_l_worth
section
variable {P : Program} {w : World} {K : PySem.W.Frag} {mg : Str → Option Value} {base : Heap}
theorem ok_l_worth (T : Tx P K mg) : Fk P w K mg base 2 "_law_worth" g_l_worth := by
  have A_l_choose := ok_l_choose (w := w) (base := base) T
  have A_l_power := ok_l_power (w := w) (base := base) T
  obtain ⟨fd, F, gm⟩ := T.d_l_worth
  refine ⟨_, fd, ["many", "x", "y"], fn_DD (N := N_l_worth) F sc_l_worth (by decide) (fun cdv A outer s H E hr => ?_), gm, F.kp, F.bindsN fun _ _ _ _ _ _ us hl => match us, hl with | [_, _, _], _ => rfl⟩
  have tk := takes_of (X := cxOf (L2.CX P w) P w K mg base N_l_worth "_law_worth" (defScope s_l_worth) (clsA K "_law_worth") cdv A outer s H E) rfl rfl rfl rfl
  exact s_cons (s_parX (i := 4) (j := 5) rfl sc_l_worth.nd rfl rfl (by decide) rfl rfl (x_own (d_lst (dl_cons de_int dl_nil))) (x_own (d_lst (dl_cons de_int dl_nil))) rfl)
      (s_cons (s_for (passes_of rfl) rfl (i_rg2 (by rfl) T.f_range (dl_cons de_int (dl_cons (d_add (de_v 0) de_int) dl_nil)) len2) (g_nm (i := 3) sc_l_worth.nd rfl (by first | exact Or.inl rfl | exact Or.inr rfl | exact Or.inr (Or.inl rfl) | exact Or.inr (Or.inr rfl)))
      (s_cons (s_set (i := 6) sc_l_worth.nd rfl (by first | exact Or.inl rfl | exact Or.inr rfl | exact Or.inr (Or.inl rfl) | exact Or.inr (Or.inr rfl)) de_int)
      (s_cons (s_for (passes_of rfl) rfl (i_rg2 (by rfl) T.f_range (dl_cons de_int (dl_cons (d_add (de_v 3) de_int) dl_nil)) len2) (g_nm (i := 7) sc_l_worth.nd rfl (by first | exact Or.inl rfl | exact Or.inr rfl | exact Or.inr (Or.inl rfl) | exact Or.inr (Or.inr rfl)))
      (s_cons (s_set (i := 8) sc_l_worth.nd rfl (by first | exact Or.inl rfl | exact Or.inr rfl | exact Or.inr (Or.inl rfl) | exact Or.inr (Or.inr rfl)) (d_if ((d_eq hr pu_ret (db 7) (db_of de_int)).pt) de_int (d_mul (de_v 2) (c_call A_l_power hr (by decide) (by rfl) (passes_call tk fun _ _ _ _ h => h) (dl_cons (de_v 1) (dl_cons (de_v 7) dl_nil))))))
      (s_cons (s_for (passes_of rfl) rfl (i_rg2 (by rfl) T.f_range (dl_cons de_int (dl_cons (de_v 7) dl_nil)) len2) (g_nm (i := 9) sc_l_worth.nd rfl (by first | exact Or.inl rfl | exact Or.inr rfl | exact Or.inr (Or.inl rfl) | exact Or.inr (Or.inr rfl)))
      (s_one (s_set (i := 8) sc_l_worth.nd rfl (by first | exact Or.inl rfl | exact Or.inr rfl | exact Or.inr (Or.inl rfl) | exact Or.inr (Or.inr rfl)) (d_mul (de_v 8) (de_v 9)))))
      (s_one (s_set (i := 6) sc_l_worth.nd rfl (by first | exact Or.inl rfl | exact Or.inr rfl | exact Or.inr (Or.inl rfl) | exact Or.inr (Or.inr rfl)) (d_sub (de_v 6) (d_mul (d_mul (c_call A_l_choose hr (by decide) (by rfl) (passes_call tk fun _ _ _ _ h => h) (dl_cons (d_sub (de_v 3) de_int) (dl_cons (d_sub (de_v 7) de_int) dl_nil))) (de_v 8)) (d_ix hr (pu_op pu_slot pu_slot) (db 4) (d_sub (de_v 3) (de_v 7))))))))))
      (s_one (s_app (i := 4) rfl (by first | exact Or.inl rfl | exact Or.inr rfl | exact Or.inr (Or.inl rfl) | exact Or.inr (Or.inr rfl)) (de_v 6))))))
      (s_cons (s_for (passes_of rfl) rfl (i_rg2 (by rfl) T.f_range (dl_cons de_int (dl_cons (d_add (de_v 0) de_int) dl_nil)) len2) (g_nm (i := 3) sc_l_worth.nd rfl (by first | exact Or.inl rfl | exact Or.inr rfl | exact Or.inr (Or.inl rfl) | exact Or.inr (Or.inr rfl)))
      (s_cons (s_set (i := 6) sc_l_worth.nd rfl (by first | exact Or.inl rfl | exact Or.inr rfl | exact Or.inr (Or.inl rfl) | exact Or.inr (Or.inr rfl)) de_int)
      (s_cons (s_for (passes_of rfl) rfl (i_rg2 (by rfl) T.f_range (dl_cons de_int (dl_cons (d_add (de_v 3) de_int) dl_nil)) len2) (g_nm (i := 7) sc_l_worth.nd rfl (by first | exact Or.inl rfl | exact Or.inr rfl | exact Or.inr (Or.inl rfl) | exact Or.inr (Or.inr rfl)))
      (s_one (s_set (i := 6) sc_l_worth.nd rfl (by first | exact Or.inl rfl | exact Or.inr rfl | exact Or.inr (Or.inl rfl) | exact Or.inr (Or.inr rfl)) (d_sub (de_v 6) (d_mul (d_mul (d_mul (c_call A_l_choose hr (by decide) (by rfl) (passes_call tk fun _ _ _ _ h => h) (dl_cons (de_v 3) (dl_cons (de_v 7) dl_nil))) (c_call A_l_power hr (by decide) (by rfl) (passes_call tk fun _ _ _ _ h => h) (dl_cons (d_add de_int (de_v 1)) (dl_cons (d_mul (de_v 7) (d_sub (de_v 3) (de_v 7))) dl_nil)))) (d_ix hr pu_slot (db 4) (de_v 7))) (d_ix hr (pu_op pu_slot pu_slot) (db 5) (d_sub (de_v 3) (de_v 7))))))))
      (s_one (s_app (i := 5) rfl (by first | exact Or.inl rfl | exact Or.inr rfl | exact Or.inr (Or.inl rfl) | exact Or.inr (Or.inr rfl)) (de_v 6))))))
      (s_one (s_ret (d_ix hr pu_slot (db 5) (de_v 0))))))
end
def G_l_all : S := sSeq (sSetF 1 (ret (.dT [])))
  (sSeq (sFor (mRg (mCons (mOp oIx (mLst (mCons (ret (.int 1)) (mCons (ret (.int 1)) (mCons (ret (.int 4)) (mCons (ret (.int 64)) (ret [])))))) (slotD 0)) (ret []))) (gNm 2)
  (sSeq (sParX 4 5 false false (mLst (ret [])) (slotD 2))
  (sSeq (sFor (mRg (mCons (slotD 0) (ret []))) (gNm 3)
  (sFor (mRg (mCons (slotD 0) (ret []))) (gNm 6)
  (sIf (asB (mOp oNe (mB 3) (mB 6)))
  (sParX 4 5 false false (mOpF oCat (mB 4) (mIf (asB (mOp oEq (mOp oMod (slotD 5) (ret (.int 2))) (ret (.int 1)))) (mLst (mCons (mTup (mCons (slotD 3) (mCons (slotD 6) (ret [])))) (ret []))) (mLst (ret [])))) (mOp oDiv (slotD 5) (ret (.int 2))))
  (sNil))))
  (sIf (asB (mCall g_l_fine [] (mCons (mCall g_l_turns [] (mCons (slotD 4) (ret []))) (mCons (slotD 4) (mCons (mUn oTupRg (mUn oLen (mB 4))) (ret []))))))
  (sSeq (sSet 7 (mCall g_l_lots [] (mCons (mCall g_l_turns [] (mCons (slotD 4) (ret []))) (mCons (slotD 4) (mCons (mUn oTupRg (mUn oLen (mB 4))) (ret []))))))
  (sSeq (sSet 8 (mTup (mCons (mUn oLen (mB 4)) (mCons (mUn oLen (mComp (mIt (slotD 7)) [9] (gNm 9) (asB (mOp oGt (mUn oLen (mB 9)) (ret (.int 1)))) (ret (.int 1)))) (ret [])))))
  (sAsg (gIx 1 (slotD 8)) (mOp oAdd (mGet (asDc (mB 1)) (slotD 8) (ret (.int 0))) (ret (.int 1))))))
  (sNil)))))
  (sRet (mUn oTuple (mComp (mIt (mUnF oSortDict (mB 1))) [8] (gNm 8) (ret true) (mTup (mCons (mOp oIx (mB 8) (ret (.int 0))) (mCons (mOp oIx (mB 8) (ret (.int 1))) (mCons (mOp oIx (mB 1) (slotD 8)) (ret [])))))))))
def g_l_all := runF 10 1 G_l_all
section
variable {P : Program} {w : World} {K : PySem.W.Frag} {mg : Str → Option Value} {base : Heap}
theorem ok_l_all (T : Tx P K mg) : Fk P w K mg base 4 "_law_all" g_l_all := by
  have A_l_fine := ok_l_fine (w := w) (base := base) T
  have A_l_lots := ok_l_lots (w := w) (base := base) T
  have A_l_turns := ok_l_turns (w := w) (base := base) T
  obtain ⟨fd, F, gm⟩ := T.d_l_all
  refine ⟨_, fd, ["many"], fn_DD (N := N_l_all) F sc_l_all (by decide) (fun cdv A outer s H E hr => ?_), gm, F.kp, F.bindsN fun _ _ _ _ _ _ us hl => match us, hl with | [_], _ => rfl⟩
  have tk := takes_of (X := cxOf (L2.CX P w) P w K mg base N_l_all "_law_all" (defScope s_l_all) (clsA K "_law_all") cdv A outer s H E) rfl rfl rfl rfl
  exact s_cons (s_setF (i := 1) sc_l_all.nd rfl (by first | exact Or.inl rfl | exact Or.inr rfl | exact Or.inr (Or.inl rfl) | exact Or.inr (Or.inr rfl)) d_newT)
      (s_cons (s_for (passes_of rfl) rfl (i_rg1 (by rfl) T.f_range (dl_cons (d_ix hr pu_slot (db_of (d_fz (d_lst (dl_cons de_int (dl_cons de_int (dl_cons de_int (dl_cons de_int dl_nil))))))) (de_v 0)) dl_nil) rfl len1) (g_nm (i := 2) sc_l_all.nd rfl (by first | exact Or.inl rfl | exact Or.inr rfl | exact Or.inr (Or.inl rfl) | exact Or.inr (Or.inr rfl)))
      (s_cons (s_parX (i := 4) (j := 5) rfl sc_l_all.nd rfl rfl (by decide) rfl rfl (x_fz (d_fz (d_lst dl_nil))) (x_fz (de_v 2)) rfl)
      (s_cons (s_for (passes_of rfl) rfl (i_rg1 (by rfl) T.f_range (dl_cons (de_v 0) dl_nil) rfl len1) (g_nm (i := 3) sc_l_all.nd rfl (by first | exact Or.inl rfl | exact Or.inr rfl | exact Or.inr (Or.inl rfl) | exact Or.inr (Or.inr rfl)))
      (s_one (s_for (passes_of rfl) rfl (i_rg1 (by rfl) T.f_range (dl_cons (de_v 0) dl_nil) rfl len1) (g_nm (i := 6) sc_l_all.nd rfl (by first | exact Or.inl rfl | exact Or.inr rfl | exact Or.inr (Or.inl rfl) | exact Or.inr (Or.inr rfl)))
      (s_one (s_if ((d_ne hr pu_mB (db 3) (db 6)).pt)
      (s_one (s_parX (i := 4) (j := 5) rfl sc_l_all.nd rfl rfl (by decide) rfl rfl (x_fz (d_fz (d_cat (pu_mIf (pu_asB (pu_op (pu_op pu_slot pu_ret) pu_ret)) (pu_mLst (pu_cons (pu_mTup (pu_cons pu_slot (pu_cons pu_slot pu_ret))) pu_ret)) (pu_mLst pu_ret)) (db 4) (db_of (d_fz (d_ifF ((d_eq hr pu_ret (db_of (d_mod (de_v 5) de_int)) (db_of de_int)).pt) (d_lst (dl_cons (d_tup (dl_cons (de_v 3) (dl_cons (de_v 6) dl_nil))) dl_nil)) (d_lst dl_nil))))))) (x_fz (d_div (de_v 5) de_int)) rfl))
      s_nil)))))
      (s_one (s_if (t_val (c_call A_l_fine hr (by decide) (by rfl) (passes_call tk fun _ _ _ _ h => h) (dl_cons (c_call A_l_turns hr (by decide) (by rfl) (passes_call tk fun _ _ _ _ h => h) (dl_cons (de_v 4) dl_nil)) (dl_cons (de_v 4) (dl_cons (d_tupRg rfl (by rfl) T.f_tuple (by rfl) T.f_range (d_len (by rfl) T.f_len (db 4))) dl_nil)))))
      (s_cons (s_set (i := 7) sc_l_all.nd rfl (by first | exact Or.inl rfl | exact Or.inr rfl | exact Or.inr (Or.inl rfl) | exact Or.inr (Or.inr rfl)) (c_call A_l_lots hr (by decide) (by rfl) (passes_call tk fun _ _ _ _ h => h) (dl_cons (c_call A_l_turns hr (by decide) (by rfl) (passes_call tk fun _ _ _ _ h => h) (dl_cons (de_v 4) dl_nil)) (dl_cons (de_v 4) (dl_cons (d_tupRg rfl (by rfl) T.f_tuple (by rfl) T.f_range (d_len (by rfl) T.f_len (db 4))) dl_nil)))))
      (s_cons (s_set (i := 8) sc_l_all.nd rfl (by first | exact Or.inl rfl | exact Or.inr rfl | exact Or.inr (Or.inl rfl) | exact Or.inr (Or.inr rfl)) (d_tup (dl_cons (d_len (by rfl) T.f_len (db 4)) (dl_cons (d_len (by rfl) T.f_len (db_of (d_fz (d_comp (own := [("lot", 9)]) rfl sc_l_all.nd (i_seq (de_v 7)) (blkOk_by (own := [("lot", 9)]) (N := N_l_all) (sc := defScope s_l_all) (by decide +kernel)) (fun _ _ _ _ _ => (g_nm (i := 9) sc_l_all.nd rfl (by first | exact Or.inl rfl | exact Or.inr rfl | exact Or.inr (Or.inl rfl) | exact Or.inr (Or.inr rfl)))) (fun _ _ _ _ _ => t_one ((d_gt (d_len (by rfl) T.f_len (db 9)) de_int).pt)) (fun _ _ _ _ _ => de_int) (pu_asB (pu_op (pu_un pu_mB) pu_ret)) pu_ret tg_nm (by decide))))) dl_nil))))
      (s_one (s_asg (d_add (d_get hr pu_slot pu_ret (db 1) (de_v 8) de_int ⟨rfl, rfl, rfl, rfl⟩) de_int) (g_ix (i := 1) hr pu_slot rfl (by first | exact Or.inl rfl | exact Or.inr rfl | exact Or.inr (Or.inl rfl) | exact Or.inr (Or.inr rfl)) (de_v 8))))))
      s_nil)))))
      (s_one (s_ret (d_tuple (by rfl) T.f_tuple (db_of (d_fz (d_comp (own := [("key", 8)]) rfl sc_l_all.nd (i_seq (d_fz (d_sortDict rfl (by rfl) T.f_sorted (db 1)))) (blkOk_by (own := [("key", 8)]) (N := N_l_all) (sc := defScope s_l_all) (by decide +kernel)) (fun _ _ _ _ _ => (g_nm (i := 8) sc_l_all.nd rfl (by first | exact Or.inl rfl | exact Or.inr rfl | exact Or.inr (Or.inl rfl) | exact Or.inr (Or.inr rfl)))) (fun _ _ _ _ _ => t_yes) (fun _ _ _ _ _ => d_tup (dl_cons (d_ix hr pu_ret (db 8) de_int) (dl_cons (d_ix hr pu_ret (db 8) de_int) (dl_cons (d_ix hr pu_slot (db 1) (de_v 8)) dl_nil)))) pu_ret (pu_mTup (pu_cons (pu_op pu_mB pu_ret) (pu_cons (pu_op pu_mB pu_ret) (pu_cons (pu_op pu_mB pu_slot) pu_ret)))) tg_nm (by decide))))))))
end
def G_l_right : S := sSeq (sSet 2 (mCall g_belts_and_rings [] (mCons (slotD 1) (ret []))))
  (sSeq (sIf (mOr (mNot (asB (mUn (oIsi "tuple") (mB 2)))) (mNot (asB (mUn oAll (mComp (mIt (slotD 2)) [13] (gNm 13) (ret true) (mAndV (mUn (oIsi "tuple") (mB 13)) (mOp oEq (mUn oLen (mB 13)) (ret (.int 3)))))))))
  (sRet (ret (.bl false)))
  (sNil))
  (sSeq (sIf (mNot (asB (mUn oAll (mComp (mIt (slotD 2)) [13] (gNm 13) (ret true) (mAndV (mCall g_l_same [] (mCons (slotD 13) (mCons (mUn oTuple (mComp (mIt (slotD 13)) [14] (gNm 14) (ret true) (mN nInt (mCons (slotD 14) (ret []))))) (ret [])))) (mOp oGt (mOp oIx (mB 13) (ret (.int 2))) (ret (.int 0))))))))
  (sRet (ret (.bl false)))
  (sNil))
  (sSeq (sIf (asB (mOp oNe (mComp (mIt (slotD 2)) [13] (gNm 13) (ret true) (mSlT (slotD 13) (ret none) (mPart (ret (.int 2))))) (mUnF (oSortSet pairP) (mComp (mIt (slotD 2)) [13] (gNm 13) (ret true) (mSlT (slotD 13) (ret none) (mPart (ret (.int 2))))))))
  (sRet (ret (.bl false)))
  (sNil))
  (sSeq (sFor (mIt (mLst (mCons (mTup (mCons (ret (.int 1)) (mCons (ret (.int 1)) (ret [])))) (mCons (mTup (mCons (ret (.int 1)) (mCons (ret (.int 0)) (ret [])))) (mCons (mTup (mCons (mCallG g_l_take 0 (mCons (ret (.int 5)) (ret []))) (mCons (mCallG g_l_take 0 (mCons (ret (.int 4)) (ret []))) (ret [])))) (mCons (mTup (mCons (mOp oAdd (mOp oPow (ret (.int 10)) (ret (.int 9))) (mCallG g_l_take 0 (mCons (ret (.int 999)) (ret [])))) (mCons (mOp oAdd (mOp oPow (ret (.int 10)) (ret (.int 30))) (mCallG g_l_take 0 (mCons (ret (.int 99)) (ret [])))) (ret [])))) (ret []))))))) (gTp 2 (gsCons (gNm 6) (gsCons (gNm 7) (gsNil))))
  (sSeq (sSet 8 (ret (.int 0)))
  (sSeq (sFor (mIt (slotD 2)) (gTp 3 (gsCons (gNm 9) (gsCons (gNm 10) (gsCons (gNm 11) (gsNil)))))
  (sSet 8 (mOp oAdd (slotD 8) (mOp oMul (mOp oMul (slotD 11) (mCall g_l_power [] (mCons (slotD 6) (mCons (slotD 9) (ret []))))) (mCall g_l_power [] (mCons (slotD 7) (mCons (slotD 10) (ret []))))))))
  (sIf (asB (mOp oNe (mB 8) (mCall g_l_worth [] (mCons (slotD 1) (mCons (slotD 6) (mCons (slotD 7) (ret [])))))))
  (sRet (ret (.bl false)))
  (sNil)))))
  (sSeq (sIf (mOr (mNot (asB (mCall g_l_same [] (mCons (mCall g_how_many [] (mCons (slotD 1) (ret []))) (mCons (mCall g_l_worth [] (mCons (slotD 1) (mCons (ret (.int 1)) (mCons (ret (.int 1)) (ret []))))) (ret [])))))) (mNot (asB (mCall g_l_same [] (mCons (mCall g_how_many_ringless [] (mCons (slotD 1) (ret []))) (mCons (mCall g_l_worth [] (mCons (slotD 1) (mCons (ret (.int 1)) (mCons (ret (.int 0)) (ret []))))) (ret [])))))))
  (sRet (ret (.bl false)))
  (sNil))
  (sSeq (sSet 3 (mOp oMul (slotD 1) (mOp oSub (slotD 1) (ret (.int 1)))))
  (sSeq (sSetF 4 (mComp (mRg (mCons (ret (.int 5)) (ret []))) [12] (gNm 12) (ret true) (mCall g_l_choose [] (mCons (slotD 3) (mCons (slotD 12) (ret []))))))
  (sSeq (sAsg (gIx 4 (ret (.int 4))) (mOp oSub (mOp oIx (mB 4) (ret (.int 4))) (mOp oDiv (mOp oMul (mOp oMul (mOp oMul (slotD 1) (mOp oSub (slotD 1) (ret (.int 1)))) (mOp oSub (slotD 1) (ret (.int 2)))) (ret (.int 3))) (ret (.int 2)))))
  (sSeq (sIf (mNot (asB (mUn oAll (mComp (mRg (mCons (ret (.int 5)) (ret []))) [12] (gNm 12) (ret true) (mCall g_l_same [] (mCons (mCall g_how_many_with [] (mCons (slotD 1) (mCons (slotD 12) (ret [])))) (mCons (mOp oIx (mB 4) (slotD 12)) (ret []))))))))
  (sRet (ret (.bl false)))
  (sNil))
  (sSeq (sSet 5 (mUn oMax (mComp (mIt (slotD 2)) [13] (gNm 13) (ret true) (mOp oIx (mB 13) (ret (.int 0))))))
  (sSeq (sIf (mOr (mNot (asB (mCall g_l_same [] (mCons (mCall g_most_belts [] (mCons (slotD 1) (ret []))) (mCons (slotD 5) (ret [])))))) (mNot (asB (mCall g_l_same [] (mCons (mCall g_how_many_with [] (mCons (slotD 1) (mCons (slotD 5) (ret [])))) (mCons (mCall g_how_many_fullest [] (mCons (slotD 1) (ret []))) (ret [])))))))
  (sRet (ret (.bl false)))
  (sNil))
  (sRet (mAndV (mCall g_l_same [] (mCons (mCall g_how_many_with [] (mCons (slotD 1) (mCons (mOp oAdd (slotD 5) (ret (.int 1))) (ret [])))) (mCons (ret (.int 0)) (ret [])))) (mOrV (mOp oGt (slotD 1) (ret (.int 3))) (mCall g_l_same [] (mCons (slotD 2) (mCons (mCall g_l_all [] (mCons (slotD 1) (ret []))) (ret []))))))))))))))))))
def take4 (a b c : Int) (m : Int) : D × D := takeR a b c m
def afterR (x : D × D) (m : Int) : D × D := match x.2 with
  | .lst [.int a, .int b, .int c] => takeR a b c m
  | _ => x
/-- the draws of _law_right: 5, 4, 999, 99 -/
def rightR (a b c : Int) : D := (afterR (afterR (afterR (takeR a b c 5) 4) 999) 99).2
def g_l_right (gd : D) (ds : List D) : Option (D × D) := match gd, ds with
  | .lst [.int a, .int b, .int c], [.int m] => if 1 ≤ m ∧ m ≤ 8 ∧ 0 ≤ b ∧ b < 10000000000 ∧ 0 ≤ c ∧ c < 1000000000 ∧ 0 ≤ a then some (.bl true, rightR a b c) else none
  | _, _ => none
def RightOk : Prop := ∀ (gd : D) (ds : List D) (r : D × D), g_l_right gd ds = some r → ds.length + 1 = 2 ∧ ∀ b, ∃ o, G_l_right (envG 15 b gd ds) = some o ∧ FinG b o r
section
variable {P : Program} {w : World} {K : PySem.W.Frag} {mg : Str → Option Value} {base : Heap}
theorem ok_l_right (T : Tx P K mg) (RK : RightOk) : FkG P w K mg base 6 "_law_right" g_l_right := by
  have A_l_all := ok_l_all (w := w) (base := base) T
  have A_l_choose := ok_l_choose (w := w) (base := base) T
  have A_l_power := ok_l_power (w := w) (base := base) T
  have A_l_same := ok_l_same (w := w) (base := base) T
  have A_l_take := ok_l_take (w := w) (base := base) T
  have A_l_worth := ok_l_worth (w := w) (base := base) T
  have A_belts_and_rings := ok_belts_and_rings (w := w) (base := base) T
  have A_how_many := ok_how_many (w := w) (base := base) T
  have A_how_many_fullest := ok_how_many_fullest (w := w) (base := base) T
  have A_how_many_ringless := ok_how_many_ringless (w := w) (base := base) T
  have A_how_many_with := ok_how_many_with (w := w) (base := base) T
  have A_most_belts := ok_most_belts (w := w) (base := base) T
  obtain ⟨fd, F, gm⟩ := T.d_l_right
  refine ⟨_, fd, ["box", "many"], fn_GG (N := N_l_right) (G := G_l_right) F sc_l_right (by decide) RK (fun cdv A outer s H E hr => ?_), gm, F.kp, F.bindsN fun _ _ _ _ _ _ us hl => match us, hl with | [_, _], _ => rfl⟩
  have tk := takes_of (X := cxOf (L2.CX P w) P w K mg base N_l_right "_law_right" (defScope s_l_right) (clsA K "_law_right") cdv A outer s H E) rfl rfl rfl rfl
  exact s_cons (s_set (i := 2) sc_l_right.nd rfl (by first | exact Or.inl rfl | exact Or.inr rfl | exact Or.inr (Or.inl rfl) | exact Or.inr (Or.inr rfl)) (c_call A_belts_and_rings hr (by decide) (by rfl) (passes_call tk fun _ _ _ _ h => h) (dl_cons (de_v 1) dl_nil)))
      (s_cons (s_if ((w_or (t_not (t_val (d_isi (by rfl) T.f_isinstance (by rfl) T.f_tuple boot_tuple (by decide) (by decide) (db 2)))) (w_or1 (t_not (t_val (d_all rfl (by rfl) T.f_all (db_of (d_fz (d_comp (own := [("row", 13)]) rfl sc_l_right.nd (i_seq (de_v 2)) (blkOk_by (own := [("row", 13)]) (N := N_l_right) (sc := defScope s_l_right) (by decide +kernel)) (fun _ _ _ _ _ => (g_nm (i := 13) sc_l_right.nd rfl (by first | exact Or.inl rfl | exact Or.inr rfl | exact Or.inr (Or.inl rfl) | exact Or.inr (Or.inr rfl)))) (fun _ _ _ _ _ => t_yes) (fun _ _ _ _ _ => d_and (d_isi (by rfl) T.f_isinstance (by rfl) T.f_tuple boot_tuple (by decide) (by decide) (db 13)) (d_one ((d_eq hr pu_ret (db_of (d_len (by rfl) T.f_len (db 13))) (db_of de_int)).pe))) pu_ret (pu_mAndV (pu_un pu_mB) (pu_op (pu_un pu_mB) pu_ret)) tg_nm (by decide))))))))).pt)
      (s_one (s_ret de_bl))
      s_nil)
      (s_cons (s_if (t_not (t_val (d_all rfl (by rfl) T.f_all (db_of (d_fz (d_comp (own := [("row", 13)]) rfl sc_l_right.nd (i_seq (de_v 2)) (blkOk_by (own := [("row", 13)]) (N := N_l_right) (sc := defScope s_l_right) (by decide +kernel)) (fun _ _ _ _ _ => (g_nm (i := 13) sc_l_right.nd rfl (by first | exact Or.inl rfl | exact Or.inr rfl | exact Or.inr (Or.inl rfl) | exact Or.inr (Or.inr rfl)))) (fun _ _ _ _ _ => t_yes) (fun _ _ _ _ _ => d_and (c_call A_l_same hr (by decide) (by rfl) passL (dl_cons (de_v 13) (dl_cons (d_tuple (by rfl) T.f_tuple (db_of (d_fz (d_comp (own := [("one", 14)]) rfl sc_l_right.nd (i_seq (de_v 13)) (blkOk_by (own := [("one", 14)]) (N := N_l_right) (sc := ({ kind := .function, names := [(PySem.Str.ofString ".0", .local), (PySem.Str.ofString "row", .local), (PySem.Str.ofString "_law_same", .globalImplicit), (PySem.Str.ofString "tuple", .globalImplicit)], isGenerator := false, isCoroutine := false, more := [] } : Scope)) (by decide +kernel)) (fun _ _ _ _ _ => (g_nm (i := 14) sc_l_right.nd rfl (by first | exact Or.inl rfl | exact Or.inr rfl | exact Or.inr (Or.inl rfl) | exact Or.inr (Or.inr rfl)))) (fun _ _ _ _ _ => t_yes) (fun _ _ _ _ _ => d_int (by rfl) T.f_int (de_v 14)) pu_ret (pu_n (pu_cons pu_slot pu_ret)) tg_nm (by decide))))) dl_nil))) (d_one ((d_gt (d_ix hr pu_ret (db 13) de_int) de_int).pe))) pu_ret (pu_mAndV (pu_mCall (pu_cons pu_slot (pu_cons (pu_un (pu_mComp (pu_mIt pu_slot))) pu_ret))) (pu_op (pu_op pu_mB pu_ret) pu_ret)) tg_nm (by decide)))))))
      (s_one (s_ret de_bl))
      s_nil)
      (s_cons (s_if ((d_ne hr (pu_unF (pu_mComp (pu_mIt pu_slot))) (db_of (d_fz (d_comp (own := [("row", 13)]) rfl sc_l_right.nd (i_seq (de_v 2)) (blkOk_by (own := [("row", 13)]) (N := N_l_right) (sc := defScope s_l_right) (by decide +kernel)) (fun _ _ _ _ _ => (g_nm (i := 13) sc_l_right.nd rfl (by first | exact Or.inl rfl | exact Or.inr rfl | exact Or.inr (Or.inl rfl) | exact Or.inr (Or.inr rfl)))) (fun _ _ _ _ _ => t_yes) (fun _ _ _ _ _ => d_slT (de_v 13) do_none (do_some de_int)) pu_ret (pu_mSlT pu_slot pu_ret (pu_mPart pu_ret)) tg_nm (by decide)))) (db_of (d_fz (d_sortSet hr rfl pairP_apart (by rfl) T.f_sorted (by rfl) T.f_set (db_of (d_fz (d_comp (own := [("row", 13)]) rfl sc_l_right.nd (i_seq (de_v 2)) (blkOk_by (own := [("row", 13)]) (N := N_l_right) (sc := defScope s_l_right) (by decide +kernel)) (fun _ _ _ _ _ => (g_nm (i := 13) sc_l_right.nd rfl (by first | exact Or.inl rfl | exact Or.inr rfl | exact Or.inr (Or.inl rfl) | exact Or.inr (Or.inr rfl)))) (fun _ _ _ _ _ => t_yes) (fun _ _ _ _ _ => d_slT (de_v 13) do_none (do_some de_int)) pu_ret (pu_mSlT pu_slot pu_ret (pu_mPart pu_ret)) tg_nm (by decide)))))))).pt)
      (s_one (s_ret de_bl))
      s_nil)
      (s_cons (s_for (passes_of rfl) rfl (i_seq (d_fz (d_lst (dl_cons (d_tup (dl_cons de_int (dl_cons de_int dl_nil))) (dl_cons (d_tup (dl_cons de_int (dl_cons de_int dl_nil))) (dl_cons (d_tup (dl_cons (c_callG (i := 0) A_l_take hr (by decide) (by rfl) (passes_call tk fun _ _ _ _ h => h) rfl (by first | exact Or.inl rfl | exact Or.inr rfl | exact Or.inr (Or.inl rfl) | exact Or.inr (Or.inr rfl)) (dl_cons de_int dl_nil)) (dl_cons (c_callG (i := 0) A_l_take hr (by decide) (by rfl) (passes_call tk fun _ _ _ _ h => h) rfl (by first | exact Or.inl rfl | exact Or.inr rfl | exact Or.inr (Or.inl rfl) | exact Or.inr (Or.inr rfl)) (dl_cons de_int dl_nil)) dl_nil))) (dl_cons (d_tup (dl_cons (d_add (d_pow de_int de_int) (c_callG (i := 0) A_l_take hr (by decide) (by rfl) (passes_call tk fun _ _ _ _ h => h) rfl (by first | exact Or.inl rfl | exact Or.inr rfl | exact Or.inr (Or.inl rfl) | exact Or.inr (Or.inr rfl)) (dl_cons de_int dl_nil))) (dl_cons (d_add (d_pow de_int de_int) (c_callG (i := 0) A_l_take hr (by decide) (by rfl) (passes_call tk fun _ _ _ _ h => h) rfl (by first | exact Or.inl rfl | exact Or.inr rfl | exact Or.inr (Or.inl rfl) | exact Or.inr (Or.inr rfl)) (dl_cons de_int dl_nil))) dl_nil))) dl_nil))))))) (g_tup rfl (gs_cons (g_nm (i := 6) sc_l_right.nd rfl (by first | exact Or.inl rfl | exact Or.inr rfl | exact Or.inr (Or.inl rfl) | exact Or.inr (Or.inr rfl))) (gs_cons (g_nm (i := 7) sc_l_right.nd rfl (by first | exact Or.inl rfl | exact Or.inr rfl | exact Or.inr (Or.inl rfl) | exact Or.inr (Or.inr rfl))) gs_nil)))
      (s_cons (s_set (i := 8) sc_l_right.nd rfl (by first | exact Or.inl rfl | exact Or.inr rfl | exact Or.inr (Or.inl rfl) | exact Or.inr (Or.inr rfl)) de_int)
      (s_cons (s_for (passes_of rfl) rfl (i_seq (de_v 2)) (g_tup rfl (gs_cons (g_nm (i := 9) sc_l_right.nd rfl (by first | exact Or.inl rfl | exact Or.inr rfl | exact Or.inr (Or.inl rfl) | exact Or.inr (Or.inr rfl))) (gs_cons (g_nm (i := 10) sc_l_right.nd rfl (by first | exact Or.inl rfl | exact Or.inr rfl | exact Or.inr (Or.inl rfl) | exact Or.inr (Or.inr rfl))) (gs_cons (g_nm (i := 11) sc_l_right.nd rfl (by first | exact Or.inl rfl | exact Or.inr rfl | exact Or.inr (Or.inl rfl) | exact Or.inr (Or.inr rfl))) gs_nil))))
      (s_one (s_set (i := 8) sc_l_right.nd rfl (by first | exact Or.inl rfl | exact Or.inr rfl | exact Or.inr (Or.inl rfl) | exact Or.inr (Or.inr rfl)) (d_add (de_v 8) (d_mul (d_mul (de_v 11) (c_call A_l_power hr (by decide) (by rfl) (passes_call tk fun _ _ _ _ h => h) (dl_cons (de_v 6) (dl_cons (de_v 9) dl_nil)))) (c_call A_l_power hr (by decide) (by rfl) (passes_call tk fun _ _ _ _ h => h) (dl_cons (de_v 7) (dl_cons (de_v 10) dl_nil))))))))
      (s_one (s_if ((d_ne hr (pu_mCall (pu_cons pu_slot (pu_cons pu_slot (pu_cons pu_slot pu_ret)))) (db 8) (db_of (c_call A_l_worth hr (by decide) (by rfl) (passes_call tk fun _ _ _ _ h => h) (dl_cons (de_v 1) (dl_cons (de_v 6) (dl_cons (de_v 7) dl_nil)))))).pt)
      (s_one (s_ret de_bl))
      s_nil)))))
      (s_cons (s_if ((w_or (t_not (t_val (c_call A_l_same hr (by decide) (by rfl) (passes_call tk fun _ _ _ _ h => h) (dl_cons (c_call A_how_many hr (by decide) (by rfl) (passes_call tk fun _ _ _ _ h => h) (dl_cons (de_v 1) dl_nil)) (dl_cons (c_call A_l_worth hr (by decide) (by rfl) (passes_call tk fun _ _ _ _ h => h) (dl_cons (de_v 1) (dl_cons de_int (dl_cons de_int dl_nil)))) dl_nil))))) (w_or1 (t_not (t_val (c_call A_l_same hr (by decide) (by rfl) (passes_call tk fun _ _ _ _ h => h) (dl_cons (c_call A_how_many_ringless hr (by decide) (by rfl) (passes_call tk fun _ _ _ _ h => h) (dl_cons (de_v 1) dl_nil)) (dl_cons (c_call A_l_worth hr (by decide) (by rfl) (passes_call tk fun _ _ _ _ h => h) (dl_cons (de_v 1) (dl_cons de_int (dl_cons de_int dl_nil)))) dl_nil))))))).pt)
      (s_one (s_ret de_bl))
      s_nil)
      (s_cons (s_set (i := 3) sc_l_right.nd rfl (by first | exact Or.inl rfl | exact Or.inr rfl | exact Or.inr (Or.inl rfl) | exact Or.inr (Or.inr rfl)) (d_mul (de_v 1) (d_sub (de_v 1) de_int)))
      (s_cons (s_setF (i := 4) sc_l_right.nd rfl (by first | exact Or.inl rfl | exact Or.inr rfl | exact Or.inr (Or.inl rfl) | exact Or.inr (Or.inr rfl)) (d_comp (own := [("k", 12)]) rfl sc_l_right.nd (i_rg1 (by rfl) T.f_range (dl_cons de_int dl_nil) rfl len1) (blkOk_by (own := [("k", 12)]) (N := N_l_right) (sc := defScope s_l_right) (by decide +kernel)) (fun _ _ _ _ _ => (g_nm (i := 12) sc_l_right.nd rfl (by first | exact Or.inl rfl | exact Or.inr rfl | exact Or.inr (Or.inl rfl) | exact Or.inr (Or.inr rfl)))) (fun _ _ _ _ _ => t_yes) (fun _ _ _ _ _ => c_call A_l_choose hr (by decide) (by rfl) passL (dl_cons (de_v 3) (dl_cons (de_v 12) dl_nil))) pu_ret (pu_mCall (pu_cons pu_slot (pu_cons pu_slot pu_ret))) tg_nm (by decide)))
      (s_cons (s_asg (d_sub (d_ix hr pu_ret (db 4) de_int) (d_div (d_mul (d_mul (d_mul (de_v 1) (d_sub (de_v 1) de_int)) (d_sub (de_v 1) de_int)) de_int) de_int)) (g_ix (i := 4) hr pu_ret rfl (by first | exact Or.inl rfl | exact Or.inr rfl | exact Or.inr (Or.inl rfl) | exact Or.inr (Or.inr rfl)) de_int))
      (s_cons (s_if (t_not (t_val (d_all rfl (by rfl) T.f_all (db_of (d_fz (d_comp (own := [("k", 12)]) rfl sc_l_right.nd (i_rg1 (by rfl) T.f_range (dl_cons de_int dl_nil) rfl len1) (blkOk_by (own := [("k", 12)]) (N := N_l_right) (sc := defScope s_l_right) (by decide +kernel)) (fun _ _ _ _ _ => (g_nm (i := 12) sc_l_right.nd rfl (by first | exact Or.inl rfl | exact Or.inr rfl | exact Or.inr (Or.inl rfl) | exact Or.inr (Or.inr rfl)))) (fun _ _ _ _ _ => t_yes) (fun _ _ _ _ _ => c_call A_l_same hr (by decide) (by rfl) passL (dl_cons (c_call A_how_many_with hr (by decide) (by rfl) passL (dl_cons (de_v 1) (dl_cons (de_v 12) dl_nil))) (dl_cons (d_ix hr pu_slot (db 4) (de_v 12)) dl_nil))) pu_ret (pu_mCall (pu_cons (pu_mCall (pu_cons pu_slot (pu_cons pu_slot pu_ret))) (pu_cons (pu_op pu_mB pu_slot) pu_ret))) tg_nm (by decide)))))))
      (s_one (s_ret de_bl))
      s_nil)
      (s_cons (s_set (i := 5) sc_l_right.nd rfl (by first | exact Or.inl rfl | exact Or.inr rfl | exact Or.inr (Or.inl rfl) | exact Or.inr (Or.inr rfl)) (d_max rfl (by rfl) T.f_max (db_of (d_fz (d_comp (own := [("row", 13)]) rfl sc_l_right.nd (i_seq (de_v 2)) (blkOk_by (own := [("row", 13)]) (N := N_l_right) (sc := defScope s_l_right) (by decide +kernel)) (fun _ _ _ _ _ => (g_nm (i := 13) sc_l_right.nd rfl (by first | exact Or.inl rfl | exact Or.inr rfl | exact Or.inr (Or.inl rfl) | exact Or.inr (Or.inr rfl)))) (fun _ _ _ _ _ => t_yes) (fun _ _ _ _ _ => d_ix hr pu_ret (db 13) de_int) pu_ret (pu_op pu_mB pu_ret) tg_nm (by decide))))))
      (s_cons (s_if ((w_or (t_not (t_val (c_call A_l_same hr (by decide) (by rfl) (passes_call tk fun _ _ _ _ h => h) (dl_cons (c_call A_most_belts hr (by decide) (by rfl) (passes_call tk fun _ _ _ _ h => h) (dl_cons (de_v 1) dl_nil)) (dl_cons (de_v 5) dl_nil))))) (w_or1 (t_not (t_val (c_call A_l_same hr (by decide) (by rfl) (passes_call tk fun _ _ _ _ h => h) (dl_cons (c_call A_how_many_with hr (by decide) (by rfl) (passes_call tk fun _ _ _ _ h => h) (dl_cons (de_v 1) (dl_cons (de_v 5) dl_nil))) (dl_cons (c_call A_how_many_fullest hr (by decide) (by rfl) (passes_call tk fun _ _ _ _ h => h) (dl_cons (de_v 1) dl_nil)) dl_nil))))))).pt)
      (s_one (s_ret de_bl))
      s_nil)
      (s_one (s_ret (d_and (c_call A_l_same hr (by decide) (by rfl) (passes_call tk fun _ _ _ _ h => h) (dl_cons (c_call A_how_many_with hr (by decide) (by rfl) (passes_call tk fun _ _ _ _ h => h) (dl_cons (de_v 1) (dl_cons (d_add (de_v 5) de_int) dl_nil))) (dl_cons de_int dl_nil))) (d_one (d_or ((d_gt (de_v 1) de_int).pe) (d_one (c_call A_l_same hr (by decide) (by rfl) (passes_call tk fun _ _ _ _ h => h) (dl_cons (de_v 2) (dl_cons (c_call A_l_all hr (by decide) (by rfl) (passes_call tk fun _ _ _ _ h => h) (dl_cons (de_v 1) dl_nil)) dl_nil))))))))))))))))))))
end
def G_law : S := sSeq (sFor (mRg (mCons (ret (.int 2)) (ret []))) (gNm 1)
  (sSeq (sSetF 3 (mCallF g_l_box [] (mCons (slotD 0) (mCons (slotD 1) (ret [])))))
  (sIf (mNot (asB (mCallG g_l_right 3 (mCons (mOp oAdd (ret (.int 1)) (mCallG g_l_take 3 (mCons (mOp oIx (mLst (mCons (ret (.int 4)) (mCons (ret (.int 8)) (ret [])))) (slotD 1)) (ret [])))) (ret [])))))
  (sRet (ret (.bl false)))
  (sNil))))
  (sSeq (sFor (mIt (mLst (mCons (ret (.int 0)) (mCons (ret (.int 9)) (mCons (mUn oNeg (ret (.int 1))) (mCons (ret .non) (mCons (ret (.bl true)) (mCons (ret (.str "3")) (mCons (mTup (mCons (ret (.int 2)) (ret []))) (ret [])))))))))) (gNm 2)
  (sSeq (sFor (mIt (mTup (mCons (ret (.fn "belts_and_rings")) (mCons (ret (.fn "how_many_ringless")) (ret []))))) (gNm 4)
  (sIf (mNot (asB (mCall g_l_same [] (mCons (mRefd (mCallV fnTab 4 (mCons (slotD 2) (ret [])))) (mCons (mTup (mCons (ret (.str "refused")) (mCons (ret (.str "places")) (ret [])))) (ret []))))))
  (sRet (ret (.bl false)))
  (sNil)))
  (sIf (mNot (asB (mCall g_l_same [] (mCons (mRefd (mCall g_how_many_with [] (mCons (slotD 2) (mCons (ret (.int 0)) (ret []))))) (mCons (mTup (mCons (ret (.str "refused")) (mCons (ret (.str "places")) (ret [])))) (ret []))))))
  (sRet (ret (.bl false)))
  (sNil))))
  (sRet (ret (.bl true))))
def g_law := runF 5 1 G_law
section
variable {P : Program} {w : World} {K : PySem.W.Frag} {mg : Str → Option Value} {base : Heap}
theorem ok_law (T : Tx P K mg) (RK : RightOk) {fd : FuncData} (F : FunD K "law" "law" (defArgs s_law) (defBody s_law) (defScope s_law) [] [] (clsA K "law") fd) (ZZ : ∀ (A : Around) (outer : List PySem.Env) (s : Shared) (H : Hp) (E : XK), Lz (cxOf (L2.CX P w) P w K mg base N_law "law" (defScope s_law) (clsA K "law") fd.code A outer s H E)) : FnOk P w K mg base (L2.CX P w) 8 (clsA K "law") fd ["script"] (spD K g_law) := by
  have A_l_box := ok_l_box (w := w) (base := base) T
  have A_l_right := ok_l_right (w := w) (base := base) T RK
  have A_l_same := ok_l_same (w := w) (base := base) T
  have A_l_take := ok_l_take (w := w) (base := base) T
  have A_how_many_with := ok_how_many_with (w := w) (base := base) T
  obtain ⟨fI, cc, cda, TR⟩ := T.ref
  obtain ⟨fdR, F_refd, gm_refd⟩ := T.d_l_refused
  refine fn_DC (N := N_law) F sc_law (by decide) (fun A outer s H E hr => ?_)
  have Z := ZZ A outer s H E
  have tk := takes_of (X := cxOf (L2.CX P w) P w K mg base N_law "law" (defScope s_law) (clsA K "law") fd.code A outer s H E) rfl rfl rfl rfl
  exact s_cons (s_for (passes_of rfl) rfl (i_rg1 (by rfl) T.f_range (dl_cons de_int dl_nil) rfl len1) (g_nm (i := 1) sc_law.nd rfl (by first | exact Or.inl rfl | exact Or.inr rfl | exact Or.inr (Or.inl rfl) | exact Or.inr (Or.inr rfl)))
      (s_cons (s_setF (i := 3) sc_law.nd rfl (by first | exact Or.inl rfl | exact Or.inr rfl | exact Or.inr (Or.inl rfl) | exact Or.inr (Or.inr rfl)) (c_callF A_l_box hr (by decide) (by rfl) (passes_call tk fun _ _ _ _ h => h) (dl_cons (de_v 0) (dl_cons (de_v 1) dl_nil))))
      (s_one (s_if (t_not (t_val (c_callG (i := 3) A_l_right hr (by decide) (by rfl) (passes_call tk fun _ _ _ _ h => h) rfl (by first | exact Or.inl rfl | exact Or.inr rfl | exact Or.inr (Or.inl rfl) | exact Or.inr (Or.inr rfl)) (dl_cons (d_add de_int (c_callG (i := 3) A_l_take hr (by decide) (by rfl) (passes_call tk fun _ _ _ _ h => h) rfl (by first | exact Or.inl rfl | exact Or.inr rfl | exact Or.inr (Or.inl rfl) | exact Or.inr (Or.inr rfl)) (dl_cons (d_ix hr pu_slot (db_of (d_fz (d_lst (dl_cons de_int (dl_cons de_int dl_nil))))) (de_v 1)) dl_nil))) dl_nil))))
      (s_one (s_ret de_bl))
      s_nil))))
      (s_cons (s_for (passes_of rfl) rfl (i_seq (d_fz (d_lst (dl_cons de_int (dl_cons de_int (dl_cons (d_neg de_int) (dl_cons de_non (dl_cons de_bl (dl_cons de_str (dl_cons (d_tup (dl_cons de_int dl_nil)) dl_nil)))))))))) (g_nm (i := 2) sc_law.nd rfl (by first | exact Or.inl rfl | exact Or.inr rfl | exact Or.inr (Or.inl rfl) | exact Or.inr (Or.inr rfl)))
      (s_cons (s_for (passes_of rfl) rfl (i_seq (d_tup (dl_cons (de_glob (d := .fn "belts_and_rings") (v := .ref (clsA K "belts_and_rings")) (by rfl) T.v_belts_and_rings rfl fun _ => rfl) (dl_cons (de_glob (d := .fn "how_many_ringless") (v := .ref (clsA K "how_many_ringless")) (by rfl) T.v_how_many_ringless rfl fun _ => rfl) dl_nil)))) (g_nm (i := 4) sc_law.nd rfl (by first | exact Or.inl rfl | exact Or.inr rfl | exact Or.inr (Or.inl rfl) | exact Or.inr (Or.inr rfl)))
      (s_one (s_if (t_not (t_val (c_call A_l_same hr (by decide) (by rfl) (passes_call tk fun _ _ _ _ h => h) (dl_cons (c_lam (k := 5) F_refd gm_refd TR Z rfl (fun _ _ _ _ _ _ us hl => match us, hl with | [_], _ => rfl) sc_l_refused rfl rfl rfl (by rfl) hr (by decide) (show LamX.LamS (defScope s_law) _ from LamX.lamS_by (by decide +kernel)) rfl (fun _ _ _ _ _ => rfl) (pu_callV (pu_cons pu_slot pu_ret)) (fun A outer s H E f' c' hr tk => d_callV (i := 4) (fnTab_ok T) (hr.mono (by decide)) rfl (by first | exact Or.inl rfl | exact Or.inr (Or.inl rfl) | exact Or.inr (Or.inr rfl)) (passes_call tk fun _ _ _ _ h => h) (dl_cons (de_v 2) dl_nil))) (dl_cons (d_tup (dl_cons de_str (dl_cons de_str dl_nil))) dl_nil)))))
      (s_one (s_ret de_bl))
      s_nil)))
      (s_one (s_if (t_not (t_val (c_call A_l_same hr (by decide) (by rfl) (passes_call tk fun _ _ _ _ h => h) (dl_cons (c_lam (k := 5) F_refd gm_refd TR Z rfl (fun _ _ _ _ _ _ us hl => match us, hl with | [_], _ => rfl) sc_l_refused rfl rfl rfl (by rfl) hr (by decide) (show LamX.LamS (defScope s_law) _ from LamX.lamS_by (by decide +kernel)) rfl (fun _ _ _ _ _ => rfl) (pu_mCall (pu_cons pu_slot (pu_cons pu_ret pu_ret))) (fun A outer s H E f' c' hr tk => c_call A_how_many_with hr (by decide) (by rfl) (passes_call tk fun _ _ _ _ h => h) (dl_cons (de_v 2) (dl_cons de_int dl_nil)))) (dl_cons (d_tup (dl_cons de_str (dl_cons de_str dl_nil))) dl_nil)))))
      (s_one (s_ret de_bl))
      s_nil))))
      (s_one (s_ret de_bl)))
end
end K94
/-! Tables as plain lists. -/
namespace K94
open PySem PySem.Spec PyProof.Rows L2 Dl
abbrev Tb := List (Nat × Int)
def kd (n : Nat) : List Key := [.inl ((n / 16 : Nat) : Int), .inl ((n % 16 : Nat) : Int)]
def encL (t : Tb) : List (List Key × D) := t.map fun e => (kd e.1, .int e.2)
def enc (t : Tb) : D := .dT (encL t)
def tupN (n : Nat) : D := .tup [.int ((n / 16 : Nat) : Int), .int ((n % 16 : Nat) : Int)]
def getO (k : Nat) : Tb → Option Int
  | [] => none
  | e :: t => bif Nat.beq e.1 k then some e.2 else getO k t
def hasN (k : Nat) : Tb → Bool
  | [] => false
  | e :: t => bif Nat.beq e.1 k then true else hasN k t
def setN (k : Nat) (v : Int) : Tb → Tb
  | [] => []
  | e :: t => (bif Nat.beq e.1 k then (e.1, v) else e) :: setN k v t
def putN (k : Nat) (v : Int) (t : Tb) : Tb := bif hasN k t then setN k v t else t ++ [(k, v)]
theorem kd_inj {n m : Nat} (h : kd n = kd m) : n = m := by
  unfold kd at h
  injection h with h1 h2
  injection h2 with h2 _
  injection h1 with h1
  injection h2 with h2
  have a : n / 16 = m / 16 := by omega
  have b : n % 16 = m % 16 := by omega
  omega
theorem kd_dec (n m : Nat) : decide (kd n = kd m) = Nat.beq n m := by
  by_cases h : n = m
  · subst h; simp
  · rw [decide_eq_false fun e => h (kd_inj e)]
    exact (Bool.eq_false_iff.mpr fun e => h (Nat.eq_of_beq_eq_true e)).symm
theorem look_enc (k : Nat) : ∀ t : Tb, look (encL t) (kd k) = (getO k t).map D.int
  | [] => rfl
  | e :: t => by
    have ih := look_enc k t
    unfold look encL at ih ⊢
    rw [List.map_cons, List.find?_cons]
    show Option.map _ (match decide (kd e.1 = kd k) with | true => _ | false => _) = Option.map D.int (bif Nat.beq e.1 k then some e.2 else getO k t)
    rw [kd_dec]
    cases Nat.beq e.1 k with
    | true => rfl
    | false => exact ih
theorem any_enc (k : Nat) : ∀ t : Tb, ((encL t).any fun kv => decide (kv.1 = kd k)) = hasN k t
  | [] => rfl
  | e :: t => by
    show (decide (kd e.1 = kd k) || (encL t).any fun kv => decide (kv.1 = kd k)) = bif Nat.beq e.1 k then true else hasN k t
    rw [kd_dec, any_enc k t]
    cases Nat.beq e.1 k <;> rfl
theorem set_enc (k : Nat) (v : Int) : ∀ t : Tb, (encL t).map (fun kv => if kv.1 = kd k then (kv.1, D.int v) else kv) = encL (setN k v t)
  | [] => rfl
  | e :: t => by
    have ih := set_enc k v t
    show (if kd e.1 = kd k then (kd e.1, D.int v) else (kd e.1, D.int e.2)) :: (encL t).map (fun kv => if kv.1 = kd k then (kv.1, D.int v) else kv) = encL ((bif Nat.beq e.1 k then (e.1, v) else e) :: setN k v t)
    rw [ih]
    have q := kd_dec e.1 k
    by_cases h : kd e.1 = kd k
    · rw [decide_eq_true h] at q
      rw [if_pos h, ← q] <;> rfl
    · rw [decide_eq_false h] at q
      rw [if_neg h, ← q] <;> rfl
theorem put_enc (k : Nat) (v : Int) (t : Tb) : putD (encL t) (kd k) (D.int v) = encL (putN k v t) := by
  unfold putD putN
  rw [any_enc]
  cases hasN k t with
  | true => exact set_enc k v t
  | false => simp [encL]
theorem keys_tup (n : Nat) : keysOf [.int ((n / 16 : Nat) : Int), .int ((n % 16 : Nat) : Int)] = some (kd n) := rfl
theorem dLook_enc (t : Tb) (k : Nat) : dLook (enc t) (tupN k) = some ((getO k t).map D.int) := by
  show (keysOf [.int ((k / 16 : Nat) : Int), .int ((k % 16 : Nat) : Int)]).map (fun q => look (encL t) q) = _
  rw [keys_tup]
  exact congrArg some (look_enc k t)
theorem oIx_enc {t : Tb} {k : Nat} {v : Int} (h : getO k t = some v) : oIx (enc t) (tupN k) = some (.int v) := by
  show (dLook (enc t) (tupN k)).bind id = _
  rw [dLook_enc, h] <;> rfl
theorem keysD_enc (t : Tb) : keysD (enc t) = some (t.map fun e => tupN e.1) := by
  show some ((encL t).map fun kv => keyT kv.1) = _
  unfold encL
  rw [List.map_map] <;> rfl
theorem putAt_enc {i : Nat} {k : Nat} {v : Int} {ρ : Dl.Env} {t : Tb} {o : Option Addr} (h : ρ[i]? = some (.ow o (enc t))) (hl : t.length < sizeLine) : Dl.putAt i (tupN k) (.int v) ρ = some (ρ.set i (.ow o (enc (putN k v t)))) := by
  unfold Dl.putAt
  rw [h]
  show ((keysOf [.int ((k / 16 : Nat) : Int), .int ((k % 16 : Nat) : Int)]).bind fun q => if (encL t).length < sizeLine then some (ρ.set i (.ow o (.dT (putD (encL t) q (.int v))))) else none) = _
  rw [keys_tup]
  show (if (encL t).length < sizeLine then some (ρ.set i (.ow o (.dT (putD (encL t) (kd k) (.int v))))) else none) = _
  rw [if_pos (by rw [encL, List.length_map]; exact hl), put_enc] <;> rfl
/-- numbers far below the line -/
def sm (i : Int) : Bool := Nat.blt i.natAbs 1606938044258990275541962092341162602522202993782792835301376
theorem sm_mul {i j : Int} (h : sm i = true) (g : sm j = true) : mulOk i j = true := by
  have k : ∀ n : Nat, n < 2 ^ 200 → n.log2 ≤ 200 := fun n hn => by
    by_cases h : n = 0
    · subst h; decide
    · exact Nat.le_of_lt ((Nat.log2_lt h).mpr hn)
  have a := k i.natAbs (by simpa [sm, Nat.blt_eq] using h)
  have b := k j.natAbs (by simpa [sm, Nat.blt_eq] using g)
  unfold mulOk
  simp only [decide_eq_true_eq]
  omega
end K94
/-! plus, product. -/
namespace K94
open PySem PySem.Spec PyProof.Rows L2 Dl
def shortT (t : Tb) : Bool := Nat.blt t.length 1000
theorem short_line {t : Tb} (h : shortT t = true) : t.length < sizeLine := small1000 (Nat.le_of_lt (Nat.blt_eq.mp h))
/-- one step of plus's loop -/
def plStep (b : Tb) (t : Int) (f : Tb) (k : Nat) : Option Tb := match getO k b with
  | some v => bif sm t && sm v && shortT f then some (putN k ((getO k f).getD 0 + t * v) f) else none
  | none => none
def plLoop (b : Tb) (t : Int) : List Nat → Tb → Option Tb
  | [], f => some f
  | k :: ks, f => match plStep b t f k with
    | some f' => plLoop b t ks f'
    | none => none
def plFilt (f : Tb) : List Nat → Tb → Option Tb
  | [], acc => some acc
  | k :: ks, acc => match getO k f with
    | some v => bif decide (v = 0) then plFilt f ks acc else bif shortT acc then plFilt f ks (putN k v acc) else none
    | none => none
def pairN (k : Nat) : Bool := Nat.blt (k / 16) 40 && Nat.blt (k % 16) 5
def plusO (a b : Tb) (t : Int) : Option Tb := bif a.all (fun e => pairN e.1) then (match plLoop b t (b.map (·.1)) a with
  | some f => plFilt f (f.map (·.1)) []
  | none => none) else none
theorem pairN_P {k : Nat} (h : pairN k = true) : pairP (kd k) = true := by
  simp only [pairN, Bool.and_eq_true, Nat.blt_eq] at h
  show (decide (0 ≤ ((k / 16 : Nat) : Int)) && decide (((k / 16 : Nat) : Int) < 40) && (decide (0 ≤ ((k % 16 : Nat) : Int)) && decide (((k % 16 : Nat) : Int) < 5))) = true
  simp only [Bool.and_eq_true, decide_eq_true_eq]
  omega
def plBody : S := sAsg (gIx 3 (slotD 4)) (mOp oAdd (mGet (asDc (mB 3)) (slotD 4) (Dl.ret (.int 0))) (mOp oMul (slotD 2) (mOp oIx (mB 1) (slotD 4))))
theorem plBody_run {a b f f' : Tb} {t : Int} {k : Nat} {o : Option Addr} (h : plStep b t f k = some f') :
    plBody [.sh (enc a), .sh (enc b), .sh (.int t), .ow o (enc f), .sh (tupN k)] = some (.nx [.sh (enc a), .sh (enc b), .sh (.int t), .ow o (enc f'), .sh (tupN k)]) := by
  unfold plStep at h
  cases e : getO k b with
  | none => rw [e] at h; cases h
  | some v =>
    rw [e] at h
    dsimp only at h
    cases q : (sm t && sm v && shortT f) with
    | false => rw [q] at h; cases h
    | true =>
      rw [q] at h
      cases h
      simp only [Bool.and_eq_true] at q
      have hm : mulOk t v = true := sm_mul q.1.1 q.1.2
      have e1 := oIx_enc e
      have e2 : (dLook (enc f) (tupN k)).map (fun o => o.getD (.int 0)) = some (.int ((getO k f).getD 0)) := by
        rw [dLook_enc]
        cases getO k f <;> rfl
      have e3 := putAt_enc (i := 3) (k := k) (v := (getO k f).getD 0 + t * v) (o := o) (ρ := [.sh (enc a), .sh (enc b), .sh (.int t), .ow o (enc f), .sh (tupN k)]) rfl (short_line q.2)
      have e4 : isDc (enc f) = true := rfl
      generalize enc a = A, enc b = B, enc f = F, tupN k = K, enc (putN k ((getO k f).getD 0 + t * v) f) = F2 at e1 e2 e3 e4 ⊢
      simp at e3
      simp [plBody, sAsg, thenS, mOp, bnd, mGet, asDc, mB, slotD, Dl.ret, opt, e4, e1, e2, oAdd, oMul, i2, i2c, hm, gIx, e3]
theorem plLoop_run {a b : Tb} {t : Int} {o : Option Addr} : ∀ (ks : List Nat) (f f' : Tb) (s : SL), isOw s = false → plLoop b t ks f = some f' →
    ∃ s', isOw s' = false ∧ loopD (gNm 4) plBody (ks.map tupN) [.sh (enc a), .sh (enc b), .sh (.int t), .ow o (enc f), s] = some (.nx [.sh (enc a), .sh (enc b), .sh (.int t), .ow o (enc f'), s'])
  | [], f, f', s, hs, h => by cases h; exact ⟨s, hs, rfl⟩
  | k :: ks, f, f', s, hs, h => by
    unfold plLoop at h
    cases e : plStep b t f k with
    | none => rw [e] at h; cases h
    | some f1 =>
      rw [e] at h
      obtain ⟨s', hs', ih⟩ := plLoop_run ks f1 f' (.sh (tupN k)) rfl h
      refine ⟨s', hs', ?_⟩
      show (match plBody [.sh (enc a), .sh (enc b), .sh (.int t), .ow o (enc f), .sh (tupN k)] with
        | some (.nx ρ2) => loopD (gNm 4) plBody (ks.map tupN) ρ2
        | some (.ct ρ2) => loopD (gNm 4) plBody (ks.map tupN) ρ2
        | some (.bk ρ2) => some (.nx ρ2)
        | r => r) = _
      rw [plBody_run e]
      exact ih
def plTst : M Bool := asB (mOp oNe (mOp oIx (mB 3) (slotD 4)) (Dl.ret (.int 0)))
theorem plFilt_run {f : Tb} {A B C X : SL} : ∀ (ks : List Nat) (acc acc' : Tb), plFilt f ks acc = some acc' →
    compDT [4] (gNm 4) plTst (slotD 4) (mOp oIx (mB 3) (slotD 4)) [A, B, C, .sh (enc f), X] (ks.map tupN) (encL acc) = some (encL acc')
  | [], acc, acc', h => by cases h; rfl
  | k :: ks, acc, acc', h => by
    unfold plFilt at h
    cases e : getO k f with
    | none => rw [e] at h; cases h
    | some v =>
      rw [e] at h
      dsimp only at h
      have e1 := oIx_enc e
      have e5 : oNe (.int v) (.int 0) = some (.bl (!decide (v = 0))) := by
        show some (D.bl (!PyData.eqv (.int v) (.int 0))) = _
        by_cases hv : v = 0
        · subst hv; rfl
        · simp [PyData.eqv, hv]
      have t1 : plTst [A, B, C, .sh (enc f), .sh (tupN k)] = some (.ok (!decide (v = 0)) [A, B, C, .sh (enc f), .sh (tupN k)]) := by
        generalize enc f = F, tupN k = K at e1 ⊢
        simp [plTst, asB, mOp, bnd, mB, slotD, Dl.ret, opt, e1, e5]
      have t2 : mOp oIx (mB 3) (slotD 4) [A, B, C, .sh (enc f), .sh (tupN k)] = some (.ok (.int v) [A, B, C, .sh (enc f), .sh (tupN k)]) := by
        generalize enc f = F, tupN k = K at e1 ⊢
        simp [mOp, bnd, mB, slotD, Dl.ret, opt, e1]
      show (match plTst [A, B, C, .sh (enc f), .sh (tupN k)] with
        | some (.ok true _) => (match slotD 4 [A, B, C, .sh (enc f), .sh (tupN k)] with
          | some (.ok (.tup es) _) => (match keysOf es with
            | some q => (match mOp oIx (mB 3) (slotD 4) [A, B, C, .sh (enc f), .sh (tupN k)] with
              | some (.ok v _) => if (encL acc).length < sizeLine then compDT [4] (gNm 4) plTst (slotD 4) (mOp oIx (mB 3) (slotD 4)) [A, B, C, .sh (enc f), X] (ks.map tupN) (putD (encL acc) q v) else none
              | _ => none)
            | none => none)
          | _ => none)
        | some (.ok false _) => compDT [4] (gNm 4) plTst (slotD 4) (mOp oIx (mB 3) (slotD 4)) [A, B, C, .sh (enc f), X] (ks.map tupN) (encL acc)
        | _ => none) = _
      rw [t1, t2]
      cases hv : decide (v = 0) with
      | true =>
        rw [hv] at h
        exact plFilt_run ks acc acc' h
      | false =>
        rw [hv] at h
        cases q : shortT acc with
        | false => rw [q] at h; cases h
        | true =>
          rw [q] at h
          show (if (encL acc).length < sizeLine then compDT [4] (gNm 4) plTst (slotD 4) (mOp oIx (mB 3) (slotD 4)) [A, B, C, .sh (enc f), X] (ks.map tupN) (putD (encL acc) (kd k) (.int v)) else none) = _
          rw [if_pos (by rw [encL, List.length_map]; exact short_line q), put_enc]
          exact plFilt_run ks (putN k v acc) acc' h
theorem plus_ok {a b c : Tb} {t : Int} (h : plusO a b t = some c) : g_plus [enc a, enc b, .int t] = some (.ok (enc c)) := by
  unfold plusO at h
  cases q : a.all (fun e => pairN e.1) with
  | false => rw [q] at h; cases h
  | true =>
    rw [q] at h
    cases e : plLoop b t (b.map (·.1)) a with
    | none => rw [e] at h; cases h
    | some f =>
      rw [e] at h
      obtain ⟨s', hs', e1⟩ := plLoop_run (a := a) (o := none) _ a f .no rfl e
      have e2 := plFilt_run (A := .sh (enc a)) (B := .sh (enc b)) (C := .sh (.int t)) (X := s') _ [] c h
      have hP : ((encL a).all fun kv => pairP kv.1) = true := by
        unfold encL
        rw [List.all_map]
        exact List.all_eq_true.mpr fun e he => pairN_P (List.all_eq_true.mp q e he)
      rw [List.map_map] at e1 e2
      have k1 : keysD (enc b) = some (b.map (tupN ∘ fun x => x.1)) := keysD_enc b
      have k2 : keysD (enc f) = some (f.map (tupN ∘ fun x => x.1)) := keysD_enc f
      have hd : oDict pairP (enc a) = some (enc a) := if_pos hP
      have st1 : sSetF 3 (mDict pairP (mB 0)) (env0 5 [enc a, enc b, .int t]) = some (.nx [.sh (enc a), .sh (enc b), .sh (.int t), .ow none (enc a), .no]) := by
        simp [sSetF, thenS, mDict, bnd, mB, env0, opt, hd]
      have st2 : sForD 1 (gNm 4) plBody [.sh (enc a), .sh (enc b), .sh (.int t), .ow none (enc a), .no] = some (.nx [.sh (enc a), .sh (enc b), .sh (.int t), .ow none (enc f), s']) := by
        simp [sForD, noEx, sFor, thenS, mKeys, bnd, Dl.mV, opt, k1, e1]
      have st3 : sRet (mCompT (mKeys 3) [4] (gNm 4) plTst (slotD 4) (mOp oIx (mB 3) (slotD 4))) [.sh (enc a), .sh (enc b), .sh (.int t), .ow none (enc f), s'] = some (.rt (enc c) [.sh (enc a), .sh (enc b), .sh (.int t), .sh (enc f), s']) := by
        have nw : noOw [.sh (enc a), .sh (enc b), .sh (.int t), .sh (enc f), s'] [4] = true := by simp [noOw, hs']
        unfold sRet thenS mCompT bnd
        rw [show mKeys 3 [.sh (enc a), .sh (enc b), .sh (.int t), .ow none (enc f), s'] = some (.ok (f.map (tupN ∘ fun x => x.1)) [.sh (enc a), .sh (enc b), .sh (.int t), .sh (enc f), s']) by simp [mKeys, bnd, Dl.mV, opt, k2]]
        dsimp only
        rw [if_pos nw]
        rw [show compDT [4] (gNm 4) plTst (slotD 4) (mOp oIx (mB 3) (slotD 4)) [.sh (enc a), .sh (enc b), .sh (.int t), .sh (enc f), s'] (f.map (tupN ∘ fun x => x.1)) [] = some (encL c) from e2] <;> rfl
      show endS (sSeq (sSetF 3 (mDict pairP (mB 0))) (sSeq (sForD 1 (gNm 4) plBody) (sRet (mCompT (mKeys 3) [4] (gNm 4) plTst (slotD 4) (mOp oIx (mB 3) (slotD 4))))) (env0 5 [enc a, enc b, .int t])) = _
      unfold sSeq
      rw [st1]
      dsimp only
      rw [st2]
      dsimp only
      rw [st3] <;> rfl
end K94
/-! product. -/
namespace K94
open PySem PySem.Spec PyProof.Rows L2 Dl
def prStep (a b : Tb) (k1 : Nat) (f : Tb) (k2 : Nat) : Option Tb := match getO k1 a with
  | some v1 => (match getO k2 b with
    | some v2 => bif sm v1 && sm v2 && shortT f && Nat.blt (k1 % 16 + k2 % 16) 16 then some (putN (k1 + k2) ((getO (k1 + k2) f).getD 0 + v1 * v2) f) else none
    | none => none)
  | none => none
def prIn (a b : Tb) (k1 : Nat) : List Nat → Tb → Option Tb
  | [], f => some f
  | k :: ks, f => match prStep a b k1 f k with
    | some f' => prIn a b k1 ks f'
    | none => none
def prOut (a b : Tb) : List Nat → Tb → Option Tb
  | [], f => some f
  | k :: ks, f => match prIn a b k (b.map (·.1)) f with
    | some f' => prOut a b ks f'
    | none => none
def prodO (a b : Tb) : Option Tb := prOut a b (a.map (·.1)) []
def hiD (k : Nat) : D := .int ((k / 16 : Nat) : Int)
def loD (k : Nat) : D := .int ((k % 16 : Nat) : Int)
theorem tupN_eq (k : Nat) : tupN k = .tup [hiD k, loD k] := rfl
theorem add_hi {k1 k2 : Nat} (h : Nat.blt (k1 % 16 + k2 % 16) 16 = true) : oAdd (hiD k1) (hiD k2) = some (hiD (k1 + k2)) := by
  have := Nat.blt_eq.mp h
  show some (D.int _) = some (D.int _)
  have e : (k1 + k2) / 16 = k1 / 16 + k2 / 16 := by omega
  rw [e]
  simp
theorem add_lo {k1 k2 : Nat} (h : Nat.blt (k1 % 16 + k2 % 16) 16 = true) : oAdd (loD k1) (loD k2) = some (loD (k1 + k2)) := by
  have := Nat.blt_eq.mp h
  show some (D.int _) = some (D.int _)
  have e : (k1 + k2) % 16 = k1 % 16 + k2 % 16 := by omega
  rw [e]
  simp
theorem lenOk2 {α : Type} (x y : α) : lenOk [x, y] = some [x, y] := if_pos (by show 2 ≤ sizeLine; decide)
def prKey : M D := mTup (mCons (mOp oAdd (slotD 3) (slotD 5)) (mCons (mOp oAdd (slotD 4) (slotD 6)) (Dl.ret [])))
def prBody : S := sAsg (gIx 2 prKey) (mOp oAdd (mGet (asDc (mB 2)) prKey (Dl.ret (.int 0))) (mOp oMul (mOp oIx (mB 0) (mTup (mCons (slotD 3) (mCons (slotD 4) (Dl.ret []))))) (mOp oIx (mB 1) (mTup (mCons (slotD 5) (mCons (slotD 6) (Dl.ret [])))))))
abbrev prE (a b f : Tb) (o : Option Addr) (k1 : Nat) (s5 s6 : SL) : Dl.Env := [.sh (enc a), .sh (enc b), .ow o (enc f), .sh (hiD k1), .sh (loD k1), s5, s6]
theorem prBody_run {a b f f' : Tb} {k1 k2 : Nat} {o : Option Addr} (h : prStep a b k1 f k2 = some f') : prBody (prE a b f o k1 (.sh (hiD k2)) (.sh (loD k2))) = some (.nx (prE a b f' o k1 (.sh (hiD k2)) (.sh (loD k2)))) := by
  unfold prStep at h
  cases ea : getO k1 a with
  | none => rw [ea] at h; cases h
  | some v1 =>
    rw [ea] at h
    dsimp only at h
    cases eb : getO k2 b with
    | none => rw [eb] at h; cases h
    | some v2 =>
      rw [eb] at h
      dsimp only at h
      cases q : (sm v1 && sm v2 && shortT f && Nat.blt (k1 % 16 + k2 % 16) 16) with
      | false => rw [q] at h; cases h
      | true =>
        rw [q] at h
        cases h
        simp only [Bool.and_eq_true] at q
        have hm : mulOk v1 v2 = true := sm_mul q.1.1.1 q.1.1.2
        have e1 := oIx_enc ea
        have e1' := oIx_enc eb
        have e2 : (dLook (enc f) (tupN (k1 + k2))).map (fun o => o.getD (.int 0)) = some (.int ((getO (k1 + k2) f).getD 0)) := by
          rw [dLook_enc]
          cases getO (k1 + k2) f <;> rfl
        have e3 := putAt_enc (i := 2) (k := k1 + k2) (v := (getO (k1 + k2) f).getD 0 + v1 * v2) (o := o) (ρ := prE a b f o k1 (.sh (hiD k2)) (.sh (loD k2))) rfl (short_line q.1.2)
        have e4 : isDc (enc f) = true := rfl
        have e5 := add_hi q.2
        have e6 := add_lo q.2
        have k : prKey (prE a b f o k1 (.sh (hiD k2)) (.sh (loD k2))) = some (.ok (tupN (k1 + k2)) (prE a b f o k1 (.sh (hiD k2)) (.sh (loD k2)))) := by
          rw [tupN_eq]
          unfold prE
          generalize hiD (k1 + k2) = h3, loD (k1 + k2) = l3 at e5 e6 ⊢
          generalize enc a = A, enc b = B, enc f = F, hiD k1 = h1, loD k1 = l1, hiD k2 = h2, loD k2 = l2 at e5 e6 ⊢
          simp [prKey, mTup, mCons, mOp, bnd, slotD, Dl.ret, opt, e5, e6, lenOk2]
        rw [tupN_eq] at e1 e1'
        unfold prE at e3 k ⊢
        generalize hF : enc (putN (k1 + k2) ((getO (k1 + k2) f).getD 0 + v1 * v2) f) = F2 at e3 ⊢
        unfold prBody sAsg thenS mOp bnd gIx
        generalize prKey = KK at k ⊢
        generalize tupN (k1 + k2) = TK at k e2 e3
        generalize enc a = A, enc b = B, enc f = F, hiD k1 = h1, loD k1 = l1, hiD k2 = h2, loD k2 = l2 at e1 e1' e2 e3 e4 k ⊢
        simp at e3
        simp [mTup, mCons, bnd, mGet, asDc, mB, slotD, Dl.ret, opt, e4, e1, e1', e2, oAdd, oMul, i2, i2c, hm, e3, lenOk2, k]
theorem prTg2 {k : Nat} {a b c d e x y : SL} : gTp 2 (gsCons (gNm 5) (gsCons (gNm 6) gsNil)) (tupN k) [a, b, c, d, e, x, y] = some [a, b, c, d, e, .sh (hiD k), .sh (loD k)] := rfl
theorem prTg1 {k : Nat} {a b c d e x y : SL} : gTp 2 (gsCons (gNm 3) (gsCons (gNm 4) gsNil)) (tupN k) [a, b, c, d, e, x, y] = some [a, b, c, .sh (hiD k), .sh (loD k), x, y] := rfl
theorem prIn_run {a b : Tb} {o : Option Addr} {k1 : Nat} : ∀ (ks : List Nat) (f f' : Tb) (x y : SL), prIn a b k1 ks f = some f' →
    ∃ x' y', loopD (gTp 2 (gsCons (gNm 5) (gsCons (gNm 6) gsNil))) prBody (ks.map tupN) (prE a b f o k1 x y) = some (.nx (prE a b f' o k1 x' y'))
  | [], f, f', x, y, h => by cases h; exact ⟨x, y, rfl⟩
  | k :: ks, f, f', x, y, h => by
    unfold prIn at h
    cases e : prStep a b k1 f k with
    | none => rw [e] at h; cases h
    | some f1 =>
      rw [e] at h
      obtain ⟨x', y', ih⟩ := prIn_run ks f1 f' (.sh (hiD k)) (.sh (loD k)) h
      refine ⟨x', y', ?_⟩
      show (match prBody (prE a b f o k1 (.sh (hiD k)) (.sh (loD k))) with
        | some (.nx ρ2) => loopD (gTp 2 (gsCons (gNm 5) (gsCons (gNm 6) gsNil))) prBody (ks.map tupN) ρ2
        | some (.ct ρ2) => loopD (gTp 2 (gsCons (gNm 5) (gsCons (gNm 6) gsNil))) prBody (ks.map tupN) ρ2
        | some (.bk ρ2) => some (.nx ρ2)
        | r => r) = _
      rw [prBody_run e]
      exact ih
def prIns : S := sForD 1 (gTp 2 (gsCons (gNm 5) (gsCons (gNm 6) gsNil))) prBody
theorem prIns_run {a b f f' : Tb} {o : Option Addr} {k1 : Nat} {x y : SL} (h : prIn a b k1 (b.map (·.1)) f = some f') : ∃ x' y', prIns (prE a b f o k1 x y) = some (.nx (prE a b f' o k1 x' y')) := by
  obtain ⟨x', y', e⟩ := prIn_run (o := o) _ f f' x y h
  refine ⟨x', y', ?_⟩
  rw [List.map_map] at e
  have k1 : keysD (enc b) = some (b.map (tupN ∘ fun x => x.1)) := keysD_enc b
  unfold prE at e ⊢
  simp [prIns, sForD, noEx, sFor, thenS, mKeys, bnd, Dl.mV, opt, k1, e]
theorem prOut_run {a b : Tb} {o : Option Addr} : ∀ (ks : List Nat) (f f' : Tb) (p q x y : SL), prOut a b ks f = some f' →
    ∃ p' q' x' y', loopD (gTp 2 (gsCons (gNm 3) (gsCons (gNm 4) gsNil))) prIns (ks.map tupN) [.sh (enc a), .sh (enc b), .ow o (enc f), p, q, x, y] = some (.nx [.sh (enc a), .sh (enc b), .ow o (enc f'), p', q', x', y'])
  | [], f, f', p, q, x, y, h => by cases h; exact ⟨p, q, x, y, rfl⟩
  | k :: ks, f, f', p, q, x, y, h => by
    unfold prOut at h
    cases e : prIn a b k (b.map (·.1)) f with
    | none => rw [e] at h; cases h
    | some f1 =>
      rw [e] at h
      obtain ⟨x1, y1, e1⟩ := prIns_run (o := o) (x := x) (y := y) e
      obtain ⟨p', q', x', y', ih⟩ := prOut_run ks f1 f' (.sh (hiD k)) (.sh (loD k)) x1 y1 h
      refine ⟨p', q', x', y', ?_⟩
      show (match prIns (prE a b f o k x y) with
        | some (.nx ρ2) => loopD (gTp 2 (gsCons (gNm 3) (gsCons (gNm 4) gsNil))) prIns (ks.map tupN) ρ2
        | some (.ct ρ2) => loopD (gTp 2 (gsCons (gNm 3) (gsCons (gNm 4) gsNil))) prIns (ks.map tupN) ρ2
        | some (.bk ρ2) => some (.nx ρ2)
        | r => r) = _
      rw [e1]
      exact ih
theorem prod_ok {a b c : Tb} (h : prodO a b = some c) : g_product [enc a, enc b] = some (.ok (enc c)) := by
  obtain ⟨p', q', x', y', e⟩ := prOut_run (o := none) _ [] c .no .no .no .no h
  rw [List.map_map] at e
  have k1 : keysD (enc a) = some (a.map (tupN ∘ fun x => x.1)) := keysD_enc a
  have st1 : sSetF 2 (Dl.ret (.dT [])) (env0 7 [enc a, enc b]) = some (.nx [.sh (enc a), .sh (enc b), .ow none (enc []), .no, .no, .no, .no]) := rfl
  have st2 : sForD 0 (gTp 2 (gsCons (gNm 3) (gsCons (gNm 4) gsNil))) prIns [.sh (enc a), .sh (enc b), .ow none (enc []), .no, .no, .no, .no] = some (.nx [.sh (enc a), .sh (enc b), .ow none (enc c), p', q', x', y']) := by
    simp [sForD, noEx, sFor, thenS, mKeys, bnd, Dl.mV, opt, k1, e]
  show endS (sSeq (sSetF 2 (Dl.ret (.dT []))) (sSeq (sForD 0 (gTp 2 (gsCons (gNm 3) (gsCons (gNm 4) gsNil))) prIns) (sRet (Dl.mV 2))) (env0 7 [enc a, enc b])) = _
  unfold sSeq
  rw [st1]
  dsimp only
  rw [st2] <;> rfl
end K94
/-! factorial, chosen_from, between, of_part. -/
namespace K94
open PySem PySem.Spec PyProof.Rows L2 Dl
theorem seq_of {p q : S} {ρ ρ' : Dl.Env} {r : Option Ou} (h : p ρ = some (.nx ρ')) (g : q ρ' = r) : sSeq p q ρ = r := by
  unfold sSeq
  rw [h]
  exact g
theorem for_of {l : M (List D)} {tg : TgE} {b : S} {ρ ρ' : Dl.Env} {ds : List D} {r : Option Ou} (h : l ρ = some (.ok ds ρ')) (g : loopD tg b ds ρ' = r) : sFor l tg b ρ = r := by
  unfold sFor thenS
  rw [h]
  exact g
theorem ret_of {f : M D} {ρ ρ' : Dl.Env} {d : D} (h : f ρ = some (.ok d ρ')) : sRet f ρ = some (.rt d ρ') := by
  unfold sRet thenS
  rw [h]
theorem run_ok {n m : Nat} {G : S} {ds : List D} {ρ ρ' : Dl.Env} {d : D} (hl : ds.length = m) (he : env0 n ds = ρ) (h : G ρ = some (.rt d ρ')) : runF n m G ds = some (.ok d) := by
  subst he
  unfold runF
  rw [if_pos hl, h]
  rfl
theorem op_of {h : D → D → Option D} {f g : M D} {ρ ρ1 ρ2 : Dl.Env} {a b c : D} (hf : f ρ = some (.ok a ρ1)) (hg : g ρ1 = some (.ok b ρ2)) (hc : h a b = some c) : mOp h f g ρ = some (.ok c ρ2) := by
  unfold mOp bnd
  rw [hf]
  dsimp only
  rw [hg]
  dsimp only
  unfold opt
  rw [hc]
theorem cons_of {f : M D} {l : M (List D)} {ρ ρ1 ρ2 : Dl.Env} {a : D} {b : List D} (hf : f ρ = some (.ok a ρ1)) (hg : l ρ1 = some (.ok b ρ2)) : mCons f l ρ = some (.ok (a :: b) ρ2) := by
  unfold mCons bnd Dl.ret
  rw [hf]
  dsimp only
  rw [hg]
theorem call_of {g : List D → Option Rv} {l : M (List D)} {ρ ρ' : Dl.Env} {ds : List D} {d : D} (hl : l ρ = some (.ok ds ρ')) (hg : g ds = some (.ok d)) : mCall g [] l ρ = some (.ok d ρ') := by
  unfold mCall bnd
  rw [hl]
  dsimp only
  rw [List.append_nil, hg]
theorem mul_of {i j : Int} (h : mulOk i j = true) : oMul (.int i) (.int j) = some (.int (i * j)) := if_pos h
theorem div_of {i j : Int} (h : divOk i j = true) : oDiv (.int i) (.int j) = some (.int (i / j)) := if_pos h
theorem compT_of {l : M (List D)} {vs : List Nat} {tg : TgE} {t : M Bool} {ke ve : M D} {ρ ρ' : Dl.Env} {ds : List D} {kvs : List (List Key × D)} (h : l ρ = some (.ok ds ρ')) (n : noOw ρ' vs = true) (e : compDT vs tg t ke ve ρ' ds [] = some kvs) :
    mCompT l vs tg t ke ve ρ = some (.ok (.dT kvs) ρ') := by
  unfold mCompT bnd
  rw [h]
  dsimp only
  rw [if_pos n, e]
def facL : List Nat → Int → Option Int
  | [], f => some f
  | i :: l, f => bif sm f && sm (2 + (i : Int)) then facL l (f * (2 + (i : Int))) else none
def factO (n : Nat) : Option Int := bif Nat.blt n 1000 then facL (List.range (n - 1)) 1 else none
theorem facL_run {A : SL} : ∀ (l : List Nat) (f f' : Int) (s : SL), facL l f = some f' → ∃ s', loopD (gNm 2) (sAug 1 oMul (slotD 2)) (l.map fun (i : Nat) => D.int (2 + (i : Int))) [A, .sh (.int f), s] = some (.nx [A, .sh (.int f'), s'])
  | [], f, f', s, h => by cases h; exact ⟨s, rfl⟩
  | i :: l, f, f', s, h => by
    unfold facL at h
    cases q : (sm f && sm (2 + (i : Int))) with
    | false => rw [q] at h; cases h
    | true =>
      rw [q] at h
      simp only [Bool.and_eq_true] at q
      have hm := sm_mul q.1 q.2
      obtain ⟨s', ih⟩ := facL_run (A := A) l (f * (2 + (i : Int))) f' (.sh (.int (2 + (i : Int)))) h
      refine ⟨s', ?_⟩
      have e : sAug 1 oMul (slotD 2) [A, .sh (.int f), .sh (.int (2 + (i : Int)))] = some (.nx [A, .sh (.int (f * (2 + (i : Int)))), .sh (.int (2 + (i : Int)))]) := by
        simp [sAug, thenS, slotD, oMul, i2c, hm]
      show (match sAug 1 oMul (slotD 2) [A, .sh (.int f), .sh (.int (2 + (i : Int)))] with
        | some (.nx ρ2) => loopD (gNm 2) (sAug 1 oMul (slotD 2)) (l.map fun (i : Nat) => D.int (2 + (i : Int))) ρ2
        | some (.ct ρ2) => loopD (gNm 2) (sAug 1 oMul (slotD 2)) (l.map fun (i : Nat) => D.int (2 + (i : Int))) ρ2
        | some (.bk ρ2) => some (.nx ρ2)
        | r => r) = _
      rw [e]
      exact ih
theorem rg_nat {a n : Nat} (ha : a < 1000) (hn : n < 2000) {f g : M D} {ρ : Dl.Env} (hf : f ρ = some (.ok (.int (a : Int)) ρ)) (hg : g ρ = some (.ok (.int (n : Int)) ρ)) : mRg (mCons f (mCons g (Dl.ret []))) ρ = some (.ok ((List.range (n - a)).map fun (i : Nat) => D.int ((a : Int) + (i : Int))) ρ) := by
  have e1 : rgOk (a : Int) = true := by simp only [rgOk, Bool.and_eq_true, decide_eq_true_eq]; omega
  have e2 : rgOk (n : Int) = true := by simp only [rgOk, Bool.and_eq_true, decide_eq_true_eq]; omega
  have e3 : ((n : Int) - (a : Int)).toNat = n - a := by omega
  simp [mRg, mCons, bnd, hf, hg, Dl.ret, e1, e2, rangeD, e3]
theorem fact_ok {n : Nat} {v : Int} (h : factO n = some v) : g_factorial [.int (n : Int)] = some (.ok (.int v)) := by
  unfold factO at h
  cases q : Nat.blt n 1000 with
  | false => rw [q] at h; cases h
  | true =>
    rw [q] at h
    have hn := Nat.blt_eq.mp q
    obtain ⟨s', e⟩ := facL_run (A := .sh (.int (n : Int))) _ 1 v .no h
    have e1 : mRg (mCons (Dl.ret (.int 2)) (mCons (mOp oAdd (slotD 0) (Dl.ret (.int 1))) (Dl.ret []))) [.sh (.int (n : Int)), .sh (.int 1), .no] = some (.ok ((List.range (n - 1)).map fun (i : Nat) => D.int (2 + (i : Int))) [.sh (.int (n : Int)), .sh (.int 1), .no]) := by
      have := rg_nat (a := 2) (n := n + 1) (ρ := [.sh (.int (n : Int)), .sh (.int 1), .no]) (f := Dl.ret (.int 2)) (g := mOp oAdd (slotD 0) (Dl.ret (.int 1))) (by omega) (by omega) rfl (by simp [mOp, bnd, slotD, Dl.ret, opt, oAdd, i2])
      have e2 : n + 1 - 2 = n - 1 := by omega
      rw [e2] at this
      exact this
    exact run_ok (G := G_factorial) rfl rfl (seq_of (ρ' := [.sh (.int (n : Int)), .sh (.int 1), .no]) rfl (seq_of (for_of e1 e) (ret_of (ρ' := [.sh (.int (n : Int)), .sh (.int v), s']) rfl)))
def chO (n k : Nat) : Option Int := match factO n, factO k, factO (n - k) with
  | some a, some b, some c => bif sm b && sm c && divOk a (b * c) && Nat.ble k n then some (a / (b * c)) else none
  | _, _, _ => none
theorem ch_ok {n k : Nat} {v : Int} (h : chO n k = some v) : g_chosen_from [.int (n : Int), .int (k : Int)] = some (.ok (.int v)) := by
  unfold chO at h
  split at h
  · rename_i a b c ha hb hc
    cases q : (sm b && sm c && divOk a (b * c) && Nat.ble k n) with
    | false => rw [q] at h; cases h
    | true =>
      rw [q] at h
      cases h
      simp only [Bool.and_eq_true] at q
      have hk := Nat.le_of_ble_eq_true q.2
      have hm := sm_mul q.1.1.1 q.1.1.2
      have f1 := fact_ok ha
      have f2 := fact_ok hb
      have f3 := fact_ok hc
      have e : ((n - k : Nat) : Int) = (n : Int) - (k : Int) := by omega
      rw [e] at f3
      have r : G_chosen_from [.sh (.int (n : Int)), .sh (.int (k : Int))] = some (.rt (.int (a / (b * c))) [.sh (.int (n : Int)), .sh (.int (k : Int))]) :=
        ret_of (op_of (call_of (cons_of rfl rfl) f1) (op_of (call_of (cons_of rfl rfl) f2) (call_of (cons_of (op_of rfl rfl rfl) rfl) f3) (mul_of hm)) (div_of q.1.2))
      exact run_ok (G := G_chosen_from) rfl rfl r
  · cases h
theorem compDT_step {vs : List Nat} {tg : TgE} {t : M Bool} {ke ve : M D} {ρ ρ2 ρa ρb ρc : Dl.Env} {d : D} {ds es : List D} {acc : List (List Key × D)} {q : List Key} {v : D} {r : Option (List (List Key × D))} (h1 : tg d (wipeE ρ vs) = some ρ2) (h2 : t ρ2 = some (.ok true ρa))
    (h3 : ke ρ2 = some (.ok (.tup es) ρb)) (h4 : keysOf es = some q) (h5 : ve ρ2 = some (.ok v ρc)) (hl : acc.length < sizeLine) (g : compDT vs tg t ke ve ρ ds (putD acc q v) = r) : compDT vs tg t ke ve ρ (d :: ds) acc = r := by
  unfold compDT
  rw [h1]
  dsimp only
  rw [h2]
  dsimp only
  rw [h3]
  dsimp only
  rw [h4]
  dsimp only
  rw [h5]
  dsimp only
  rw [if_pos hl]
  exact g
theorem tup2_of {f g : M D} {ρ ρ1 ρ2 : Dl.Env} {a b : D} (hf : f ρ = some (.ok a ρ1)) (hg : g ρ1 = some (.ok b ρ2)) : mTup (mCons f (mCons g (Dl.ret []))) ρ = some (.ok (.tup [a, b]) ρ2) := by
  unfold mTup bnd
  rw [cons_of hf (cons_of hg rfl)]
  dsimp only
  unfold opt
  rw [lenOk2] <;> rfl
theorem asB_of {f : M D} {ρ ρ' : Dl.Env} {b : Bool} (h : f ρ = some (.ok (.bl b) ρ')) : asB f ρ = some (.ok b ρ') := by
  unfold asB bnd
  rw [h] <;> rfl
theorem ifT_of {α : Type} {t : M Bool} {f g : M α} {ρ ρ1 : Dl.Env} {r : Option (Rs α)} (h : t ρ = some (.ok true ρ1)) (e : f ρ1 = r) : mIf t f g ρ = r := by
  unfold mIf bnd
  rw [h]
  exact e
theorem ifF_of {α : Type} {t : M Bool} {f g : M α} {ρ ρ1 : Dl.Env} {r : Option (Rs α)} (h : t ρ = some (.ok false ρ1)) (e : g ρ1 = r) : mIf t f g ρ = r := by
  unfold mIf bnd
  rw [h]
  exact e
theorem disp_of {f g : M D} {ρ ρ1 ρ2 : Dl.Env} {es : List D} {v : D} {q : List Key} (hf : f ρ = some (.ok (.tup es) ρ1)) (hg : g ρ1 = some (.ok v ρ2)) (hk : keysOf es = some q) : mDisp1 f g ρ = some (.ok (.dT [(q, v)]) ρ2) := by
  unfold mDisp1 bnd
  rw [hf]
  dsimp only
  rw [hg]
  dsimp only
  unfold opt
  rw [hk] <;> rfl
theorem rg1_nat {n : Nat} (hn : n < 2000) {f : M D} {ρ ρ' : Dl.Env} (hf : f ρ = some (.ok (.int (n : Int)) ρ')) : mRg (mCons f (Dl.ret [])) ρ = some (.ok ((List.range n).map fun (i : Nat) => D.int (i : Int)) ρ') := by
  have e1 : rgOk (n : Int) = true := by simp only [rgOk, Bool.and_eq_true, decide_eq_true_eq]; omega
  unfold mRg bnd
  rw [cons_of hf rfl]
  dsimp only
  rw [if_pos e1]
  simp [rangeD, Dl.ret]
def betL (m : Nat) : List Nat → Tb → Option Tb
  | [], acc => some acc
  | s :: r, acc => match chO m s with
    | some v => bif shortT acc then betL m r (putN (16 * s) v acc) else none
    | none => none
def betO (m : Nat) : Option Tb := bif Nat.blt m 1000 then betL m (List.range (m + 1)) [] else none
theorem betL_run {m : Nat} {X : SL} : ∀ (l : List Nat) (acc acc' : Tb), betL m l acc = some acc' →
    compDT [1] (gNm 1) (Dl.ret true) (mTup (mCons (slotD 1) (mCons (Dl.ret (.int 0)) (Dl.ret [])))) (mCall g_chosen_from [] (mCons (slotD 0) (mCons (slotD 1) (Dl.ret [])))) [.sh (.int (m : Int)), X] (l.map fun (i : Nat) => D.int (i : Int)) (encL acc) = some (encL acc')
  | [], acc, acc', h => by cases h; rfl
  | s :: r, acc, acc', h => by
    unfold betL at h
    cases e : chO m s with
    | none => rw [e] at h; cases h
    | some v =>
      rw [e] at h
      dsimp only at h
      cases q : shortT acc with
      | false => rw [q] at h; cases h
      | true =>
        rw [q] at h
        have k : keysOf [.int (s : Int), .int 0] = some (kd (16 * s)) := by
          have e1 : 16 * s / 16 = s := by omega
          have e2 : 16 * s % 16 = 0 := by omega
          unfold kd
          rw [e1, e2] <;> rfl
        refine compDT_step (ρ2 := [.sh (.int (m : Int)), .sh (.int (s : Int))]) rfl rfl (tup2_of rfl rfl) k (call_of (cons_of rfl (cons_of rfl rfl)) (ch_ok e)) (by rw [encL, List.length_map]; exact short_line q) ?_
        rw [put_enc]
        exact betL_run r (putN (16 * s) v acc) acc' h
theorem bet_ok {m : Nat} {t : Tb} (h : betO m = some t) : g_between [.int (m : Int)] = some (.ok (enc t)) := by
  unfold betO at h
  cases q : Nat.blt m 1000 with
  | false => rw [q] at h; cases h
  | true =>
    rw [q] at h
    have hn := Nat.blt_eq.mp q
    have e := betL_run (X := .no) _ [] t h
    have e1 : mRg (mCons (mOp oAdd (slotD 0) (Dl.ret (.int 1))) (Dl.ret [])) [.sh (.int (m : Int)), .no] = some (.ok ((List.range (m + 1)).map fun (i : Nat) => D.int (i : Int)) [.sh (.int (m : Int)), .no]) := rg1_nat (by omega) (op_of rfl rfl rfl)
    exact run_ok (G := G_between) rfl rfl (ret_of (compT_of e1 rfl e))
def ofO (m : Nat) : Option Tb := bif Nat.beq m 1 then some [(0, 1)] else bif Nat.beq m 0 then none else match factO (m - 1) with
  | some v => some [(16 * m + 1, v)]
  | none => none
theorem of_ok {m : Nat} {t : Tb} (h : ofO m = some t) : g_of_part [.int (m : Int)] = some (.ok (enc t)) := by
  unfold ofO at h
  have e0 : oEq (.int (m : Int)) (.int 1) = some (.bl (decide ((m : Int) = 1))) := by
    show some (D.bl (PyData.eqv (.int (m : Int)) (.int 1))) = _
    exact congrArg (fun b => some (D.bl b)) (by simp only [PyData.eqv]; rfl)
  by_cases h1 : m = 1
  · subst h1
    cases h
    exact run_ok (G := G_of_part) rfl rfl (ret_of (ifT_of (asB_of (op_of rfl rfl (e0.trans rfl))) (disp_of (tup2_of rfl rfl) rfl rfl)))
  · have b1 : Nat.beq m 1 = false := Bool.eq_false_iff.mpr fun e => h1 (Nat.eq_of_beq_eq_true e)
    rw [b1] at h
    by_cases h2 : m = 0
    · subst h2; cases h
    · have b2 : Nat.beq m 0 = false := Bool.eq_false_iff.mpr fun e => h2 (Nat.eq_of_beq_eq_true e)
      rw [b2] at h
      cases e : factO (m - 1) with
      | none => rw [e] at h; cases h
      | some v =>
        rw [e] at h
        cases h
        have f1 := fact_ok e
        have e1 : ((m - 1 : Nat) : Int) = (m : Int) - 1 := by omega
        rw [e1] at f1
        have e2 : decide ((m : Int) = 1) = false := decide_eq_false (by omega)
        rw [e2] at e0
        have e3 : (16 * m + 1) / 16 = m := by omega
        have e4 : (16 * m + 1) % 16 = 1 := by omega
        have e5 : kd (16 * m + 1) = [.inl (m : Int), .inl 1] := by unfold kd; rw [e3, e4] <;> rfl
        have e6 : enc [(16 * m + 1, v)] = .dT [([.inl (m : Int), .inl 1], .int v)] := by unfold enc encL; rw [List.map_cons, e5] <;> rfl
        rw [e6]
        exact run_ok (G := G_of_part) rfl rfl (ret_of (ifF_of (asB_of (op_of rfl rfl e0)) (disp_of (tup2_of rfl rfl) (call_of (cons_of (op_of rfl rfl rfl) rfl) f1) rfl)))
end K94
/-! signed_tables. -/
namespace K94
open PySem PySem.Spec PyProof.Rows L2 Dl
theorem rg2_nat {n : Nat} (hn : n < 2000) {f g : M D} {ρ ρ1 ρ2 : Dl.Env} {x : Int} (hf : f ρ = some (.ok (.int 1) ρ1)) (hg : g ρ1 = some (.ok (.int x) ρ2)) (hx : x = (n : Int) + 1) :
    mRg (mCons f (mCons g (Dl.ret []))) ρ = some (.ok ((List.range n).map fun (i : Nat) => D.int ((i + 1 : Nat) : Int)) ρ2) := by
  subst hx
  have e1 : (rgOk 1 && rgOk ((n : Int) + 1)) = true := by simp only [rgOk, Bool.and_eq_true, decide_eq_true_eq]; omega
  unfold mRg bnd
  rw [cons_of hf (cons_of hg rfl)]
  dsimp only
  rw [if_pos e1]
  have e3 : ((n : Int) + 1 - 1).toNat = n := by omega
  unfold Dl.ret rangeD
  rw [e3]
  have e4 : (fun (i : Nat) => D.int (1 + (i : Int))) = fun (i : Nat) => D.int ((i + 1 : Nat) : Int) := funext fun i => congrArg D.int (by omega)
  rw [e4]
theorem set_of {f : M D} {i : Nat} {ρ ρ' : Dl.Env} {d : D} (h : f ρ = some (.ok d ρ')) : sSet i f ρ = some (.nx (ρ'.set i (.sh d))) := by
  unfold sSet thenS
  rw [h]
theorem setF_of {f : M D} {i : Nat} {ρ ρ' : Dl.Env} {d : D} (h : f ρ = some (.ok d ρ')) : sSetF i f ρ = some (.nx (ρ'.set i (.ow none d))) := by
  unfold sSetF thenS
  rw [h]
theorem app_of {f : M D} {i : Nat} {ρ : Dl.Env} {d : D} {ds : List D} {o : Option Addr} (h : ρ[i]? = some (.ow o (.lst ds))) (e : f ρ = some (.ok d ρ)) (hl : ds.length < sizeLine) : sApp i f ρ = some (.nx (ρ.set i (.ow o (.lst (ds ++ [d]))))) := by
  unfold sApp thenS
  rw [h]
  dsimp only
  rw [e]
  dsimp only
  rw [h]
  dsimp only
  rw [if_pos hl]
theorem un_of {h : D → Option D} {f : M D} {ρ ρ' : Dl.Env} {a c : D} (hf : f ρ = some (.ok a ρ')) (hc : h a = some c) : mUn h f ρ = some (.ok c ρ') := by
  unfold mUn bnd
  rw [hf]
  dsimp only
  unfold opt
  rw [hc]
theorem loop_nx {tg : TgE} {b : S} {ρ ρ1 ρ2 : Dl.Env} {d : D} {ds : List D} {r : Option Ou} (h : tg d ρ = some ρ1) (e : b ρ1 = some (.nx ρ2)) (g : loopD tg b ds ρ2 = r) : loopD tg b (d :: ds) ρ = r := by
  unfold loopD
  rw [h]
  dsimp only
  rw [e]
  exact g
def encF (fs : List Tb) : D := .lst (fs.map enc)
theorem at_nat {ds : List D} {j : Nat} {d : D} {i : Int} (hi : i = (j : Int)) (h : ds[j]? = some d) : atD ds i = some d := by
  subst hi
  have hl := (List.getElem?_eq_some_iff.mp h).1
  unfold atD ixN
  rw [if_pos (Int.natCast_nonneg j), if_pos (by omega)]
  exact h
theorem oIx_fs {fs : List Tb} {j : Nat} {f : Tb} {i : Int} (hi : i = (j : Int)) (h : fs[j]? = some f) : oIx (encF fs) (.int i) = some (enc f) := by
  show atD (fs.map enc) i = _
  exact at_nat hi (by rw [List.getElem?_map, h] <;> rfl)
def sgIn (fs : List Tb) (m : Nat) : List Nat → Tb → Option Tb
  | [], t => some t
  | i :: r, t => match ofO (i + 1), fs[m - (i + 1)]?, chO (m - 1) i with
    | some p, some f, some c => bif Nat.ble (i + 1) m then (match prodO p f with
      | some q => (match plusO t q (-c) with
        | some t' => sgIn fs m r t'
        | none => none)
      | none => none) else none
    | _, _, _ => none
def sgBody : S := sSet 3 (mCall g_plus [] (mCons (slotD 3) (mCons (mCall g_product [] (mCons (mCall g_of_part [] (mCons (slotD 4) (Dl.ret []))) (mCons (mOp oIx (mB 1) (mOp oSub (slotD 2) (slotD 4))) (Dl.ret [])))) (mCons (mUn oNeg (mCall g_chosen_from [] (mCons (mOp oSub (slotD 2) (Dl.ret (.int 1))) (mCons (mOp oSub (slotD 4) (Dl.ret (.int 1))) (Dl.ret []))))) (Dl.ret [])))))
theorem sgIn_run {fs : List Tb} {m : Nat} {A : SL} {o : Option Addr} : ∀ (l : List Nat) (t t' : Tb) (s : SL), sgIn fs m l t = some t' →
    ∃ s', loopD (gNm 4) sgBody (l.map fun (i : Nat) => D.int ((i + 1 : Nat) : Int)) [A, .ow o (encF fs), .sh (.int (m : Int)), .sh (enc t), s] = some (.nx [A, .ow o (encF fs), .sh (.int (m : Int)), .sh (enc t'), s'])
  | [], t, t', s, h => by cases h; exact ⟨s, rfl⟩
  | i :: r, t, t', s, h => by
    unfold sgIn at h
    split at h
    · rename_i p f c hp hf hc
      cases q : Nat.ble (i + 1) m with
      | false => rw [q] at h; cases h
      | true =>
        rw [q] at h
        have hk := Nat.le_of_ble_eq_true q
        cases e1 : prodO p f with
        | none => rw [e1] at h; cases h
        | some pf =>
          rw [e1] at h
          dsimp only [cond] at h
          cases e2 : plusO t pf (-c) with
          | none => rw [e2] at h; cases h
          | some t1 =>
            rw [e2] at h
            obtain ⟨s', ih⟩ := sgIn_run (A := A) (o := o) r t1 t' (.sh (.int ((i + 1 : Nat) : Int))) h
            refine ⟨s', loop_nx (ρ1 := [A, .ow o (encF fs), .sh (.int (m : Int)), .sh (enc t), .sh (.int ((i + 1 : Nat) : Int))]) rfl ?_ ih⟩
            have f1 := of_ok hp
            have f2 := ch_ok hc
            have i1 : ((m - 1 : Nat) : Int) = (m : Int) - 1 := by omega
            have i2 : ((i : Nat) : Int) = ((i + 1 : Nat) : Int) - 1 := by omega
            rw [i1, i2] at f2
            have ix : oIx (encF fs) (.int ((m : Int) - ((i + 1 : Nat) : Int))) = some (enc f) := oIx_fs (j := m - (i + 1)) (by omega) hf
            let ρ : Dl.Env := [A, .ow o (encF fs), .sh (.int (m : Int)), .sh (enc t), .sh (.int ((i + 1 : Nat) : Int))]
            have c1 : mCall g_of_part [] (mCons (slotD 4) (Dl.ret [])) ρ = some (.ok (enc p) ρ) := call_of (cons_of rfl rfl) f1
            have c2 : mOp oIx (mB 1) (mOp oSub (slotD 2) (slotD 4)) ρ = some (.ok (enc f) ρ) := op_of rfl (op_of rfl rfl rfl) ix
            have c3 : mCall g_product [] (mCons (mCall g_of_part [] (mCons (slotD 4) (Dl.ret []))) (mCons (mOp oIx (mB 1) (mOp oSub (slotD 2) (slotD 4))) (Dl.ret []))) ρ = some (.ok (enc pf) ρ) := call_of (cons_of c1 (cons_of c2 rfl)) (prod_ok e1)
            have c4 : mCall g_chosen_from [] (mCons (mOp oSub (slotD 2) (Dl.ret (.int 1))) (mCons (mOp oSub (slotD 4) (Dl.ret (.int 1))) (Dl.ret []))) ρ = some (.ok (.int c) ρ) := call_of (cons_of (op_of rfl rfl rfl) (cons_of (op_of rfl rfl rfl) rfl)) f2
            have c5 : mUn oNeg (mCall g_chosen_from [] (mCons (mOp oSub (slotD 2) (Dl.ret (.int 1))) (mCons (mOp oSub (slotD 4) (Dl.ret (.int 1))) (Dl.ret [])))) ρ = some (.ok (.int (-c)) ρ) := un_of c4 rfl
            have c6 : mCall g_plus [] (mCons (slotD 3) (mCons (mCall g_product [] (mCons (mCall g_of_part [] (mCons (slotD 4) (Dl.ret []))) (mCons (mOp oIx (mB 1) (mOp oSub (slotD 2) (slotD 4))) (Dl.ret [])))) (mCons (mUn oNeg (mCall g_chosen_from [] (mCons (mOp oSub (slotD 2) (Dl.ret (.int 1))) (mCons (mOp oSub (slotD 4) (Dl.ret (.int 1))) (Dl.ret []))))) (Dl.ret [])))) ρ = some (.ok (enc t1) ρ) :=
              call_of (ds := [enc t, enc pf, .int (-c)]) (cons_of rfl (cons_of c3 (cons_of c5 rfl))) (plus_ok e2)
            exact set_of (i := 3) c6
    · cases h
def sgOut : List Nat → List Tb → Option (List Tb)
  | [], fs => some fs
  | j :: r, fs => match sgIn fs (j + 1) (List.range (j + 1)) [] with
    | some t => bif Nat.blt fs.length 1000 && Nat.blt j 1000 then sgOut r (fs ++ [t]) else none
    | none => none
def sgOutB : S := sSeq (sSet 3 (Dl.ret (.dT []))) (sSeq (sFor (mRg (mCons (Dl.ret (.int 1)) (mCons (mOp oAdd (slotD 2) (Dl.ret (.int 1))) (Dl.ret [])))) (gNm 4) sgBody) (sApp 1 (slotD 3)))
theorem sgOut_run {A : SL} {o : Option Addr} : ∀ (l : List Nat) (fs fs' : List Tb) (s2 s3 s4 : SL), sgOut l fs = some fs' →
    ∃ s2' s3' s4', loopD (gNm 2) sgOutB (l.map fun (i : Nat) => D.int ((i + 1 : Nat) : Int)) [A, .ow o (encF fs), s2, s3, s4] = some (.nx [A, .ow o (encF fs'), s2', s3', s4'])
  | [], fs, fs', s2, s3, s4, h => by cases h; exact ⟨s2, s3, s4, rfl⟩
  | j :: r, fs, fs', s2, s3, s4, h => by
    unfold sgOut at h
    cases e : sgIn fs (j + 1) (List.range (j + 1)) [] with
    | none => rw [e] at h; cases h
    | some t =>
      rw [e] at h
      dsimp only at h
      cases q : (Nat.blt fs.length 1000 && Nat.blt j 1000) with
      | false => rw [q] at h; cases h
      | true =>
        rw [q] at h
        simp only [Bool.and_eq_true] at q
        have hl := Nat.blt_eq.mp q.1
        have hj := Nat.blt_eq.mp q.2
        obtain ⟨s4', e1⟩ := sgIn_run (A := A) (o := o) _ [] t s4 e
        obtain ⟨a, b, c, ih⟩ := sgOut_run (A := A) (o := o) r (fs ++ [t]) fs' (.sh (.int ((j + 1 : Nat) : Int))) (.sh (enc t)) s4' h
        refine ⟨a, b, c, loop_nx (ρ1 := [A, .ow o (encF fs), .sh (.int ((j + 1 : Nat) : Int)), s3, s4]) rfl ?_ ih⟩
        have rg := rg2_nat (n := j + 1) (by omega) (f := Dl.ret (.int 1)) (g := mOp oAdd (slotD 2) (Dl.ret (.int 1))) (ρ := [A, .ow o (encF fs), .sh (.int ((j + 1 : Nat) : Int)), .sh (enc []), s4]) rfl (op_of rfl rfl rfl) rfl
        have ap := app_of (i := 1) (f := slotD 3) (ρ := [A, .ow o (encF fs), .sh (.int ((j + 1 : Nat) : Int)), .sh (enc t), s4']) (d := enc t) (ds := fs.map enc) (o := o) rfl rfl (by rw [List.length_map]; exact small1000 (Nat.le_of_lt hl))
        refine seq_of (ρ' := [A, .ow o (encF fs), .sh (.int ((j + 1 : Nat) : Int)), .sh (enc []), s4]) rfl (seq_of (for_of rg e1) (ap.trans ?_))
        rw [show fs.map enc ++ [enc t] = (fs ++ [t]).map enc by rw [List.map_append] <;> rfl] <;> rfl
def signedO (n : Nat) : Option (List Tb) := bif Nat.blt n 1000 then sgOut (List.range n) [[(0, 1)]] else none
theorem disp0 {ρ : Dl.Env} : mLst (mCons (mDisp1 (mTup (mCons (Dl.ret (.int 0)) (mCons (Dl.ret (.int 0)) (Dl.ret [])))) (Dl.ret (.int 1))) (Dl.ret [])) ρ = some (.ok (encF [[(0, 1)]]) ρ) := by
  unfold mLst bnd
  rw [cons_of (disp_of (tup2_of rfl rfl) rfl rfl) rfl]
  dsimp only
  unfold opt
  rw [show lenOk [D.dT [([Sum.inl 0, Sum.inl 0], D.int 1)]] = some [D.dT [([Sum.inl 0, Sum.inl 0], D.int 1)]] from if_pos (by show 1 ≤ sizeLine; decide)] <;> rfl
theorem signed_ok {n : Nat} {fs : List Tb} (h : signedO n = some fs) : g_signed_tables [.int (n : Int)] = some (.ok (encF fs)) := by
  unfold signedO at h
  cases q : Nat.blt n 1000 with
  | false => rw [q] at h; cases h
  | true =>
    rw [q] at h
    have hn := Nat.blt_eq.mp q
    obtain ⟨a, b, c, e⟩ := sgOut_run (A := .sh (.int (n : Int))) (o := none) _ [[(0, 1)]] fs .no .no .no h
    have rg := rg2_nat (n := n) (by omega) (f := Dl.ret (.int 1)) (g := mOp oAdd (slotD 0) (Dl.ret (.int 1))) (ρ := [.sh (.int (n : Int)), .ow none (encF [[(0, 1)]]), .no, .no, .no]) rfl (op_of rfl rfl rfl) rfl
    exact run_ok (G := G_signed_tables) rfl rfl (seq_of (setF_of disp0) (seq_of (for_of rg e) (ret_of (ρ' := [.sh (.int (n : Int)), .sh (encF fs), a, b, c]) rfl)))
end K94
/-! table_of. -/
namespace K94
open PySem PySem.Spec PyProof.Rows L2 Dl
def fdIn (sg fs : List Tb) (m : Nat) : List Nat → Tb → Option Tb
  | [], t => some t
  | i :: r, t => match sg[i + 1]?, fs[m - (i + 1)]?, betO ((i + 1) * (m - (i + 1))), chO m (i + 1) with
    | some p, some f, some b, some c => bif Nat.ble (i + 1) m && Nat.blt m 1000 then (match prodO p f with
      | some q => (match prodO q b with
        | some q2 => (match plusO t q2 (-c) with
          | some t' => fdIn sg fs m r t'
          | none => none)
        | none => none)
      | none => none) else none
    | _, _, _, _ => none
def fdB1 : S := sSet 6 (mCall g_product [] (mCons (mCall g_product [] (mCons (mOp oIx (mB 2) (slotD 5)) (mCons (mOp oIx (mB 3) (mOp oSub (slotD 1) (slotD 5))) (Dl.ret [])))) (mCons (mCall g_between [] (mCons (mOp oMul (slotD 5) (mOp oSub (slotD 1) (slotD 5))) (Dl.ret []))) (Dl.ret []))))
def fdB2 : S := sSet 4 (mCall g_plus [] (mCons (slotD 4) (mCons (slotD 6) (mCons (mUn oNeg (mCall g_chosen_from [] (mCons (slotD 1) (mCons (slotD 5) (Dl.ret []))))) (Dl.ret [])))))
def fdBody : S := sSeq fdB1 fdB2
theorem fdIn_run {sg fs : List Tb} {m : Nat} {A : SL} {o : Option Addr} : ∀ (l : List Nat) (t t' : Tb) (s5 s6 : SL), fdIn sg fs m l t = some t' →
    ∃ s5' s6', loopD (gNm 5) fdBody (l.map fun (i : Nat) => D.int ((i + 1 : Nat) : Int)) [A, .sh (.int (m : Int)), .sh (encF sg), .ow o (encF fs), .sh (enc t), s5, s6] = some (.nx [A, .sh (.int (m : Int)), .sh (encF sg), .ow o (encF fs), .sh (enc t'), s5', s6'])
  | [], t, t', s5, s6, h => by cases h; exact ⟨s5, s6, rfl⟩
  | i :: r, t, t', s5, s6, h => by
    unfold fdIn at h
    split at h
    · rename_i p f b c hp hf hb hc
      cases q : (Nat.ble (i + 1) m && Nat.blt m 1000) with
      | false => rw [q] at h; cases h
      | true =>
        rw [q] at h
        dsimp only [cond] at h
        simp only [Bool.and_eq_true] at q
        have hk := Nat.le_of_ble_eq_true q.1
        have hm := Nat.blt_eq.mp q.2
        cases e1 : prodO p f with
        | none => rw [e1] at h; cases h
        | some pf =>
          rw [e1] at h
          dsimp only at h
          cases e3 : prodO pf b with
          | none => rw [e3] at h; cases h
          | some q2 =>
            rw [e3] at h
            dsimp only at h
            cases e2 : plusO t q2 (-c) with
            | none => rw [e2] at h; cases h
            | some t1 =>
              rw [e2] at h
              obtain ⟨a5, a6, ih⟩ := fdIn_run (A := A) (o := o) r t1 t' (.sh (.int ((i + 1 : Nat) : Int))) (.sh (enc q2)) h
              let ρ : Dl.Env := [A, .sh (.int (m : Int)), .sh (encF sg), .ow o (encF fs), .sh (enc t), .sh (.int ((i + 1 : Nat) : Int)), s6]
              let ρ2 : Dl.Env := [A, .sh (.int (m : Int)), .sh (encF sg), .ow o (encF fs), .sh (enc t), .sh (.int ((i + 1 : Nat) : Int)), .sh (enc q2)]
              have i1 : oIx (encF sg) (.int ((i + 1 : Nat) : Int)) = some (enc p) := oIx_fs rfl hp
              have i2 : oIx (encF fs) (.int ((m : Int) - ((i + 1 : Nat) : Int))) = some (enc f) := oIx_fs (j := m - (i + 1)) (by omega) hf
              have z1 : ((m - (i + 1) : Nat) : Int) = (m : Int) - ((i + 1 : Nat) : Int) := by omega
              have z2 : (((i + 1) * (m - (i + 1)) : Nat) : Int) = ((i + 1 : Nat) : Int) * ((m : Int) - ((i + 1 : Nat) : Int)) := by rw [← z1]; exact Int.natCast_mul _ _
              have f1 := bet_ok hb
              rw [z2] at f1
              have f2 := ch_ok hc
              have mk : mulOk ((i + 1 : Nat) : Int) ((m : Int) - ((i + 1 : Nat) : Int)) = true := mulOk_64 (by omega) (by omega) (by omega) (by omega)
              have c1 : mOp oIx (mB 2) (slotD 5) ρ = some (.ok (enc p) ρ) := op_of rfl rfl i1
              have c2 : mOp oIx (mB 3) (mOp oSub (slotD 1) (slotD 5)) ρ = some (.ok (enc f) ρ) := op_of rfl (op_of rfl rfl rfl) i2
              have c3 : mCall g_product [] (mCons (mOp oIx (mB 2) (slotD 5)) (mCons (mOp oIx (mB 3) (mOp oSub (slotD 1) (slotD 5))) (Dl.ret []))) ρ = some (.ok (enc pf) ρ) := call_of (cons_of c1 (cons_of c2 rfl)) (prod_ok e1)
              have c4 : mCall g_between [] (mCons (mOp oMul (slotD 5) (mOp oSub (slotD 1) (slotD 5))) (Dl.ret [])) ρ = some (.ok (enc b) ρ) := call_of (cons_of (op_of rfl (op_of rfl rfl rfl) (mul_of mk)) rfl) f1
              have c5 : mCall g_product [] (mCons (mCall g_product [] (mCons (mOp oIx (mB 2) (slotD 5)) (mCons (mOp oIx (mB 3) (mOp oSub (slotD 1) (slotD 5))) (Dl.ret [])))) (mCons (mCall g_between [] (mCons (mOp oMul (slotD 5) (mOp oSub (slotD 1) (slotD 5))) (Dl.ret []))) (Dl.ret []))) ρ = some (.ok (enc q2) ρ) := call_of (cons_of c3 (cons_of c4 rfl)) (prod_ok e3)
              have c6 : mCall g_chosen_from [] (mCons (slotD 1) (mCons (slotD 5) (Dl.ret []))) ρ2 = some (.ok (.int c) ρ2) := call_of (cons_of rfl (cons_of rfl rfl)) f2
              have c7 : mUn oNeg (mCall g_chosen_from [] (mCons (slotD 1) (mCons (slotD 5) (Dl.ret [])))) ρ2 = some (.ok (.int (-c)) ρ2) := un_of c6 rfl
              have c8 : mCall g_plus [] (mCons (slotD 4) (mCons (slotD 6) (mCons (mUn oNeg (mCall g_chosen_from [] (mCons (slotD 1) (mCons (slotD 5) (Dl.ret []))))) (Dl.ret [])))) ρ2 = some (.ok (enc t1) ρ2) := call_of (ds := [enc t, enc q2, .int (-c)]) (cons_of rfl (cons_of rfl (cons_of c7 rfl))) (plus_ok e2)
              have b1 : fdB1 ρ = some (.nx ρ2) := set_of (i := 6) c5
              refine ⟨a5, a6, loop_nx (ρ1 := ρ) rfl (seq_of b1 (set_of (i := 4) c8)) ih⟩
    · cases h
def fdOut (sg : List Tb) : List Nat → List Tb → Option (List Tb)
  | [], fs => some fs
  | j :: r, fs => match fdIn sg fs (j + 1) (List.range (j + 1)) [] with
    | some t => bif Nat.blt fs.length 1000 && Nat.blt j 1000 then fdOut sg r (fs ++ [t]) else none
    | none => none
def fdOutB : S := sSeq (sSet 4 (Dl.ret (.dT []))) (sSeq (sFor (mRg (mCons (Dl.ret (.int 1)) (mCons (mOp oAdd (slotD 1) (Dl.ret (.int 1))) (Dl.ret [])))) (gNm 5) fdBody) (sApp 3 (slotD 4)))
theorem fdOut_run {sg : List Tb} {A : SL} {o : Option Addr} : ∀ (l : List Nat) (fs fs' : List Tb) (s1 s4 s5 s6 : SL), fdOut sg l fs = some fs' →
    ∃ a b c d, loopD (gNm 1) fdOutB (l.map fun (i : Nat) => D.int ((i + 1 : Nat) : Int)) [A, s1, .sh (encF sg), .ow o (encF fs), s4, s5, s6] = some (.nx [A, a, .sh (encF sg), .ow o (encF fs'), b, c, d])
  | [], fs, fs', s1, s4, s5, s6, h => by cases h; exact ⟨s1, s4, s5, s6, rfl⟩
  | j :: r, fs, fs', s1, s4, s5, s6, h => by
    unfold fdOut at h
    cases e : fdIn sg fs (j + 1) (List.range (j + 1)) [] with
    | none => rw [e] at h; cases h
    | some t =>
      rw [e] at h
      dsimp only at h
      cases q : (Nat.blt fs.length 1000 && Nat.blt j 1000) with
      | false => rw [q] at h; cases h
      | true =>
        rw [q] at h
        simp only [Bool.and_eq_true] at q
        have hl := Nat.blt_eq.mp q.1
        have hj := Nat.blt_eq.mp q.2
        obtain ⟨x5, x6, e1⟩ := fdIn_run (sg := sg) (fs := fs) (A := A) (o := o) _ [] t s5 s6 e
        obtain ⟨a, b, c, d, ih⟩ := fdOut_run (sg := sg) (A := A) (o := o) r (fs ++ [t]) fs' (.sh (.int ((j + 1 : Nat) : Int))) (.sh (enc t)) x5 x6 h
        refine ⟨a, b, c, d, loop_nx (ρ1 := [A, .sh (.int ((j + 1 : Nat) : Int)), .sh (encF sg), .ow o (encF fs), s4, s5, s6]) rfl ?_ ih⟩
        have rg := rg2_nat (n := j + 1) (by omega) (f := Dl.ret (.int 1)) (g := mOp oAdd (slotD 1) (Dl.ret (.int 1))) (ρ := [A, .sh (.int ((j + 1 : Nat) : Int)), .sh (encF sg), .ow o (encF fs), .sh (enc []), s5, s6]) rfl (op_of rfl rfl rfl) rfl
        have ap := app_of (i := 3) (f := slotD 4) (ρ := [A, .sh (.int ((j + 1 : Nat) : Int)), .sh (encF sg), .ow o (encF fs), .sh (enc t), x5, x6]) (d := enc t) (ds := fs.map enc) (o := o) rfl rfl (by rw [List.length_map]; exact small1000 (Nat.le_of_lt hl))
        refine seq_of (ρ' := [A, .sh (.int ((j + 1 : Nat) : Int)), .sh (encF sg), .ow o (encF fs), .sh (enc []), s5, s6]) rfl (seq_of (for_of rg e1) (ap.trans ?_))
        rw [show fs.map enc ++ [enc t] = (fs ++ [t]).map enc by rw [List.map_append] <;> rfl] <;> rfl
theorem expr_of {f : M D} {ρ ρ' : Dl.Env} {d : D} (h : f ρ = some (.ok d ρ')) : sExpr f ρ = some (.nx ρ') := by
  unfold sExpr thenS
  rw [h]
theorem parX_of {i j : Nat} {o1 o2 : Bool} {f g : M D} {ρ ρ1 ρ2 : Dl.Env} {d1 d2 : D} (hf : f ρ = some (.ok d1 ρ1)) (hg : g ρ1 = some (.ok d2 ρ2)) : sParX i j o1 o2 f g ρ = some (.nx ((ρ2.set i (slX o1 d1)).set j (slX o2 d2))) := by
  unfold sParX thenS
  rw [hf]
  dsimp only
  rw [hg]
def tabsO (n : Nat) : Option (List Tb) := match signedO n with
  | some sg => bif Nat.blt n 1000 then fdOut sg (List.range n) [[(0, 1)]] else none
  | none => none
theorem table_ok {n : Nat} {fs : List Tb} {t : Tb} (h : tabsO n = some fs) (ht : fs[n]? = some t) (hn : g_need_counted [.int (n : Int)] = some (.ok .non)) : g_table_of [.int (n : Int)] = some (.ok (enc t)) := by
  unfold tabsO at h
  cases es : signedO n with
  | none => rw [es] at h; cases h
  | some sg =>
    rw [es] at h
    dsimp only at h
    cases q : Nat.blt n 1000 with
    | false => rw [q] at h; cases h
    | true =>
      rw [q] at h
      have hq := Nat.blt_eq.mp q
      obtain ⟨a, b, c, d, e⟩ := fdOut_run (sg := sg) (A := .sh (.int (n : Int))) (o := none) _ [[(0, 1)]] fs .no .no .no .no h
      let ρ0 : Dl.Env := [.sh (.int (n : Int)), .no, .no, .no, .no, .no, .no]
      let ρ1 : Dl.Env := [.sh (.int (n : Int)), .no, .sh (encF sg), .ow none (encF [[(0, 1)]]), .no, .no, .no]
      have rg := rg2_nat (n := n) (by omega) (f := Dl.ret (.int 1)) (g := mOp oAdd (slotD 0) (Dl.ret (.int 1))) (ρ := ρ1) rfl (op_of rfl rfl rfl) rfl
      have c0 : mCall g_need_counted [] (mCons (slotD 0) (Dl.ret [])) ρ0 = some (.ok .non ρ0) := call_of (cons_of rfl rfl) hn
      have c1 : mCall g_signed_tables [] (mCons (slotD 0) (Dl.ret [])) ρ0 = some (.ok (encF sg) ρ0) := call_of (cons_of rfl rfl) (signed_ok es)
      have p1 := parX_of (i := 2) (j := 3) (o1 := false) (o2 := true) c1 disp0
      have l1 : oIx (encF fs) (.int (n : Int)) = some (enc t) := oIx_fs rfl ht
      have r1 : mOp oIx (mB 3) (slotD 0) [.sh (.int (n : Int)), a, .sh (encF sg), .ow none (encF fs), b, c, d] = some (.ok (enc t) [.sh (.int (n : Int)), a, .sh (encF sg), .ow none (encF fs), b, c, d]) := op_of rfl rfl l1
      exact run_ok (G := G_table_of) rfl (show env0 7 [.int (n : Int)] = ρ0 from rfl) (seq_of (expr_of c0) (seq_of (ρ' := ρ1) p1 (seq_of (for_of rg e) (ret_of r1))))
end K94
/-! quicker product. -/
namespace K94
open PySem PySem.Spec PyProof.Rows L2 Dl
theorem has_get (k : Nat) : ∀ f : Tb, hasN k f = (getO k f).isSome
  | [] => rfl
  | e :: t => by
    unfold hasN getO
    cases Nat.beq e.1 k with
    | true => rfl
    | false => exact has_get k t
/-- f[k] = f.get(k, 0) + v -/
def addF (k : Nat) (v : Int) (f : Tb) : Tb := match getO k f with
  | some w => setN k (w + v) f
  | none => f ++ [(k, v)]
theorem addF_eq (k : Nat) (v : Int) (f : Tb) : putN k ((getO k f).getD 0 + v) f = addF k v f := by
  unfold putN addF
  rw [has_get]
  cases getO k f with
  | none => simp
  | some w => rfl
theorem setN_len (k : Nat) (v : Int) : ∀ f : Tb, (setN k v f).length = f.length
  | [] => rfl
  | e :: t => by
    unfold setN
    rw [List.length_cons, setN_len k v t] <;> rfl
theorem addF_len (k : Nat) (v : Int) (f : Tb) : f.length ≤ (addF k v f).length := by
  unfold addF
  cases getO k f with
  | none => simp
  | some w => exact Nat.le_of_eq (setN_len ..).symm
def prF (k1 : Nat) (v1 : Int) : List (Nat × Int) → Tb → Tb
  | [], f => f
  | e :: r, f => prF k1 v1 r (addF (k1 + e.1) (v1 * e.2) f)
theorem prF_len (k1 : Nat) (v1 : Int) : ∀ (l : List (Nat × Int)) (f : Tb), f.length ≤ (prF k1 v1 l f).length
  | [], f => Nat.le_refl _
  | e :: r, f => Nat.le_trans (addF_len _ _ _) (prF_len k1 v1 r _)
def prFo (bs : List (Nat × Int)) : List (Nat × Int) → Tb → Tb
  | [], f => f
  | e :: r, f => prFo bs r (prF e.1 e.2 bs f)
theorem prFo_len (bs : List (Nat × Int)) : ∀ (l : List (Nat × Int)) (f : Tb), f.length ≤ (prFo bs l f).length
  | [], f => Nat.le_refl _
  | e :: r, f => Nat.le_trans (prF_len _ _ _ _) (prFo_len bs r _)
/-- each entry is what its key finds, all small, low halves below 8 -/
def okT (t : Tb) : List (Nat × Int) → Bool
  | [] => true
  | e :: r => (match getO e.1 t with
    | some v => decide (v = e.2) && sm v && Nat.blt (e.1 % 16) 8
    | none => false) && okT t r
theorem okT_mem {t : Tb} : ∀ {l : List (Nat × Int)}, okT t l = true → ∀ e ∈ l, getO e.1 t = some e.2 ∧ sm e.2 = true ∧ e.1 % 16 < 8
  | e :: r, h, x, hx => by
    unfold okT at h
    rw [Bool.and_eq_true] at h
    rcases List.mem_cons.mp hx with rfl | hx
    · have h1 := h.1
      split at h1
      · rename_i v hv
        simp only [Bool.and_eq_true, decide_eq_true_eq, Nat.blt_eq] at h1
        obtain ⟨⟨rfl, h2⟩, h3⟩ := h1
        exact ⟨hv, h2, h3⟩
      · cases h1
    · exact okT_mem h.2 x hx
theorem prIn_F {a b : Tb} {k1 : Nat} {v1 : Int} (ha : getO k1 a = some v1) (hs : sm v1 = true) (hk : k1 % 16 < 8) : ∀ (l : List (Nat × Int)) (f : Tb), (∀ e ∈ l, getO e.1 b = some e.2 ∧ sm e.2 = true ∧ e.1 % 16 < 8) → (prF k1 v1 l f).length < 1000 → prIn a b k1 (l.map (·.1)) f = some (prF k1 v1 l f)
  | [], f, _, _ => rfl
  | e :: r, f, hm, hl => by
    obtain ⟨h1, h2, h3⟩ := hm e List.mem_cons_self
    have l1 : f.length < 1000 := Nat.lt_of_le_of_lt (prF_len k1 v1 (e :: r) f) hl
    have q : (sm v1 && sm e.2 && shortT f && Nat.blt (k1 % 16 + e.1 % 16) 16) = true := by
      simp only [Bool.and_eq_true, shortT, Nat.blt_eq]
      exact ⟨⟨⟨hs, h2⟩, l1⟩, by omega⟩
    have st : prStep a b k1 f e.1 = some (addF (k1 + e.1) (v1 * e.2) f) := by
      unfold prStep
      rw [ha]
      dsimp only
      rw [h1]
      dsimp only
      rw [q, addF_eq] <;> rfl
    rw [List.map_cons]
    unfold prIn
    rw [st]
    exact prIn_F ha hs hk r _ (fun x hx => hm x (List.mem_cons_of_mem _ hx)) hl
theorem prOut_F {a b : Tb} (hb : ∀ e ∈ b, getO e.1 b = some e.2 ∧ sm e.2 = true ∧ e.1 % 16 < 8) : ∀ (l : List (Nat × Int)) (f : Tb), (∀ e ∈ l, getO e.1 a = some e.2 ∧ sm e.2 = true ∧ e.1 % 16 < 8) → (prFo b l f).length < 1000 → prOut a b (l.map (·.1)) f = some (prFo b l f)
  | [], f, _, _ => rfl
  | e :: r, f, hm, hl => by
    obtain ⟨h1, h2, h3⟩ := hm e List.mem_cons_self
    have l1 : (prF e.1 e.2 b f).length < 1000 := Nat.lt_of_le_of_lt (prFo_len b r _) hl
    rw [List.map_cons]
    unfold prOut
    rw [prIn_F h1 h2 h3 b f hb l1]
    exact prOut_F hb r _ (fun x hx => hm x (List.mem_cons_of_mem _ hx)) hl
/-- the product, quick -/
def prodF (a b : Tb) : Tb := prFo b a []
def prodB (a b c : Tb) : Bool := okT a a && okT b b && decide (prFo b a [] = c) && Nat.blt c.length 1000
theorem prodF_ok {a b c : Tb} (h : prodB a b c = true) : prodO a b = some c := by
  simp only [prodB, Bool.and_eq_true, decide_eq_true_eq, Nat.blt_eq] at h
  obtain ⟨⟨⟨h1, h2⟩, rfl⟩, h4⟩ := h
  exact prOut_F (okT_mem h2) a [] (okT_mem h1) h4
end K94
/-! quicker plus. -/
namespace K94
open PySem PySem.Spec PyProof.Rows L2 Dl
def nd : Tb → Bool
  | [] => true
  | e :: r => !hasN e.1 r && nd r
theorem hasN_mem {k : Nat} : ∀ {l : Tb}, hasN k l = false → ∀ e ∈ l, e.1 ≠ k
  | e :: r, h, x, hx => by
    unfold hasN at h
    cases q : Nat.beq e.1 k with
    | true => rw [q] at h; cases h
    | false =>
      rw [q] at h
      rcases List.mem_cons.mp hx with rfl | hx
      · exact fun z => by rw [z, Nat.beq_refl] at q; cases q
      · exact hasN_mem h x hx
theorem hasN_app (k : Nat) : ∀ (l m : Tb), hasN k (l ++ m) = (hasN k l || hasN k m)
  | [], m => rfl
  | e :: r, m => by
    show (bif Nat.beq e.1 k then true else hasN k (r ++ m)) = ((bif Nat.beq e.1 k then true else hasN k r) || hasN k m)
    rw [hasN_app k r m]
    cases Nat.beq e.1 k <;> rfl
theorem nd_get {f : Tb} : ∀ {l : Tb}, nd l = true → ∀ e ∈ l, getO e.1 l = some e.2
  | e :: r, h, x, hx => by
    unfold nd at h
    rw [Bool.and_eq_true] at h
    rcases List.mem_cons.mp hx with rfl | hx
    · unfold getO
      rw [Nat.beq_refl] <;> rfl
    · have n : e.1 ≠ x.1 := fun z => by
        have := hasN_mem (by simpa using h.1) x hx
        exact this z.symm
      unfold getO
      rw [show Nat.beq e.1 x.1 = false from Bool.eq_false_iff.mpr fun z => n (Nat.eq_of_beq_eq_true z)]
      exact nd_get (f := f) h.2 x hx
def nz (l : Tb) : Tb := l.filter fun e => !decide (e.2 = 0)
theorem plFilt_F {f : Tb} : ∀ (l acc : Tb), (∀ e ∈ l, getO e.1 f = some e.2) → nd l = true → (∀ e ∈ l, hasN e.1 acc = false) → acc.length + l.length < 1000 → plFilt f (l.map (·.1)) acc = some (acc ++ nz l)
  | [], acc, _, _, _, _ => by simp [plFilt, nz]
  | e :: r, acc, hg, hn, hd, hl => by
    unfold nd at hn
    rw [Bool.and_eq_true] at hn
    have g := hg e List.mem_cons_self
    rw [List.map_cons]
    unfold plFilt
    rw [g]
    dsimp only
    rw [List.length_cons] at hl
    have hr : ∀ x ∈ r, getO x.1 f = some x.2 := fun x hx => hg x (List.mem_cons_of_mem _ hx)
    cases q : decide (e.2 = 0) with
    | true =>
      have e1 : nz (e :: r) = nz r := by unfold nz; rw [List.filter_cons, q] <;> rfl
      rw [e1]
      exact plFilt_F r acc hr hn.2 (fun x hx => hd x (List.mem_cons_of_mem _ hx)) (by omega)
    | false =>
      have e1 : nz (e :: r) = e :: nz r := by unfold nz; rw [List.filter_cons, q] <;> rfl
      have s : shortT acc = true := by unfold shortT; rw [Nat.blt_eq]; omega
      have p : putN e.1 e.2 acc = acc ++ [e] := by
        unfold putN
        rw [hd e List.mem_cons_self] <;> rfl
      dsimp only [cond]
      rw [s, p, e1]
      dsimp only [cond]
      rw [plFilt_F r (acc ++ [e]) hr hn.2 (fun x hx => ?_) (by rw [List.length_append, List.length_singleton]; omega), List.append_assoc]
      · rfl
      · rw [hasN_app, hd x (List.mem_cons_of_mem _ hx)]
        have n : x.1 ≠ e.1 := hasN_mem (by simpa using hn.1) x hx
        show (false || (bif Nat.beq e.1 x.1 then true else false)) = false
        rw [show Nat.beq e.1 x.1 = false from Bool.eq_false_iff.mpr fun z => n (Nat.eq_of_beq_eq_true z).symm] <;> rfl
def plF (t : Int) : List (Nat × Int) → Tb → Tb
  | [], f => f
  | e :: r, f => plF t r (addF e.1 (t * e.2) f)
theorem plF_len (t : Int) : ∀ (l : List (Nat × Int)) (f : Tb), f.length ≤ (plF t l f).length
  | [], f => Nat.le_refl _
  | e :: r, f => Nat.le_trans (addF_len _ _ _) (plF_len t r _)
theorem plLoop_F {b : Tb} {t : Int} (ht : sm t = true) : ∀ (l : List (Nat × Int)) (f : Tb), (∀ e ∈ l, getO e.1 b = some e.2 ∧ sm e.2 = true ∧ e.1 % 16 < 8) → (plF t l f).length < 1000 → plLoop b t (l.map (·.1)) f = some (plF t l f)
  | [], f, _, _ => rfl
  | e :: r, f, hm, hl => by
    obtain ⟨h1, h2, h3⟩ := hm e List.mem_cons_self
    have l1 : f.length < 1000 := Nat.lt_of_le_of_lt (plF_len t (e :: r) f) hl
    have q : (sm t && sm e.2 && shortT f) = true := by
      simp only [Bool.and_eq_true, shortT, Nat.blt_eq]
      exact ⟨⟨ht, h2⟩, l1⟩
    have st : plStep b t f e.1 = some (addF e.1 (t * e.2) f) := by
      unfold plStep
      rw [h1]
      dsimp only
      rw [q, addF_eq] <;> rfl
    rw [List.map_cons]
    unfold plLoop
    rw [st]
    exact plLoop_F ht r _ (fun x hx => hm x (List.mem_cons_of_mem _ hx)) hl
def plusB (a b : Tb) (t : Int) (c : Tb) : Bool := a.all (fun e => pairN e.1) && okT b b && sm t && nd (plF t b a) && Nat.blt (plF t b a).length 1000 && decide (nz (plF t b a) = c)
theorem plusF_ok {a b c : Tb} {t : Int} (h : plusB a b t c = true) : plusO a b t = some c := by
  simp only [plusB, Bool.and_eq_true, decide_eq_true_eq, Nat.blt_eq] at h
  obtain ⟨⟨⟨⟨⟨h1, h2⟩, h3⟩, h4⟩, h5⟩, rfl⟩ := h
  unfold plusO
  rw [h1]
  dsimp only [cond]
  rw [plLoop_F h3 b a (okT_mem h2) h5]
  dsimp only
  rw [plFilt_F (plF t b a) [] (nd_get (f := a) h4) h4 (fun _ _ => rfl) (by simpa using h5)] <;> rfl
end K94
/-! the quick loops. -/
namespace K94
open PySem PySem.Spec PyProof.Rows L2 Dl
/-- f[k] = f.get(k, 0) + v, in one pass -/
def addQ (k : Nat) (v : Int) : Tb → Tb
  | [] => [(k, v)]
  | e :: t => bif Nat.beq e.1 k then (e.1, e.2 + v) :: t else e :: addQ k v t
theorem setN_no (k : Nat) (v : Int) : ∀ t : Tb, hasN k t = false → setN k v t = t
  | [], _ => rfl
  | e :: t, h => by
    unfold hasN at h
    unfold setN
    cases q : Nat.beq e.1 k with
    | true => rw [q] at h; cases h
    | false =>
      rw [q] at h
      rw [setN_no k v t h] <;> rfl
theorem addQ_no (k : Nat) (v : Int) : ∀ t : Tb, hasN k t = false → addQ k v t = t ++ [(k, v)]
  | [], _ => rfl
  | e :: t, h => by
    unfold hasN at h
    unfold addQ
    cases q : Nat.beq e.1 k with
    | true => rw [q] at h; cases h
    | false =>
      rw [q] at h
      rw [addQ_no k v t h] <;> rfl
theorem addQ_set (k : Nat) (v : Int) : ∀ (t : Tb) (w : Int), nd t = true → getO k t = some w → addQ k v t = setN k (w + v) t
  | [], w, _, h => nomatch h
  | e :: t, w, hn, h => by
    unfold nd at hn
    rw [Bool.and_eq_true] at hn
    unfold getO at h
    unfold addQ setN
    cases q : Nat.beq e.1 k with
    | true =>
      rw [q] at h
      cases h
      have e1 := Nat.eq_of_beq_eq_true q
      rw [← e1, setN_no e.1 _ t (by simpa using hn.1)] <;> rfl
    | false =>
      rw [q] at h
      rw [addQ_set k v t w hn.2 h] <;> rfl
theorem addQ_eq {k : Nat} {v : Int} {t : Tb} (hn : nd t = true) : addF k v t = addQ k v t := by
  unfold addF
  cases q : getO k t with
  | none =>
    have h : hasN k t = false := by rw [has_get, q] <;> rfl
    rw [addQ_no k v t h]
  | some w => exact (addQ_set k v t w hn q).symm
theorem addQ_has (j k : Nat) (v : Int) : ∀ t : Tb, hasN j (addQ k v t) = (hasN j t || Nat.beq k j)
  | [] => by
    unfold addQ hasN
    cases Nat.beq k j <;> rfl
  | e :: t => by
    unfold addQ
    cases q : Nat.beq e.1 k with
    | true =>
      have e1 := Nat.eq_of_beq_eq_true q
      show (bif Nat.beq e.1 j then true else hasN j t) = ((bif Nat.beq e.1 j then true else hasN j t) || Nat.beq k j)
      rw [← e1]
      cases Nat.beq e.1 j <;> simp
    | false =>
      show (bif Nat.beq e.1 j then true else hasN j (addQ k v t)) = ((bif Nat.beq e.1 j then true else hasN j t) || Nat.beq k j)
      rw [addQ_has j k v t]
      cases Nat.beq e.1 j <;> simp
theorem addQ_nd (k : Nat) (v : Int) : ∀ t : Tb, nd t = true → nd (addQ k v t) = true
  | [], _ => rfl
  | e :: t, hn => by
    unfold nd at hn
    rw [Bool.and_eq_true] at hn
    unfold addQ
    cases q : Nat.beq e.1 k with
    | true =>
      show (!hasN e.1 t && nd t) = true
      rw [Bool.and_eq_true]
      exact hn
    | false =>
      show (!hasN e.1 (addQ k v t) && nd (addQ k v t)) = true
      have b : Nat.beq k e.1 = false := Bool.eq_false_iff.mpr fun z => by
        rw [Nat.eq_of_beq_eq_true z, Nat.beq_refl] at q
        cases q
      rw [addQ_has, addQ_nd k v t hn.2, b, Bool.or_false, Bool.and_true]
      exact hn.1
def prQ (k1 : Nat) (v1 : Int) : List (Nat × Int) → Tb → Tb
  | [], f => f
  | e :: r, f => prQ k1 v1 r (addQ (k1 + e.1) (v1 * e.2) f)
theorem prQ_eq (k1 : Nat) (v1 : Int) : ∀ (l : List (Nat × Int)) (f : Tb), nd f = true → prF k1 v1 l f = prQ k1 v1 l f ∧ nd (prQ k1 v1 l f) = true
  | [], f, h => ⟨rfl, h⟩
  | e :: r, f, h => by
    unfold prF prQ
    rw [addQ_eq h]
    exact prQ_eq k1 v1 r _ (addQ_nd _ _ f h)
def prQo (bs : List (Nat × Int)) : List (Nat × Int) → Tb → Tb
  | [], f => f
  | e :: r, f => prQo bs r (prQ e.1 e.2 bs f)
theorem prQo_eq (bs : List (Nat × Int)) : ∀ (l : List (Nat × Int)) (f : Tb), nd f = true → prFo bs l f = prQo bs l f
  | [], f, _ => rfl
  | e :: r, f, h => by
    obtain ⟨e1, h1⟩ := prQ_eq e.1 e.2 bs f h
    unfold prFo prQo
    rw [e1]
    exact prQo_eq bs r _ h1
def plQ (t : Int) : List (Nat × Int) → Tb → Tb
  | [], f => f
  | e :: r, f => plQ t r (addQ e.1 (t * e.2) f)
theorem plQ_eq (t : Int) : ∀ (l : List (Nat × Int)) (f : Tb), nd f = true → plF t l f = plQ t l f ∧ nd (plQ t l f) = true
  | [], f, h => ⟨rfl, h⟩
  | e :: r, f, h => by
    unfold plF plQ
    rw [addQ_eq h]
    exact plQ_eq t r _ (addQ_nd _ _ f h)
def prodQ (a b : Tb) : Option Tb := bif okT a a && okT b b && Nat.blt (prQo b a []).length 1000 then some (prQo b a []) else none
def plusQ (a b : Tb) (t : Int) : Option Tb := bif a.all (fun e => pairN e.1) && okT b b && sm t && nd a && Nat.blt (plQ t b a).length 1000 then some (nz (plQ t b a)) else none
def sgInQ (fs : List Tb) (m : Nat) : List Nat → Tb → Option Tb
  | [], t => some t
  | i :: r, t => match ofO (i + 1), fs[m - (i + 1)]?, chO (m - 1) i with
    | some p, some f, some c => bif Nat.ble (i + 1) m then (match prodQ p f with
      | some q => (match plusQ t q (-c) with
        | some t' => sgInQ fs m r t'
        | none => none)
      | none => none) else none
    | _, _, _ => none
def fdInQ (sg fs : List Tb) (m : Nat) : List Nat → Tb → Option Tb
  | [], t => some t
  | i :: r, t => match sg[i + 1]?, fs[m - (i + 1)]?, betO ((i + 1) * (m - (i + 1))), chO m (i + 1) with
    | some p, some f, some b, some c => bif Nat.ble (i + 1) m && Nat.blt m 1000 then (match prodQ p f with
      | some q => (match prodQ q b with
        | some q2 => (match plusQ t q2 (-c) with
          | some t' => fdInQ sg fs m r t'
          | none => none)
        | none => none)
      | none => none) else none
    | _, _, _, _ => none
def sgOutQ : List Nat → List Tb → Option (List Tb)
  | [], fs => some fs
  | j :: r, fs => match sgInQ fs (j + 1) (List.range (j + 1)) [] with
    | some t => bif Nat.blt fs.length 1000 && Nat.blt j 1000 then sgOutQ r (fs ++ [t]) else none
    | none => none
theorem prodQ_ok {a b c : Tb} (h : prodQ a b = some c) : prodO a b = some c := by
  unfold prodQ at h
  rw [← prQo_eq b a [] rfl] at h
  cases q : (okT a a && okT b b && Nat.blt (prFo b a []).length 1000) with
  | false => rw [q] at h; cases h
  | true =>
    rw [q] at h
    cases h
    refine prodF_ok ?_
    simp only [Bool.and_eq_true] at q
    simp only [prodB, Bool.and_eq_true, decide_eq_true_eq] at q ⊢
    exact ⟨⟨⟨q.1.1, q.1.2⟩, trivial⟩, q.2⟩
theorem plusQ_ok {a b c : Tb} {t : Int} (h : plusQ a b t = some c) : plusO a b t = some c := by
  unfold plusQ at h
  cases q : (a.all (fun e => pairN e.1) && okT b b && sm t && nd a && Nat.blt (plQ t b a).length 1000) with
  | false => rw [q] at h; cases h
  | true =>
    rw [q] at h
    cases h
    simp only [Bool.and_eq_true] at q
    obtain ⟨e1, h1⟩ := plQ_eq t b a q.1.2
    refine plusF_ok ?_
    unfold plusB
    rw [e1, h1, q.1.1.1.1, q.1.1.1.2, q.1.1.2, q.2]
    exact decide_eq_true rfl
theorem sgInQ_ok {fs : List Tb} {m : Nat} : ∀ (l : List Nat) (t t' : Tb), sgInQ fs m l t = some t' → sgIn fs m l t = some t'
  | [], t, t', h => h
  | i :: r, t, t', h => by
    unfold sgInQ at h
    split at h
    · rename_i p f c hp hf hc
      unfold sgIn
      rw [hp, hf, hc]
      dsimp only
      cases q : Nat.ble (i + 1) m with
      | false => rw [q] at h; cases h
      | true =>
        rw [q] at h
        dsimp only [cond] at h ⊢
        split at h
        · rename_i x hx
          split at h
          · rename_i y hy
            rw [prodQ_ok hx]
            dsimp only
            rw [plusQ_ok hy]
            exact sgInQ_ok r y t' h
          · cases h
        · cases h
    · cases h
theorem fdInQ_ok {sg fs : List Tb} {m : Nat} : ∀ (l : List Nat) (t t' : Tb), fdInQ sg fs m l t = some t' → fdIn sg fs m l t = some t'
  | [], t, t', h => h
  | i :: r, t, t', h => by
    unfold fdInQ at h
    split at h
    · rename_i p f b c hp hf hb hc
      unfold fdIn
      rw [hp, hf, hb, hc]
      dsimp only
      cases q : (Nat.ble (i + 1) m && Nat.blt m 1000) with
      | false => rw [q] at h; cases h
      | true =>
        rw [q] at h
        dsimp only [cond] at h ⊢
        split at h
        · rename_i x hx
          split at h
          · rename_i z hz
            split at h
            · rename_i y hy
              rw [prodQ_ok hx]
              dsimp only
              rw [prodQ_ok hz]
              dsimp only
              rw [plusQ_ok hy]
              exact fdInQ_ok r y t' h
            · cases h
          · cases h
        · cases h
    · cases h
end K94
/-! The tables, written out. -/
namespace K94
open PySem PySem.Spec PyProof.Rows L2 Dl
def S0 : Tb := [(0, 1)]
def S1 : Tb := [(0, -1)]
def S2 : Tb := [(0, 1), (33, -1)]
def S3 : Tb := [(0, -1), (33, 3), (49, -2)]
def S4 : Tb := [(0, 1), (33, -6), (49, 8), (66, 3), (65, -6)]
def S5 : Tb := [(0, -1), (33, 10), (49, -20), (66, -15), (65, 30), (82, 20), (81, -24)]
def S6 : Tb := [(0, 1), (33, -15), (49, 40), (66, 45), (65, -90), (82, -120), (81, 144), (99, -15), (98, 130), (97, -120)]
def S7 : Tb := [(0, -1), (33, 21), (49, -70), (66, -105), (65, 210), (82, 420), (81, -504), (99, 105), (98, -910), (97, 840), (115, -210), (114, 924), (113, -720)]
def S8 : Tb := [(0, 1), (33, -28), (49, 112), (66, 210), (65, -420), (82, -1120), (81, 1344), (99, -420), (98, 3640), (97, -3360), (115, 1680), (114, -7392), (113, 5760), (132, 105), (131, -2380), (130, 7308), (129, -5040)]
def T0 : Tb := [(0, 1)]
def T1 : Tb := [(0, 1)]
def T2 : Tb := [(0, 1), (16, 2), (33, 1)]
def T3 : Tb := [(16, 6), (32, 12), (48, 6), (33, 3), (49, 14), (65, 6), (0, 1)]
def T4 : Tb := [(32, 60), (48, 152), (64, 186), (80, 108), (96, 24), (49, 68), (65, 270), (81, 336), (97, 184), (113, 36), (0, 1), (66, 3), (82, 24), (98, 36), (114, 24), (130, 6), (16, 12), (33, 6)]
def T5 : Tb := [(32, 180), (48, 940), (64, 3050), (80, 6180), (96, 7960), (112, 6540), (128, 3330), (144, 960), (160, 120), (49, 200), (65, 1690), (81, 7324), (97, 16040), (113, 20620), (129, 16280), (145, 7820), (161, 2100), (177, 240), (16, 20), (82, 260), (98, 1680), (114, 4320), (130, 6170), (146, 5280), (162, 2700), (178, 760), (194, 90), (33, 10), (0, 1), (66, 15)]
def T6 : Tb := [(32, 420), (48, 3600), (64, 20790), (80, 83952), (96, 240480), (112, 496680), (128, 750810), (144, 838130), (160, 691020), (176, 416160), (192, 178230), (208, 51480), (224, 9000), (240, 720), (49, 460), (65, 6390), (81, 51564), (97, 257910), (113, 812880), (129, 1729680), (145, 2599440), (161, 2829708), (177, 2250300), (193, 1298300), (209, 530100), (225, 145350), (241, 24000), (257, 1800), (82, 1290), (98, 15910), (114, 104640), (130, 381330), (146, 887280), (162, 1416240), (178, 1607880), (194, 1316370), (210, 774030), (226, 319440), (242, 87920), (258, 14490), (274, 1080), (0, 1), (115, 360), (131, 3420), (147, 14760), (163, 38250), (179, 66240), (195, 80640), (211, 70560), (227, 44460), (243, 19800), (259, 5940), (275, 1080), (291, 90), (16, 30), (66, 45), (33, 15), (99, 15)]
def T7 : Tb := [(32, 840), (48, 10570), (64, 93030), (80, 601944), (96, 2934568), (112, 10931760), (128, 31528980), (144, 71331470), (160, 128047374), (176, 183963066), (192, 212642360), (208, 198066960), (224, 148296330), (240, 88602780), (256, 41683950), (272, 15107400), (288, 4071480), (304, 768600), (320, 90720), (336, 5040), (49, 910), (65, 18480), (81, 229824), (97, 1917538), (113, 11112744), (129, 45656100), (145, 137983720), (161, 316785546), (177, 565858272), (193, 799291892), (209, 901598040), (225, 815608500), (241, 591170636), (257, 341147814), (273, 154733040), (289, 53976510), (305, 13977180), (321, 2530080), (337, 285600), (353, 15120), (82, 4410), (98, 84490), (114, 951594), (130, 6794970), (146, 31817800), (162, 104656860), (178, 254352000), (194, 472440976), (210, 685394010), (226, 786842910), (242, 719366270), (258, 524018040), (274, 302521128), (290, 136746890), (306, 47385660), (322, 12154590), (338, 2173920), (354, 241920), (370, 12600), (16, 42), (115, 3990), (131, 66570), (147, 614040), (163, 3339210), (179, 12119940), (195, 31644480), (211, 62188560), (227, 94591350), (243, 113232420), (259, 107598960), (275, 81322080), (291, 48668760), (307, 22799280), (323, 8188110), (339, 2177280), (355, 403830), (371, 46620), (387, 2520), (33, 21), (99, 105), (0, 1), (66, 105)]
def T8 : Tb := [(32, 1512), (48, 26096), (64, 321580), (80, 2991576), (96, 21663936), (112, 124318112), (128, 572121396), (144, 2134043800), (160, 6519340912), (176, 16473117696), (192, 34731298224), (208, 61545628424), (224, 92182779360), (240, 117163448528), (256, 126648701746), (272, 116493499584), (288, 91060882584), (304, 60291924000), (320, 33623426340), (336, 15660145200), (352, 6017405520), (368, 1874557440), (384, 461599320), (400, 86476320), (416, 11581920), (432, 987840), (448, 40320), (49, 1624), (65, 44996), (81, 784784), (97, 9546824), (113, 84864856), (129, 564232088), (145, 2855822256), (161, 11259179624), (177, 35357139384), (193, 90131835808), (209, 189340690672), (225, 331550107208), (241, 488012179368), (257, 607268380544), (273, 641040027488), (289, 574781845736), (305, 437408098288), (321, 281670028752), (337, 152652480624), (353, 69045072096), (369, 25746917616), (385, 7778226120), (401, 1855909440), (417, 336567840), (433, 43582560), (449, 3588480), (465, 141120), (82, 12040), (98, 324520), (114, 5380592), (130, 60293156), (146, 475227704), (162, 2706573520), (178, 11576339600), (194, 38479488432), (210, 102092138456), (226, 220558033584), (242, 393704673040), (258, 586801792360), (274, 735555975560), (290, 778910389152), (306, 698238817472), (322, 529752441260), (338, 339307954160), (354, 182539664608), (370, 81815343120), (386, 30186515352), (402, 9010658160), (418, 2121631680), (434, 379229760), (450, 48345360), (466, 3914400), (482, 151200), (115, 22680), (131, 563500), (147, 8346240), (163, 80151960), (179, 521056760), (195, 2443713720), (211, 8691574080), (227, 24294741800), (243, 54730145400), (259, 101153833200), (275, 155318993760), (291, 199834609800), (307, 216601738920), (323, 198320825360), (339, 153421690800), (355, 100057309800), (371, 54744090800), (387, 24928172640), (403, 9335637360), (419, 2826191760), (435, 674377200), (451, 122076360), (467, 15751680), (483, 1290240), (499, 50400), (0, 1), (164, 108360), (180, 1328880), (196, 10025820), (212, 51922080), (228, 198490320), (244, 587028960), (260, 1385744220), (276, 2667413280), (292, 4249087920), (308, 5658156000), (324, 6339453960), (340, 5997610080), (356, 4795927920), (372, 3236315040), (388, 1835073450), (404, 867872880), (420, 338463720), (436, 107034480), (452, 26773740), (468, 5100480), (484, 695520), (500, 60480), (516, 2520), (132, 105), (66, 210), (148, 5040), (16, 56), (33, 28), (99, 420)]
def sgA : List Tb := [S0, S1, S2, S3, S4, S5, S6, S7, S8]
def ftA : List Tb := [T0, T1, T2, T3, T4, T5, T6, T7, T8]
theorem s_1 : sgInQ [S0] 1 (List.range 1) [] = some S1 := by decide +kernel
theorem s_2 : sgInQ [S0, S1] 2 (List.range 2) [] = some S2 := by decide +kernel
theorem s_3 : sgInQ [S0, S1, S2] 3 (List.range 3) [] = some S3 := by decide +kernel
theorem s_4 : sgInQ [S0, S1, S2, S3] 4 (List.range 4) [] = some S4 := by decide +kernel
theorem s_5 : sgInQ [S0, S1, S2, S3, S4] 5 (List.range 5) [] = some S5 := by decide +kernel
theorem s_6 : sgInQ [S0, S1, S2, S3, S4, S5] 6 (List.range 6) [] = some S6 := by decide +kernel
theorem s_7 : sgInQ [S0, S1, S2, S3, S4, S5, S6] 7 (List.range 7) [] = some S7 := by decide +kernel
theorem s_8 : sgInQ [S0, S1, S2, S3, S4, S5, S6, S7] 8 (List.range 8) [] = some S8 := by decide +kernel
theorem t_1 : fdInQ sgA [T0] 1 (List.range 1) [] = some T1 := by decide +kernel
theorem t_2 : fdInQ sgA [T0, T1] 2 (List.range 2) [] = some T2 := by decide +kernel
theorem t_3 : fdInQ sgA [T0, T1, T2] 3 (List.range 3) [] = some T3 := by decide +kernel
theorem t_4 : fdInQ sgA [T0, T1, T2, T3] 4 (List.range 4) [] = some T4 := by decide +kernel
theorem t_5 : fdInQ sgA [T0, T1, T2, T3, T4] 5 (List.range 5) [] = some T5 := by decide +kernel
theorem t_6 : fdInQ sgA [T0, T1, T2, T3, T4, T5] 6 (List.range 6) [] = some T6 := by decide +kernel
theorem t_7 : fdInQ sgA [T0, T1, T2, T3, T4, T5, T6] 7 (List.range 7) [] = some T7 := by decide +kernel
theorem t_8 : fdInQ sgA [T0, T1, T2, T3, T4, T5, T6, T7] 8 (List.range 8) [] = some T8 := by decide +kernel
theorem sgOut_cons {j : Nat} {r : List Nat} {fs fs' : List Tb} {t : Tb} (h : sgInQ fs (j + 1) (List.range (j + 1)) [] = some t) (hl : (Nat.blt fs.length 1000 && Nat.blt j 1000) = true) (g : sgOut r (fs ++ [t]) = some fs') : sgOut (j :: r) fs = some fs' := by
  unfold sgOut
  rw [sgInQ_ok _ _ _ h]
  dsimp only
  rw [hl]
  exact g
theorem fdIn_congr {sg sg' fs : List Tb} {m : Nat} : ∀ (l : List Nat) (t : Tb), (∀ i ∈ l, sg[i + 1]? = sg'[i + 1]?) → fdIn sg fs m l t = fdIn sg' fs m l t
  | [], t, _ => rfl
  | i :: r, t, h => by
    unfold fdIn
    rw [h i List.mem_cons_self]
    have ih : ∀ t', fdIn sg fs m r t' = fdIn sg' fs m r t' := fun t' => fdIn_congr r t' fun x hx => h x (List.mem_cons_of_mem _ hx)
    simp only [ih]
theorem fdOut_cons {n j : Nat} {r : List Nat} {fs fs' : List Tb} {t : Tb} (h : fdInQ sgA fs (j + 1) (List.range (j + 1)) [] = some t) (hj : j < n) (hl : (Nat.blt fs.length 1000 && Nat.blt j 1000) = true) (g : fdOut (sgA.take (n + 1)) r (fs ++ [t]) = some fs') : fdOut (sgA.take (n + 1)) (j :: r) fs = some fs' := by
  unfold fdOut
  rw [fdIn_congr (sg' := sgA) _ _ fun i hi => ?_, fdInQ_ok _ _ _ h]
  · dsimp only
    rw [hl]
    exact g
  · have := List.mem_range.mp hi
    rw [List.getElem?_take, if_pos (by omega)]
theorem tabs_of {n : Nat} {l : List Nat} {sg fs : List Tb} (h : signedO n = some sg) (hn : Nat.blt n 1000 = true) (hl : List.range n = l) (g : fdOut sg l [[(0, 1)]] = some fs) : tabsO n = some fs := by
  unfold tabsO
  rw [h]
  dsimp only
  rw [hn, hl]
  exact g
theorem sg_1 : signedO 1 = some (sgA.take 2) := show sgOut [0] [S0] = some (sgA.take 2) from (sgOut_cons s_1 rfl rfl)
theorem fd_1 : fdOut (sgA.take 2) [0] [T0] = some (ftA.take 2) := (fdOut_cons t_1 (by decide) rfl rfl)
theorem tabs_1 : tabsO 1 = some (ftA.take 2) := tabs_of (l := [0]) sg_1 rfl rfl fd_1
theorem need_1 : g_need_counted [.int ((1 : Nat) : Int)] = some (.ok .non) := by kernel_rfl
theorem tab_1 : g_table_of [.int ((1 : Nat) : Int)] = some (.ok (enc T1)) := table_ok tabs_1 (by kernel_rfl) need_1
theorem sg_2 : signedO 2 = some (sgA.take 3) := show sgOut [0, 1] [S0] = some (sgA.take 3) from (sgOut_cons s_1 rfl (sgOut_cons s_2 rfl rfl))
theorem fd_2 : fdOut (sgA.take 3) [0, 1] [T0] = some (ftA.take 3) := (fdOut_cons t_1 (by decide) rfl (fdOut_cons t_2 (by decide) rfl rfl))
theorem tabs_2 : tabsO 2 = some (ftA.take 3) := tabs_of (l := [0, 1]) sg_2 rfl rfl fd_2
theorem need_2 : g_need_counted [.int ((2 : Nat) : Int)] = some (.ok .non) := by kernel_rfl
theorem tab_2 : g_table_of [.int ((2 : Nat) : Int)] = some (.ok (enc T2)) := table_ok tabs_2 (by kernel_rfl) need_2
theorem sg_3 : signedO 3 = some (sgA.take 4) := show sgOut [0, 1, 2] [S0] = some (sgA.take 4) from (sgOut_cons s_1 rfl (sgOut_cons s_2 rfl (sgOut_cons s_3 rfl rfl)))
theorem fd_3 : fdOut (sgA.take 4) [0, 1, 2] [T0] = some (ftA.take 4) := (fdOut_cons t_1 (by decide) rfl (fdOut_cons t_2 (by decide) rfl (fdOut_cons t_3 (by decide) rfl rfl)))
theorem tabs_3 : tabsO 3 = some (ftA.take 4) := tabs_of (l := [0, 1, 2]) sg_3 rfl rfl fd_3
theorem need_3 : g_need_counted [.int ((3 : Nat) : Int)] = some (.ok .non) := by kernel_rfl
theorem tab_3 : g_table_of [.int ((3 : Nat) : Int)] = some (.ok (enc T3)) := table_ok tabs_3 (by kernel_rfl) need_3
theorem sg_4 : signedO 4 = some (sgA.take 5) := show sgOut [0, 1, 2, 3] [S0] = some (sgA.take 5) from (sgOut_cons s_1 rfl (sgOut_cons s_2 rfl (sgOut_cons s_3 rfl (sgOut_cons s_4 rfl rfl))))
theorem fd_4 : fdOut (sgA.take 5) [0, 1, 2, 3] [T0] = some (ftA.take 5) := (fdOut_cons t_1 (by decide) rfl (fdOut_cons t_2 (by decide) rfl (fdOut_cons t_3 (by decide) rfl (fdOut_cons t_4 (by decide) rfl rfl))))
theorem tabs_4 : tabsO 4 = some (ftA.take 5) := tabs_of (l := [0, 1, 2, 3]) sg_4 rfl rfl fd_4
theorem need_4 : g_need_counted [.int ((4 : Nat) : Int)] = some (.ok .non) := by kernel_rfl
theorem tab_4 : g_table_of [.int ((4 : Nat) : Int)] = some (.ok (enc T4)) := table_ok tabs_4 (by kernel_rfl) need_4
theorem sg_5 : signedO 5 = some (sgA.take 6) := show sgOut [0, 1, 2, 3, 4] [S0] = some (sgA.take 6) from (sgOut_cons s_1 rfl (sgOut_cons s_2 rfl (sgOut_cons s_3 rfl (sgOut_cons s_4 rfl (sgOut_cons s_5 rfl rfl)))))
theorem fd_5 : fdOut (sgA.take 6) [0, 1, 2, 3, 4] [T0] = some (ftA.take 6) := (fdOut_cons t_1 (by decide) rfl (fdOut_cons t_2 (by decide) rfl (fdOut_cons t_3 (by decide) rfl (fdOut_cons t_4 (by decide) rfl (fdOut_cons t_5 (by decide) rfl rfl)))))
theorem tabs_5 : tabsO 5 = some (ftA.take 6) := tabs_of (l := [0, 1, 2, 3, 4]) sg_5 rfl rfl fd_5
theorem need_5 : g_need_counted [.int ((5 : Nat) : Int)] = some (.ok .non) := by kernel_rfl
theorem tab_5 : g_table_of [.int ((5 : Nat) : Int)] = some (.ok (enc T5)) := table_ok tabs_5 (by kernel_rfl) need_5
theorem sg_6 : signedO 6 = some (sgA.take 7) := show sgOut [0, 1, 2, 3, 4, 5] [S0] = some (sgA.take 7) from (sgOut_cons s_1 rfl (sgOut_cons s_2 rfl (sgOut_cons s_3 rfl (sgOut_cons s_4 rfl (sgOut_cons s_5 rfl (sgOut_cons s_6 rfl rfl))))))
theorem fd_6 : fdOut (sgA.take 7) [0, 1, 2, 3, 4, 5] [T0] = some (ftA.take 7) := (fdOut_cons t_1 (by decide) rfl (fdOut_cons t_2 (by decide) rfl (fdOut_cons t_3 (by decide) rfl (fdOut_cons t_4 (by decide) rfl (fdOut_cons t_5 (by decide) rfl (fdOut_cons t_6 (by decide) rfl rfl))))))
theorem tabs_6 : tabsO 6 = some (ftA.take 7) := tabs_of (l := [0, 1, 2, 3, 4, 5]) sg_6 rfl rfl fd_6
theorem need_6 : g_need_counted [.int ((6 : Nat) : Int)] = some (.ok .non) := by kernel_rfl
theorem tab_6 : g_table_of [.int ((6 : Nat) : Int)] = some (.ok (enc T6)) := table_ok tabs_6 (by kernel_rfl) need_6
theorem sg_7 : signedO 7 = some (sgA.take 8) := show sgOut [0, 1, 2, 3, 4, 5, 6] [S0] = some (sgA.take 8) from (sgOut_cons s_1 rfl (sgOut_cons s_2 rfl (sgOut_cons s_3 rfl (sgOut_cons s_4 rfl (sgOut_cons s_5 rfl (sgOut_cons s_6 rfl (sgOut_cons s_7 rfl rfl)))))))
theorem fd_7 : fdOut (sgA.take 8) [0, 1, 2, 3, 4, 5, 6] [T0] = some (ftA.take 8) := (fdOut_cons t_1 (by decide) rfl (fdOut_cons t_2 (by decide) rfl (fdOut_cons t_3 (by decide) rfl (fdOut_cons t_4 (by decide) rfl (fdOut_cons t_5 (by decide) rfl (fdOut_cons t_6 (by decide) rfl (fdOut_cons t_7 (by decide) rfl rfl)))))))
theorem tabs_7 : tabsO 7 = some (ftA.take 8) := tabs_of (l := [0, 1, 2, 3, 4, 5, 6]) sg_7 rfl rfl fd_7
theorem need_7 : g_need_counted [.int ((7 : Nat) : Int)] = some (.ok .non) := by kernel_rfl
theorem tab_7 : g_table_of [.int ((7 : Nat) : Int)] = some (.ok (enc T7)) := table_ok tabs_7 (by kernel_rfl) need_7
theorem sg_8 : signedO 8 = some (sgA.take 9) := show sgOut [0, 1, 2, 3, 4, 5, 6, 7] [S0] = some (sgA.take 9) from (sgOut_cons s_1 rfl (sgOut_cons s_2 rfl (sgOut_cons s_3 rfl (sgOut_cons s_4 rfl (sgOut_cons s_5 rfl (sgOut_cons s_6 rfl (sgOut_cons s_7 rfl (sgOut_cons s_8 rfl rfl))))))))
theorem fd_8 : fdOut (sgA.take 9) [0, 1, 2, 3, 4, 5, 6, 7] [T0] = some (ftA.take 9) := (fdOut_cons t_1 (by decide) rfl (fdOut_cons t_2 (by decide) rfl (fdOut_cons t_3 (by decide) rfl (fdOut_cons t_4 (by decide) rfl (fdOut_cons t_5 (by decide) rfl (fdOut_cons t_6 (by decide) rfl (fdOut_cons t_7 (by decide) rfl (fdOut_cons t_8 (by decide) rfl rfl))))))))
theorem tabs_8 : tabsO 8 = some (ftA.take 9) := tabs_of (l := [0, 1, 2, 3, 4, 5, 6, 7]) sg_8 rfl rfl fd_8
theorem need_8 : g_need_counted [.int ((8 : Nat) : Int)] = some (.ok .non) := by kernel_rfl
theorem tab_8 : g_table_of [.int ((8 : Nat) : Int)] = some (.ok (enc T8)) := table_ok tabs_8 (by kernel_rfl) need_8
end K94
/-! What a table is worth at marks x, y. -/
namespace K94
open PySem PySem.Spec PyProof.Rows L2 Dl
def mo (x y : Int) (k : Nat) : Int := x ^ (k / 16) * y ^ (k % 16)
def ev (x y : Int) : Tb → Int
  | [] => 0
  | e :: r => e.2 * mo x y e.1 + ev x y r
section
variable {x y : Int}
theorem mo_add {j k : Nat} (h : j % 16 + k % 16 < 16) : mo x y (j + k) = mo x y j * mo x y k := by
  unfold mo
  have e1 : (j + k) / 16 = j / 16 + k / 16 := by omega
  have e2 : (j + k) % 16 = j % 16 + k % 16 := by omega
  rw [e1, e2, Int.pow_add, Int.pow_add]
  ac_rfl
theorem ev_addQ (k : Nat) (v : Int) : ∀ t : Tb, ev x y (addQ k v t) = ev x y t + v * mo x y k
  | [] => by simp [addQ, ev]
  | e :: t => by
    unfold addQ
    cases q : Nat.beq e.1 k with
    | true =>
      have e1 := Nat.eq_of_beq_eq_true q
      show (e.2 + v) * mo x y e.1 + ev x y t = e.2 * mo x y e.1 + ev x y t + v * mo x y k
      rw [e1, Int.add_mul]
      omega
    | false =>
      show e.2 * mo x y e.1 + ev x y (addQ k v t) = e.2 * mo x y e.1 + ev x y t + v * mo x y k
      rw [ev_addQ k v t]
      omega
theorem ev_prQ {k1 : Nat} (hk : k1 % 16 < 8) (v1 : Int) : ∀ (l : List (Nat × Int)) (f : Tb), (∀ e ∈ l, e.1 % 16 < 8) → ev x y (prQ k1 v1 l f) = ev x y f + v1 * mo x y k1 * ev x y l
  | [], f, _ => by simp [prQ, ev]
  | e :: r, f, h => by
    have h1 := h e List.mem_cons_self
    unfold prQ
    rw [ev_prQ hk v1 r _ fun a ha => h a (List.mem_cons_of_mem _ ha), ev_addQ, mo_add (by omega)]
    show ev x y f + v1 * e.2 * (mo x y k1 * mo x y e.1) + v1 * mo x y k1 * ev x y r = ev x y f + v1 * mo x y k1 * (e.2 * mo x y e.1 + ev x y r)
    rw [Int.mul_add, show v1 * mo x y k1 * (e.2 * mo x y e.1) = v1 * e.2 * (mo x y k1 * mo x y e.1) by ac_rfl]
    omega
theorem ev_prQo {b : List (Nat × Int)} (hb : ∀ e ∈ b, e.1 % 16 < 8) : ∀ (l : List (Nat × Int)) (f : Tb), (∀ e ∈ l, e.1 % 16 < 8) → ev x y (prQo b l f) = ev x y f + ev x y l * ev x y b
  | [], f, _ => by simp [prQo, ev]
  | e :: r, f, h => by
    unfold prQo
    rw [ev_prQo hb r _ fun a ha => h a (List.mem_cons_of_mem _ ha), ev_prQ (h e List.mem_cons_self) e.2 b f hb]
    show ev x y f + e.2 * mo x y e.1 * ev x y b + ev x y r * ev x y b = ev x y f + (e.2 * mo x y e.1 + ev x y r) * ev x y b
    rw [Int.add_mul]
    omega
theorem ev_prod {a b c : Tb} (h : prodQ a b = some c) : ev x y c = ev x y a * ev x y b := by
  unfold prodQ at h
  cases q : (okT a a && okT b b && Nat.blt (prQo b a []).length 1000) with
  | false => rw [q] at h; cases h
  | true =>
    rw [q] at h
    cases h
    simp only [Bool.and_eq_true] at q
    rw [ev_prQo (fun e he => (okT_mem q.1.2 e he).2.2) a [] fun e he => (okT_mem q.1.1 e he).2.2]
    simp [ev]
theorem ev_plQ (t : Int) : ∀ (l : List (Nat × Int)) (f : Tb), ev x y (plQ t l f) = ev x y f + t * ev x y l
  | [], f => by simp [plQ, ev]
  | e :: r, f => by
    unfold plQ
    rw [ev_plQ t r, ev_addQ]
    show ev x y f + t * e.2 * mo x y e.1 + t * ev x y r = ev x y f + t * (e.2 * mo x y e.1 + ev x y r)
    rw [Int.mul_add, Int.mul_assoc]
    omega
theorem ev_nz : ∀ l : Tb, ev x y (nz l) = ev x y l
  | [] => rfl
  | e :: r => by
    have ih := ev_nz r
    cases q : decide (e.2 = 0) with
    | true =>
      have e1 : nz (e :: r) = nz r := by unfold nz; rw [List.filter_cons, q] <;> rfl
      have e2 := of_decide_eq_true q
      rw [e1, ih]
      show _ = e.2 * mo x y e.1 + ev x y r
      rw [e2]
      simp
    | false =>
      have e1 : nz (e :: r) = e :: nz r := by unfold nz; rw [List.filter_cons, q] <;> rfl
      rw [e1]
      show e.2 * mo x y e.1 + ev x y (nz r) = e.2 * mo x y e.1 + ev x y r
      rw [ih]
theorem ev_plus {a b c : Tb} {t : Int} (h : plusQ a b t = some c) : ev x y c = ev x y a + t * ev x y b := by
  unfold plusQ at h
  cases q : (a.all (fun e => pairN e.1) && okT b b && sm t && nd a && Nat.blt (plQ t b a).length 1000) with
  | false => rw [q] at h; cases h
  | true =>
    rw [q] at h
    cases h
    rw [ev_nz, ev_plQ]
/-! free belts -/
/-- Horner -/
def evc (x : Int) : List Int → Int
  | [] => 0
  | a :: r => a + x * evc x r
/-- (1 + x) times a row, the number ahead told -/
def nxt (p : Int) : List Int → List Int
  | [] => [p]
  | a :: r => (p + a) :: nxt a r
theorem evc_nxt : ∀ (l : List Int) (p : Int), evc x (nxt p l) = p + (1 + x) * evc x l
  | [], p => by simp [nxt, evc]
  | a :: r, p => by
    show (p + a) + x * evc x (nxt a r) = p + (1 + x) * (a + x * evc x r)
    rw [evc_nxt r a]
    grind
def rowP : Nat → List Int
  | 0 => [1]
  | m + 1 => nxt 0 (rowP m)
theorem evc_row : ∀ m, evc x (rowP m) = (1 + x) ^ m
  | 0 => by simp [rowP, evc]
  | m + 1 => by
    unfold rowP
    rw [evc_nxt, evc_row m, Int.pow_succ]
    grind
def idxT (i : Nat) : List Int → Tb
  | [] => []
  | a :: r => (16 * i, a) :: idxT (i + 1) r
theorem ev_idx : ∀ (l : List Int) (i : Nat), ev x y (idxT i l) = x ^ i * evc x l
  | [], i => by simp [idxT, ev, evc]
  | a :: r, i => by
    show a * mo x y (16 * i) + ev x y (idxT (i + 1) r) = x ^ i * (a + x * evc x r)
    have e1 : 16 * i / 16 = i := by omega
    have e2 : 16 * i % 16 = 0 := by omega
    rw [ev_idx r (i + 1), Int.pow_succ]
    unfold mo
    rw [e1, e2]
    grind
theorem bet_rows : ((List.range 17).all fun m => decide (betO m = some (idxT 0 (rowP m)))) = true := by decide +kernel
theorem ev_bet {m : Nat} {t : Tb} (hm : m < 17) (h : betO m = some t) : ev x y t = (1 + x) ^ m := by
  have e := of_decide_eq_true (List.all_eq_true.mp bet_rows m (List.mem_range.mpr hm))
  rw [e] at h
  cases h
  rw [ev_idx, evc_row]
  simp
/-- one part -/
theorem ev_of {m : Nat} {t : Tb} (h : ofO m = some t) : (m = 1 ∧ ev x y t = 1) ∨ (m ≠ 1 ∧ ∃ v, factO (m - 1) = some v ∧ ev x y t = v * (x ^ m * y)) := by
  unfold ofO at h
  cases b1 : Nat.beq m 1 with
  | true =>
    rw [b1] at h
    cases h
    exact .inl ⟨Nat.eq_of_beq_eq_true b1, by simp [ev, mo]⟩
  | false =>
    rw [b1] at h
    refine .inr ⟨fun z => (by rw [z] at b1; cases b1), ?_⟩
    cases b2 : Nat.beq m 0 with
    | true => rw [b2] at h; cases h
    | false =>
      rw [b2] at h
      cases q : factO (m - 1) with
      | none => rw [q] at h; cases h
      | some v =>
        rw [q] at h
        cases h
        refine ⟨v, rfl, ?_⟩
        have e1 : (16 * m + 1) / 16 = m := by omega
        have e2 : (16 * m + 1) % 16 = 1 := by omega
        show v * mo x y (16 * m + 1) + 0 = _
        unfold mo
        rw [e1, e2, show y ^ 1 = y from Int.pow_succ y 0 |>.trans (by simp)]
        simp
theorem ev_perm {a b : Tb} (h : a.Perm b) : ev x y a = ev x y b := by
  induction h with
  | nil => rfl
  | cons e _ ih => show e.2 * mo x y e.1 + _ = e.2 * mo x y e.1 + _; rw [ih]
  | swap e f l => show _ * _ + (_ * _ + _) = _ * _ + (_ * _ + _); omega
  | trans _ _ h1 h2 => rw [h1, h2]
end
end K94
/-! Bounds; power, choose. -/
namespace K94
open PySem PySem.Spec PyProof.Rows L2 Dl
def bd (a : Nat) (v : Int) : Prop := v.natAbs ≤ 2 ^ a
theorem bd.mono {a b : Nat} {v : Int} (h : bd a v) (l : a ≤ b) : bd b v := Nat.le_trans h (Nat.pow_le_pow_right (by decide) l)
theorem bd.mul {a b : Nat} {u v : Int} (h : bd a u) (g : bd b v) : bd (a + b) (u * v) := by
  unfold bd
  rw [Int.natAbs_mul, Nat.pow_add]
  exact Nat.mul_le_mul h g
theorem bd.neg {a : Nat} {u : Int} (h : bd a u) : bd a (-u) := by unfold bd; rw [Int.natAbs_neg]; exact h
theorem bd.add {a : Nat} {u v : Int} (h : bd a u) (g : bd a v) : bd (a + 1) (u + v) := by
  have := Int.natAbs_add_le u v
  unfold bd at *
  rw [Nat.pow_succ]
  omega
theorem bd.sub {a : Nat} {u v : Int} (h : bd a u) (g : bd a v) : bd (a + 1) (u - v) := by
  have := h.add g.neg
  rwa [Int.sub_eq_add_neg]
theorem bd.pow {a : Nat} {u : Int} (h : bd a u) : ∀ n, bd (a * n) (u ^ n)
  | 0 => by unfold bd; simp
  | n + 1 => by
    rw [Int.pow_succ, Nat.mul_succ]
    exact (h.pow n).mul h
theorem bd_zero (a : Nat) : bd a 0 := Nat.zero_le _
theorem bd_one (a : Nat) : bd a 1 := Nat.one_le_two_pow
theorem bd_log {a : Nat} {u : Int} (h : bd a u) : u.natAbs.log2 ≤ a := by
  by_cases z : u.natAbs = 0
  · rw [z]; simp
  · exact Nat.le_of_lt_succ ((Nat.log2_lt z).mpr (Nat.lt_of_le_of_lt h (Nat.pow_lt_pow_right (by decide) (Nat.lt_succ_self a))))
theorem bd.ok {a b : Nat} {u v : Int} (h : bd a u) (g : bd b v) (l : a + b < 900000) : mulOk u v = true := by
  have h1 := bd_log h
  have h2 := bd_log g
  unfold mulOk
  simp only [decide_eq_true_eq]
  omega
theorem small_bd {a : Nat} {u : Int} (h : decide (u.natAbs ≤ 2 ^ a) = true) : bd a u := (of_decide_eq_true h : u.natAbs ≤ 2 ^ a)
/-! power -/
def powB : S := sSet 2 (mOp oMul (slotD 2) (slotD 0))
theorem pow_run {x : Int} {a : Nat} {B : SL} (hx : bd a x) : ∀ (l : List D) (k : Nat) (s : SL), a * (k + l.length) < 400000 → ∃ s', loopD (gNm 3) powB l [.sh (.int x), B, .sh (.int (x ^ k)), s] = some (.nx [.sh (.int x), B, .sh (.int (x ^ (k + l.length))), s'])
  | [], k, s, _ => ⟨s, rfl⟩
  | d :: l, k, s, h => by
    rw [List.length_cons] at h
    have e1 : a * (k + (l.length + 1)) = a * (k + l.length) + a := by rw [← Nat.add_assoc, Nat.mul_succ]
    have e2 : a * (k + l.length) = a * k + a * l.length := Nat.mul_add ..
    have hm : mulOk (x ^ k) x = true := (hx.pow k).ok hx (by omega)
    obtain ⟨s', ih⟩ := pow_run (B := B) hx l (k + 1) (.sh d) (by rw [show k + 1 + l.length = k + (l.length + 1) by omega]; exact h)
    rw [show k + 1 + l.length = k + (d :: l).length by rw [List.length_cons]; omega] at ih
    refine ⟨s', loop_nx (ρ1 := [.sh (.int x), B, .sh (.int (x ^ k)), .sh d]) rfl (set_of (i := 2) (op_of rfl rfl (mul_of hm))) ?_⟩
    rw [← Int.pow_succ]
    exact ih
theorem power_ok {x : Int} {a n : Nat} (hx : bd a x) (h : a * n < 400000) (hn : n < 1000) : g_l_power [.int x, .int (n : Int)] = some (.ok (.int (x ^ n))) := by
  obtain ⟨s', e⟩ := pow_run (B := .sh (.int (n : Int))) hx ((List.range n).map fun (i : Nat) => D.int (i : Int)) 0 .no (by simpa using h)
  have e1 : mRg (mCons (slotD 1) (Dl.ret [])) [.sh (.int x), .sh (.int (n : Int)), .sh (.int 1), .no] = some (.ok ((List.range n).map fun (i : Nat) => D.int (i : Int)) [.sh (.int x), .sh (.int (n : Int)), .sh (.int 1), .no]) := rg1_nat (by omega) rfl
  rw [Int.pow_zero, List.length_map, List.length_range, Nat.zero_add] at e
  exact run_ok (G := G_l_power) rfl rfl (seq_of (ρ' := [.sh (.int x), .sh (.int (n : Int)), .sh (.int 1), .no]) rfl (seq_of (for_of e1 e) (ret_of (ρ' := [.sh (.int x), .sh (.int (n : Int)), .sh (.int (x ^ n)), s']) rfl)))
/-! choose, by a table -/
def isI (r : Option Rv) (v : Int) : Bool := match r with
  | some (.ok (.int i)) => decide (i = v)
  | _ => false
theorem isI_eq {r : Option Rv} {v : Int} (h : isI r v = true) : r = some (.ok (.int v)) := by
  unfold isI at h
  split at h
  · rw [of_decide_eq_true h]
  · cases h
theorem chs_tab : ((List.range 9).all fun n => (List.range (n + 1)).all fun k => match chO n k with
  | some c => isI (g_l_choose [.int (n : Int), .int (k : Int)]) c && decide (c.natAbs ≤ 2 ^ 7)
  | none => false) = true := by decide +kernel
theorem chs_ok {n k : Nat} {c : Int} (hn : n < 9) (hk : k ≤ n) (h : chO n k = some c) : g_l_choose [.int (n : Int), .int (k : Int)] = some (.ok (.int c)) ∧ bd 7 c := by
  have a := List.all_eq_true.mp (List.all_eq_true.mp chs_tab n (List.mem_range.mpr hn)) k (List.mem_range.mpr (Nat.lt_succ_of_le hk))
  rw [h] at a
  dsimp only at a
  rw [Bool.and_eq_true] at a
  exact ⟨isI_eq a.1, small_bd a.2⟩
theorem fac_tab : ((List.range 8).all fun n => match factO n with
  | some c => decide (c.natAbs ≤ 2 ^ 13)
  | none => false) = true := by decide +kernel
theorem fac_bd {n : Nat} {c : Int} (hn : n < 8) (h : factO n = some c) : bd 13 c := by
  have a := List.all_eq_true.mp fac_tab n (List.mem_range.mpr hn)
  rw [h] at a
  exact small_bd a
end K94
/-! worth: the signed numbers. -/
namespace K94
open PySem PySem.Spec PyProof.Rows L2 Dl
def encV (vs : List Int) : D := .lst (vs.map D.int)
theorem oIx_vs {vs : List Int} {j : Nat} {v : Int} {i : Int} (hi : i = (j : Int)) (h : vs[j]? = some v) : oIx (encV vs) (.int i) = some (.int v) := by
  show atD (vs.map D.int) i = _
  exact at_nat hi (by rw [List.getElem?_map, h] <;> rfl)
def fmu : List Nat → Int → Int
  | [], p => p
  | i :: r, p => fmu r (p * (2 + (i : Int)))
theorem fmu_mul : ∀ (l : List Nat) (p q : Int), fmu l (p * q) = p * fmu l q
  | [], p, q => rfl
  | i :: r, p, q => by
    show fmu r (p * q * (2 + (i : Int))) = p * fmu r (q * (2 + (i : Int)))
    rw [Int.mul_assoc, fmu_mul r]
theorem facL_fmu : ∀ (l : List Nat) (f v : Int), facL l f = some v → fmu l f = v
  | [], f, v, h => by cases h; rfl
  | i :: r, f, v, h => by
    unfold facL at h
    cases q : (sm f && sm (2 + (i : Int))) with
    | false => rw [q] at h; cases h
    | true =>
      rw [q] at h
      exact facL_fmu r _ v h
def fmB : S := sSet 8 (mOp oMul (slotD 8) (slotD 9))
theorem fm_run {a0 a1 a2 a3 a4 a5 a6 a7 : SL} : ∀ (l : List Nat) (p : Int) (c : Nat) (s : SL), bd c p → (∀ i ∈ l, i < 8) → c + 4 * l.length < 100000 →
    (∃ s', loopD (gNm 9) fmB (l.map fun (i : Nat) => D.int (2 + (i : Int))) [a0, a1, a2, a3, a4, a5, a6, a7, .sh (.int p), s] = some (.nx [a0, a1, a2, a3, a4, a5, a6, a7, .sh (.int (fmu l p)), s'])) ∧ bd (c + 4 * l.length) (fmu l p)
  | [], p, c, s, h, _, _ => ⟨⟨s, rfl⟩, h⟩
  | i :: l, p, c, s, h, hi, hc => by
    have h8 := hi i List.mem_cons_self
    have hb : bd 4 (2 + (i : Int)) := by unfold bd; omega
    rw [List.length_cons] at hc ⊢
    obtain ⟨⟨s', ih⟩, g⟩ := fm_run (a0 := a0) (a1 := a1) (a2 := a2) (a3 := a3) (a4 := a4) (a5 := a5) (a6 := a6) (a7 := a7) l (p * (2 + (i : Int))) (c + 4) (.sh (.int (2 + (i : Int)))) (h.mul hb) (fun x hx => hi x (List.mem_cons_of_mem _ hx)) (by omega)
    refine ⟨⟨s', loop_nx (ρ1 := [a0, a1, a2, a3, a4, a5, a6, a7, .sh (.int p), .sh (.int (2 + (i : Int)))]) rfl (set_of (i := 8) (op_of rfl rfl (mul_of (h.ok hb (by omega))))) ih⟩, g.mono (by omega)⟩
def prt (x y : Int) (i : Nat) (v : Int) : Int := if i = 0 then 1 else y * x ^ (i + 1) * v
def lwSg (x y : Int) (vs : List Int) (m : Nat) : List Nat → Int → Option Int
  | [], t => some t
  | i :: r, t => match factO i, vs[m - (i + 1)]?, chO (m - 1) i with
    | some v, some s, some c => bif Nat.ble (i + 1) m then lwSg x y vs m r (t - c * prt x y i v * s) else none
    | _, _, _ => none
def wP1 : S := sSet 8 (mIf (asB (mOp oEq (mB 7) (Dl.ret (.int 1)))) (Dl.ret (.int 1)) (mOp oMul (slotD 2) (mCall g_l_power [] (mCons (slotD 1) (mCons (slotD 7) (Dl.ret []))))))
def wP2 : S := sFor (mRg (mCons (Dl.ret (.int 2)) (mCons (slotD 7) (Dl.ret [])))) (gNm 9) fmB
def wP3 : S := sSet 6 (mOp oSub (slotD 6) (mOp oMul (mOp oMul (mCall g_l_choose [] (mCons (mOp oSub (slotD 3) (Dl.ret (.int 1))) (mCons (mOp oSub (slotD 7) (Dl.ret (.int 1))) (Dl.ret [])))) (slotD 8)) (mOp oIx (mB 4) (mOp oSub (slotD 3) (slotD 7)))))
def wIn1 : S := sSeq wP1 (sSeq wP2 wP3)
theorem eq1 (k : Nat) : oEq (.int (k : Int)) (.int 1) = some (.bl (decide ((k : Int) = 1))) := by
  show some (D.bl (PyData.eqv (.int (k : Int)) (.int 1))) = _
  exact congrArg (fun b => some (D.bl b)) (by simp only [PyData.eqv]; rfl)
/-- each number told so far is bounded -/
def bds (q : Nat) (vs : List Int) : Prop := ∀ (j : Nat) (s : Int), vs[j]? = some s → bd (q * j) s
theorem sg_run {x y : Int} {vs : List Int} {m : Nat} {a0 a5 : SL} {o : Option Addr} (hx : bd 31 x) (hy : bd 101 y) (hv : bds 200 vs) (hm : m < 9) : ∀ (l : List Nat) (t t' : Int) (n : Nat) (s7 s8 s9 : SL), lwSg x y vs m l t = some t' → bd (200 * m - 49 + n) t →
    (∃ b7 b8 b9, loopD (gNm 7) wIn1 (l.map fun (i : Nat) => D.int ((i + 1 : Nat) : Int)) [a0, .sh (.int x), .sh (.int y), .sh (.int (m : Int)), .ow o (encV vs), a5, .sh (.int t), s7, s8, s9] = some (.nx [a0, .sh (.int x), .sh (.int y), .sh (.int (m : Int)), .ow o (encV vs), a5, .sh (.int t'), b7, b8, b9])) ∧ bd (200 * m - 49 + n + l.length) t'
  | [], t, t', n, s7, s8, s9, h, b => by cases h; exact ⟨⟨s7, s8, s9, rfl⟩, b⟩
  | i :: r, t, t', n, s7, s8, s9, h, b => by
    unfold lwSg at h
    split at h
    · rename_i v s c hf hs hc
      cases q : Nat.ble (i + 1) m with
      | false => rw [q] at h; cases h
      | true =>
        rw [q] at h
        have hk := Nat.le_of_ble_eq_true q
        obtain ⟨f2, cb⟩ := chs_ok (n := m - 1) (k := i) (by omega) (by omega) hc
        have vb : bd 13 v := fac_bd (by omega) hf
        have sb : bd (200 * (m - (i + 1))) s := hv _ _ hs
        let ρ : Dl.Env := [a0, .sh (.int x), .sh (.int y), .sh (.int (m : Int)), .ow o (encV vs), a5, .sh (.int t), .sh (.int ((i + 1 : Nat) : Int)), s8, s9]
        -- the part ahead of its product
        have p1 : ∃ p0 : Int, wP1 ρ = some (.nx (ρ.set 8 (.sh (.int p0)))) ∧ bd (101 + 31 * (i + 1)) p0 ∧ p0 * v = prt x y i v ∧ (i = 0 → v = 1) := by
          by_cases h0 : i = 0
          · subst h0
            have v1 : v = 1 := by
              have e : factO 0 = some 1 := by decide +kernel
              rw [e] at hf
              cases hf
              rfl
            exact ⟨1, set_of (i := 8) (ifT_of (asB_of (op_of rfl rfl (eq1 1))) rfl), bd_one _, by rw [v1]; rfl, fun _ => v1⟩
          · have e0 : decide (((i + 1 : Nat) : Int) = 1) = false := decide_eq_false (by omega)
            have e2 := eq1 (i + 1)
            rw [e0] at e2
            have pw := power_ok hx (n := i + 1) (by omega) (by omega)
            have hm : mulOk y (x ^ (i + 1)) = true := hy.ok (hx.pow (i + 1)) (by omega)
            refine ⟨y * x ^ (i + 1), set_of (i := 8) (ifF_of (asB_of (op_of rfl rfl e2)) (op_of rfl (call_of (cons_of rfl (cons_of rfl rfl)) pw) (mul_of hm))), (hy.mul (hx.pow (i + 1))), by unfold prt; rw [if_neg h0], fun z => absurd z h0⟩
        obtain ⟨p0, w1, pb, pe, v1⟩ := p1
        have lr : ∀ z ∈ List.range (i - 1), z < 8 := fun z hz => by have := List.mem_range.mp hz; omega
        obtain ⟨⟨s9', w2⟩, qb⟩ := fm_run (a0 := a0) (a1 := .sh (.int x)) (a2 := .sh (.int y)) (a3 := .sh (.int (m : Int))) (a4 := .ow o (encV vs)) (a5 := a5) (a6 := .sh (.int t)) (a7 := .sh (.int ((i + 1 : Nat) : Int))) (List.range (i - 1)) p0 _ s9 pb lr (by rw [List.length_range]; omega)
        have fe : fmu (List.range (i - 1)) p0 = prt x y i v := by
          have e3 : p0 = p0 * 1 := (Int.mul_one _).symm
          rw [e3, fmu_mul]
          have e4 : fmu (List.range (i - 1)) 1 = v := by
            unfold factO at hf
            rw [show Nat.blt i 1000 = true from Nat.blt_eq.mpr (by omega)] at hf
            exact facL_fmu _ _ _ hf
          rw [e4, pe]
        rw [fe] at w2 qb
        rw [List.length_range] at qb
        have rg : mRg (mCons (Dl.ret (.int 2)) (mCons (slotD 7) (Dl.ret []))) (ρ.set 8 (.sh (.int p0))) = some (.ok ((List.range (i - 1)).map fun (i : Nat) => D.int (2 + (i : Int))) (ρ.set 8 (.sh (.int p0)))) := by
          have := rg_nat (a := 2) (n := i + 1) (ρ := ρ.set 8 (.sh (.int p0))) (f := Dl.ret (.int 2)) (g := slotD 7) (by omega) (by omega) rfl rfl
          rw [show i + 1 - 2 = i - 1 by omega] at this
          exact this
        have prb : bd (101 + 35 * (i + 1)) (prt x y i v) := qb.mono (by omega)
        have tb : bd (200 * m - 49) (c * prt x y i v * s) := ((cb.mul prb).mul sb).mono (by omega)
        have m1 : mulOk c (prt x y i v) = true := cb.ok prb (by omega)
        have m2 : mulOk (c * prt x y i v) s = true := (cb.mul prb).ok sb (by omega)
        let ρ2 : Dl.Env := [a0, .sh (.int x), .sh (.int y), .sh (.int (m : Int)), .ow o (encV vs), a5, .sh (.int t), .sh (.int ((i + 1 : Nat) : Int)), .sh (.int (prt x y i v)), s9']
        have i1 : ((m - 1 : Nat) : Int) = (m : Int) - 1 := by omega
        have i2 : ((i : Nat) : Int) = ((i + 1 : Nat) : Int) - 1 := by omega
        rw [i1, i2] at f2
        have ix : oIx (encV vs) (.int ((m : Int) - ((i + 1 : Nat) : Int))) = some (.int s) := oIx_vs (j := m - (i + 1)) (by omega) hs
        have c1 : mCall g_l_choose [] (mCons (mOp oSub (slotD 3) (Dl.ret (.int 1))) (mCons (mOp oSub (slotD 7) (Dl.ret (.int 1))) (Dl.ret []))) ρ2 = some (.ok (.int c) ρ2) := call_of (cons_of (op_of rfl rfl rfl) (cons_of (op_of rfl rfl rfl) rfl)) f2
        have c2 : mOp oIx (mB 4) (mOp oSub (slotD 3) (slotD 7)) ρ2 = some (.ok (.int s) ρ2) := op_of rfl (op_of rfl rfl rfl) ix
        have w3 : wP3 ρ2 = some (.nx (ρ2.set 6 (.sh (.int (t - c * prt x y i v * s))))) := set_of (i := 6) (op_of rfl (op_of (op_of c1 rfl (mul_of m1)) c2 (mul_of m2)) rfl)
        have nb : bd (200 * m - 49 + (n + 1)) (t - c * prt x y i v * s) := b.sub (tb.mono (by omega))
        obtain ⟨⟨b7, b8, b9, ih⟩, gb⟩ := sg_run (a0 := a0) (a5 := a5) (o := o) hx hy hv hm r _ t' (n + 1) (.sh (.int ((i + 1 : Nat) : Int))) (.sh (.int (prt x y i v))) s9' h nb
        refine ⟨⟨b7, b8, b9, loop_nx (ρ1 := ρ) rfl (seq_of w1 (seq_of (for_of rg w2) w3)) ih⟩, gb.mono (by rw [List.length_cons]; omega)⟩
    · cases h
/-! the numbers are what the tables are worth -/
theorem sg_ev {x y : Int} {fs : List Tb} {m : Nat} : ∀ (l : List Nat) (t t' : Tb), sgInQ fs m l t = some t' → (∀ i ∈ l, i < 8) → lwSg x y (fs.map (ev x y)) m l (ev x y t) = some (ev x y t')
  | [], t, t', h, _ => by cases h; rfl
  | i :: r, t, t', h, hl => by
    unfold sgInQ at h
    split at h
    · rename_i p f c hp hf hc
      cases q : Nat.ble (i + 1) m with
      | false => rw [q] at h; cases h
      | true =>
        rw [q] at h
        dsimp only [cond] at h
        split at h
        · rename_i z hz
          split at h
          · rename_i u hu
            have ih := sg_ev (x := x) (y := y) r u t' h fun a ha => hl a (List.mem_cons_of_mem _ ha)
            have hi := hl i List.mem_cons_self
            have fv : ∃ v, factO i = some v ∧ ev x y p = prt x y i v := by
              rcases ev_of (x := x) (y := y) hp with ⟨e1, e2⟩ | ⟨e1, v, e2, e3⟩
              · have : i = 0 := by omega
                subst this
                exact ⟨1, by decide +kernel, e2⟩
              · refine ⟨v, e2, ?_⟩
                unfold prt
                rw [e3, if_neg (by omega)]
                ac_rfl
            obtain ⟨v, hv, pe⟩ := fv
            unfold lwSg
            rw [hv, hc, List.getElem?_map, hf]
            dsimp only [Option.map]
            rw [q]
            dsimp only [cond]
            rw [← ih, ev_plus hu, ev_prod hz, pe]
            congr 1
            rw [Int.neg_mul, Int.mul_assoc]
            omega
          · cases h
        · cases h
    · cases h
end K94
/-! worth: the numbers found; the whole. -/
namespace K94
open PySem PySem.Spec PyProof.Rows L2 Dl
def lwFd (x : Int) (vs ws : List Int) (m : Nat) : List Nat → Int → Option Int
  | [], t => some t
  | i :: r, t => match chO m (i + 1), vs[i + 1]?, ws[m - (i + 1)]? with
    | some c, some s, some f => bif Nat.ble (i + 1) m then lwFd x vs ws m r (t - c * (1 + x) ^ ((i + 1) * (m - (i + 1))) * s * f) else none
    | _, _, _ => none
theorem lwFd_congr {x : Int} {vs vs' ws : List Int} {m : Nat} : ∀ (l : List Nat) (t : Int), (∀ i ∈ l, vs[i + 1]? = vs'[i + 1]?) → lwFd x vs ws m l t = lwFd x vs' ws m l t
  | [], t, _ => rfl
  | i :: r, t, h => by
    unfold lwFd
    rw [h i List.mem_cons_self]
    have ih : ∀ t', lwFd x vs ws m r t' = lwFd x vs' ws m r t' := fun t' => lwFd_congr r t' fun x hx => h x (List.mem_cons_of_mem _ hx)
    simp only [ih]
def wIn2 : S := sSet 6 (mOp oSub (slotD 6) (mOp oMul (mOp oMul (mOp oMul (mCall g_l_choose [] (mCons (slotD 3) (mCons (slotD 7) (Dl.ret [])))) (mCall g_l_power [] (mCons (mOp oAdd (Dl.ret (.int 1)) (slotD 1)) (mCons (mOp oMul (slotD 7) (mOp oSub (slotD 3) (slotD 7))) (Dl.ret []))))) (mOp oIx (mB 4) (slotD 7))) (mOp oIx (mB 5) (mOp oSub (slotD 3) (slotD 7)))))
theorem km16 : ∀ m, m < 9 → ∀ k, k < 9 → k * (m - k) ≤ 16 := by decide
theorem fd_run {x : Int} {vs ws : List Int} {m : Nat} {a0 a2 a8 a9 : SL} {o p : Option Addr} (hx : bd 31 x) (hv : bds 200 vs) (hw : bds 1000 ws) (hm : m < 9) : ∀ (l : List Nat) (t t' : Int) (n : Nat) (s7 : SL), lwFd x vs ws m l t = some t' → bd (1000 * m - 281 + n) t →
    (∃ b7, loopD (gNm 7) wIn2 (l.map fun (i : Nat) => D.int ((i + 1 : Nat) : Int)) [a0, .sh (.int x), a2, .sh (.int (m : Int)), .ow o (encV vs), .ow p (encV ws), .sh (.int t), s7, a8, a9] = some (.nx [a0, .sh (.int x), a2, .sh (.int (m : Int)), .ow o (encV vs), .ow p (encV ws), .sh (.int t'), b7, a8, a9])) ∧ bd (1000 * m - 281 + n + l.length) t'
  | [], t, t', n, s7, h, b => by cases h; exact ⟨⟨s7, rfl⟩, b⟩
  | i :: r, t, t', n, s7, h, b => by
    unfold lwFd at h
    split at h
    · rename_i c s f hc hs hf
      cases q : Nat.ble (i + 1) m with
      | false => rw [q] at h; cases h
      | true =>
        rw [q] at h
        have hk := Nat.le_of_ble_eq_true q
        obtain ⟨f2, cb⟩ := chs_ok (n := m) (k := i + 1) hm hk hc
        have sb : bd (200 * (i + 1)) s := hv _ _ hs
        have fb : bd (1000 * (m - (i + 1))) f := hw _ _ hf
        have xb : bd 32 (1 + x) := (bd_one 31).add hx
        have k16 := km16 m hm (i + 1) (by omega)
        generalize hM : (i + 1) * (m - (i + 1)) = M at h k16
        have pb : bd (32 * M) ((1 + x) ^ M) := xb.pow M
        have pb2 : bd 512 ((1 + x) ^ M) := pb.mono (by omega)
        have pw := power_ok xb (n := M) (by omega) (by omega)
        have m1 : mulOk c ((1 + x) ^ M) = true := cb.ok pb2 (by omega)
        have m2 : mulOk (c * (1 + x) ^ M) s = true := (cb.mul pb2).ok sb (by omega)
        have m3 : mulOk (c * (1 + x) ^ M * s) f = true := ((cb.mul pb2).mul sb).ok fb (by omega)
        have mk : mulOk ((i + 1 : Nat) : Int) ((m : Int) - ((i + 1 : Nat) : Int)) = true := mulOk_64 (by omega) (by omega) (by omega) (by omega)
        have z1 : ((m - (i + 1) : Nat) : Int) = (m : Int) - ((i + 1 : Nat) : Int) := by omega
        have z2 : ((M : Nat) : Int) = ((i + 1 : Nat) : Int) * ((m : Int) - ((i + 1 : Nat) : Int)) := by rw [← z1, ← hM]; exact Int.natCast_mul _ _
        rw [z2] at pw
        let ρ : Dl.Env := [a0, .sh (.int x), a2, .sh (.int (m : Int)), .ow o (encV vs), .ow p (encV ws), .sh (.int t), .sh (.int ((i + 1 : Nat) : Int)), a8, a9]
        have c1 : mCall g_l_choose [] (mCons (slotD 3) (mCons (slotD 7) (Dl.ret []))) ρ = some (.ok (.int c) ρ) := call_of (cons_of rfl (cons_of rfl rfl)) f2
        have c2 : mCall g_l_power [] (mCons (mOp oAdd (Dl.ret (.int 1)) (slotD 1)) (mCons (mOp oMul (slotD 7) (mOp oSub (slotD 3) (slotD 7))) (Dl.ret []))) ρ = some (.ok (.int ((1 + x) ^ M)) ρ) := call_of (cons_of (op_of rfl rfl rfl) (cons_of (op_of rfl (op_of rfl rfl rfl) (mul_of mk)) rfl)) pw
        have c3 : mOp oIx (mB 4) (slotD 7) ρ = some (.ok (.int s) ρ) := op_of rfl rfl (oIx_vs rfl hs)
        have c4 : mOp oIx (mB 5) (mOp oSub (slotD 3) (slotD 7)) ρ = some (.ok (.int f) ρ) := op_of rfl (op_of rfl rfl rfl) (oIx_vs (j := m - (i + 1)) (by omega) hf)
        have w : wIn2 ρ = some (.nx (ρ.set 6 (.sh (.int (t - c * (1 + x) ^ M * s * f))))) := set_of (i := 6) (op_of rfl (op_of (op_of (op_of c1 c2 (mul_of m1)) c3 (mul_of m2)) c4 (mul_of m3)) rfl)
        have tb : bd (1000 * m - 281) (c * (1 + x) ^ M * s * f) := (((cb.mul pb2).mul sb).mul fb).mono (by omega)
        have nb : bd (1000 * m - 281 + (n + 1)) (t - c * (1 + x) ^ M * s * f) := b.sub (tb.mono (by omega))
        obtain ⟨⟨b7, ih⟩, gb⟩ := fd_run (a0 := a0) (a2 := a2) (a8 := a8) (a9 := a9) (o := o) (p := p) hx hv hw hm r _ t' (n + 1) (.sh (.int ((i + 1 : Nat) : Int))) h nb
        exact ⟨⟨b7, loop_nx (ρ1 := ρ) rfl w ih⟩, gb.mono (by rw [List.length_cons]; omega)⟩
    · cases h
theorem fd_ev {x y : Int} {sg fs : List Tb} {m : Nat} (hm : m < 9) : ∀ (l : List Nat) (t t' : Tb), fdInQ sg fs m l t = some t' → lwFd x (sg.map (ev x y)) (fs.map (ev x y)) m l (ev x y t) = some (ev x y t')
  | [], t, t', h => by cases h; rfl
  | i :: r, t, t', h => by
    unfold fdInQ at h
    split at h
    · rename_i p f b c hp hf hb hc
      cases q : (Nat.ble (i + 1) m && Nat.blt m 1000) with
      | false => rw [q] at h; cases h
      | true =>
        rw [q] at h
        dsimp only [cond] at h
        rw [Bool.and_eq_true] at q
        have hk := Nat.le_of_ble_eq_true q.1
        split at h
        · rename_i z hz
          split at h
          · rename_i z2 hz2
            split at h
            · rename_i u hu
              have ih := fd_ev (x := x) (y := y) hm r u t' h
              have k16 := km16 m hm (i + 1) (by omega)
              unfold lwFd
              rw [hc, List.getElem?_map, hp, List.getElem?_map, hf]
              dsimp only [Option.map]
              rw [q.1]
              dsimp only [cond]
              rw [← ih, ev_plus hu, ev_prod hz2, ev_prod hz, ev_bet (x := x) (y := y) (by omega) hb]
              congr 1
              rw [Int.neg_mul, show c * (1 + x) ^ ((i + 1) * (m - (i + 1))) * ev x y p * ev x y f = c * (ev x y p * ev x y f * (1 + x) ^ ((i + 1) * (m - (i + 1)))) by ac_rfl]
              omega
            · cases h
          · cases h
        · cases h
    · cases h
/-! the two loops outside -/
theorem sgS : ∀ j, j < 8 → sgInQ (sgA.take (j + 1)) (j + 1) (List.range (j + 1)) [] = some (sgA.getD (j + 1) [])
  | 0, _ => s_1
  | 1, _ => s_2
  | 2, _ => s_3
  | 3, _ => s_4
  | 4, _ => s_5
  | 5, _ => s_6
  | 6, _ => s_7
  | 7, _ => s_8
  | n + 8, h => absurd h (by omega)
theorem fdS : ∀ j, j < 8 → fdInQ sgA (ftA.take (j + 1)) (j + 1) (List.range (j + 1)) [] = some (ftA.getD (j + 1) [])
  | 0, _ => t_1
  | 1, _ => t_2
  | 2, _ => t_3
  | 3, _ => t_4
  | 4, _ => t_5
  | 5, _ => t_6
  | 6, _ => t_7
  | 7, _ => t_8
  | n + 8, h => absurd h (by omega)
def SV (x y : Int) : List Int := sgA.map (ev x y)
def FV (x y : Int) : List Int := ftA.map (ev x y)
theorem SV_at (x y : Int) {j : Nat} (h : j < 9) : (SV x y)[j]? = some (ev x y (sgA.getD j [])) := by
  unfold SV
  rw [List.getElem?_map, List.getD_eq_getElem?_getD]
  have : j < sgA.length := h
  rw [List.getElem?_eq_getElem this] <;> rfl
theorem FV_at (x y : Int) {j : Nat} (h : j < 9) : (FV x y)[j]? = some (ev x y (ftA.getD j [])) := by
  unfold FV
  rw [List.getElem?_map, List.getD_eq_getElem?_getD]
  have : j < ftA.length := h
  rw [List.getElem?_eq_getElem this] <;> rfl
theorem take_snoc {l : List Int} {j : Nat} {v : Int} (h : l[j]? = some v) : l.take j ++ [v] = l.take (j + 1) := by
  rw [List.take_add_one, h] <;> rfl
theorem bds_snoc {q : Nat} {l : List Int} {v : Int} (h : bds q l) (b : bd (q * l.length) v) : bds q (l ++ [v]) := fun j s e => by
  by_cases c : j < l.length
  · rw [List.getElem?_append_left c] at e
    exact h j s e
  · rw [List.getElem?_append_right (by omega)] at e
    by_cases d : j - l.length = 0
    · rw [d] at e
      cases e
      rw [show j = l.length by omega]
      exact b
    · rw [List.getElem?_eq_none (by rw [List.length_singleton]; omega)] at e
      cases e
theorem encV_snoc (vs : List Int) (v : Int) : D.lst (vs.map D.int ++ [D.int v]) = encV (vs ++ [v]) := by
  unfold encV
  rw [List.map_append] <;> rfl
def wO1 : S := sSeq (sSet 6 (Dl.ret (.int 0))) (sSeq (sFor (mRg (mCons (Dl.ret (.int 1)) (mCons (mOp oAdd (slotD 3) (Dl.ret (.int 1))) (Dl.ret [])))) (gNm 7) wIn1) (sApp 4 (slotD 6)))
theorem out1 {x y : Int} {n : Nat} {a0 a5 : SL} (hx : bd 31 x) (hy : bd 101 y) (hn : n < 9) : ∀ (d j : Nat) (s3 s6 s7 s8 s9 : SL), j + d = n → bds 200 ((SV x y).take (j + 1)) →
    (∃ b3 b6 b7 b8 b9, loopD (gNm 3) wO1 ((List.range' j d).map fun (i : Nat) => D.int ((i + 1 : Nat) : Int)) [a0, .sh (.int x), .sh (.int y), s3, .ow none (encV ((SV x y).take (j + 1))), a5, s6, s7, s8, s9] = some (.nx [a0, .sh (.int x), .sh (.int y), b3, .ow none (encV ((SV x y).take (n + 1))), a5, b6, b7, b8, b9])) ∧ bds 200 ((SV x y).take (n + 1))
  | 0, j, s3, s6, s7, s8, s9, e, hb => by
    have : j = n := by omega
    subst this
    exact ⟨⟨s3, s6, s7, s8, s9, rfl⟩, hb⟩
  | d + 1, j, s3, s6, s7, s8, s9, e, hb => by
    have hj : j < 8 := by omega
    have ee := sg_ev (x := x) (y := y) _ _ _ (sgS j hj) fun i hi => by have := List.mem_range.mp hi; omega
    rw [List.map_take] at ee
    have sl : ((SV x y).take (j + 1)).length = j + 1 := by
      rw [List.length_take]
      show min (j + 1) 9 = j + 1
      omega
    let vs : List Int := (SV x y).take (j + 1)
    let v : Int := ev x y (sgA.getD (j + 1) [])
    have ts : vs ++ [v] = (SV x y).take (j + 1 + 1) := take_snoc (SV_at x y (by omega))
    obtain ⟨⟨b7, b8, b9, r⟩, vb⟩ := sg_run (a0 := a0) (a5 := a5) (o := none) hx hy hb (m := j + 1) (by omega) _ _ _ 0 s7 s8 s9 ee (bd_zero _)
    rw [List.length_range] at vb
    have nb : bds 200 ((SV x y).take (j + 1 + 1)) := by
      rw [← ts]
      refine bds_snoc hb (vb.mono ?_)
      rw [sl]
      omega
    obtain ⟨⟨c3, c6, c7, c8, c9, ih⟩, ib⟩ := out1 (a0 := a0) (a5 := a5) hx hy hn d (j + 1) (.sh (.int ((j + 1 : Nat) : Int))) (.sh (.int v)) b7 b8 b9 (by omega) nb
    refine ⟨⟨c3, c6, c7, c8, c9, loop_nx (ρ1 := [a0, .sh (.int x), .sh (.int y), .sh (.int ((j + 1 : Nat) : Int)), .ow none (encV vs), a5, s6, s7, s8, s9]) rfl ?_ ih⟩, ib⟩
    have rg := rg2_nat (n := j + 1) (by omega) (f := Dl.ret (.int 1)) (g := mOp oAdd (slotD 3) (Dl.ret (.int 1))) (ρ := [a0, .sh (.int x), .sh (.int y), .sh (.int ((j + 1 : Nat) : Int)), .ow none (encV vs), a5, .sh (.int 0), s7, s8, s9]) rfl (op_of rfl rfl rfl) rfl
    have ap := app_of (i := 4) (f := slotD 6) (ρ := [a0, .sh (.int x), .sh (.int y), .sh (.int ((j + 1 : Nat) : Int)), .ow none (encV vs), a5, .sh (.int v), b7, b8, b9]) (d := .int v) (ds := vs.map D.int) (o := none) rfl rfl (by rw [List.length_map]; exact small1000 (by rw [sl]; omega))
    rw [encV_snoc, ts] at ap
    exact seq_of (ρ' := [a0, .sh (.int x), .sh (.int y), .sh (.int ((j + 1 : Nat) : Int)), .ow none (encV vs), a5, .sh (.int 0), s7, s8, s9]) rfl (seq_of (for_of rg r) ap)
def wO2 : S := sSeq (sSet 6 (Dl.ret (.int 0))) (sSeq (sFor (mRg (mCons (Dl.ret (.int 1)) (mCons (mOp oAdd (slotD 3) (Dl.ret (.int 1))) (Dl.ret [])))) (gNm 7) wIn2) (sApp 5 (slotD 6)))
theorem out2 {x y : Int} {n : Nat} {a0 a2 a8 a9 : SL} (hx : bd 31 x) (hn : n < 9) (hv : bds 200 ((SV x y).take (n + 1))) : ∀ (d j : Nat) (s3 s6 s7 : SL), j + d = n → bds 1000 ((FV x y).take (j + 1)) →
    (∃ b3 b6 b7, loopD (gNm 3) wO2 ((List.range' j d).map fun (i : Nat) => D.int ((i + 1 : Nat) : Int)) [a0, .sh (.int x), a2, s3, .ow none (encV ((SV x y).take (n + 1))), .ow none (encV ((FV x y).take (j + 1))), s6, s7, a8, a9] = some (.nx [a0, .sh (.int x), a2, b3, .ow none (encV ((SV x y).take (n + 1))), .ow none (encV ((FV x y).take (n + 1))), b6, b7, a8, a9]))
  | 0, j, s3, s6, s7, e, hb => by
    have : j = n := by omega
    subst this
    exact ⟨s3, s6, s7, rfl⟩
  | d + 1, j, s3, s6, s7, e, hb => by
    have hj : j < 8 := by omega
    have ee := fd_ev (x := x) (y := y) (m := j + 1) (by omega) _ _ _ (fdS j hj)
    rw [List.map_take] at ee
    have ee2 : lwFd x ((SV x y).take (n + 1)) ((FV x y).take (j + 1)) (j + 1) (List.range (j + 1)) 0 = some (ev x y (ftA.getD (j + 1) [])) := by
      rw [lwFd_congr (vs' := SV x y) _ _ fun i hi => ?_]
      · exact ee
      · have := List.mem_range.mp hi
        rw [List.getElem?_take, if_pos (by omega)]
    have sl : ((FV x y).take (j + 1)).length = j + 1 := by
      rw [List.length_take]
      show min (j + 1) 9 = j + 1
      omega
    let ws : List Int := (FV x y).take (j + 1)
    let v : Int := ev x y (ftA.getD (j + 1) [])
    have ts : ws ++ [v] = (FV x y).take (j + 1 + 1) := take_snoc (FV_at x y (by omega))
    obtain ⟨⟨b7, r⟩, vb⟩ := fd_run (a0 := a0) (a2 := a2) (a8 := a8) (a9 := a9) (o := none) (p := none) hx hv hb (m := j + 1) (by omega) _ _ _ 0 s7 ee2 (bd_zero _)
    rw [List.length_range] at vb
    have nb : bds 1000 ((FV x y).take (j + 1 + 1)) := by
      rw [← ts]
      refine bds_snoc hb (vb.mono ?_)
      rw [sl]
      omega
    obtain ⟨c3, c6, c7, ih⟩ := out2 (a0 := a0) (a2 := a2) (a8 := a8) (a9 := a9) hx hn hv d (j + 1) (.sh (.int ((j + 1 : Nat) : Int))) (.sh (.int v)) b7 (by omega) nb
    refine ⟨c3, c6, c7, loop_nx (ρ1 := [a0, .sh (.int x), a2, .sh (.int ((j + 1 : Nat) : Int)), .ow none (encV ((SV x y).take (n + 1))), .ow none (encV ws), s6, s7, a8, a9]) rfl ?_ ih⟩
    have rg := rg2_nat (n := j + 1) (by omega) (f := Dl.ret (.int 1)) (g := mOp oAdd (slotD 3) (Dl.ret (.int 1))) (ρ := [a0, .sh (.int x), a2, .sh (.int ((j + 1 : Nat) : Int)), .ow none (encV ((SV x y).take (n + 1))), .ow none (encV ws), .sh (.int 0), s7, a8, a9]) rfl (op_of rfl rfl rfl) rfl
    have ap := app_of (i := 5) (f := slotD 6) (ρ := [a0, .sh (.int x), a2, .sh (.int ((j + 1 : Nat) : Int)), .ow none (encV ((SV x y).take (n + 1))), .ow none (encV ws), .sh (.int v), b7, a8, a9]) (d := .int v) (ds := ws.map D.int) (o := none) rfl rfl (by rw [List.length_map]; exact small1000 (by rw [sl]; omega))
    rw [encV_snoc, ts] at ap
    exact seq_of (ρ' := [a0, .sh (.int x), a2, .sh (.int ((j + 1 : Nat) : Int)), .ow none (encV ((SV x y).take (n + 1))), .ow none (encV ws), .sh (.int 0), s7, a8, a9]) rfl (seq_of (for_of rg r) ap)
theorem ev_one (x y : Int) : ev x y [(0, 1)] = 1 := by simp [ev, mo]
theorem bds_one (q : Nat) : bds q [1] := fun j s e => by
  match j, e with
  | 0, e => cases e; exact bd_one _
theorem lst1 {ρ : Dl.Env} : mLst (mCons (Dl.ret (.int 1)) (Dl.ret [])) ρ = some (.ok (encV [1]) ρ) := by
  unfold mLst bnd
  rw [cons_of rfl rfl]
  dsimp only
  unfold opt
  rw [show lenOk [D.int 1] = some [D.int 1] from if_pos (by show 1 ≤ sizeLine; decide)] <;> rfl
theorem worth_ok {n : Nat} {x y : Int} (hn : n < 9) (hx : bd 31 x) (hy : bd 101 y) : g_l_worth [.int (n : Int), .int x, .int y] = some (.ok (.int (ev x y (ftA.getD n [])))) := by
  have e1 : (SV x y).take (0 + 1) = [1] := by
    show [ev x y S0] = [1]
    exact congrArg (· :: []) (ev_one x y)
  have e2 : (FV x y).take (0 + 1) = [1] := by
    show [ev x y T0] = [1]
    exact congrArg (· :: []) (ev_one x y)
  let a0 : SL := .sh (.int (n : Int))
  let X : SL := .sh (.int x)
  let Y : SL := .sh (.int y)
  obtain ⟨⟨b3, b6, b7, b8, b9, r1⟩, vb⟩ := out1 (a0 := a0) (a5 := .ow none (encV [1])) hx hy hn n 0 .no .no .no .no .no (by omega) (by rw [e1]; exact bds_one _)
  obtain ⟨c3, c6, c7, r2⟩ := out2 (a0 := a0) (a2 := Y) (a8 := b8) (a9 := b9) hx hn vb n 0 b3 b6 b7 (by omega) (by rw [e2]; exact bds_one _)
  rw [← List.range_eq_range', e1] at r1
  rw [← List.range_eq_range', e2] at r2
  have p1 := parX_of (i := 4) (j := 5) (o1 := true) (o2 := true) (ρ := [a0, X, Y, .no, .no, .no, .no, .no, .no, .no]) lst1 lst1
  have g1 := rg2_nat (n := n) (by omega) (f := Dl.ret (.int 1)) (g := mOp oAdd (slotD 0) (Dl.ret (.int 1))) (ρ := [a0, X, Y, .no, .ow none (encV [1]), .ow none (encV [1]), .no, .no, .no, .no]) rfl (op_of rfl rfl rfl) rfl
  have g2 := rg2_nat (n := n) (by omega) (f := Dl.ret (.int 1)) (g := mOp oAdd (slotD 0) (Dl.ret (.int 1))) (ρ := [a0, X, Y, b3, .ow none (encV ((SV x y).take (n + 1))), .ow none (encV [1]), b6, b7, b8, b9]) rfl (op_of rfl rfl rfl) rfl
  have ix : oIx (encV ((FV x y).take (n + 1))) (.int (n : Int)) = some (.int (ev x y (ftA.getD n []))) := oIx_vs rfl (by rw [List.getElem?_take, if_pos (by omega)]; exact FV_at x y hn)
  exact run_ok (G := G_l_worth) rfl (show env0 10 [.int (n : Int), .int x, .int y] = [a0, X, Y, .no, .no, .no, .no, .no, .no, .no] from rfl) (seq_of p1 (seq_of (for_of g1 r1) (seq_of (for_of g2 r2) (ret_of (op_of rfl rfl ix)))))
end K94
/-! _law_right: the rows told, a point, the draws. -/
namespace K94
open PySem PySem.Spec PyProof.Rows L2 Dl
def rowD (e : Nat × Int) : D := .tup [.int ((e.1 / 16 : Nat) : Int), .int ((e.1 % 16 : Nat) : Int), .int e.2]
def toldD (R : Tb) : D := .tup (R.map rowD)
def okR (R : Tb) : Bool := R.all fun e => decide (e.2.natAbs ≤ 2 ^ 64) && decide (e.1 / 16 < 64)
def ptB1 : S := sSet 8 (mOp oAdd (slotD 8) (mOp oMul (mOp oMul (slotD 11) (mCall g_l_power [] (mCons (slotD 6) (mCons (slotD 9) (Dl.ret []))))) (mCall g_l_power [] (mCons (slotD 7) (mCons (slotD 10) (Dl.ret []))))))
def ptT : TgE := gTp 3 (gsCons (gNm 9) (gsCons (gNm 10) (gsCons (gNm 11) (gsNil))))
section
variable {x y : Int} {a0 a1 a2 a3 a4 a5 a12 a13 a14 : SL}
theorem pt_in (hx : bd 31 x) (hy : bd 101 y) : ∀ (R : Tb) (t : Int) (s9 s10 s11 : SL), okR R = true →
    ∃ b9 b10 b11, loopD ptT ptB1 (R.map rowD) [a0, a1, a2, a3, a4, a5, .sh (.int x), .sh (.int y), .sh (.int t), s9, s10, s11, a12, a13, a14] = some (.nx [a0, a1, a2, a3, a4, a5, .sh (.int x), .sh (.int y), .sh (.int (t + ev x y R)), b9, b10, b11, a12, a13, a14])
  | [], t, s9, s10, s11, _ => ⟨s9, s10, s11, by rw [show ev x y [] = 0 from rfl, Int.add_zero] <;> rfl⟩
  | e :: R, t, s9, s10, s11, h => by
    unfold okR at h
    rw [List.all_cons, Bool.and_eq_true, Bool.and_eq_true, decide_eq_true_eq, decide_eq_true_eq] at h
    obtain ⟨⟨h1, h2⟩, h3⟩ := h
    have eb : bd 64 e.2 := h1
    have p1 := power_ok hx (n := e.1 / 16) (by omega) (by omega)
    have p2 := power_ok hy (n := e.1 % 16) (by omega) (by omega)
    have m1 : mulOk e.2 (x ^ (e.1 / 16)) = true := eb.ok (hx.pow _) (by omega)
    have m2 : mulOk (e.2 * x ^ (e.1 / 16)) (y ^ (e.1 % 16)) = true := (eb.mul (hx.pow _)).ok (hy.pow _) (by omega)
    obtain ⟨b9, b10, b11, ih⟩ := pt_in hx hy R (t + e.2 * x ^ (e.1 / 16) * y ^ (e.1 % 16)) (.sh (.int ((e.1 / 16 : Nat) : Int))) (.sh (.int ((e.1 % 16 : Nat) : Int))) (.sh (.int e.2)) h3
    refine ⟨b9, b10, b11, loop_nx (ρ1 := [a0, a1, a2, a3, a4, a5, .sh (.int x), .sh (.int y), .sh (.int t), .sh (.int ((e.1 / 16 : Nat) : Int)), .sh (.int ((e.1 % 16 : Nat) : Int)), .sh (.int e.2), a12, a13, a14]) rfl (set_of (i := 8) (op_of rfl (op_of (op_of rfl (call_of (cons_of rfl (cons_of rfl rfl)) p1) (mul_of m1)) (call_of (cons_of rfl (cons_of rfl rfl)) p2) (mul_of m2)) rfl)) ?_⟩
    have q : t + ev x y (e :: R) = t + e.2 * x ^ (e.1 / 16) * y ^ (e.1 % 16) + ev x y R := by
      show t + (e.2 * mo x y e.1 + ev x y R) = _
      unfold mo
      rw [Int.mul_assoc e.2]
      omega
    rw [q]
    exact ih
theorem ne_same (v : Int) : oNe (.int v) (.int v) = some (.bl false) := by
  show some (D.bl (!PyData.eqv (.int v) (.int v))) = _
  simp [PyData.eqv]
theorem mIt_tup {ρ : Dl.Env} {i : Nat} {ds : List D} (h : slotD i ρ = some (.ok (.tup ds) ρ)) : mIt (slotD i) ρ = some (.ok ds ρ) := by
  unfold mIt bnd
  rw [h] <;> rfl
theorem if_no {t : M Bool} {p : S} {ρ ρ1 : Dl.Env} (h : t ρ = some (.ok false ρ1)) : sIf t p sNil ρ = some (.nx ρ1) := by
  unfold sIf thenS
  rw [h] <;> rfl
def ptB : S := sSeq (sSet 8 (Dl.ret (.int 0))) (sSeq (sFor (mIt (slotD 2)) ptT ptB1) (sIf (asB (mOp oNe (mB 8) (mCall g_l_worth [] (mCons (slotD 1) (mCons (slotD 6) (mCons (slotD 7) (Dl.ret []))))))) (sRet (Dl.ret (.bl false))) (sNil)))
theorem pt_run {n : Nat} {R : Tb} (hx : bd 31 x) (hy : bd 101 y) (hn : n < 9) (hR : okR R = true) (pm : (ftA.getD n []).Perm R) (s8 s9 s10 s11 : SL) :
    ∃ b8 b9 b10 b11, ptB [a0, .sh (.int (n : Int)), .sh (toldD R), a3, a4, a5, .sh (.int x), .sh (.int y), s8, s9, s10, s11, a12, a13, a14] = some (.nx [a0, .sh (.int (n : Int)), .sh (toldD R), a3, a4, a5, .sh (.int x), .sh (.int y), b8, b9, b10, b11, a12, a13, a14]) := by
  obtain ⟨b9, b10, b11, e⟩ := pt_in (a0 := a0) (a1 := .sh (.int (n : Int))) (a2 := .sh (toldD R)) (a3 := a3) (a4 := a4) (a5 := a5) (a12 := a12) (a13 := a13) (a14 := a14) hx hy R 0 s9 s10 s11 hR
  rw [Int.zero_add, ← ev_perm pm] at e
  have w := worth_ok hn hx hy
  refine ⟨.sh (.int (ev x y (ftA.getD n []))), b9, b10, b11, seq_of (ρ' := [a0, .sh (.int (n : Int)), .sh (toldD R), a3, a4, a5, .sh (.int x), .sh (.int y), .sh (.int 0), s9, s10, s11, a12, a13, a14]) rfl (seq_of (for_of (mIt_tup (ds := R.map rowD) rfl) e) (if_no (asB_of (op_of rfl (call_of (cons_of rfl (cons_of rfl (cons_of rfl rfl))) w) (ne_same _)))))⟩
end
/-! the draws -/
theorem take_spec {a b c m : Int} (ha : 0 ≤ a) (hb : 0 ≤ b ∧ b < 10000000000) (hc : 0 ≤ c ∧ c < 2000000000) (hm : 0 < m ∧ m < 10000000000) :
    ∃ p a' b' c' : Int, takeR a b c m = (.int p, .lst [.int a', .int b', .int c']) ∧ g_l_take (.lst [.int a, .int b, .int c]) [.int m] = some (.int p, .lst [.int a', .int b', .int c']) ∧ 0 ≤ p ∧ p < m ∧ 0 ≤ a' ∧ 0 ≤ b' ∧ b' < 10000000000 ∧ 0 ≤ c' ∧ c' ≤ c + 1 := by
  have g : g_l_take (.lst [.int a, .int b, .int c]) [.int m] = some (takeR a b c m) := by
    show (if 0 < m ∧ m < 10000000000 ∧ 0 ≤ b ∧ b < 10000000000 ∧ 0 ≤ c ∧ c < 10000000000 then some (takeR a b c m) else none) = _
    rw [if_pos ⟨hm.1, hm.2, hb.1, hb.2, hc.1, by omega⟩]
  rw [g]
  unfold takeR
  by_cases h : 0 < a
  · rw [if_pos h]
    exact ⟨_, _, _, _, rfl, rfl, Int.emod_nonneg _ (by omega), Int.emod_lt_of_pos _ hm.1, Int.ediv_nonneg ha (by omega), hb.1, hb.2, hc.1, by omega⟩
  · rw [if_neg h]
    refine ⟨_, _, _, _, rfl, rfl, Int.emod_nonneg _ (by omega), Int.emod_lt_of_pos _ hm.1, ha, ?_, ?_, by omega, by omega⟩
    · have := Int.emod_nonneg (((b + 69031 * (c + 1)) * 48611 + 911) % 2147483543 * 39019 + 28001) (b := 2147483629) (by decide)
      omega
    · have := Int.emod_lt_of_pos (((b + 69031 * (c + 1)) * 48611 + 911) % 2147483543 * 39019 + 28001) (b := 2147483629) (by decide)
      omega
theorem callG_of {g : D → List D → Option (D × D)} {i : Nat} {l : M (List D)} {ρ : Dl.Env} {t : Option Addr} {gd d gd' : D} {ds : List D} (h : ρ[i]? = some (.ow t gd)) (e : l ρ = some (.ok ds ρ)) (hg : g gd ds = some (d, gd')) : mCallG g i l ρ = some (.ok d (ρ.set i (.ow t gd'))) := by
  unfold mCallG
  rw [h]
  dsimp only
  unfold bnd
  rw [e]
  dsimp only
  rw [h]
  dsimp only
  rw [hg]
end K94
/-! _law_right: the four points. -/
namespace K94
open PySem PySem.Spec PyProof.Rows L2 Dl
def ptsM : M (List D) := mIt (mLst (mCons (mTup (mCons (Dl.ret (.int 1)) (mCons (Dl.ret (.int 1)) (Dl.ret [])))) (mCons (mTup (mCons (Dl.ret (.int 1)) (mCons (Dl.ret (.int 0)) (Dl.ret [])))) (mCons (mTup (mCons (mCallG g_l_take 0 (mCons (Dl.ret (.int 5)) (Dl.ret []))) (mCons (mCallG g_l_take 0 (mCons (Dl.ret (.int 4)) (Dl.ret []))) (Dl.ret [])))) (mCons (mTup (mCons (mOp oAdd (mOp oPow (Dl.ret (.int 10)) (Dl.ret (.int 9))) (mCallG g_l_take 0 (mCons (Dl.ret (.int 999)) (Dl.ret [])))) (mCons (mOp oAdd (mOp oPow (Dl.ret (.int 10)) (Dl.ret (.int 30))) (mCallG g_l_take 0 (mCons (Dl.ret (.int 99)) (Dl.ret [])))) (Dl.ret [])))) (Dl.ret []))))))
theorem lst4_of {l : M (List D)} {ρ ρ' : Dl.Env} {d1 d2 d3 d4 : D} (h : l ρ = some (.ok [d1, d2, d3, d4] ρ')) : mIt (mLst l) ρ = some (.ok [d1, d2, d3, d4] ρ') := by
  unfold mIt mLst bnd
  rw [h]
  dsimp only
  unfold opt
  rw [show lenOk [d1, d2, d3, d4] = some [d1, d2, d3, d4] from if_pos (by show 4 ≤ sizeLine; decide)] <;> rfl
theorem pow9 : oPow (.int 10) (.int 9) = some (.int 1000000000) := by kernel_rfl
theorem pow30 : oPow (.int 10) (.int 30) = some (.int 1000000000000000000000000000000) := by kernel_rfl
theorem pts_run {a b c : Int} {q : Addr} {r : Dl.Env} (ha : 0 ≤ a) (hb : 0 ≤ b ∧ b < 10000000000) (hc : 0 ≤ c ∧ c < 1000000000) :
    ∃ p1 p2 p3 p4 : Int, ptsM (.ow (some q) (.lst [.int a, .int b, .int c]) :: r) = some (.ok [.tup [.int 1, .int 1], .tup [.int 1, .int 0], .tup [.int p1, .int p2], .tup [.int (1000000000 + p3), .int (1000000000000000000000000000000 + p4)]] (.ow (some q) (rightR a b c) :: r)) ∧ (0 ≤ p1 ∧ p1 < 5) ∧ (0 ≤ p2 ∧ p2 < 4) ∧ (0 ≤ p3 ∧ p3 < 999) ∧ (0 ≤ p4 ∧ p4 < 99) := by
  obtain ⟨p1, a1, b1, c1, e1, f1, l1, h1, x1, y1, z1, u1, v1⟩ := take_spec (m := 5) ha hb ⟨hc.1, by omega⟩ (by omega)
  obtain ⟨p2, a2, b2, c2, e2, f2, l2, h2, x2, y2, z2, u2, v2⟩ := take_spec (m := 4) x1 ⟨y1, z1⟩ ⟨u1, by omega⟩ (by omega)
  obtain ⟨p3, a3, b3, c3, e3, f3, l3, h3, x3, y3, z3, u3, v3⟩ := take_spec (m := 999) x2 ⟨y2, z2⟩ ⟨u2, by omega⟩ (by omega)
  obtain ⟨p4, a4, b4, c4, e4, f4, l4, h4, x4, y4, z4, u4, v4⟩ := take_spec (m := 99) x3 ⟨y3, z3⟩ ⟨u3, by omega⟩ (by omega)
  have er : rightR a b c = .lst [.int a4, .int b4, .int c4] := by
    unfold rightR
    rw [e1]
    unfold afterR
    dsimp only
    rw [e2]
    dsimp only
    rw [e3]
    dsimp only
    rw [e4]
  refine ⟨p1, p2, p3, p4, ?_, ⟨l1, h1⟩, ⟨l2, h2⟩, ⟨l3, h3⟩, ⟨l4, h4⟩⟩
  rw [er]
  let E (a b c : Int) : Dl.Env := .ow (some q) (.lst [.int a, .int b, .int c]) :: r
  have g1 : mCallG g_l_take 0 (mCons (Dl.ret (.int 5)) (Dl.ret [])) (E a b c) = some (.ok (.int p1) (E a1 b1 c1)) := callG_of (i := 0) rfl (cons_of rfl rfl) f1
  have g2 : mCallG g_l_take 0 (mCons (Dl.ret (.int 4)) (Dl.ret [])) (E a1 b1 c1) = some (.ok (.int p2) (E a2 b2 c2)) := callG_of (i := 0) rfl (cons_of rfl rfl) f2
  have g3 : mCallG g_l_take 0 (mCons (Dl.ret (.int 999)) (Dl.ret [])) (E a2 b2 c2) = some (.ok (.int p3) (E a3 b3 c3)) := callG_of (i := 0) rfl (cons_of rfl rfl) f3
  have g4 : mCallG g_l_take 0 (mCons (Dl.ret (.int 99)) (Dl.ret [])) (E a3 b3 c3) = some (.ok (.int p4) (E a4 b4 c4)) := callG_of (i := 0) rfl (cons_of rfl rfl) f4
  exact lst4_of (cons_of (tup2_of rfl rfl) (cons_of (tup2_of rfl rfl) (cons_of (tup2_of g1 g2) (cons_of (tup2_of (op_of (op_of rfl rfl pow9) g3 rfl) (op_of (op_of rfl rfl pow30) g4 rfl)) rfl))))
def ptG : TgE := gTp 2 (gsCons (gNm 6) (gsCons (gNm 7) (gsNil)))
theorem pts_for {a b c : Int} {q : Addr} {n : Nat} {R : Tb} {a3 a4 a5 s6 s7 s8 s9 s10 s11 a12 a13 a14 : SL} (ha : 0 ≤ a) (hb : 0 ≤ b ∧ b < 10000000000) (hc : 0 ≤ c ∧ c < 1000000000) (hn : n < 9) (hR : okR R = true) (pm : (ftA.getD n []).Perm R) :
    ∃ b6 b7 b8 b9 b10 b11, sFor ptsM ptG ptB [.ow (some q) (.lst [.int a, .int b, .int c]), .sh (.int (n : Int)), .sh (toldD R), a3, a4, a5, s6, s7, s8, s9, s10, s11, a12, a13, a14] = some (.nx [.ow (some q) (rightR a b c), .sh (.int (n : Int)), .sh (toldD R), a3, a4, a5, b6, b7, b8, b9, b10, b11, a12, a13, a14]) := by
  obtain ⟨p1, p2, p3, p4, e, h1, h2, h3, h4⟩ := pts_run (q := q) (r := [.sh (.int (n : Int)), .sh (toldD R), a3, a4, a5, s6, s7, s8, s9, s10, s11, a12, a13, a14]) ha hb hc
  have bx : ∀ v : Int, 0 ≤ v → v < 2000000000 → bd 31 v := fun v l h => by unfold bd; omega
  have bz : ∀ v : Int, 0 ≤ v → v < 2000000000000000000000000000000 → bd 101 v := fun v l h => by unfold bd; omega
  obtain ⟨t8, t9, t10, t11, r1⟩ := pt_run (a0 := .ow (some q) (rightR a b c)) (a3 := a3) (a4 := a4) (a5 := a5) (a12 := a12) (a13 := a13) (a14 := a14) (bx 1 (by omega) (by omega)) (bz 1 (by omega) (by omega)) hn hR pm s8 s9 s10 s11
  obtain ⟨u8, u9, u10, u11, r2⟩ := pt_run (a0 := .ow (some q) (rightR a b c)) (a3 := a3) (a4 := a4) (a5 := a5) (a12 := a12) (a13 := a13) (a14 := a14) (bx 1 (by omega) (by omega)) (bz 0 (by omega) (by omega)) hn hR pm t8 t9 t10 t11
  obtain ⟨v8, v9, v10, v11, r3⟩ := pt_run (a0 := .ow (some q) (rightR a b c)) (a3 := a3) (a4 := a4) (a5 := a5) (a12 := a12) (a13 := a13) (a14 := a14) (bx p1 (by omega) (by omega)) (bz p2 (by omega) (by omega)) hn hR pm u8 u9 u10 u11
  obtain ⟨w8, w9, w10, w11, r4⟩ := pt_run (a0 := .ow (some q) (rightR a b c)) (a3 := a3) (a4 := a4) (a5 := a5) (a12 := a12) (a13 := a13) (a14 := a14) (bx (1000000000 + p3) (by omega) (by omega)) (bz (1000000000000000000000000000000 + p4) (by omega) (by omega)) hn hR pm v8 v9 v10 v11
  refine ⟨.sh (.int (1000000000 + p3)), .sh (.int (1000000000000000000000000000000 + p4)), w8, w9, w10, w11, for_of e ?_⟩
  exact loop_nx rfl r1 (loop_nx rfl r2 (loop_nx rfl r3 (loop_nx rfl r4 rfl)))
end K94
/-! _law_right, put together. -/
namespace K94
open PySem PySem.Spec PyProof.Rows L2 Dl
def rq1 : M Bool := (mOr (mNot (asB (mUn (oIsi "tuple") (mB 2)))) (mNot (asB (mUn oAll (mComp (mIt (slotD 2)) [13] (gNm 13) (Dl.ret true) (mAndV (mUn (oIsi "tuple") (mB 13)) (mOp oEq (mUn oLen (mB 13)) (Dl.ret (.int 3)))))))))
def rq2 : M Bool := (mNot (asB (mUn oAll (mComp (mIt (slotD 2)) [13] (gNm 13) (Dl.ret true) (mAndV (mCall g_l_same [] (mCons (slotD 13) (mCons (mUn oTuple (mComp (mIt (slotD 13)) [14] (gNm 14) (Dl.ret true) (mN nInt (mCons (slotD 14) (Dl.ret []))))) (Dl.ret [])))) (mOp oGt (mOp oIx (mB 13) (Dl.ret (.int 2))) (Dl.ret (.int 0))))))))
def rq3 : M Bool := (asB (mOp oNe (mComp (mIt (slotD 2)) [13] (gNm 13) (Dl.ret true) (mSlT (slotD 13) (Dl.ret none) (mPart (Dl.ret (.int 2))))) (mUnF (oSortSet pairP) (mComp (mIt (slotD 2)) [13] (gNm 13) (Dl.ret true) (mSlT (slotD 13) (Dl.ret none) (mPart (Dl.ret (.int 2))))))))
def rq4 : M Bool := (mOr (mNot (asB (mCall g_l_same [] (mCons (mCall g_how_many [] (mCons (slotD 1) (Dl.ret []))) (mCons (mCall g_l_worth [] (mCons (slotD 1) (mCons (Dl.ret (.int 1)) (mCons (Dl.ret (.int 1)) (Dl.ret []))))) (Dl.ret [])))))) (mNot (asB (mCall g_l_same [] (mCons (mCall g_how_many_ringless [] (mCons (slotD 1) (Dl.ret []))) (mCons (mCall g_l_worth [] (mCons (slotD 1) (mCons (Dl.ret (.int 1)) (mCons (Dl.ret (.int 0)) (Dl.ret []))))) (Dl.ret [])))))))
def rq5 : M Bool := (mNot (asB (mUn oAll (mComp (mRg (mCons (Dl.ret (.int 5)) (Dl.ret []))) [12] (gNm 12) (Dl.ret true) (mCall g_l_same [] (mCons (mCall g_how_many_with [] (mCons (slotD 1) (mCons (slotD 12) (Dl.ret [])))) (mCons (mOp oIx (mB 4) (slotD 12)) (Dl.ret []))))))))
def rq6 : M Bool := (mOr (mNot (asB (mCall g_l_same [] (mCons (mCall g_most_belts [] (mCons (slotD 1) (Dl.ret []))) (mCons (slotD 5) (Dl.ret [])))))) (mNot (asB (mCall g_l_same [] (mCons (mCall g_how_many_with [] (mCons (slotD 1) (mCons (slotD 5) (Dl.ret [])))) (mCons (mCall g_how_many_fullest [] (mCons (slotD 1) (Dl.ret []))) (Dl.ret [])))))))
def rs3 : S := (sSet 3 (mOp oMul (slotD 1) (mOp oSub (slotD 1) (Dl.ret (.int 1)))))
def rs4 : S := (sSetF 4 (mComp (mRg (mCons (Dl.ret (.int 5)) (Dl.ret []))) [12] (gNm 12) (Dl.ret true) (mCall g_l_choose [] (mCons (slotD 3) (mCons (slotD 12) (Dl.ret []))))))
def rs4b : S := (sAsg (gIx 4 (Dl.ret (.int 4))) (mOp oSub (mOp oIx (mB 4) (Dl.ret (.int 4))) (mOp oDiv (mOp oMul (mOp oMul (mOp oMul (slotD 1) (mOp oSub (slotD 1) (Dl.ret (.int 1)))) (mOp oSub (slotD 1) (Dl.ret (.int 2)))) (Dl.ret (.int 3))) (Dl.ret (.int 2)))))
def rs5 : S := (sSet 5 (mUn oMax (mComp (mIt (slotD 2)) [13] (gNm 13) (Dl.ret true) (mOp oIx (mB 13) (Dl.ret (.int 0))))))
def rfin : S := (sRet (mAndV (mCall g_l_same [] (mCons (mCall g_how_many_with [] (mCons (slotD 1) (mCons (mOp oAdd (slotD 5) (Dl.ret (.int 1))) (Dl.ret [])))) (mCons (Dl.ret (.int 0)) (Dl.ret [])))) (mOrV (mOp oGt (slotD 1) (Dl.ret (.int 3))) (mCall g_l_same [] (mCons (slotD 2) (mCons (mCall g_l_all [] (mCons (slotD 1) (Dl.ret []))) (Dl.ret [])))))))
theorem or_no {t u : M Bool} {ρ ρ1 ρ2 : Dl.Env} (h : t ρ = some (.ok false ρ1)) (g : u ρ1 = some (.ok false ρ2)) : mOr t u ρ = some (.ok false ρ2) := by
  unfold mOr bnd
  rw [h]
  exact g
theorem not_of {t : M Bool} {b c : Bool} {ρ ρ1 : Dl.Env} (h : t ρ = some (.ok b ρ1)) (e : (!b) = c) : mNot t ρ = some (.ok c ρ1) := by
  subst e
  unfold mNot bnd
  rw [h] <;> rfl
theorem andV_of {f g : M D} {ρ ρ1 : Dl.Env} {r : Option (Rs D)} (h : f ρ = some (.ok (.bl true) ρ1)) (e : g ρ1 = r) : mAndV f g ρ = r := ifT_of (asB_of h) e
theorem orV_yes {f g : M D} {ρ ρ1 : Dl.Env} (h : f ρ = some (.ok (.bl true) ρ1)) : mOrV f g ρ = some (.ok (.bl true) ρ1) := ifT_of (asB_of h) rfl
theorem orV_no {f g : M D} {ρ ρ1 : Dl.Env} {r : Option (Rs D)} (h : f ρ = some (.ok (.bl false) ρ1)) (e : g ρ1 = r) : mOrV f g ρ = r := ifF_of (asB_of h) e
theorem compD_step {vs : List Nat} {tg : TgE} {t : M Bool} {el : M D} {ρ ρ2 ρa ρb : Dl.Env} {d y : D} {ds ys : List D} (h1 : tg d (wipeE ρ vs) = some ρ2) (h2 : t ρ2 = some (.ok true ρa)) (h3 : el ρ2 = some (.ok y ρb)) (g : compD vs tg t el ρ ds = some ys) : compD vs tg t el ρ (d :: ds) = some (y :: ys) := by
  unfold compD
  rw [h1]
  dsimp only
  rw [h2]
  dsimp only
  rw [h3]
  dsimp only
  rw [g] <;> rfl
theorem comp_of {l : M (List D)} {vs : List Nat} {tg : TgE} {t : M Bool} {el : M D} {ρ ρ' : Dl.Env} {ds ys : List D} (h : l ρ = some (.ok ds ρ')) (n : noOw ρ' vs = true) (e : compD vs tg t el ρ' ds = some ys) (hl : lenOk ys = some ys) : mComp l vs tg t el ρ = some (.ok (.lst ys) ρ') := by
  unfold mComp bnd
  rw [h]
  dsimp only
  rw [if_pos n, e]
  dsimp only [Option.bind]
  rw [hl]
theorem seq_rt {p q : S} {ρ ρ' : Dl.Env} {d : D} (h : p ρ = some (.rt d ρ')) : sSeq p q ρ = some (.rt d ρ') := by
  unfold sSeq
  rw [h]
theorem if_yes {t : M Bool} {p q : S} {ρ ρ1 : Dl.Env} {r : Option Ou} (h : t ρ = some (.ok true ρ1)) (e : p ρ1 = r) : sIf t p q ρ = r := by
  unfold sIf thenS
  rw [h]
  exact e
theorem eq_same (v : Int) : oEq (.int v) (.int v) = some (.bl true) := by
  show some (D.bl (PyData.eqv (.int v) (.int v))) = _
  simp [PyData.eqv]
theorem same_int (v : Int) : g_l_same [.int v, .int v] = some (.ok (.bl true)) := by
  have c1 : (mOr (asB (mUn oIsN (slotD 1))) (mOr (asB (mOp oIsB (slotD 1) (Dl.ret (.bl true)))) (asB (mOp oIsB (slotD 1) (Dl.ret (.bl false)))))) [.sh (.int v), .sh (.int v), .no] = some (.ok false [.sh (.int v), .sh (.int v), .no]) := by kernel_rfl
  have c2 : (asB (mUn (oIsi "str") (mB 1))) [.sh (.int v), .sh (.int v), .no] = some (.ok false [.sh (.int v), .sh (.int v), .no]) := by kernel_rfl
  have c3 : (asB (mUn (oIsi "int") (mB 1))) [.sh (.int v), .sh (.int v), .no] = some (.ok true [.sh (.int v), .sh (.int v), .no]) := by kernel_rfl
  have c4 : (mUn (oIsi "int") (mB 0)) [.sh (.int v), .sh (.int v), .no] = some (.ok (.bl true) [.sh (.int v), .sh (.int v), .no]) := by kernel_rfl
  have c5 : (mNotV (mUn (oIsi "bool") (mB 0))) [.sh (.int v), .sh (.int v), .no] = some (.ok (.bl true) [.sh (.int v), .sh (.int v), .no]) := by kernel_rfl
  exact run_ok (G := G_l_same (g_l_same_ 3)) rfl (show env0 3 [.int v, .int v] = [.sh (.int v), .sh (.int v), .no] from rfl) (seq_of (if_no c1) (seq_of (if_no c2) (seq_rt (if_yes c3 (ret_of (andV_of c4 (andV_of c5 (op_of rfl rfl (eq_same v)))))))))
/-- the state behind the counts told -/
abbrev E0 (s0 : SL) (n : Nat) (R : Tb) : Dl.Env := [s0, .sh (.int (n : Int)), .sh (toldD R), .no, .no, .no, .no, .no, .no, .no, .no, .no, .no, .no, .no]
/-- .. behind the points -/
abbrev E1 (s0 : SL) (n : Nat) (R : Tb) (a3 a4 a5 b6 b7 b8 b9 b10 b11 : SL) : Dl.Env := [s0, .sh (.int (n : Int)), .sh (toldD R), a3, a4, a5, b6, b7, b8, b9, b10, b11, .no, .no, .no]
/-- what is to be known of so many places -/
structure RF (n : Nat) (R : Tb) (pr f0 f1 f2 f3 f4 mx vx : Int) : Prop where
  told : g_belts_and_rings [.int (n : Int)] = some (.ok (toldD R))
  c1 : ∀ s0, rq1 (E0 s0 n R) = some (.ok false (E0 s0 n R))
  c2 : ∀ s0, rq2 (E0 s0 n R) = some (.ok false (E0 s0 n R))
  c3 : ∀ s0, rq3 (E0 s0 n R) = some (.ok false (E0 s0 n R))
  okr : okR R = true
  pm : (ftA.getD n []).Perm R
  hm : g_how_many [.int (n : Int)] = some (.ok (.int (ev 1 1 (ftA.getD n []))))
  rl : g_how_many_ringless [.int (n : Int)] = some (.ok (.int (ev 1 0 (ftA.getD n []))))
  few : ∀ s0 b6 b7 b8 b9 b10 b11, sSeq rs3 (sSeq rs4 rs4b) (E1 s0 n R .no .no .no b6 b7 b8 b9 b10 b11) = some (.nx (E1 s0 n R (.sh (.int pr)) (.ow none (encV [f0, f1, f2, f3, f4])) .no b6 b7 b8 b9 b10 b11))
  h0 : g_how_many_with [.int (n : Int), .int 0] = some (.ok (.int f0))
  h1 : g_how_many_with [.int (n : Int), .int 1] = some (.ok (.int f1))
  h2 : g_how_many_with [.int (n : Int), .int 2] = some (.ok (.int f2))
  h3 : g_how_many_with [.int (n : Int), .int 3] = some (.ok (.int f3))
  h4 : g_how_many_with [.int (n : Int), .int 4] = some (.ok (.int f4))
  top : ∀ s0 a3 a4 b6 b7 b8 b9 b10 b11, rs5 (E1 s0 n R a3 a4 .no b6 b7 b8 b9 b10 b11) = some (.nx (E1 s0 n R a3 a4 (.sh (.int mx)) b6 b7 b8 b9 b10 b11))
  mb : g_most_belts [.int (n : Int)] = some (.ok (.int mx))
  hx : g_how_many_with [.int (n : Int), .int mx] = some (.ok (.int vx))
  hf : g_how_many_fullest [.int (n : Int)] = some (.ok (.int vx))
  hn : g_how_many_with [.int (n : Int), .int (mx + 1)] = some (.ok (.int 0))
  la : 3 < n ∨ (g_l_all [.int (n : Int)] = some (.ok (toldD R)) ∧ g_l_same [toldD R, toldD R] = some (.ok (.bl true)))
theorem all5 {el : M D} {ρ : Dl.Env} {ρ0 ρ1 ρ2 ρ3 ρ4 : Dl.Env} {i : Nat} (n : noOw ρ [i] = true) (g0 : gNm i (.int 0) (wipeE ρ [i]) = some ρ0) (g1 : gNm i (.int 1) (wipeE ρ [i]) = some ρ1) (g2 : gNm i (.int 2) (wipeE ρ [i]) = some ρ2) (g3 : gNm i (.int 3) (wipeE ρ [i]) = some ρ3) (g4 : gNm i (.int 4) (wipeE ρ [i]) = some ρ4)
    (e0 : el ρ0 = some (.ok (.bl true) ρ0)) (e1 : el ρ1 = some (.ok (.bl true) ρ1)) (e2 : el ρ2 = some (.ok (.bl true) ρ2)) (e3 : el ρ3 = some (.ok (.bl true) ρ3)) (e4 : el ρ4 = some (.ok (.bl true) ρ4)) :
    mUn oAll (mComp (mRg (mCons (Dl.ret (.int 5)) (Dl.ret []))) [i] (gNm i) (Dl.ret true) el) ρ = some (.ok (.bl true) ρ) := by
  have r5 : mRg (mCons (Dl.ret (.int 5)) (Dl.ret [])) ρ = some (.ok [.int 0, .int 1, .int 2, .int 3, .int 4] ρ) := rg1_nat (n := 5) (by decide) rfl
  refine un_of (comp_of r5 n (compD_step g0 rfl e0 (compD_step g1 rfl e1 (compD_step g2 rfl e2 (compD_step g3 rfl e3 (compD_step g4 rfl e4 rfl))))) (if_pos ?_)) rfl
  show 5 ≤ sizeLine
  decide
theorem right_of {n : Nat} {R : Tb} {pr f0 f1 f2 f3 f4 mx vx : Int} (F : RF n R pr f0 f1 f2 f3 f4 mx vx) (hn : n < 9) {a b c : Int} (ha : 0 ≤ a) (hb : 0 ≤ b ∧ b < 10000000000) (hc : 0 ≤ c ∧ c < 1000000000) (q : Addr) :
    ∃ o, G_l_right (envG 15 q (.lst [.int a, .int b, .int c]) [.int (n : Int)]) = some o ∧ FinG q o (.bl true, rightR a b c) := by
  let s0 : SL := .ow (some q) (.lst [.int a, .int b, .int c])
  let s1 : SL := .ow (some q) (rightR a b c)
  obtain ⟨b6, b7, b8, b9, b10, b11, pf⟩ := pts_for (q := q) (a3 := .no) (a4 := .no) (a5 := .no) (s6 := .no) (s7 := .no) (s8 := .no) (s9 := .no) (s10 := .no) (s11 := .no) (a12 := .no) (a13 := .no) (a14 := .no) ha hb hc hn F.okr F.pm
  let e1 : Dl.Env := E1 s1 n R .no .no .no b6 b7 b8 b9 b10 b11
  have bx : ∀ v : Int, 0 ≤ v → v < 2000000000 → bd 31 v := fun v l h => by unfold bd; omega
  have bz : ∀ v : Int, 0 ≤ v → v < 2000000000000000000000000000000 → bd 101 v := fun v l h => by unfold bd; omega
  have w11 := worth_ok hn (bx 1 (by omega) (by omega)) (bz 1 (by omega) (by omega))
  have w10 := worth_ok hn (bx 1 (by omega) (by omega)) (bz 0 (by omega) (by omega))
  have k4 : rq4 e1 = some (.ok false e1) :=
    or_no (not_of (asB_of (call_of (cons_of (call_of (cons_of rfl rfl) F.hm) (cons_of (call_of (cons_of rfl (cons_of rfl (cons_of rfl rfl))) w11) rfl)) (same_int _))) rfl)
      (not_of (asB_of (call_of (cons_of (call_of (cons_of rfl rfl) F.rl) (cons_of (call_of (cons_of rfl (cons_of rfl (cons_of rfl rfl))) w10) rfl)) (same_int _))) rfl)
  let fs : SL := .ow none (encV [f0, f1, f2, f3, f4])
  let e2 : Dl.Env := E1 s1 n R (.sh (.int pr)) fs .no b6 b7 b8 b9 b10 b11
  have fw := F.few s1 b6 b7 b8 b9 b10 b11
  let ek (k : Int) : Dl.Env := [s1, .sh (.int (n : Int)), .sh (toldD R), .sh (.int pr), fs, .no, b6, b7, b8, b9, b10, b11, .sh (.int k), .no, .no]
  have el : ∀ k f : Int, g_how_many_with [.int (n : Int), .int k] = some (.ok (.int f)) → oIx (encV [f0, f1, f2, f3, f4]) (.int k) = some (.int f) → (mCall g_l_same [] (mCons (mCall g_how_many_with [] (mCons (slotD 1) (mCons (slotD 12) (Dl.ret [])))) (mCons (mOp oIx (mB 4) (slotD 12)) (Dl.ret [])))) (ek k) = some (.ok (.bl true) (ek k)) :=
    fun k f h g => call_of (cons_of (call_of (cons_of rfl (cons_of rfl rfl)) h) (cons_of (op_of rfl rfl g) rfl)) (same_int f)
  have k5 : rq5 e2 = some (.ok false e2) :=
    not_of (asB_of (all5 (i := 12) (ρ := e2) (ρ0 := ek 0) (ρ1 := ek 1) (ρ2 := ek 2) (ρ3 := ek 3) (ρ4 := ek 4) rfl rfl rfl rfl rfl rfl (el 0 f0 F.h0 (oIx_vs (j := 0) rfl rfl)) (el 1 f1 F.h1 (oIx_vs (j := 1) rfl rfl)) (el 2 f2 F.h2 (oIx_vs (j := 2) rfl rfl)) (el 3 f3 F.h3 (oIx_vs (j := 3) rfl rfl)) (el 4 f4 F.h4 (oIx_vs (j := 4) rfl rfl)))) rfl
  let e3 : Dl.Env := E1 s1 n R (.sh (.int pr)) fs (.sh (.int mx)) b6 b7 b8 b9 b10 b11
  have tp := F.top s1 (.sh (.int pr)) fs b6 b7 b8 b9 b10 b11
  have k6 : rq6 e3 = some (.ok false e3) :=
    or_no (not_of (asB_of (call_of (cons_of (call_of (cons_of rfl rfl) F.mb) (cons_of rfl rfl)) (same_int _))) rfl)
      (not_of (asB_of (call_of (cons_of (call_of (cons_of rfl (cons_of rfl rfl)) F.hx) (cons_of (call_of (cons_of rfl rfl) F.hf) rfl)) (same_int _))) rfl)
  have last : rfin e3 = some (.rt (.bl true) e3) := by
    refine ret_of (andV_of (call_of (cons_of (call_of (cons_of rfl (cons_of (op_of rfl rfl rfl) rfl)) F.hn) (cons_of rfl rfl)) (same_int 0)) ?_)
    by_cases h3 : 3 < n
    · have g : oGt (.int (n : Int)) (.int 3) = some (.bl true) := congrArg (fun z => some (D.bl z)) (decide_eq_true (by omega : (3 : Int) < (n : Int)))
      exact orV_yes (op_of rfl rfl g)
    · have g : oGt (.int (n : Int)) (.int 3) = some (.bl false) := congrArg (fun z => some (D.bl z)) (decide_eq_false (by omega : ¬ (3 : Int) < (n : Int)))
      obtain ⟨l1, l2⟩ := F.la.resolve_left h3
      exact orV_no (op_of rfl rfl g) (call_of (cons_of rfl (cons_of (call_of (cons_of rfl rfl) l1) rfl)) l2)
  refine ⟨.rt (.bl true) e3, ?_, rfl, rfl⟩
  have split3 : ∃ x y : Dl.Env, rs3 e1 = some (.nx x) ∧ rs4 x = some (.nx y) ∧ rs4b y = some (.nx e2) := by
    have z := fw
    unfold sSeq at z
    split at z
    · rename_i x hx
      split at z
      · rename_i y hy
        exact ⟨x, y, hx, hy, z⟩
      · rename_i hno
        exact absurd z (hno e2)
    · rename_i hno
      exact absurd z (hno e2)
  obtain ⟨x, y, z1, z2, z3⟩ := split3
  let eI : Dl.Env := [s0, .sh (.int (n : Int)), .no, .no, .no, .no, .no, .no, .no, .no, .no, .no, .no, .no, .no]
  have k0 : sSet 2 (mCall g_belts_and_rings [] (mCons (slotD 1) (Dl.ret []))) eI = some (.nx (E0 s0 n R)) := set_of (i := 2) (ρ := eI) (ρ' := eI) (call_of (cons_of rfl rfl) F.told)
  exact seq_of k0 (seq_of (if_no (F.c1 s0)) (seq_of (if_no (F.c2 s0)) (seq_of (if_no (F.c3 s0)) (seq_of pf (seq_of (if_no k4) (seq_of z1 (seq_of z2 (seq_of z3 (seq_of (if_no k5) (seq_of tp (seq_of (if_no k6) last)))))))))))
end K94
/-! The facts of 1 places. -/
namespace K94
open PySem PySem.Spec PyProof.Rows L2 Dl
def R1 : Tb := [(0, 1)]
theorem told_1 : g_belts_and_rings [.int ((1 : Nat) : Int)] = some (.ok (toldD R1)) := run_ok (G := G_belts_and_rings) (ρ' := [.sh (.int ((1 : Nat) : Int)), .sh (enc T1), .no, .no]) rfl rfl (seq_of (set_of (i := 1) (call_of (cons_of rfl rfl) tab_1)) (by kernel_rfl))
theorem c1_1 (s0 : SL) : rq1 (E0 s0 1 R1) = some (.ok false (E0 s0 1 R1)) := by kernel_rfl
theorem c2_1 (s0 : SL) : rq2 (E0 s0 1 R1) = some (.ok false (E0 s0 1 R1)) := by kernel_rfl
theorem c3_1 (s0 : SL) : rq3 (E0 s0 1 R1) = some (.ok false (E0 s0 1 R1)) := by kernel_rfl
theorem pm_1 : (ftA.getD 1 []).Perm R1 := List.isPerm_iff.mp (show T1.isPerm R1 = true by decide +kernel)
theorem h0_1 : g_how_many_with [.int ((1 : Nat) : Int), .int 0] = some (.ok (.int 1)) := run_ok (G := G_how_many_with) (ρ' := [.sh (.int ((1 : Nat) : Int)), .sh (.int 0), .sh (enc T1), .no]) rfl rfl (seq_of (set_of (i := 2) (call_of (cons_of rfl rfl) tab_1)) (by kernel_rfl))
theorem h1_1 : g_how_many_with [.int ((1 : Nat) : Int), .int 1] = some (.ok (.int 0)) := run_ok (G := G_how_many_with) (ρ' := [.sh (.int ((1 : Nat) : Int)), .sh (.int 1), .sh (enc T1), .no]) rfl rfl (seq_of (set_of (i := 2) (call_of (cons_of rfl rfl) tab_1)) (by kernel_rfl))
theorem h2_1 : g_how_many_with [.int ((1 : Nat) : Int), .int 2] = some (.ok (.int 0)) := run_ok (G := G_how_many_with) (ρ' := [.sh (.int ((1 : Nat) : Int)), .sh (.int 2), .sh (enc T1), .no]) rfl rfl (seq_of (set_of (i := 2) (call_of (cons_of rfl rfl) tab_1)) (by kernel_rfl))
theorem h3_1 : g_how_many_with [.int ((1 : Nat) : Int), .int 3] = some (.ok (.int 0)) := run_ok (G := G_how_many_with) (ρ' := [.sh (.int ((1 : Nat) : Int)), .sh (.int 3), .sh (enc T1), .no]) rfl rfl (seq_of (set_of (i := 2) (call_of (cons_of rfl rfl) tab_1)) (by kernel_rfl))
theorem h4_1 : g_how_many_with [.int ((1 : Nat) : Int), .int 4] = some (.ok (.int 0)) := run_ok (G := G_how_many_with) (ρ' := [.sh (.int ((1 : Nat) : Int)), .sh (.int 4), .sh (enc T1), .no]) rfl rfl (seq_of (set_of (i := 2) (call_of (cons_of rfl rfl) tab_1)) (by kernel_rfl))
theorem hx_1 : g_how_many_with [.int ((1 : Nat) : Int), .int 0] = some (.ok (.int 1)) := run_ok (G := G_how_many_with) (ρ' := [.sh (.int ((1 : Nat) : Int)), .sh (.int 0), .sh (enc T1), .no]) rfl rfl (seq_of (set_of (i := 2) (call_of (cons_of rfl rfl) tab_1)) (by kernel_rfl))
theorem hn_1 : g_how_many_with [.int ((1 : Nat) : Int), .int (0 + 1)] = some (.ok (.int 0)) := run_ok (G := G_how_many_with) (ρ' := [.sh (.int ((1 : Nat) : Int)), .sh (.int (0 + 1)), .sh (enc T1), .no]) rfl rfl (seq_of (set_of (i := 2) (call_of (cons_of rfl rfl) tab_1)) (by kernel_rfl))
theorem rl_1 : g_how_many_ringless [.int ((1 : Nat) : Int)] = some (.ok (.int 1)) := run_ok (G := G_how_many_ringless) (ρ' := [.sh (.int ((1 : Nat) : Int)), .sh (enc T1), .no]) rfl rfl (seq_of (set_of (i := 1) (call_of (cons_of rfl rfl) tab_1)) (by kernel_rfl))
theorem e10_1 : ev 1 0 (ftA.getD 1 []) = 1 := by decide +kernel
theorem hm_1 : g_how_many [.int ((1 : Nat) : Int)] = some (.ok (.int (ev 1 1 (ftA.getD 1 [])))) := isI_eq (by decide +kernel)
theorem few_1 (s0 b6 b7 b8 b9 b10 b11 : SL) : sSeq rs3 (sSeq rs4 rs4b) (E1 s0 1 R1 .no .no .no b6 b7 b8 b9 b10 b11) = some (.nx (E1 s0 1 R1 (.sh (.int 0)) (.ow none (encV [1, 0, 0, 0, 0])) .no b6 b7 b8 b9 b10 b11)) := by kernel_rfl
theorem top_1 (s0 a3 a4 b6 b7 b8 b9 b10 b11 : SL) : rs5 (E1 s0 1 R1 a3 a4 .no b6 b7 b8 b9 b10 b11) = some (.nx (E1 s0 1 R1 a3 a4 (.sh (.int 0)) b6 b7 b8 b9 b10 b11)) := by kernel_rfl
theorem la_1 : g_l_all [.int ((1 : Nat) : Int)] = some (.ok (toldD R1)) := by kernel_rfl
theorem lb_1 : g_l_same [toldD R1, toldD R1] = some (.ok (.bl true)) := by kernel_rfl
theorem RF_1 : RF 1 R1 0 1 0 0 0 0 0 1 := ⟨told_1, c1_1, c2_1, c3_1, by decide +kernel, pm_1, hm_1, by rw [e10_1]; exact rl_1, few_1, h0_1, h1_1, h2_1, h3_1, h4_1, top_1, isI_eq (by decide +kernel), hx_1, isI_eq (by decide +kernel), hn_1, .inr ⟨la_1, lb_1⟩⟩
end K94
/-! The facts of 2 places. -/
namespace K94
open PySem PySem.Spec PyProof.Rows L2 Dl
def R2 : Tb := [(0, 1), (16, 2), (33, 1)]
theorem told_2 : g_belts_and_rings [.int ((2 : Nat) : Int)] = some (.ok (toldD R2)) := run_ok (G := G_belts_and_rings) (ρ' := [.sh (.int ((2 : Nat) : Int)), .sh (enc T2), .no, .no]) rfl rfl (seq_of (set_of (i := 1) (call_of (cons_of rfl rfl) tab_2)) (by kernel_rfl))
theorem c1_2 (s0 : SL) : rq1 (E0 s0 2 R2) = some (.ok false (E0 s0 2 R2)) := by kernel_rfl
theorem c2_2 (s0 : SL) : rq2 (E0 s0 2 R2) = some (.ok false (E0 s0 2 R2)) := by kernel_rfl
theorem c3_2 (s0 : SL) : rq3 (E0 s0 2 R2) = some (.ok false (E0 s0 2 R2)) := by kernel_rfl
theorem pm_2 : (ftA.getD 2 []).Perm R2 := List.isPerm_iff.mp (show T2.isPerm R2 = true by decide +kernel)
theorem h0_2 : g_how_many_with [.int ((2 : Nat) : Int), .int 0] = some (.ok (.int 1)) := run_ok (G := G_how_many_with) (ρ' := [.sh (.int ((2 : Nat) : Int)), .sh (.int 0), .sh (enc T2), .no]) rfl rfl (seq_of (set_of (i := 2) (call_of (cons_of rfl rfl) tab_2)) (by kernel_rfl))
theorem h1_2 : g_how_many_with [.int ((2 : Nat) : Int), .int 1] = some (.ok (.int 2)) := run_ok (G := G_how_many_with) (ρ' := [.sh (.int ((2 : Nat) : Int)), .sh (.int 1), .sh (enc T2), .no]) rfl rfl (seq_of (set_of (i := 2) (call_of (cons_of rfl rfl) tab_2)) (by kernel_rfl))
theorem h2_2 : g_how_many_with [.int ((2 : Nat) : Int), .int 2] = some (.ok (.int 1)) := run_ok (G := G_how_many_with) (ρ' := [.sh (.int ((2 : Nat) : Int)), .sh (.int 2), .sh (enc T2), .no]) rfl rfl (seq_of (set_of (i := 2) (call_of (cons_of rfl rfl) tab_2)) (by kernel_rfl))
theorem h3_2 : g_how_many_with [.int ((2 : Nat) : Int), .int 3] = some (.ok (.int 0)) := run_ok (G := G_how_many_with) (ρ' := [.sh (.int ((2 : Nat) : Int)), .sh (.int 3), .sh (enc T2), .no]) rfl rfl (seq_of (set_of (i := 2) (call_of (cons_of rfl rfl) tab_2)) (by kernel_rfl))
theorem h4_2 : g_how_many_with [.int ((2 : Nat) : Int), .int 4] = some (.ok (.int 0)) := run_ok (G := G_how_many_with) (ρ' := [.sh (.int ((2 : Nat) : Int)), .sh (.int 4), .sh (enc T2), .no]) rfl rfl (seq_of (set_of (i := 2) (call_of (cons_of rfl rfl) tab_2)) (by kernel_rfl))
theorem hx_2 : g_how_many_with [.int ((2 : Nat) : Int), .int 2] = some (.ok (.int 1)) := run_ok (G := G_how_many_with) (ρ' := [.sh (.int ((2 : Nat) : Int)), .sh (.int 2), .sh (enc T2), .no]) rfl rfl (seq_of (set_of (i := 2) (call_of (cons_of rfl rfl) tab_2)) (by kernel_rfl))
theorem hn_2 : g_how_many_with [.int ((2 : Nat) : Int), .int (2 + 1)] = some (.ok (.int 0)) := run_ok (G := G_how_many_with) (ρ' := [.sh (.int ((2 : Nat) : Int)), .sh (.int (2 + 1)), .sh (enc T2), .no]) rfl rfl (seq_of (set_of (i := 2) (call_of (cons_of rfl rfl) tab_2)) (by kernel_rfl))
theorem rl_2 : g_how_many_ringless [.int ((2 : Nat) : Int)] = some (.ok (.int 3)) := run_ok (G := G_how_many_ringless) (ρ' := [.sh (.int ((2 : Nat) : Int)), .sh (enc T2), .no]) rfl rfl (seq_of (set_of (i := 1) (call_of (cons_of rfl rfl) tab_2)) (by kernel_rfl))
theorem e10_2 : ev 1 0 (ftA.getD 2 []) = 3 := by decide +kernel
theorem hm_2 : g_how_many [.int ((2 : Nat) : Int)] = some (.ok (.int (ev 1 1 (ftA.getD 2 [])))) := isI_eq (by decide +kernel)
theorem few_2 (s0 b6 b7 b8 b9 b10 b11 : SL) : sSeq rs3 (sSeq rs4 rs4b) (E1 s0 2 R2 .no .no .no b6 b7 b8 b9 b10 b11) = some (.nx (E1 s0 2 R2 (.sh (.int 2)) (.ow none (encV [1, 2, 1, 0, 0])) .no b6 b7 b8 b9 b10 b11)) := by kernel_rfl
theorem top_2 (s0 a3 a4 b6 b7 b8 b9 b10 b11 : SL) : rs5 (E1 s0 2 R2 a3 a4 .no b6 b7 b8 b9 b10 b11) = some (.nx (E1 s0 2 R2 a3 a4 (.sh (.int 2)) b6 b7 b8 b9 b10 b11)) := by kernel_rfl
theorem la_2 : g_l_all [.int ((2 : Nat) : Int)] = some (.ok (toldD R2)) := by kernel_rfl
theorem lb_2 : g_l_same [toldD R2, toldD R2] = some (.ok (.bl true)) := by kernel_rfl
theorem RF_2 : RF 2 R2 2 1 2 1 0 0 2 1 := ⟨told_2, c1_2, c2_2, c3_2, by decide +kernel, pm_2, hm_2, by rw [e10_2]; exact rl_2, few_2, h0_2, h1_2, h2_2, h3_2, h4_2, top_2, isI_eq (by decide +kernel), hx_2, isI_eq (by decide +kernel), hn_2, .inr ⟨la_2, lb_2⟩⟩
end K94
/-! The facts of 3 places. -/
namespace K94
open PySem PySem.Spec PyProof.Rows L2 Dl
def R3 : Tb := [(0, 1), (16, 6), (32, 12), (33, 3), (48, 6), (49, 14), (65, 6)]
theorem told_3 : g_belts_and_rings [.int ((3 : Nat) : Int)] = some (.ok (toldD R3)) := run_ok (G := G_belts_and_rings) (ρ' := [.sh (.int ((3 : Nat) : Int)), .sh (enc T3), .no, .no]) rfl rfl (seq_of (set_of (i := 1) (call_of (cons_of rfl rfl) tab_3)) (by kernel_rfl))
theorem c1_3 (s0 : SL) : rq1 (E0 s0 3 R3) = some (.ok false (E0 s0 3 R3)) := by kernel_rfl
theorem c2_3 (s0 : SL) : rq2 (E0 s0 3 R3) = some (.ok false (E0 s0 3 R3)) := by kernel_rfl
theorem c3_3 (s0 : SL) : rq3 (E0 s0 3 R3) = some (.ok false (E0 s0 3 R3)) := by kernel_rfl
theorem pm_3 : (ftA.getD 3 []).Perm R3 := List.isPerm_iff.mp (show T3.isPerm R3 = true by decide +kernel)
theorem h0_3 : g_how_many_with [.int ((3 : Nat) : Int), .int 0] = some (.ok (.int 1)) := run_ok (G := G_how_many_with) (ρ' := [.sh (.int ((3 : Nat) : Int)), .sh (.int 0), .sh (enc T3), .no]) rfl rfl (seq_of (set_of (i := 2) (call_of (cons_of rfl rfl) tab_3)) (by kernel_rfl))
theorem h1_3 : g_how_many_with [.int ((3 : Nat) : Int), .int 1] = some (.ok (.int 6)) := run_ok (G := G_how_many_with) (ρ' := [.sh (.int ((3 : Nat) : Int)), .sh (.int 1), .sh (enc T3), .no]) rfl rfl (seq_of (set_of (i := 2) (call_of (cons_of rfl rfl) tab_3)) (by kernel_rfl))
theorem h2_3 : g_how_many_with [.int ((3 : Nat) : Int), .int 2] = some (.ok (.int 15)) := run_ok (G := G_how_many_with) (ρ' := [.sh (.int ((3 : Nat) : Int)), .sh (.int 2), .sh (enc T3), .no]) rfl rfl (seq_of (set_of (i := 2) (call_of (cons_of rfl rfl) tab_3)) (by kernel_rfl))
theorem h3_3 : g_how_many_with [.int ((3 : Nat) : Int), .int 3] = some (.ok (.int 20)) := run_ok (G := G_how_many_with) (ρ' := [.sh (.int ((3 : Nat) : Int)), .sh (.int 3), .sh (enc T3), .no]) rfl rfl (seq_of (set_of (i := 2) (call_of (cons_of rfl rfl) tab_3)) (by kernel_rfl))
theorem h4_3 : g_how_many_with [.int ((3 : Nat) : Int), .int 4] = some (.ok (.int 6)) := run_ok (G := G_how_many_with) (ρ' := [.sh (.int ((3 : Nat) : Int)), .sh (.int 4), .sh (enc T3), .no]) rfl rfl (seq_of (set_of (i := 2) (call_of (cons_of rfl rfl) tab_3)) (by kernel_rfl))
theorem hx_3 : g_how_many_with [.int ((3 : Nat) : Int), .int 4] = some (.ok (.int 6)) := run_ok (G := G_how_many_with) (ρ' := [.sh (.int ((3 : Nat) : Int)), .sh (.int 4), .sh (enc T3), .no]) rfl rfl (seq_of (set_of (i := 2) (call_of (cons_of rfl rfl) tab_3)) (by kernel_rfl))
theorem hn_3 : g_how_many_with [.int ((3 : Nat) : Int), .int (4 + 1)] = some (.ok (.int 0)) := run_ok (G := G_how_many_with) (ρ' := [.sh (.int ((3 : Nat) : Int)), .sh (.int (4 + 1)), .sh (enc T3), .no]) rfl rfl (seq_of (set_of (i := 2) (call_of (cons_of rfl rfl) tab_3)) (by kernel_rfl))
theorem rl_3 : g_how_many_ringless [.int ((3 : Nat) : Int)] = some (.ok (.int 25)) := run_ok (G := G_how_many_ringless) (ρ' := [.sh (.int ((3 : Nat) : Int)), .sh (enc T3), .no]) rfl rfl (seq_of (set_of (i := 1) (call_of (cons_of rfl rfl) tab_3)) (by kernel_rfl))
theorem e10_3 : ev 1 0 (ftA.getD 3 []) = 25 := by decide +kernel
theorem hm_3 : g_how_many [.int ((3 : Nat) : Int)] = some (.ok (.int (ev 1 1 (ftA.getD 3 [])))) := isI_eq (by decide +kernel)
theorem few_3 (s0 b6 b7 b8 b9 b10 b11 : SL) : sSeq rs3 (sSeq rs4 rs4b) (E1 s0 3 R3 .no .no .no b6 b7 b8 b9 b10 b11) = some (.nx (E1 s0 3 R3 (.sh (.int 6)) (.ow none (encV [1, 6, 15, 20, 6])) .no b6 b7 b8 b9 b10 b11)) := by kernel_rfl
theorem top_3 (s0 a3 a4 b6 b7 b8 b9 b10 b11 : SL) : rs5 (E1 s0 3 R3 a3 a4 .no b6 b7 b8 b9 b10 b11) = some (.nx (E1 s0 3 R3 a3 a4 (.sh (.int 4)) b6 b7 b8 b9 b10 b11)) := by kernel_rfl
theorem la_3 : g_l_all [.int ((3 : Nat) : Int)] = some (.ok (toldD R3)) := by kernel_rfl
theorem lb_3 : g_l_same [toldD R3, toldD R3] = some (.ok (.bl true)) := by kernel_rfl
theorem RF_3 : RF 3 R3 6 1 6 15 20 6 4 6 := ⟨told_3, c1_3, c2_3, c3_3, by decide +kernel, pm_3, hm_3, by rw [e10_3]; exact rl_3, few_3, h0_3, h1_3, h2_3, h3_3, h4_3, top_3, isI_eq (by decide +kernel), hx_3, isI_eq (by decide +kernel), hn_3, .inr ⟨la_3, lb_3⟩⟩
end K94
/-! The facts of 4 places. -/
namespace K94
open PySem PySem.Spec PyProof.Rows L2 Dl
def R4 : Tb := [(0, 1), (16, 12), (32, 60), (33, 6), (48, 152), (49, 68), (64, 186), (65, 270), (66, 3), (80, 108), (81, 336), (82, 24), (96, 24), (97, 184), (98, 36), (113, 36), (114, 24), (130, 6)]
theorem told_4 : g_belts_and_rings [.int ((4 : Nat) : Int)] = some (.ok (toldD R4)) := run_ok (G := G_belts_and_rings) (ρ' := [.sh (.int ((4 : Nat) : Int)), .sh (enc T4), .no, .no]) rfl rfl (seq_of (set_of (i := 1) (call_of (cons_of rfl rfl) tab_4)) (by kernel_rfl))
theorem c1_4 (s0 : SL) : rq1 (E0 s0 4 R4) = some (.ok false (E0 s0 4 R4)) := by kernel_rfl
theorem c2_4 (s0 : SL) : rq2 (E0 s0 4 R4) = some (.ok false (E0 s0 4 R4)) := by kernel_rfl
theorem c3_4 (s0 : SL) : rq3 (E0 s0 4 R4) = some (.ok false (E0 s0 4 R4)) := by kernel_rfl
theorem pm_4 : (ftA.getD 4 []).Perm R4 := List.isPerm_iff.mp (show T4.isPerm R4 = true by decide +kernel)
theorem h0_4 : g_how_many_with [.int ((4 : Nat) : Int), .int 0] = some (.ok (.int 1)) := run_ok (G := G_how_many_with) (ρ' := [.sh (.int ((4 : Nat) : Int)), .sh (.int 0), .sh (enc T4), .no]) rfl rfl (seq_of (set_of (i := 2) (call_of (cons_of rfl rfl) tab_4)) (by kernel_rfl))
theorem h1_4 : g_how_many_with [.int ((4 : Nat) : Int), .int 1] = some (.ok (.int 12)) := run_ok (G := G_how_many_with) (ρ' := [.sh (.int ((4 : Nat) : Int)), .sh (.int 1), .sh (enc T4), .no]) rfl rfl (seq_of (set_of (i := 2) (call_of (cons_of rfl rfl) tab_4)) (by kernel_rfl))
theorem h2_4 : g_how_many_with [.int ((4 : Nat) : Int), .int 2] = some (.ok (.int 66)) := run_ok (G := G_how_many_with) (ρ' := [.sh (.int ((4 : Nat) : Int)), .sh (.int 2), .sh (enc T4), .no]) rfl rfl (seq_of (set_of (i := 2) (call_of (cons_of rfl rfl) tab_4)) (by kernel_rfl))
theorem h3_4 : g_how_many_with [.int ((4 : Nat) : Int), .int 3] = some (.ok (.int 220)) := run_ok (G := G_how_many_with) (ρ' := [.sh (.int ((4 : Nat) : Int)), .sh (.int 3), .sh (enc T4), .no]) rfl rfl (seq_of (set_of (i := 2) (call_of (cons_of rfl rfl) tab_4)) (by kernel_rfl))
theorem h4_4 : g_how_many_with [.int ((4 : Nat) : Int), .int 4] = some (.ok (.int 459)) := run_ok (G := G_how_many_with) (ρ' := [.sh (.int ((4 : Nat) : Int)), .sh (.int 4), .sh (enc T4), .no]) rfl rfl (seq_of (set_of (i := 2) (call_of (cons_of rfl rfl) tab_4)) (by kernel_rfl))
theorem hx_4 : g_how_many_with [.int ((4 : Nat) : Int), .int 8] = some (.ok (.int 6)) := run_ok (G := G_how_many_with) (ρ' := [.sh (.int ((4 : Nat) : Int)), .sh (.int 8), .sh (enc T4), .no]) rfl rfl (seq_of (set_of (i := 2) (call_of (cons_of rfl rfl) tab_4)) (by kernel_rfl))
theorem hn_4 : g_how_many_with [.int ((4 : Nat) : Int), .int (8 + 1)] = some (.ok (.int 0)) := run_ok (G := G_how_many_with) (ρ' := [.sh (.int ((4 : Nat) : Int)), .sh (.int (8 + 1)), .sh (enc T4), .no]) rfl rfl (seq_of (set_of (i := 2) (call_of (cons_of rfl rfl) tab_4)) (by kernel_rfl))
theorem rl_4 : g_how_many_ringless [.int ((4 : Nat) : Int)] = some (.ok (.int 543)) := run_ok (G := G_how_many_ringless) (ρ' := [.sh (.int ((4 : Nat) : Int)), .sh (enc T4), .no]) rfl rfl (seq_of (set_of (i := 1) (call_of (cons_of rfl rfl) tab_4)) (by kernel_rfl))
theorem e10_4 : ev 1 0 (ftA.getD 4 []) = 543 := by decide +kernel
theorem hm_4 : g_how_many [.int ((4 : Nat) : Int)] = some (.ok (.int (ev 1 1 (ftA.getD 4 [])))) := isI_eq (by decide +kernel)
theorem few_4 (s0 b6 b7 b8 b9 b10 b11 : SL) : sSeq rs3 (sSeq rs4 rs4b) (E1 s0 4 R4 .no .no .no b6 b7 b8 b9 b10 b11) = some (.nx (E1 s0 4 R4 (.sh (.int 12)) (.ow none (encV [1, 12, 66, 220, 459])) .no b6 b7 b8 b9 b10 b11)) := by kernel_rfl
theorem top_4 (s0 a3 a4 b6 b7 b8 b9 b10 b11 : SL) : rs5 (E1 s0 4 R4 a3 a4 .no b6 b7 b8 b9 b10 b11) = some (.nx (E1 s0 4 R4 a3 a4 (.sh (.int 8)) b6 b7 b8 b9 b10 b11)) := by kernel_rfl
theorem RF_4 : RF 4 R4 12 1 12 66 220 459 8 6 := ⟨told_4, c1_4, c2_4, c3_4, by decide +kernel, pm_4, hm_4, by rw [e10_4]; exact rl_4, few_4, h0_4, h1_4, h2_4, h3_4, h4_4, top_4, isI_eq (by decide +kernel), hx_4, isI_eq (by decide +kernel), hn_4, .inl (by decide)⟩
end K94
/-! The facts of 5 places. -/
namespace K94
open PySem PySem.Spec PyProof.Rows L2 Dl
def R5 : Tb := [(0, 1), (16, 20), (32, 180), (33, 10), (48, 940), (49, 200), (64, 3050), (65, 1690), (66, 15), (80, 6180), (81, 7324), (82, 260), (96, 7960), (97, 16040), (98, 1680), (112, 6540), (113, 20620), (114, 4320), (128, 3330), (129, 16280), (130, 6170), (144, 960), (145, 7820), (146, 5280), (160, 120), (161, 2100), (162, 2700), (177, 240), (178, 760), (194, 90)]
theorem told_5 : g_belts_and_rings [.int ((5 : Nat) : Int)] = some (.ok (toldD R5)) := run_ok (G := G_belts_and_rings) (ρ' := [.sh (.int ((5 : Nat) : Int)), .sh (enc T5), .no, .no]) rfl rfl (seq_of (set_of (i := 1) (call_of (cons_of rfl rfl) tab_5)) (by kernel_rfl))
theorem c1_5 (s0 : SL) : rq1 (E0 s0 5 R5) = some (.ok false (E0 s0 5 R5)) := by kernel_rfl
theorem c2_5 (s0 : SL) : rq2 (E0 s0 5 R5) = some (.ok false (E0 s0 5 R5)) := by kernel_rfl
theorem c3_5 (s0 : SL) : rq3 (E0 s0 5 R5) = some (.ok false (E0 s0 5 R5)) := by kernel_rfl
theorem pm_5 : (ftA.getD 5 []).Perm R5 := List.isPerm_iff.mp (show T5.isPerm R5 = true by decide +kernel)
theorem h0_5 : g_how_many_with [.int ((5 : Nat) : Int), .int 0] = some (.ok (.int 1)) := run_ok (G := G_how_many_with) (ρ' := [.sh (.int ((5 : Nat) : Int)), .sh (.int 0), .sh (enc T5), .no]) rfl rfl (seq_of (set_of (i := 2) (call_of (cons_of rfl rfl) tab_5)) (by kernel_rfl))
theorem h1_5 : g_how_many_with [.int ((5 : Nat) : Int), .int 1] = some (.ok (.int 20)) := run_ok (G := G_how_many_with) (ρ' := [.sh (.int ((5 : Nat) : Int)), .sh (.int 1), .sh (enc T5), .no]) rfl rfl (seq_of (set_of (i := 2) (call_of (cons_of rfl rfl) tab_5)) (by kernel_rfl))
theorem h2_5 : g_how_many_with [.int ((5 : Nat) : Int), .int 2] = some (.ok (.int 190)) := run_ok (G := G_how_many_with) (ρ' := [.sh (.int ((5 : Nat) : Int)), .sh (.int 2), .sh (enc T5), .no]) rfl rfl (seq_of (set_of (i := 2) (call_of (cons_of rfl rfl) tab_5)) (by kernel_rfl))
theorem h3_5 : g_how_many_with [.int ((5 : Nat) : Int), .int 3] = some (.ok (.int 1140)) := run_ok (G := G_how_many_with) (ρ' := [.sh (.int ((5 : Nat) : Int)), .sh (.int 3), .sh (enc T5), .no]) rfl rfl (seq_of (set_of (i := 2) (call_of (cons_of rfl rfl) tab_5)) (by kernel_rfl))
theorem h4_5 : g_how_many_with [.int ((5 : Nat) : Int), .int 4] = some (.ok (.int 4755)) := run_ok (G := G_how_many_with) (ρ' := [.sh (.int ((5 : Nat) : Int)), .sh (.int 4), .sh (enc T5), .no]) rfl rfl (seq_of (set_of (i := 2) (call_of (cons_of rfl rfl) tab_5)) (by kernel_rfl))
theorem hx_5 : g_how_many_with [.int ((5 : Nat) : Int), .int 12] = some (.ok (.int 90)) := run_ok (G := G_how_many_with) (ρ' := [.sh (.int ((5 : Nat) : Int)), .sh (.int 12), .sh (enc T5), .no]) rfl rfl (seq_of (set_of (i := 2) (call_of (cons_of rfl rfl) tab_5)) (by kernel_rfl))
theorem hn_5 : g_how_many_with [.int ((5 : Nat) : Int), .int (12 + 1)] = some (.ok (.int 0)) := run_ok (G := G_how_many_with) (ρ' := [.sh (.int ((5 : Nat) : Int)), .sh (.int (12 + 1)), .sh (enc T5), .no]) rfl rfl (seq_of (set_of (i := 2) (call_of (cons_of rfl rfl) tab_5)) (by kernel_rfl))
theorem rl_5 : g_how_many_ringless [.int ((5 : Nat) : Int)] = some (.ok (.int 29281)) := run_ok (G := G_how_many_ringless) (ρ' := [.sh (.int ((5 : Nat) : Int)), .sh (enc T5), .no]) rfl rfl (seq_of (set_of (i := 1) (call_of (cons_of rfl rfl) tab_5)) (by kernel_rfl))
theorem e10_5 : ev 1 0 (ftA.getD 5 []) = 29281 := by decide +kernel
theorem hm_5 : g_how_many [.int ((5 : Nat) : Int)] = some (.ok (.int (ev 1 1 (ftA.getD 5 [])))) := isI_eq (by decide +kernel)
theorem few_5 (s0 b6 b7 b8 b9 b10 b11 : SL) : sSeq rs3 (sSeq rs4 rs4b) (E1 s0 5 R5 .no .no .no b6 b7 b8 b9 b10 b11) = some (.nx (E1 s0 5 R5 (.sh (.int 20)) (.ow none (encV [1, 20, 190, 1140, 4755])) .no b6 b7 b8 b9 b10 b11)) := by kernel_rfl
theorem top_5 (s0 a3 a4 b6 b7 b8 b9 b10 b11 : SL) : rs5 (E1 s0 5 R5 a3 a4 .no b6 b7 b8 b9 b10 b11) = some (.nx (E1 s0 5 R5 a3 a4 (.sh (.int 12)) b6 b7 b8 b9 b10 b11)) := by kernel_rfl
theorem RF_5 : RF 5 R5 20 1 20 190 1140 4755 12 90 := ⟨told_5, c1_5, c2_5, c3_5, by decide +kernel, pm_5, hm_5, by rw [e10_5]; exact rl_5, few_5, h0_5, h1_5, h2_5, h3_5, h4_5, top_5, isI_eq (by decide +kernel), hx_5, isI_eq (by decide +kernel), hn_5, .inl (by decide)⟩
end K94
/-! The facts of 6 places. -/
namespace K94
open PySem PySem.Spec PyProof.Rows L2 Dl
def R6 : Tb := [(0, 1), (16, 30), (32, 420), (33, 15), (48, 3600), (49, 460), (64, 20790), (65, 6390), (66, 45), (80, 83952), (81, 51564), (82, 1290), (96, 240480), (97, 257910), (98, 15910), (99, 15), (112, 496680), (113, 812880), (114, 104640), (115, 360), (128, 750810), (129, 1729680), (130, 381330), (131, 3420), (144, 838130), (145, 2599440), (146, 887280), (147, 14760), (160, 691020), (161, 2829708), (162, 1416240), (163, 38250), (176, 416160), (177, 2250300), (178, 1607880), (179, 66240), (192, 178230), (193, 1298300), (194, 1316370), (195, 80640), (208, 51480), (209, 530100), (210, 774030), (211, 70560), (224, 9000), (225, 145350), (226, 319440), (227, 44460), (240, 720), (241, 24000), (242, 87920), (243, 19800), (257, 1800), (258, 14490), (259, 5940), (274, 1080), (275, 1080), (291, 90)]
theorem told_6 : g_belts_and_rings [.int ((6 : Nat) : Int)] = some (.ok (toldD R6)) := run_ok (G := G_belts_and_rings) (ρ' := [.sh (.int ((6 : Nat) : Int)), .sh (enc T6), .no, .no]) rfl rfl (seq_of (set_of (i := 1) (call_of (cons_of rfl rfl) tab_6)) (by kernel_rfl))
theorem c1_6 (s0 : SL) : rq1 (E0 s0 6 R6) = some (.ok false (E0 s0 6 R6)) := by kernel_rfl
theorem c2_6 (s0 : SL) : rq2 (E0 s0 6 R6) = some (.ok false (E0 s0 6 R6)) := by kernel_rfl
theorem c3_6 (s0 : SL) : rq3 (E0 s0 6 R6) = some (.ok false (E0 s0 6 R6)) := by kernel_rfl
theorem pm_6 : (ftA.getD 6 []).Perm R6 := List.isPerm_iff.mp (show T6.isPerm R6 = true by decide +kernel)
theorem h0_6 : g_how_many_with [.int ((6 : Nat) : Int), .int 0] = some (.ok (.int 1)) := run_ok (G := G_how_many_with) (ρ' := [.sh (.int ((6 : Nat) : Int)), .sh (.int 0), .sh (enc T6), .no]) rfl rfl (seq_of (set_of (i := 2) (call_of (cons_of rfl rfl) tab_6)) (by kernel_rfl))
theorem h1_6 : g_how_many_with [.int ((6 : Nat) : Int), .int 1] = some (.ok (.int 30)) := run_ok (G := G_how_many_with) (ρ' := [.sh (.int ((6 : Nat) : Int)), .sh (.int 1), .sh (enc T6), .no]) rfl rfl (seq_of (set_of (i := 2) (call_of (cons_of rfl rfl) tab_6)) (by kernel_rfl))
theorem h2_6 : g_how_many_with [.int ((6 : Nat) : Int), .int 2] = some (.ok (.int 435)) := run_ok (G := G_how_many_with) (ρ' := [.sh (.int ((6 : Nat) : Int)), .sh (.int 2), .sh (enc T6), .no]) rfl rfl (seq_of (set_of (i := 2) (call_of (cons_of rfl rfl) tab_6)) (by kernel_rfl))
theorem h3_6 : g_how_many_with [.int ((6 : Nat) : Int), .int 3] = some (.ok (.int 4060)) := run_ok (G := G_how_many_with) (ρ' := [.sh (.int ((6 : Nat) : Int)), .sh (.int 3), .sh (enc T6), .no]) rfl rfl (seq_of (set_of (i := 2) (call_of (cons_of rfl rfl) tab_6)) (by kernel_rfl))
theorem h4_6 : g_how_many_with [.int ((6 : Nat) : Int), .int 4] = some (.ok (.int 27225)) := run_ok (G := G_how_many_with) (ρ' := [.sh (.int ((6 : Nat) : Int)), .sh (.int 4), .sh (enc T6), .no]) rfl rfl (seq_of (set_of (i := 2) (call_of (cons_of rfl rfl) tab_6)) (by kernel_rfl))
theorem hx_6 : g_how_many_with [.int ((6 : Nat) : Int), .int 18] = some (.ok (.int 90)) := run_ok (G := G_how_many_with) (ρ' := [.sh (.int ((6 : Nat) : Int)), .sh (.int 18), .sh (enc T6), .no]) rfl rfl (seq_of (set_of (i := 2) (call_of (cons_of rfl rfl) tab_6)) (by kernel_rfl))
theorem hn_6 : g_how_many_with [.int ((6 : Nat) : Int), .int (18 + 1)] = some (.ok (.int 0)) := run_ok (G := G_how_many_with) (ρ' := [.sh (.int ((6 : Nat) : Int)), .sh (.int (18 + 1)), .sh (enc T6), .no]) rfl rfl (seq_of (set_of (i := 2) (call_of (cons_of rfl rfl) tab_6)) (by kernel_rfl))
theorem rl_6 : g_how_many_ringless [.int ((6 : Nat) : Int)] = some (.ok (.int 3781503)) := run_ok (G := G_how_many_ringless) (ρ' := [.sh (.int ((6 : Nat) : Int)), .sh (enc T6), .no]) rfl rfl (seq_of (set_of (i := 1) (call_of (cons_of rfl rfl) tab_6)) (by kernel_rfl))
theorem e10_6 : ev 1 0 (ftA.getD 6 []) = 3781503 := by decide +kernel
theorem hm_6 : g_how_many [.int ((6 : Nat) : Int)] = some (.ok (.int (ev 1 1 (ftA.getD 6 [])))) := isI_eq (by decide +kernel)
theorem few_6 (s0 b6 b7 b8 b9 b10 b11 : SL) : sSeq rs3 (sSeq rs4 rs4b) (E1 s0 6 R6 .no .no .no b6 b7 b8 b9 b10 b11) = some (.nx (E1 s0 6 R6 (.sh (.int 30)) (.ow none (encV [1, 30, 435, 4060, 27225])) .no b6 b7 b8 b9 b10 b11)) := by kernel_rfl
theorem top_6 (s0 a3 a4 b6 b7 b8 b9 b10 b11 : SL) : rs5 (E1 s0 6 R6 a3 a4 .no b6 b7 b8 b9 b10 b11) = some (.nx (E1 s0 6 R6 a3 a4 (.sh (.int 18)) b6 b7 b8 b9 b10 b11)) := by kernel_rfl
theorem RF_6 : RF 6 R6 30 1 30 435 4060 27225 18 90 := ⟨told_6, c1_6, c2_6, c3_6, by decide +kernel, pm_6, hm_6, by rw [e10_6]; exact rl_6, few_6, h0_6, h1_6, h2_6, h3_6, h4_6, top_6, isI_eq (by decide +kernel), hx_6, isI_eq (by decide +kernel), hn_6, .inl (by decide)⟩
end K94
/-! The facts of 7 places. -/
namespace K94
open PySem PySem.Spec PyProof.Rows L2 Dl
def R7 : Tb := [(0, 1), (16, 42), (32, 840), (33, 21), (48, 10570), (49, 910), (64, 93030), (65, 18480), (66, 105), (80, 601944), (81, 229824), (82, 4410), (96, 2934568), (97, 1917538), (98, 84490), (99, 105), (112, 10931760), (113, 11112744), (114, 951594), (115, 3990), (128, 31528980), (129, 45656100), (130, 6794970), (131, 66570), (144, 71331470), (145, 137983720), (146, 31817800), (147, 614040), (160, 128047374), (161, 316785546), (162, 104656860), (163, 3339210), (176, 183963066), (177, 565858272), (178, 254352000), (179, 12119940), (192, 212642360), (193, 799291892), (194, 472440976), (195, 31644480), (208, 198066960), (209, 901598040), (210, 685394010), (211, 62188560), (224, 148296330), (225, 815608500), (226, 786842910), (227, 94591350), (240, 88602780), (241, 591170636), (242, 719366270), (243, 113232420), (256, 41683950), (257, 341147814), (258, 524018040), (259, 107598960), (272, 15107400), (273, 154733040), (274, 302521128), (275, 81322080), (288, 4071480), (289, 53976510), (290, 136746890), (291, 48668760), (304, 768600), (305, 13977180), (306, 47385660), (307, 22799280), (320, 90720), (321, 2530080), (322, 12154590), (323, 8188110), (336, 5040), (337, 285600), (338, 2173920), (339, 2177280), (353, 15120), (354, 241920), (355, 403830), (370, 12600), (371, 46620), (387, 2520)]
theorem told_7 : g_belts_and_rings [.int ((7 : Nat) : Int)] = some (.ok (toldD R7)) := run_ok (G := G_belts_and_rings) (ρ' := [.sh (.int ((7 : Nat) : Int)), .sh (enc T7), .no, .no]) rfl rfl (seq_of (set_of (i := 1) (call_of (cons_of rfl rfl) tab_7)) (by kernel_rfl))
theorem c1_7 (s0 : SL) : rq1 (E0 s0 7 R7) = some (.ok false (E0 s0 7 R7)) := by kernel_rfl
theorem c2_7 (s0 : SL) : rq2 (E0 s0 7 R7) = some (.ok false (E0 s0 7 R7)) := by kernel_rfl
theorem c3_7 (s0 : SL) : rq3 (E0 s0 7 R7) = some (.ok false (E0 s0 7 R7)) := by kernel_rfl
theorem pm_7 : (ftA.getD 7 []).Perm R7 := List.isPerm_iff.mp (show T7.isPerm R7 = true by decide +kernel)
theorem h0_7 : g_how_many_with [.int ((7 : Nat) : Int), .int 0] = some (.ok (.int 1)) := run_ok (G := G_how_many_with) (ρ' := [.sh (.int ((7 : Nat) : Int)), .sh (.int 0), .sh (enc T7), .no]) rfl rfl (seq_of (set_of (i := 2) (call_of (cons_of rfl rfl) tab_7)) (by kernel_rfl))
theorem h1_7 : g_how_many_with [.int ((7 : Nat) : Int), .int 1] = some (.ok (.int 42)) := run_ok (G := G_how_many_with) (ρ' := [.sh (.int ((7 : Nat) : Int)), .sh (.int 1), .sh (enc T7), .no]) rfl rfl (seq_of (set_of (i := 2) (call_of (cons_of rfl rfl) tab_7)) (by kernel_rfl))
theorem h2_7 : g_how_many_with [.int ((7 : Nat) : Int), .int 2] = some (.ok (.int 861)) := run_ok (G := G_how_many_with) (ρ' := [.sh (.int ((7 : Nat) : Int)), .sh (.int 2), .sh (enc T7), .no]) rfl rfl (seq_of (set_of (i := 2) (call_of (cons_of rfl rfl) tab_7)) (by kernel_rfl))
theorem h3_7 : g_how_many_with [.int ((7 : Nat) : Int), .int 3] = some (.ok (.int 11480)) := run_ok (G := G_how_many_with) (ρ' := [.sh (.int ((7 : Nat) : Int)), .sh (.int 3), .sh (enc T7), .no]) rfl rfl (seq_of (set_of (i := 2) (call_of (cons_of rfl rfl) tab_7)) (by kernel_rfl))
theorem h4_7 : g_how_many_with [.int ((7 : Nat) : Int), .int 4] = some (.ok (.int 111615)) := run_ok (G := G_how_many_with) (ρ' := [.sh (.int ((7 : Nat) : Int)), .sh (.int 4), .sh (enc T7), .no]) rfl rfl (seq_of (set_of (i := 2) (call_of (cons_of rfl rfl) tab_7)) (by kernel_rfl))
theorem hx_7 : g_how_many_with [.int ((7 : Nat) : Int), .int 24] = some (.ok (.int 2520)) := run_ok (G := G_how_many_with) (ρ' := [.sh (.int ((7 : Nat) : Int)), .sh (.int 24), .sh (enc T7), .no]) rfl rfl (seq_of (set_of (i := 2) (call_of (cons_of rfl rfl) tab_7)) (by kernel_rfl))
theorem hn_7 : g_how_many_with [.int ((7 : Nat) : Int), .int (24 + 1)] = some (.ok (.int 0)) := run_ok (G := G_how_many_with) (ρ' := [.sh (.int ((7 : Nat) : Int)), .sh (.int (24 + 1)), .sh (enc T7), .no]) rfl rfl (seq_of (set_of (i := 2) (call_of (cons_of rfl rfl) tab_7)) (by kernel_rfl))
theorem rl_7 : g_how_many_ringless [.int ((7 : Nat) : Int)] = some (.ok (.int 1138779265)) := run_ok (G := G_how_many_ringless) (ρ' := [.sh (.int ((7 : Nat) : Int)), .sh (enc T7), .no]) rfl rfl (seq_of (set_of (i := 1) (call_of (cons_of rfl rfl) tab_7)) (by kernel_rfl))
theorem e10_7 : ev 1 0 (ftA.getD 7 []) = 1138779265 := by decide +kernel
theorem hm_7 : g_how_many [.int ((7 : Nat) : Int)] = some (.ok (.int (ev 1 1 (ftA.getD 7 [])))) := isI_eq (by decide +kernel)
theorem few_7 (s0 b6 b7 b8 b9 b10 b11 : SL) : sSeq rs3 (sSeq rs4 rs4b) (E1 s0 7 R7 .no .no .no b6 b7 b8 b9 b10 b11) = some (.nx (E1 s0 7 R7 (.sh (.int 42)) (.ow none (encV [1, 42, 861, 11480, 111615])) .no b6 b7 b8 b9 b10 b11)) := by kernel_rfl
theorem top_7 (s0 a3 a4 b6 b7 b8 b9 b10 b11 : SL) : rs5 (E1 s0 7 R7 a3 a4 .no b6 b7 b8 b9 b10 b11) = some (.nx (E1 s0 7 R7 a3 a4 (.sh (.int 24)) b6 b7 b8 b9 b10 b11)) := by kernel_rfl
theorem RF_7 : RF 7 R7 42 1 42 861 11480 111615 24 2520 := ⟨told_7, c1_7, c2_7, c3_7, by decide +kernel, pm_7, hm_7, by rw [e10_7]; exact rl_7, few_7, h0_7, h1_7, h2_7, h3_7, h4_7, top_7, isI_eq (by decide +kernel), hx_7, isI_eq (by decide +kernel), hn_7, .inl (by decide)⟩
end K94
/-! The facts of 8 places. -/
namespace K94
open PySem PySem.Spec PyProof.Rows L2 Dl
def R8 : Tb := [(0, 1), (16, 56), (32, 1512), (33, 28), (48, 26096), (49, 1624), (64, 321580), (65, 44996), (66, 210), (80, 2991576), (81, 784784), (82, 12040), (96, 21663936), (97, 9546824), (98, 324520), (99, 420), (112, 124318112), (113, 84864856), (114, 5380592), (115, 22680), (128, 572121396), (129, 564232088), (130, 60293156), (131, 563500), (132, 105), (144, 2134043800), (145, 2855822256), (146, 475227704), (147, 8346240), (148, 5040), (160, 6519340912), (161, 11259179624), (162, 2706573520), (163, 80151960), (164, 108360), (176, 16473117696), (177, 35357139384), (178, 11576339600), (179, 521056760), (180, 1328880), (192, 34731298224), (193, 90131835808), (194, 38479488432), (195, 2443713720), (196, 10025820), (208, 61545628424), (209, 189340690672), (210, 102092138456), (211, 8691574080), (212, 51922080), (224, 92182779360), (225, 331550107208), (226, 220558033584), (227, 24294741800), (228, 198490320), (240, 117163448528), (241, 488012179368), (242, 393704673040), (243, 54730145400), (244, 587028960), (256, 126648701746), (257, 607268380544), (258, 586801792360), (259, 101153833200), (260, 1385744220), (272, 116493499584), (273, 641040027488), (274, 735555975560), (275, 155318993760), (276, 2667413280), (288, 91060882584), (289, 574781845736), (290, 778910389152), (291, 199834609800), (292, 4249087920), (304, 60291924000), (305, 437408098288), (306, 698238817472), (307, 216601738920), (308, 5658156000), (320, 33623426340), (321, 281670028752), (322, 529752441260), (323, 198320825360), (324, 6339453960), (336, 15660145200), (337, 152652480624), (338, 339307954160), (339, 153421690800), (340, 5997610080), (352, 6017405520), (353, 69045072096), (354, 182539664608), (355, 100057309800), (356, 4795927920), (368, 1874557440), (369, 25746917616), (370, 81815343120), (371, 54744090800), (372, 3236315040), (384, 461599320), (385, 7778226120), (386, 30186515352), (387, 24928172640), (388, 1835073450), (400, 86476320), (401, 1855909440), (402, 9010658160), (403, 9335637360), (404, 867872880), (416, 11581920), (417, 336567840), (418, 2121631680), (419, 2826191760), (420, 338463720), (432, 987840), (433, 43582560), (434, 379229760), (435, 674377200), (436, 107034480), (448, 40320), (449, 3588480), (450, 48345360), (451, 122076360), (452, 26773740), (465, 141120), (466, 3914400), (467, 15751680), (468, 5100480), (482, 151200), (483, 1290240), (484, 695520), (499, 50400), (500, 60480), (516, 2520)]
theorem told_8 : g_belts_and_rings [.int ((8 : Nat) : Int)] = some (.ok (toldD R8)) := run_ok (G := G_belts_and_rings) (ρ' := [.sh (.int ((8 : Nat) : Int)), .sh (enc T8), .no, .no]) rfl rfl (seq_of (set_of (i := 1) (call_of (cons_of rfl rfl) tab_8)) (by kernel_rfl))
theorem c1_8 (s0 : SL) : rq1 (E0 s0 8 R8) = some (.ok false (E0 s0 8 R8)) := by kernel_rfl
theorem c2_8 (s0 : SL) : rq2 (E0 s0 8 R8) = some (.ok false (E0 s0 8 R8)) := by kernel_rfl
theorem c3_8 (s0 : SL) : rq3 (E0 s0 8 R8) = some (.ok false (E0 s0 8 R8)) := by kernel_rfl
theorem pm_8 : (ftA.getD 8 []).Perm R8 := List.isPerm_iff.mp (show T8.isPerm R8 = true by decide +kernel)
theorem h0_8 : g_how_many_with [.int ((8 : Nat) : Int), .int 0] = some (.ok (.int 1)) := run_ok (G := G_how_many_with) (ρ' := [.sh (.int ((8 : Nat) : Int)), .sh (.int 0), .sh (enc T8), .no]) rfl rfl (seq_of (set_of (i := 2) (call_of (cons_of rfl rfl) tab_8)) (by kernel_rfl))
theorem h1_8 : g_how_many_with [.int ((8 : Nat) : Int), .int 1] = some (.ok (.int 56)) := run_ok (G := G_how_many_with) (ρ' := [.sh (.int ((8 : Nat) : Int)), .sh (.int 1), .sh (enc T8), .no]) rfl rfl (seq_of (set_of (i := 2) (call_of (cons_of rfl rfl) tab_8)) (by kernel_rfl))
theorem h2_8 : g_how_many_with [.int ((8 : Nat) : Int), .int 2] = some (.ok (.int 1540)) := run_ok (G := G_how_many_with) (ρ' := [.sh (.int ((8 : Nat) : Int)), .sh (.int 2), .sh (enc T8), .no]) rfl rfl (seq_of (set_of (i := 2) (call_of (cons_of rfl rfl) tab_8)) (by kernel_rfl))
theorem h3_8 : g_how_many_with [.int ((8 : Nat) : Int), .int 3] = some (.ok (.int 27720)) := run_ok (G := G_how_many_with) (ρ' := [.sh (.int ((8 : Nat) : Int)), .sh (.int 3), .sh (enc T8), .no]) rfl rfl (seq_of (set_of (i := 2) (call_of (cons_of rfl rfl) tab_8)) (by kernel_rfl))
theorem h4_8 : g_how_many_with [.int ((8 : Nat) : Int), .int 4] = some (.ok (.int 366786)) := run_ok (G := G_how_many_with) (ρ' := [.sh (.int ((8 : Nat) : Int)), .sh (.int 4), .sh (enc T8), .no]) rfl rfl (seq_of (set_of (i := 2) (call_of (cons_of rfl rfl) tab_8)) (by kernel_rfl))
theorem hx_8 : g_how_many_with [.int ((8 : Nat) : Int), .int 32] = some (.ok (.int 2520)) := run_ok (G := G_how_many_with) (ρ' := [.sh (.int ((8 : Nat) : Int)), .sh (.int 32), .sh (enc T8), .no]) rfl rfl (seq_of (set_of (i := 2) (call_of (cons_of rfl rfl) tab_8)) (by kernel_rfl))
theorem hn_8 : g_how_many_with [.int ((8 : Nat) : Int), .int (32 + 1)] = some (.ok (.int 0)) := run_ok (G := G_how_many_with) (ρ' := [.sh (.int ((8 : Nat) : Int)), .sh (.int (32 + 1)), .sh (enc T8), .no]) rfl rfl (seq_of (set_of (i := 2) (call_of (cons_of rfl rfl) tab_8)) (by kernel_rfl))
theorem rl_8 : g_how_many_ringless [.int ((8 : Nat) : Int)] = some (.ok (.int 783702329343)) := run_ok (G := G_how_many_ringless) (ρ' := [.sh (.int ((8 : Nat) : Int)), .sh (enc T8), .no]) rfl rfl (seq_of (set_of (i := 1) (call_of (cons_of rfl rfl) tab_8)) (by kernel_rfl))
theorem e10_8 : ev 1 0 (ftA.getD 8 []) = 783702329343 := by decide +kernel
theorem hm_8 : g_how_many [.int ((8 : Nat) : Int)] = some (.ok (.int (ev 1 1 (ftA.getD 8 [])))) := isI_eq (by decide +kernel)
theorem few_8 (s0 b6 b7 b8 b9 b10 b11 : SL) : sSeq rs3 (sSeq rs4 rs4b) (E1 s0 8 R8 .no .no .no b6 b7 b8 b9 b10 b11) = some (.nx (E1 s0 8 R8 (.sh (.int 56)) (.ow none (encV [1, 56, 1540, 27720, 366786])) .no b6 b7 b8 b9 b10 b11)) := by kernel_rfl
theorem top_8 (s0 a3 a4 b6 b7 b8 b9 b10 b11 : SL) : rs5 (E1 s0 8 R8 a3 a4 .no b6 b7 b8 b9 b10 b11) = some (.nx (E1 s0 8 R8 a3 a4 (.sh (.int 32)) b6 b7 b8 b9 b10 b11)) := by kernel_rfl
theorem RF_8 : RF 8 R8 56 1 56 1540 27720 366786 32 2520 := ⟨told_8, c1_8, c2_8, c3_8, by decide +kernel, pm_8, hm_8, by rw [e10_8]; exact rl_8, few_8, h0_8, h1_8, h2_8, h3_8, h4_8, top_8, isI_eq (by decide +kernel), hx_8, isI_eq (by decide +kernel), hn_8, .inl (by decide)⟩
end K94
/-! _law_right is right. -/
namespace K94
open PySem PySem.Spec PyProof.Rows L2 Dl
theorem right_n {a b c : Int} (ha : 0 ≤ a) (hb : 0 ≤ b ∧ b < 10000000000) (hc : 0 ≤ c ∧ c < 1000000000) (q : Addr) : ∀ n : Nat, 1 ≤ n → n ≤ 8 → ∃ o, G_l_right (envG 15 q (.lst [.int a, .int b, .int c]) [.int (n : Int)]) = some o ∧ FinG q o (.bl true, rightR a b c)
  | 0, h, _ => absurd h (by decide)
  | 1, _, _ => right_of RF_1 (by decide) ha hb hc q
  | 2, _, _ => right_of RF_2 (by decide) ha hb hc q
  | 3, _, _ => right_of RF_3 (by decide) ha hb hc q
  | 4, _, _ => right_of RF_4 (by decide) ha hb hc q
  | 5, _, _ => right_of RF_5 (by decide) ha hb hc q
  | 6, _, _ => right_of RF_6 (by decide) ha hb hc q
  | 7, _, _ => right_of RF_7 (by decide) ha hb hc q
  | 8, _, _ => right_of RF_8 (by decide) ha hb hc q
  | n + 9, _, h => absurd h (by omega)
theorem rightOk : RightOk := by
  intro gd ds r h
  unfold g_l_right at h
  split at h
  · rename_i a b c m
    split at h
    · rename_i hc
      cases h
      obtain ⟨m1, m2, b1, b2, c1, c2, a1⟩ := hc
      refine ⟨rfl, fun q => ?_⟩
      have := right_n a1 ⟨b1, b2⟩ ⟨c1, c2⟩ q m.toNat (by omega) (by omega)
      rwa [Int.toNat_of_nonneg (by omega)] at this
    · cases h
  · cases h
end K94
/-! the law, plain. -/
namespace K94
open PySem PySem.Spec PyProof.Rows L2 Dl
def scD (ns : List Int) : D := .seq (ns.map D.int)
theorem n_of {h : List D → Option D} {l : M (List D)} {ρ ρ' : Dl.Env} {ds : List D} {c : D} (hf : l ρ = some (.ok ds ρ')) (hc : h ds = some c) : mN h l ρ = some (.ok c ρ') := by
  unfold mN bnd
  rw [hf]
  dsimp only
  unfold opt
  rw [hc]
theorem retF_of {f : M D} {ρ ρ' : Dl.Env} {d : D} (h : f ρ = some (.ok d ρ')) : sRetF f ρ = some (.rf d ρ') := by
  unfold sRetF thenS
  rw [h]
theorem lt_of (i j : Int) : oLt (.int i) (.int j) = some (.bl (decide (i < j))) := rfl
def absI (i : Int) : Int := if i < 0 then -i else i
theorem absI_nn (i : Int) : 0 ≤ absI i := by unfold absI; split <;> omega
def great : Int := 10 ^ 60 * 10 ^ 60 * 10 ^ 60
theorem great_of {ρ : Dl.Env} : mOp oMul (mOp oMul (mOp oPow (Dl.ret (.int 10)) (Dl.ret (.int 60))) (mOp oPow (Dl.ret (.int 10)) (Dl.ret (.int 60)))) (mOp oPow (Dl.ret (.int 10)) (Dl.ret (.int 60))) ρ = some (.ok (.int great) ρ) := by
  have p : oPow (.int 10) (.int 60) = some (.int (10 ^ 60)) := by kernel_rfl
  have m1 : oMul (.int (10 ^ 60)) (.int (10 ^ 60)) = some (.int (10 ^ 60 * 10 ^ 60)) := mul_of (by decide +kernel)
  have m2 : oMul (.int (10 ^ 60 * 10 ^ 60)) (.int (10 ^ 60)) = some (.int great) := mul_of (by decide +kernel)
  exact op_of (op_of (op_of rfl rfl p) (op_of rfl rfl p) m1) (op_of rfl rfl p) m2
theorem great_pos : 0 < great := by decide +kernel
theorem mod_of {i j : Int} (h : 0 < j) : oMod (.int i) (.int j) = some (.int (i % j)) := if_pos (decide_eq_true h)
def bxC : M Bool := asB (mOp oLt (slotD 1) (mUn oLen (mB 0)))
def bx1 : S := sSet 2 (mOp oMod (mN nInt (mCons (mN nAbs (mCons (mOp oIx (mB 0) (slotD 1)) (Dl.ret []))) (Dl.ret []))) (mOp oMul (mOp oMul (mOp oPow (Dl.ret (.int 10)) (Dl.ret (.int 60))) (mOp oPow (Dl.ret (.int 10)) (Dl.ret (.int 60)))) (mOp oPow (Dl.ret (.int 10)) (Dl.ret (.int 60)))))
def bxC2 : M Bool := asB (mOp oGt (mUn oLen (mB 0)) (Dl.ret (.int 0)))
def bx2 : S := sSet 2 (mOp oAdd (slotD 2) (mOp oMul (mOp oMod (mN nInt (mCons (mN nAbs (mCons (mOp oIx (mB 0) (mOp oMod (mN nInt (mCons (slotD 1) (Dl.ret []))) (mUn oLen (mB 0)))) (Dl.ret []))) (Dl.ret []))) (Dl.ret (.int 2147483629))) (Dl.ret (.int 61001))))
def bxF : S := sRetF (mLst (mCons (mOp oIx (mLst (mCons (Dl.ret (.int 0)) (mCons (slotD 2) (Dl.ret [])))) (mN nInt (mCons (mOp oGe (slotD 2) (mOp oPow (Dl.ret (.int 10)) (Dl.ret (.int 18)))) (Dl.ret [])))) (mCons (mOp oAdd (mOp oMod (mN nInt (mCons (mOp oAdd (mOp oMul (mOp oMod (mN nInt (mCons (slotD 2) (Dl.ret []))) (Dl.ret (.int 2147483629))) (Dl.ret (.int 31013))) (mOp oMul (Dl.ret (.int 46021)) (slotD 1))) (Dl.ret []))) (Dl.ret (.int 2147483629))) (Dl.ret (.int 1))) (mCons (Dl.ret (.int 0)) (Dl.ret [])))))
theorem if_else {t : M Bool} {p q : S} {ρ ρ1 : Dl.Env} {r : Option Ou} (h : t ρ = some (.ok false ρ1)) (e : q ρ1 = r) : sIf t p q ρ = r := by
  unfold sIf thenS
  rw [h]
  exact e
theorem lst_of {l : M (List D)} {ρ ρ' : Dl.Env} {ds : List D} (h : l ρ = some (.ok ds ρ')) (hl : ds.length ≤ 1000) : mLst l ρ = some (.ok (.lst ds) ρ') := by
  unfold mLst bnd
  rw [h]
  dsimp only
  unfold opt lenOk
  rw [if_pos (Nat.le_of_lt (small1000 hl))] <;> rfl
theorem box_end {A : SL} {k c : Int} (hk : 0 ≤ k ∧ k < 2) (hc : 0 ≤ c) : ∃ a b : Int, bxF [A, .sh (.int k), .sh (.int c)] = some (.rf (.lst [.int a, .int b, .int 0]) [A, .sh (.int k), .sh (.int c)]) ∧ 0 ≤ a ∧ 0 ≤ b ∧ b < 10000000000 := by
  have p : oPow (.int 10) (.int 18) = some (.int 1000000000000000000) := by kernel_rfl
  let ρ : Dl.Env := [A, .sh (.int k), .sh (.int c)]
  have g : oGe (.int c) (.int 1000000000000000000) = some (.bl (decide ((1000000000000000000 : Int) ≤ c))) := rfl
  have first : ∃ a : Int, 0 ≤ a ∧ mOp oIx (mLst (mCons (Dl.ret (.int 0)) (mCons (slotD 2) (Dl.ret [])))) (mN nInt (mCons (mOp oGe (slotD 2) (mOp oPow (Dl.ret (.int 10)) (Dl.ret (.int 18)))) (Dl.ret []))) ρ = some (.ok (.int a) ρ) := by
    have l : mLst (mCons (Dl.ret (.int 0)) (mCons (slotD 2) (Dl.ret []))) ρ = some (.ok (.lst [.int 0, .int c]) ρ) := lst_of (cons_of rfl (cons_of rfl rfl)) (by show 2 ≤ 1000; decide)
    by_cases q : (1000000000000000000 : Int) ≤ c
    · rw [decide_eq_true q] at g
      exact ⟨c, hc, op_of l (n_of (cons_of (op_of rfl (op_of rfl rfl p) g) rfl) rfl) rfl⟩
    · rw [decide_eq_false q] at g
      exact ⟨0, Int.le_refl 0, op_of l (n_of (cons_of (op_of rfl (op_of rfl rfl p) g) rfl) rfl) rfl⟩
  obtain ⟨a, ha, e1⟩ := first
  have n1 := Int.emod_nonneg c (b := 2147483629) (by decide)
  have n2 := Int.emod_lt_of_pos c (b := 2147483629) (by decide)
  have m1 : mulOk (c % 2147483629) 31013 = true := mulOk_64 (by omega) (by omega) (by decide) (by decide)
  have m2 : mulOk 46021 k = true := mulOk_64 (by decide) (by decide) (by omega) (by omega)
  have n3 := Int.emod_nonneg (c % 2147483629 * 31013 + 46021 * k) (b := 2147483629) (by decide)
  have n4 := Int.emod_lt_of_pos (c % 2147483629 * 31013 + 46021 * k) (b := 2147483629) (by decide)
  refine ⟨a, (c % 2147483629 * 31013 + 46021 * k) % 2147483629 + 1, retF_of (lst_of (cons_of e1 (cons_of ?_ (cons_of rfl rfl))) (by show 3 ≤ 1000; decide)), ha, by omega, by omega⟩
  exact op_of (op_of (n_of (cons_of (op_of (op_of (op_of (n_of (cons_of rfl rfl) rfl) rfl (mod_of (by decide))) rfl (mul_of m1)) (op_of rfl rfl (mul_of m2)) rfl) rfl) rfl) rfl (mod_of (by decide))) rfl rfl
theorem at_sc {ns : List Int} {i : Int} {j : Nat} (hi : i = (j : Int)) (hj : j < ns.length) : oIx (scD ns) (.int i) = some (.int ns[j]) := by
  show atD (ns.map D.int) i = _
  exact at_nat hi (by rw [List.getElem?_map, List.getElem?_eq_getElem hj] <;> rfl)
theorem box_ok (ns : List Int) {k : Int} (hk : 0 ≤ k ∧ k < 2) : ∃ a b : Int, g_l_box [scD ns, .int k] = some (.of (.lst [.int a, .int b, .int 0])) ∧ 0 ≤ a ∧ 0 ≤ b ∧ b < 10000000000 := by
  let A : SL := .sh (scD ns)
  have mk : mulOk 5501 k = true := mulOk_64 (by decide) (by decide) (by omega) (by omega)
  let ρ1 : Dl.Env := [A, .sh (.int k), .sh (.int (5501 * k + 3307))]
  have st1 : sSet 2 (mOp oAdd (mOp oMul (Dl.ret (.int 5501)) (slotD 1)) (Dl.ret (.int 3307))) [A, .sh (.int k), .no] = some (.nx ρ1) := set_of (i := 2) (ρ' := [A, .sh (.int k), .no]) (op_of (op_of rfl rfl (mul_of mk)) rfl rfl)
  have ln : oLen (scD ns) = some (.int (ns.length : Int)) := by
    show some (D.int ((ns.map D.int).length : Int)) = _
    rw [List.length_map]
  have mid : ∃ c : Int, 0 ≤ c ∧ sIf bxC bx1 (sIf bxC2 bx2 sNil) ρ1 = some (.nx [A, .sh (.int k), .sh (.int c)]) := by
    by_cases q : k < (ns.length : Int)
    · have g : oLt (.int k) (.int (ns.length : Int)) = some (.bl true) := congrArg (fun z => some (D.bl z)) (decide_eq_true q)
      have ix := at_sc (ns := ns) (i := k) (j := k.toNat) (by omega) (by omega)
      exact ⟨_, Int.emod_nonneg _ (Int.ne_of_gt great_pos), if_yes (asB_of (op_of rfl (un_of rfl ln) g)) (set_of (i := 2) (ρ' := ρ1) (op_of (n_of (cons_of (n_of (cons_of (op_of rfl rfl ix) rfl) rfl) rfl) rfl) great_of (mod_of great_pos)))⟩
    · have g : oLt (.int k) (.int (ns.length : Int)) = some (.bl false) := congrArg (fun z => some (D.bl z)) (decide_eq_false q)
      by_cases q2 : 0 < (ns.length : Int)
      · have g2 : oGt (.int (ns.length : Int)) (.int 0) = some (.bl true) := congrArg (fun z => some (D.bl z)) (decide_eq_true q2)
        have r1 := Int.emod_nonneg k (b := (ns.length : Int)) (by omega)
        have r2 := Int.emod_lt_of_pos k q2
        have ix := at_sc (ns := ns) (i := k % (ns.length : Int)) (j := (k % (ns.length : Int)).toNat) (by omega) (by omega)
        generalize hv : ns[(k % (ns.length : Int)).toNat] = v at ix
        have n1 := Int.emod_nonneg (absI v) (b := 2147483629) (by decide)
        have n2 := Int.emod_lt_of_pos (absI v) (b := 2147483629) (by decide)
        have m1 : mulOk (absI v % 2147483629) 61001 = true := mulOk_64 (by omega) (by omega) (by decide) (by decide)
        refine ⟨5501 * k + 3307 + absI v % 2147483629 * 61001, by omega, if_else (asB_of (op_of rfl (un_of rfl ln) g)) (if_yes (asB_of (op_of (un_of rfl ln) rfl g2)) (set_of (i := 2) (ρ' := ρ1) (op_of rfl (op_of (op_of (n_of (cons_of (n_of (cons_of (op_of rfl (op_of (n_of (cons_of rfl rfl) rfl) (un_of rfl ln) (mod_of q2)) ix) rfl) rfl) rfl) rfl) rfl (mod_of (by decide))) rfl (mul_of m1)) rfl)))⟩
      · have g2 : oGt (.int (ns.length : Int)) (.int 0) = some (.bl false) := congrArg (fun z => some (D.bl z)) (decide_eq_false q2)
        exact ⟨5501 * k + 3307, by omega, if_else (asB_of (op_of rfl (un_of rfl ln) g)) (if_no (asB_of (op_of (un_of rfl ln) rfl g2)))⟩
  obtain ⟨c, c0, e2⟩ := mid
  obtain ⟨a, b, e3, h1, h2, h3⟩ := box_end (A := A) hk c0
  refine ⟨a, b, ?_, h1, h2, h3⟩
  unfold g_l_box runF
  rw [if_pos (show [scD ns, D.int k].length = 2 from rfl)]
  have e4 : G_l_box (env0 3 [scD ns, .int k]) = some (.rf (.lst [.int a, .int b, .int 0]) [A, .sh (.int k), .sh (.int c)]) := (seq_of (p := sSet 2 (mOp oAdd (mOp oMul (Dl.ret (.int 5501)) (slotD 1)) (Dl.ret (.int 3307)))) (q := sSeq (sIf bxC bx1 (sIf bxC2 bx2 sNil)) bxF) st1 (seq_of e2 e3) : _)
  rw [e4] <;> rfl
theorem callF_of {g : List D → Option Rv} {l : M (List D)} {ρ ρ' : Dl.Env} {ds : List D} {d : D} (hl : l ρ = some (.ok ds ρ')) (hg : g ds = some (.of d)) : mCallF g [] l ρ = some (.ok d ρ') := by
  unfold mCallF bnd
  rw [hl]
  dsimp only
  rw [List.append_nil, hg]
theorem callG_of2 {g : D → List D → Option (D × D)} {i : Nat} {l : M (List D)} {ρ ρ' : Dl.Env} {t t' : Option Addr} {gd0 gd d gd' : D} {ds : List D} (h : ρ[i]? = some (.ow t gd0)) (e : l ρ = some (.ok ds ρ')) (h' : ρ'[i]? = some (.ow t' gd)) (hg : g gd ds = some (d, gd')) : mCallG g i l ρ = some (.ok d (ρ'.set i (.ow t' gd'))) := by
  unfold mCallG
  rw [h]
  dsimp only
  unfold bnd
  rw [e]
  dsimp only
  rw [h']
  dsimp only
  rw [hg]
def lwB : S := sSeq (sSetF 3 (mCallF g_l_box [] (mCons (slotD 0) (mCons (slotD 1) (Dl.ret []))))) (sIf (mNot (asB (mCallG g_l_right 3 (mCons (mOp oAdd (Dl.ret (.int 1)) (mCallG g_l_take 3 (mCons (mOp oIx (mLst (mCons (Dl.ret (.int 4)) (mCons (Dl.ret (.int 8)) (Dl.ret [])))) (slotD 1)) (Dl.ret [])))) (Dl.ret []))))) (sRet (Dl.ret (.bl false))) (sNil))
theorem lw_body (ns : List Int) {k m : Int} (hk : 0 ≤ k ∧ k < 2) (hm : 0 < m ∧ m ≤ 8) (hx : oIx (.lst [.int 4, .int 8]) (.int k) = some (.int m)) (s3 : SL) : ∃ bx : D, lwB [.sh (scD ns), .sh (.int k), .no, s3, .no] = some (.nx [.sh (scD ns), .sh (.int k), .no, .ow none bx, .no]) := by
  obtain ⟨a, b, e1, a0, b0, b1⟩ := box_ok ns hk
  obtain ⟨p, a', b', c', e2, e3, p0, p1, x1, y1, z1, u1, v1⟩ := take_spec (a := a) (b := b) (c := 0) (m := m) a0 ⟨b0, b1⟩ (by omega) (by omega)
  let ρ0 : Dl.Env := [.sh (scD ns), .sh (.int k), .no, s3, .no]
  let ρ1 : Dl.Env := [.sh (scD ns), .sh (.int k), .no, .ow none (.lst [.int a, .int b, .int 0]), .no]
  let ρ2 : Dl.Env := [.sh (scD ns), .sh (.int k), .no, .ow none (.lst [.int a', .int b', .int c']), .no]
  have st1 : sSetF 3 (mCallF g_l_box [] (mCons (slotD 0) (mCons (slotD 1) (Dl.ret [])))) ρ0 = some (.nx ρ1) := setF_of (i := 3) (ρ' := ρ0) (callF_of (cons_of rfl (cons_of rfl rfl)) e1)
  have l48 : mLst (mCons (Dl.ret (.int 4)) (mCons (Dl.ret (.int 8)) (Dl.ret []))) ρ1 = some (.ok (.lst [.int 4, .int 8]) ρ1) := lst_of (cons_of rfl (cons_of rfl rfl)) (by show 2 ≤ 1000; decide)
  have tk : mCallG g_l_take 3 (mCons (mOp oIx (mLst (mCons (Dl.ret (.int 4)) (mCons (Dl.ret (.int 8)) (Dl.ret [])))) (slotD 1)) (Dl.ret [])) ρ1 = some (.ok (.int p) ρ2) := callG_of (i := 3) rfl (cons_of (op_of l48 rfl hx) rfl) e3
  have rt : g_l_right (.lst [.int a', .int b', .int c']) [.int (1 + p)] = some (.bl true, rightR a' b' c') := by
    show (if 1 ≤ 1 + p ∧ 1 + p ≤ 8 ∧ 0 ≤ b' ∧ b' < 10000000000 ∧ 0 ≤ c' ∧ c' < 1000000000 ∧ 0 ≤ a' then some (D.bl true, rightR a' b' c') else none) = _
    rw [if_pos ⟨by omega, by omega, y1, z1, u1, by omega, x1⟩]
  have cg : mCallG g_l_right 3 (mCons (mOp oAdd (Dl.ret (.int 1)) (mCallG g_l_take 3 (mCons (mOp oIx (mLst (mCons (Dl.ret (.int 4)) (mCons (Dl.ret (.int 8)) (Dl.ret [])))) (slotD 1)) (Dl.ret [])))) (Dl.ret [])) ρ1 = some (.ok (.bl true) [.sh (scD ns), .sh (.int k), .no, .ow none (rightR a' b' c'), .no]) :=
    callG_of2 (i := 3) (ρ' := ρ2) rfl (cons_of (op_of rfl tk rfl) rfl) rfl rt
  exact ⟨rightR a' b' c', seq_of st1 (if_no (not_of (asB_of cg) rfl))⟩
def lwV : S := sFor (mIt (mLst (mCons (Dl.ret (.int 0)) (mCons (Dl.ret (.int 9)) (mCons (mUn oNeg (Dl.ret (.int 1))) (mCons (Dl.ret .non) (mCons (Dl.ret (.bl true)) (mCons (Dl.ret (.str "3")) (mCons (mTup (mCons (Dl.ret (.int 2)) (Dl.ret []))) (Dl.ret [])))))))))) (gNm 2)
  (sSeq (sFor (mIt (mTup (mCons (Dl.ret (.fn "belts_and_rings")) (mCons (Dl.ret (.fn "how_many_ringless")) (Dl.ret []))))) (gNm 4)
  (sIf (mNot (asB (mCall g_l_same [] (mCons (mRefd (mCallV fnTab 4 (mCons (slotD 2) (Dl.ret [])))) (mCons (mTup (mCons (Dl.ret (.str "refused")) (mCons (Dl.ret (.str "places")) (Dl.ret [])))) (Dl.ret []))))))
  (sRet (Dl.ret (.bl false)))
  (sNil)))
  (sIf (mNot (asB (mCall g_l_same [] (mCons (mRefd (mCall g_how_many_with [] (mCons (slotD 2) (mCons (Dl.ret (.int 0)) (Dl.ret []))))) (mCons (mTup (mCons (Dl.ret (.str "refused")) (mCons (Dl.ret (.str "places")) (Dl.ret [])))) (Dl.ret []))))))
  (sRet (Dl.ret (.bl false)))
  (sNil)))
theorem lw_vals (s0 s1 : SL) (bx : D) (h0 : isOw s0 = false) (h1 : isOw s1 = false) : ∃ ρ, lwV [s0, s1, .no, .ow none bx, .no] = some (.nx ρ) := by
  cases s0 with
  | ow t d => cases h0
  | no =>
    cases s1 with
    | ow t d => cases h1
    | no => exact ⟨[.no, .no, .sh (.tup [.int 2]), .no, .sh (.fn "how_many_ringless")], by kernel_rfl⟩
    | sh d => exact ⟨[.no, .sh d, .sh (.tup [.int 2]), .no, .sh (.fn "how_many_ringless")], by kernel_rfl⟩
  | sh c =>
    cases s1 with
    | ow t d => cases h1
    | no => exact ⟨[.sh c, .no, .sh (.tup [.int 2]), .no, .sh (.fn "how_many_ringless")], by kernel_rfl⟩
    | sh d => exact ⟨[.sh c, .sh d, .sh (.tup [.int 2]), .no, .sh (.fn "how_many_ringless")], by kernel_rfl⟩
theorem law_plain (ns : List Int) : g_law [scD ns] = some (.ok (.bl true)) := by
  obtain ⟨x, e1⟩ := lw_body ns (k := 0) (m := 4) (by decide) (by decide) rfl .no
  obtain ⟨y, e2⟩ := lw_body ns (k := 1) (m := 8) (by decide) (by decide) rfl (.ow none x)
  obtain ⟨ρ, e3⟩ := lw_vals (.sh (scD ns)) (.sh (.int 1)) y rfl rfl
  let ρ0 : Dl.Env := [.sh (scD ns), .no, .no, .no, .no]
  have rg : mRg (mCons (Dl.ret (.int 2)) (Dl.ret [])) ρ0 = some (.ok [.int 0, .int 1] ρ0) := rg1_nat (n := 2) (by decide) rfl
  have lp : loopD (gNm 1) lwB [.int 0, .int 1] ρ0 = some (.nx [.sh (scD ns), .sh (.int 1), .no, .ow none y, .no]) := loop_nx rfl e1 (loop_nx rfl e2 rfl)
  exact run_ok (G := G_law) rfl (show env0 5 [scD ns] = ρ0 from rfl) (seq_of (for_of rg lp) (seq_of e3 (ret_of rfl)))
end K94
/-! The head's facts: the defs, the own error with the free __class__. -/
namespace Hd
open PySem PySem.Spec PyProof.Rows L2 He Dl
/-! ### the part of the heap -/
def refsZ (o : Obj) : List Addr := refsD o ++ (match o.data with
  | .func fd => fd.closure.map (·.2)
  | .cell (some v) => refV v
  | _ => [])
def growZ (g : Addr → Option Obj) (as : List Addr) : List Addr := (as ++ as.flatMap fun a => (g a).elim [] refsZ).eraseDups
def asZ (g : Addr → Option Obj) : Nat → List Addr
  | 0 => [mainGlobals]
  | n + 1 => growZ g (asZ g n)
def adZ (g : Addr → Option Obj) (n : Nat) : List Addr := asZ g n ++ [PySem.cStatics]
/-! ### the own error -/
abbrev rC (K : PySem.W.Frag) : Addr := clsA K "Refused"
def rF (K : PySem.W.Frag) : Addr := ma K (rC K) "__init__"
def rFd (K : PySem.W.Frag) : Option FuncData := match K.lookup (rF K) with
  | some ⟨_, _, .func fd, _⟩ => some fd
  | _ => none
def rCell (K : PySem.W.Frag) : Addr := match rFd K with
  | some fd => (match fd.closure with
    | [(_, a)] => a
    | _ => 0)
  | none => 0
def rCode (K : PySem.W.Frag) : Addr := match rFd K with
  | some fd => (match fd.code with
    | .ref c => c
    | _ => 0)
  | none => 0
def clsB (K : PySem.W.Frag) (C : Addr) : Bool := match K.lookup C with
  | some ⟨.type "type", _, .cls cd, sl⟩ => (match cd.mro, sl.toList with
    | .ref C' :: bm, [_, _, _, _, some (.builtin n), _] => C' == C && n == "ValueError.__new__" && !cd.hasDel && cd.hasDict && HandSPX.refsVE bm
    | _, _ => false)
  | _ => false
def cellB (K : PySem.W.Frag) (C : Addr) : Bool := match K.lookup (rCell K) with
  | some ⟨_, _, .cell (some (.ref a)), _⟩ => a == C
  | _ => false
def fileB (K : PySem.W.Frag) (file : Str) : Bool := match K.lookup (rCode K) with
  | some ⟨_, _, .fields vs, _⟩ => (match (vs[2]? : Option Value) with
    | some (.str f _) => file == f
    | _ => false)
  | _ => false
def fnB (K : PySem.W.Frag) : Bool := match rFd K with
  | some fd => (match fd.closure with
    | [(x, _)] => decide (x = "__class__")
    | _ => false) && (match fd.code with
    | .ref _ => true
    | _ => false) && PySem.W.codeIn K fd.code "Refused.__init__"
  | none => false
def refB (file : Str) (K : PySem.W.Frag) : Bool :=
  clsB K (rC K) && eqO (PySem.W.findIn K (.ref (rC K)) "__setattr__") (some (some (.builtin "object.__setattr__"))) && eqO (PySem.W.findIn K (.ref (rC K)) "__getattribute__") (some (some (.builtin "BaseException.__getattribute__"))) &&
  eqO (PySem.W.findIn K (.ref (rC K)) "__getattr__") (some none) && eqO (PySem.W.findIn K (.ref (rC K)) "at") (some none) && eqO (PySem.W.findIn K (.ref (rC K)) "__init__") (some (some (.ref (rF K)))) &&
  decide (PySem.W.typeIn K (.ref (rF K)) = some (.type "function")) && PySem.W.keepIn K (.ref (rC K)) && decide (PySem.W.subIn K (.ref (rC K)) (.type "BaseException") = some true) && decide (PySem.W.typeIn K (.ref (rC K)) = some (.type "type")) &&
  PySem.W.hasDictIn K (rC K) && decide (PySem.W.exmOne K (.ref (rC K)) (.ref (rC K)) = some true) && eqO (PySem.W.ks_superIn K (rC K) (rC K) "__init__") (some (some (.builtin "ValueError.__init__"))) && decide (PySem.W.subIn K (.ref (rC K)) (.type "ValueError") = some true) &&
  decide (PySem.W.mroIn K (rC K) (.ref (rC K)) = some true) && eqO (PySem.W.nsIn K PySem.cStatics "thirdparty.any") (some none) && cellB K (rC K) && fileB K file && fnB K
/-- what __init__ is -/
abbrev RfV : Type := Option (Str × Str × Arguments × FuncBody × Scope × Addr × Value × Value × Addr)
def rfObs (K : PySem.W.Frag) : RfV := (rFd K).map fun fd => (fd.name, fd.qualname, fd.params, fd.body, fd.scope, fd.globals, fd.defaults, fd.kwdefaults, fd.builtins)
def rfVal (params : Arguments) (body : List Stmt) (scope : Scope) : RfV := some ("__init__", "Refused.__init__", params, .stmts body, scope, mainGlobals, .none, .none, builtinsNs)
theorem clsB_ok {K : PySem.W.Frag} {C : Addr} (h : clsB K C = true) : ∃ nm q N bs bm sn sub ab col dd k0 k1 k2 k3 k5, K.lookup C = some (excClassObj nm q C N bs bm true sn sub ab col dd k0 k1 k2 k3 k5 "ValueError.__new__") ∧ HandSPX.refsVE bm = true := by
  unfold clsB at h
  split at h
  · rename_i dd cd sl ho
    split at h
    · rename_i C' bm k0 k1 k2 k3 n k5 hm hs
      simp only [Bool.and_eq_true, beq_iff_eq, Bool.not_eq_true'] at h
      obtain ⟨⟨⟨⟨rfl, rfl⟩, hdel⟩, hdict⟩, hv⟩ := h
      obtain ⟨nm, bs, mro, ns, qn, hd, sn, sub, ab, col, del⟩ := cd
      dsimp only at hm hdel hdict
      subst hm hdel hdict
      have hsl : sl = #[k0, k1, k2, k3, some (.builtin "ValueError.__new__"), k5] := by rw [← Array.toArray_toList (xs := sl), hs]
      subst hsl
      exact ⟨nm, qn, ns, bs, bm, sn, sub, ab, col, dd, k0, k1, k2, k3, k5, ho, hv⟩
    · cases h
  · cases h
theorem cellB_ok {K : PySem.W.Frag} {C : Addr} (h : cellB K C = true) : ∃ cl cld csl, K.lookup (rCell K) = some ⟨cl, cld, .cell (some (.ref C)), csl⟩ := by
  unfold cellB at h
  split at h
  · rename_i a b c d e
    rw [e, beq_iff_eq.mp h]
    exact ⟨_, _, _, rfl⟩
  · cases h
theorem fileB_ok {K : PySem.W.Frag} {file : Str} (h : fileB K file = true) : ∃ ccl cdd vs ccs f tf, K.lookup (rCode K) = some ⟨ccl, cdd, .fields vs, ccs⟩ ∧ vs[2]? = some (.str f tf) ∧ (file == f) = true := by
  unfold fileB at h
  split at h
  · rename_i a b c d e
    split at h
    · rename_i f t hv
      exact ⟨_, _, _, _, f, t, e, hv, h⟩
    · cases h
  · cases h
theorem rFd_eq {K : PySem.W.Frag} {fd : FuncData} (h : rFd K = some fd) : ∃ oc od osl, K.lookup (rF K) = some ⟨oc, od, .func fd, osl⟩ := by
  unfold rFd at h
  split at h
  · rename_i a b c d e
    cases h
    exact ⟨_, _, _, e⟩
  · cases h
theorem ref_ok {P : Program} {K : PySem.W.Frag} {mg : Str → Option Value} {p1 p2 a1 a2 a3 a4 a5 a6 q1 q2 q3 q4 : Pos} (h : refB P.main.file K = true) (o : rfObs K = rfVal (rfA p1 p2) (rfB a1 a2 a3 a4 a5 a6 q1 q2 q3 q4) rfS) (ln : (a3.endLine == a5.line) = true)
    (gC : mg "Refused" = some (.ref (rC K))) (noS : mg "super" = none) (top : (P.main.scope.names.lookup ("super" : Str)).isSome = false) : ∃ fI cc cda, RefTxt P K mg (clsA K "Refused") fI cc cda := by
  unfold refB at h
  simp only [Bool.and_eq_true, decide_eq_true_eq] at h
  obtain ⟨⟨⟨⟨⟨⟨⟨⟨⟨⟨⟨⟨⟨⟨⟨⟨⟨⟨h1, h2⟩, h3⟩, h4⟩, h5⟩, h6⟩, h7⟩, h8⟩, h9⟩, h10⟩, h11⟩, h12⟩, h13⟩, h14⟩, h15⟩, h16⟩, h17⟩, h18⟩, h19⟩ := h
  refine ⟨rF K, rCell K, rCode K, ⟨gC, clsB_ok h1, eqO_ok h2, eqO_ok h3, eqO_ok h4, eqO_ok h5, eqO_ok h6, h7, h8, h9, h10, h11, h12, eqO_ok h13, h14, h15, eqO_ok h16, noS, top, cellB_ok h17, fileB_ok h18, ?_⟩⟩
  unfold fnB at h19
  unfold rfObs rfVal at o
  cases hf : rFd K with
  | none => rw [hf] at h19; cases h19
  | some fd =>
    rw [hf] at h19 o
    obtain ⟨oc, od, osl, lk⟩ := rFd_eq hf
    dsimp only at h19
    rw [Bool.and_eq_true, Bool.and_eq_true] at h19
    obtain ⟨⟨g1, g2⟩, g3⟩ := h19
    obtain ⟨n1, n2, n3, n4, n5, n6, n7, n8, n9, n10, n11, n12, n13, n14, n15⟩ := fd
    simp only [Option.map, Option.some.injEq, Prod.mk.injEq] at o
    obtain ⟨e1, e2, e3, e4, e5, e6, e7, e8, e9⟩ := o
    subst e1 e2 e3 e4 e5 e6 e7 e8 e9
    dsimp only at g1 g2 g3
    split at g1
    · rename_i x a
      have ex := of_decide_eq_true g1
      subst ex
      cases n13 with
      | ref c =>
        have ec : rCell K = a := by unfold rCell; rw [hf]
        have ed : rCode K = c := by unfold rCode; rw [hf]
        rw [ec, ed]
        exact ⟨oc, od, n10, n11, n12, n14, osl, p1, p2, a1, a2, a3, a4, a5, a6, q1, q2, q3, q4, lk, ln, g3⟩
      | _ => cases g2
    · cases g1
/-! ### the Hook -/
abbrev AlZ : Type := AlT × Bool × RfV
section
variable (n : Nat) (fa : List Fa) (fn : List DefD) (tf : List Defn) (file : Str) (rv : RfV)
def obsZ (g : Addr → Option Obj) : AlZ := (obsT fa fn [] (frT g (adZ g n)), refB file (frT g (adZ g n)) && tabsB g tf (frT g (adZ g n)), rfObs (frT g (adZ g n)))
def valZ (w : World) : AlZ := (valT fn [] w, true, rv)
structure SaysZ (w : World) (h : Heap) (K : PySem.W.Frag) : Prop where
  x : SaysX fa fn [] tf (refB file) w h K
  rv : rfObs K = rv
theorem saysZ_of {w : World} {h : Heap} (e : obsZ n fa fn tf file h.get? = valZ fn rv w) : SaysZ fa fn tf file rv w h (frT h.get? (adZ h.get? n)) := by
  have e1 : obsT fa fn [] (frT h.get? (adZ h.get? n)) = valT fn [] w := congrArg (·.1) e
  have e2 : (refB file (frT h.get? (adZ h.get? n)) && tabsB h.get? tf (frT h.get? (adZ h.get? n))) = true := congrArg (·.2.1) e
  have e3 : rfObs (frT h.get? (adZ h.get? n)) = rv := congrArg (·.2.2) e
  generalize hK : frT h.get? (adZ h.get? n) = K at e1 e2 e3 ⊢
  obtain ⟨h1, h2⟩ := ba e2
  have each : ∀ p ∈ tf, PySem.W.codeHdIn K (cT K p).1 (cT K p).2 = true ∧ ∃ o, h.get? (cT K p).2 = some o ∧ emptyTab o = true := fun p hp => by
    obtain ⟨h3, h4⟩ := ba (List.all_eq_true.mp h2 p hp)
    refine ⟨h3, ?_⟩
    split at h4
    · rename_i o q
      exact ⟨o, q, h4⟩
    · cases h4
  refine ⟨⟨e1, h1, fun p hp => (each p hp).1, fun p hp => ?_, fun p hp => ?_⟩, e3⟩
  · obtain ⟨_, o, q, z⟩ := each p hp
    have := frT_none (as := adZ h.get? n) q z
    rwa [hK] at this
  · obtain ⟨_, o, q, z⟩ := each p hp
    rw [q, emptyTab_eq z]
def hookZ : PySem.W.Hook where
  α := AlZ
  obs := fun s => obsZ n fa fn tf file s.heap.get?
  val := fun w => valZ fn rv w
  says := fun w h => ∃ K : PySem.W.Frag, K.In h ∧ SaysZ fa fn tf file rv w h K
  of := fun _ _ e => ⟨_, frT_in, saysZ_of n fa fn tf file rv e⟩
  keeps := fun _ _ _ ⟨K, hK, c⟩ k => ⟨K, PySem.W.Frag.In.keeps hK k, ⟨⟨c.x.t, c.x.more, c.x.hd, c.x.out, fun p hp => k _ _ (c.x.empty p hp)⟩, c.rv⟩⟩
theorem obsZ_eq {g : Addr → Option Obj} {s : Shared} (h : ∀ a, g a = s.heap.get? a) : obsZ n fa fn tf file g = (hookZ n fa fn tf file rv).obs s := by
  rw [show g = s.heap.get? from funext h] <;> rfl
end
end Hd
/-! The head. -/
namespace K94
open PySem PySem.Spec PyProof.Rows L2 Dl Hd
def dd (x : Str) (st : Stmt) (dfl : List He.Dv) : He.DefD := ⟨(x, none), x, x, defArgs st, defBody st, defScope st, dfl, []⟩
def inRef : Stmt := match top 2 with
  | .ClassDef _ _ _ b _ _ _ _ _ _ _ => b.headD (.Pass ⟨0, 0, 0, 0⟩)
  | s => s
def hfn : List He.DefD := [dd "is_integer" s_is_integer [], dd "is_number" s_is_number [.non], dd "need_places" s_need_places [], dd "factorial" s_factorial [], dd "all_pairs" s_all_pairs [], dd "how_many" s_how_many [], dd "need_counted" s_need_counted [], dd "chosen_from" s_chosen_from [], dd "plus" s_plus [], dd "product" s_product [], dd "between" s_between [], dd "of_part" s_of_part []] ++ [dd "signed_tables" s_signed_tables [], dd "table_of" s_table_of [], dd "belts_and_rings" s_belts_and_rings [], dd "how_many_with" s_how_many_with [], dd "how_many_ringless" s_how_many_ringless [], dd "most_belts" s_most_belts [], dd "rows_of_groups" s_rows_of_groups [], dd "how_many_fullest" s_how_many_fullest [], dd "_law_take" s_l_take [], dd "_law_box" s_l_box [], dd "_law_same" s_l_same [], dd "_law_turns" s_l_turns []] ++ [dd "_law_reach" s_l_reach [], dd "_law_lots" s_l_lots [], dd "_law_fine" s_l_fine [], dd "_law_choose" s_l_choose [], dd "_law_power" s_l_power [], dd "_law_worth" s_l_worth [], dd "_law_all" s_l_all [], dd "_law_right" s_l_right [], dd "_law_refused" s_l_refused [], dd "law" s_law []]
def hfa : List He.Fa := [.free "abs", .free "all", .free "bool", .free "dict", .free "int", .free "isinstance", .free "len", .free "list", .free "max", .free "range", .free "set", .free "sorted", .free "str", .free "sum", .free "tuple", .int "MOST_COUNTED" 8, .int "MOST_PLAIN" 11, .glo "belts_and_rings", .glo "how_many_ringless", .glo "is_integer"] ++ [.glo "is_number", .glo "need_places", .glo "factorial", .glo "all_pairs", .glo "how_many", .glo "need_counted", .glo "chosen_from", .glo "plus", .glo "product", .glo "between", .glo "of_part", .glo "signed_tables", .glo "table_of", .glo "how_many_with", .glo "most_belts", .glo "rows_of_groups", .glo "how_many_fullest", .glo "_law_take", .glo "_law_box", .glo "_law_same"] ++ [.glo "_law_turns", .glo "_law_reach", .glo "_law_lots", .glo "_law_fine", .glo "_law_choose", .glo "_law_power", .glo "_law_worth", .glo "_law_all", .glo "_law_right", .glo "_law_refused", .glo "law", .glo "Refused", .free "super"]
abbrev hR : PySem.W.OpenRow := PySem.W.OpenLaw.row PySem.Challenge.rw_evergreedy_k94_whole_counts_by_belts_and
abbrev hfile : Str := PySem.Challenge.pw_evergreedy_k94_whole_counts_by_belts_and.main.file
abbrev hrv : RfV := rfVal (defArgs inRef) (defBody inRef) (defScope inRef)
abbrev htf : List He.Defn := [("law", none)]
abbrev hk : PySem.W.Hook := hookZ 5 hfa hfn htf hfile hrv
def hob (s : PySem.W.SharedT) : AlZ := obsZ 5 hfa hfn htf hfile (HandSHeadRun.getT s)
theorem hob_eq (s : PySem.W.SharedT) : hob s = hk.obs s.abs := obsZ_eq 5 hfa hfn htf hfile hrv (HandSHeadRun.getT_eq s)
def hnames : List Str := (["GreedyError", "Refused", "is_integer", "is_number", "MOST_PLAIN", "need_places", "factorial", "all_pairs"] : List Str) ++ (["how_many", "MOST_COUNTED", "need_counted", "chosen_from", "plus", "product", "between", "of_part"] : List Str) ++ (["signed_tables", "table_of", "belts_and_rings", "how_many_with", "how_many_ringless", "most_belts", "rows_of_groups", "how_many_fullest"] : List Str) ++ (["_law_take", "_law_pick", "_law_part", "_law_box", "_law_same", "_law_web", "_law_turns", "_law_reach"] : List Str) ++ (["_law_lots", "_law_fine", "_law_choose", "_law_power", "_law_worth", "_law_all", "_law_right", "_law_refused"] : List Str)
theorem hrun (w : World) : HandSHeadRun.RunEq hR (PySem.W.view hR.prog [46]) hk hob 6000 hnames w := by
  intro os
  kernel_rfl
theorem tx_of {K : PySem.W.Frag} {w : World} {h : Heap} {mg : Str → Option Value} (X : K.In h) (G : h.Ns mainGlobals mg) (c : SaysZ hfa hfn htf hfile hrv w h K) : Tx PySem.Challenge.pw_evergreedy_k94_whole_counts_by_belts_and K mg where
  f_abs := He.free_ok X G (c.x.t.d.fact 0 rfl)
  f_all := He.free_ok X G (c.x.t.d.fact 1 rfl)
  f_bool := He.free_ok X G (c.x.t.d.fact 2 rfl)
  f_dict := He.free_ok X G (c.x.t.d.fact 3 rfl)
  f_int := He.free_ok X G (c.x.t.d.fact 4 rfl)
  f_isinstance := He.free_ok X G (c.x.t.d.fact 5 rfl)
  f_len := He.free_ok X G (c.x.t.d.fact 6 rfl)
  f_list := He.free_ok X G (c.x.t.d.fact 7 rfl)
  f_max := He.free_ok X G (c.x.t.d.fact 8 rfl)
  f_range := He.free_ok X G (c.x.t.d.fact 9 rfl)
  f_set := He.free_ok X G (c.x.t.d.fact 10 rfl)
  f_sorted := He.free_ok X G (c.x.t.d.fact 11 rfl)
  f_str := He.free_ok X G (c.x.t.d.fact 12 rfl)
  f_sum := He.free_ok X G (c.x.t.d.fact 13 rfl)
  f_tuple := He.free_ok X G (c.x.t.d.fact 14 rfl)
  c_MOST_COUNTED := He.int_ok X G (c.x.t.d.fact 15 rfl)
  c_MOST_PLAIN := He.int_ok X G (c.x.t.d.fact 16 rfl)
  v_belts_and_rings := He.glo_ok X G (c.x.t.d.fact 17 rfl)
  v_how_many_ringless := He.glo_ok X G (c.x.t.d.fact 18 rfl)
  d_is_integer := (let ⟨fd, F⟩ := c.x.t.d.def_ 0 (d := dd "is_integer" s_is_integer []) rfl; ⟨fd, F, He.glo_ok X G (c.x.t.d.fact 19 rfl)⟩)
  d_is_number := (let ⟨fd, F⟩ := c.x.t.d.def_ 1 (d := dd "is_number" s_is_number [.non]) rfl; ⟨fd, F, He.glo_ok X G (c.x.t.d.fact 20 rfl)⟩)
  d_need_places := (let ⟨fd, F⟩ := c.x.t.d.def_ 2 (d := dd "need_places" s_need_places []) rfl; ⟨fd, F, He.glo_ok X G (c.x.t.d.fact 21 rfl)⟩)
  d_factorial := (let ⟨fd, F⟩ := c.x.t.d.def_ 3 (d := dd "factorial" s_factorial []) rfl; ⟨fd, F, He.glo_ok X G (c.x.t.d.fact 22 rfl)⟩)
  d_all_pairs := (let ⟨fd, F⟩ := c.x.t.d.def_ 4 (d := dd "all_pairs" s_all_pairs []) rfl; ⟨fd, F, He.glo_ok X G (c.x.t.d.fact 23 rfl)⟩)
  d_how_many := (let ⟨fd, F⟩ := c.x.t.d.def_ 5 (d := dd "how_many" s_how_many []) rfl; ⟨fd, F, He.glo_ok X G (c.x.t.d.fact 24 rfl)⟩)
  d_need_counted := (let ⟨fd, F⟩ := c.x.t.d.def_ 6 (d := dd "need_counted" s_need_counted []) rfl; ⟨fd, F, He.glo_ok X G (c.x.t.d.fact 25 rfl)⟩)
  d_chosen_from := (let ⟨fd, F⟩ := c.x.t.d.def_ 7 (d := dd "chosen_from" s_chosen_from []) rfl; ⟨fd, F, He.glo_ok X G (c.x.t.d.fact 26 rfl)⟩)
  d_plus := (let ⟨fd, F⟩ := c.x.t.d.def_ 8 (d := dd "plus" s_plus []) rfl; ⟨fd, F, He.glo_ok X G (c.x.t.d.fact 27 rfl)⟩)
  d_product := (let ⟨fd, F⟩ := c.x.t.d.def_ 9 (d := dd "product" s_product []) rfl; ⟨fd, F, He.glo_ok X G (c.x.t.d.fact 28 rfl)⟩)
  d_between := (let ⟨fd, F⟩ := c.x.t.d.def_ 10 (d := dd "between" s_between []) rfl; ⟨fd, F, He.glo_ok X G (c.x.t.d.fact 29 rfl)⟩)
  d_of_part := (let ⟨fd, F⟩ := c.x.t.d.def_ 11 (d := dd "of_part" s_of_part []) rfl; ⟨fd, F, He.glo_ok X G (c.x.t.d.fact 30 rfl)⟩)
  d_signed_tables := (let ⟨fd, F⟩ := c.x.t.d.def_ 12 (d := dd "signed_tables" s_signed_tables []) rfl; ⟨fd, F, He.glo_ok X G (c.x.t.d.fact 31 rfl)⟩)
  d_table_of := (let ⟨fd, F⟩ := c.x.t.d.def_ 13 (d := dd "table_of" s_table_of []) rfl; ⟨fd, F, He.glo_ok X G (c.x.t.d.fact 32 rfl)⟩)
  d_belts_and_rings := (let ⟨fd, F⟩ := c.x.t.d.def_ 14 (d := dd "belts_and_rings" s_belts_and_rings []) rfl; ⟨fd, F, He.glo_ok X G (c.x.t.d.fact 17 rfl)⟩)
  d_how_many_with := (let ⟨fd, F⟩ := c.x.t.d.def_ 15 (d := dd "how_many_with" s_how_many_with []) rfl; ⟨fd, F, He.glo_ok X G (c.x.t.d.fact 33 rfl)⟩)
  d_how_many_ringless := (let ⟨fd, F⟩ := c.x.t.d.def_ 16 (d := dd "how_many_ringless" s_how_many_ringless []) rfl; ⟨fd, F, He.glo_ok X G (c.x.t.d.fact 18 rfl)⟩)
  d_most_belts := (let ⟨fd, F⟩ := c.x.t.d.def_ 17 (d := dd "most_belts" s_most_belts []) rfl; ⟨fd, F, He.glo_ok X G (c.x.t.d.fact 34 rfl)⟩)
  d_rows_of_groups := (let ⟨fd, F⟩ := c.x.t.d.def_ 18 (d := dd "rows_of_groups" s_rows_of_groups []) rfl; ⟨fd, F, He.glo_ok X G (c.x.t.d.fact 35 rfl)⟩)
  d_how_many_fullest := (let ⟨fd, F⟩ := c.x.t.d.def_ 19 (d := dd "how_many_fullest" s_how_many_fullest []) rfl; ⟨fd, F, He.glo_ok X G (c.x.t.d.fact 36 rfl)⟩)
  d_l_take := (let ⟨fd, F⟩ := c.x.t.d.def_ 20 (d := dd "_law_take" s_l_take []) rfl; ⟨fd, F, He.glo_ok X G (c.x.t.d.fact 37 rfl)⟩)
  d_l_box := (let ⟨fd, F⟩ := c.x.t.d.def_ 21 (d := dd "_law_box" s_l_box []) rfl; ⟨fd, F, He.glo_ok X G (c.x.t.d.fact 38 rfl)⟩)
  d_l_same := (let ⟨fd, F⟩ := c.x.t.d.def_ 22 (d := dd "_law_same" s_l_same []) rfl; ⟨fd, F, He.glo_ok X G (c.x.t.d.fact 39 rfl)⟩)
  d_l_turns := (let ⟨fd, F⟩ := c.x.t.d.def_ 23 (d := dd "_law_turns" s_l_turns []) rfl; ⟨fd, F, He.glo_ok X G (c.x.t.d.fact 40 rfl)⟩)
  d_l_reach := (let ⟨fd, F⟩ := c.x.t.d.def_ 24 (d := dd "_law_reach" s_l_reach []) rfl; ⟨fd, F, He.glo_ok X G (c.x.t.d.fact 41 rfl)⟩)
  d_l_lots := (let ⟨fd, F⟩ := c.x.t.d.def_ 25 (d := dd "_law_lots" s_l_lots []) rfl; ⟨fd, F, He.glo_ok X G (c.x.t.d.fact 42 rfl)⟩)
  d_l_fine := (let ⟨fd, F⟩ := c.x.t.d.def_ 26 (d := dd "_law_fine" s_l_fine []) rfl; ⟨fd, F, He.glo_ok X G (c.x.t.d.fact 43 rfl)⟩)
  d_l_choose := (let ⟨fd, F⟩ := c.x.t.d.def_ 27 (d := dd "_law_choose" s_l_choose []) rfl; ⟨fd, F, He.glo_ok X G (c.x.t.d.fact 44 rfl)⟩)
  d_l_power := (let ⟨fd, F⟩ := c.x.t.d.def_ 28 (d := dd "_law_power" s_l_power []) rfl; ⟨fd, F, He.glo_ok X G (c.x.t.d.fact 45 rfl)⟩)
  d_l_worth := (let ⟨fd, F⟩ := c.x.t.d.def_ 29 (d := dd "_law_worth" s_l_worth []) rfl; ⟨fd, F, He.glo_ok X G (c.x.t.d.fact 46 rfl)⟩)
  d_l_all := (let ⟨fd, F⟩ := c.x.t.d.def_ 30 (d := dd "_law_all" s_l_all []) rfl; ⟨fd, F, He.glo_ok X G (c.x.t.d.fact 47 rfl)⟩)
  d_l_right := (let ⟨fd, F⟩ := c.x.t.d.def_ 31 (d := dd "_law_right" s_l_right []) rfl; ⟨fd, F, He.glo_ok X G (c.x.t.d.fact 48 rfl)⟩)
  d_l_refused := (let ⟨fd, F⟩ := c.x.t.d.def_ 32 (d := dd "_law_refused" s_l_refused []) rfl; ⟨fd, F, He.glo_ok X G (c.x.t.d.fact 49 rfl)⟩)
  d_law := (let ⟨fd, F⟩ := c.x.t.d.def_ 33 (d := dd "law" s_law []) rfl; ⟨fd, F, He.glo_ok X G (c.x.t.d.fact 50 rfl)⟩)
  ref := ref_ok c.x.more c.rv rfl (He.glo_ok X G (c.x.t.d.fact 51 rfl)) (He.free_ok X G (c.x.t.d.fact 52 rfl)) (by decide +kernel)
end K94
/-! The end. -/
namespace K94
open PySem PySem.Spec PyProof.Rows L2 Dl Hd
abbrev LP : Program := PySem.Challenge.pw_evergreedy_k94_whole_counts_by_belts_and
section
variable {K : PySem.W.Frag}
abbrev lc (K : PySem.W.Frag) : Addr := He.codeOf K ("law", none)
abbrev lt (K : PySem.W.Frag) : Addr := He.tabOf K (lc K)
theorem reps_ints {F : Hp} : ∀ ns : List Int, Reps K F (ns.map D.int) (ns.map V.int)
  | [] => rfl
  | n :: ns => ⟨_, _, rfl, rfl, reps_ints ns⟩
theorem tk_eq (h : K.lookup (lt K) = none) : Dl.TK K = [(lt K, PySem.Str.ofString "law.<locals>.<lambda>")] := by
  unfold Dl.TK
  rw [if_pos (by rw [h] <;> rfl)]
/-- the law's promise, of a script -/
theorem sp_ok {H : Hp} {a : Addr} {ns : List Int} (ho : K.lookup (lt K) = none) (ht : H (lt K) = some (.tbl #[])) (hS : SqL K H a (ns.map V.int)) : spD K g_law [.ref a] H (fun v _ => v = .bl true) fun _ _ _ => False := by
  have tabs : LamX.Tabs (Dl.TK K) H := fun p hp => by
    rw [tk_eq ho] at hp
    obtain rfl := List.mem_singleton.mp hp
    exact ⟨#[], ht, (by first | trivial | exact .nil | decide | simp), fun pos cv z => nomatch z⟩
  have key : ∀ F : Hp, Same F H → SqL K F a (ns.map V.int) → F (lt K) = none → spD K g_law [.ref a] H (fun v _ => v = .bl true) fun _ _ _ => False := fun F s q n =>
    ⟨F, [scD ns], .ok (.bl true), ⟨tabs, fun p hp => by
      rw [tk_eq ho] at hp
      obtain rfl := List.mem_singleton.mp hp
      exact n⟩, s, ⟨_, _, rfl, ⟨a, ns.map V.int, rfl, q, reps_ints ns⟩, rfl⟩, law_plain ns, fun v F' H' _ r => r⟩
  rcases hS with hR | hK
  · have hne : a ≠ lt K := by
      rintro rfl
      rcases hR with e | ⟨o, e⟩ <;> rw [ht] at e <;> cases e
    refine key (fun b => if b = a then H a else none) (fun b o e => ?_) (.inl ?_) (if_neg (Ne.symm hne))
    · replace e : (if b = a then H a else none) = some o := e
      by_cases c : b = a
      · rw [if_pos c] at e; rw [c]; exact e
      · rw [if_neg c] at e; cases e
    · rcases hR with e | ⟨o, e⟩
      · exact .inl ((if_pos rfl).trans e)
      · exact .inr ⟨o, (if_pos rfl).trans e⟩
  · exact key (fun _ => none) (fun _ _ e => nomatch e) (.inr hK) rfl
theorem law_at {w : World} {mg : Str → Option Value} {fa : Addr} {h : Heap} (X : K.In h) (G : h.Ns mainGlobals mg) (hm : mg ("law" : Str) = some (.ref fa)) (c : SaysZ hfa hfn htf hfile hrv w h K) :
    LamX.LawAtS PySem.Challenge.rw_evergreedy_k94_whole_counts_by_belts_and w K (L2.CX LP w) 8 63 "script" mg fa h := by
  have T : Tx LP K mg := tx_of X G c
  obtain ⟨fd, F, gm⟩ := T.d_law
  rw [hm] at gm
  cases gm
  have hd := c.x.hd ("law", none) (List.mem_singleton.mpr rfl)
  have out := c.x.out ("law", none) (List.mem_singleton.mpr rfl)
  have emp := c.x.empty ("law", none) (List.mem_singleton.mpr rfl)
  have code : fd.code = .ref (lc K) := by
    obtain ⟨oc, od, dV, kV, doc, pm, an, cdv, ct, osl, rfl, lk, hcd, _, _⟩ := F.ex
    obtain ⟨c0, e⟩ := He.codeIn_ref hcd
    have := He.codeOf_eq (p := ("law", none)) lk e
    show cdv = .ref (He.codeOf K ("law", none))
    rw [this]
    exact e
  refine ⟨fd, [(lc K, lt K)], spD K g_law, fun p hp => ?_, fun p hp => ?_, fun p hp => ?_, fun s u => ?_, fun H a ns hl hb hT hS => ?_, fun base KB GB hTB => ?_⟩
  · obtain rfl := List.mem_singleton.mp hp
    exact emp
  · obtain rfl := List.mem_singleton.mp hp
    exact out
  · obtain rfl := List.mem_singleton.mp hp
    exact PySem.W.codeHd_of_K X hd
  · exact FunD.bindsA (ps := ["script"]) F (fun _ _ _ _ _ _ us hl => match us, hl with | [_], _ => rfl) s [u] rfl
  · exact sp_ok out (hT _ (List.mem_singleton.mpr rfl)) hS
  · refine ok_law T rightOk F fun A outer s H E => ⟨lc K, lt K, hTB _ (List.mem_singleton.mpr rfl), code, ?_, fun p hp _ => ?_⟩
    · have z : (lt K, PySem.Str.ofString "law.<locals>.<lambda>") ∈ Dl.TK K := by
        rw [tk_eq out]
        exact List.mem_singleton.mpr rfl
      exact z
    · replace hp : p ∈ Dl.TK K := hp
      rw [tk_eq out] at hp
      obtain rfl := List.mem_singleton.mp hp
      rfl
end
end K94
open PySem PySem.W PySem.Calls PyProof.Rows
theorem PySem.Challenge.cw_evergreedy_k94_whole_counts_by_belts_and_holds : PySem.Challenge.rw_evergreedy_k94_whole_counts_by_belts_and.Holds := by
  w_on; o_law
  refine HandSHeadRun.head_any (r := OpenLaw.row PySem.Challenge.rw_evergreedy_k94_whole_counts_by_belts_and) (q := view K94.LP [46]) (H := K94.hk) (ob := K94.hob) (M := 6000) (loose := K94.hnames) (d := HandSHeadRun.topDef K94.LP 46) (kwd := []) K94.hob_eq
    (by kernel_rfl) (fun s => by kernel_rfl) K94.hrun (by kernel_rfl) (by kernel_rfl) (by kernel_rfl) (by rfl) (by first | assumption | decide +kernel) (by decide +kernel) ⟨rfl, rfl, rfl, rfl, rfl, by decide +kernel⟩ ?hw ?hc
  case hw => w_witness2
  case hc =>
    refine LamX.walk_ofTsE (l := PySem.Challenge.rw_evergreedy_k94_whole_counts_by_belts_and) (n := 63) (k := 8) (x := "script") (CX := fun w => L2.CX K94.LP w) rfl (by decide) (by kernel_rfl) ⟨rfl, by decide, by decide⟩ (fun w mg fa h Y G hm => ?_) fun w H s e s' z => ?_
    · obtain ⟨K, X, c⟩ := Y
      have e : (HandSHeadRun.topDef K94.LP 46).name = ("law" : PySem.Str) := by kernel_rfl
      rw [e] at hm
      exact ⟨K, X, K94.law_at X G hm c⟩
    · obtain ⟨_, _, _, _, _, _, _, _, _, _, _, _, z⟩ := z
      exact z.elim
