import PyProof.Rows.All
import Wide.All
import OpenK.AllK
import Wide.FinOn
import HandS.ForMost
import HandS.ForExc
import HandS.Star
import HandS.IsInst
import HandS.Conv
import HandS.Wide
import HandS.SortInts
import HandS.SortRule
import HandS.TryMany
import HandS.TryOnly
import HandS.ExcOwn
import HandS.ExcInit
import HandS.ExcField
import HandS.Small
import HandS.Style
import HandS.Strs
import HandS.Zip
import HandS.Defaults
import HandS.TupAny
import HandS.TupMul
import HandS.SetFor
import HandS.HeadHook2
import HandS.Head0
import HandS.Head1
import HandS.Head2
import HandS.HeadEnd
import HandS.Ends
import KE.KIndexOf
import HandS.ExcValue
import KE.KExcIs
import HandS.HeadHook1
import KE.KDictList
import HandS.Property
import PySem.Challenge.RW_burstsapart_k16_errors_apart
set_option Elab.async false
set_option linter.all false
set_option maxRecDepth 100000
set_option maxHeartbeats 4000001
/-! The layer: what a program does, told by plain data. A heap H is split: F, the part that stays as it is (all plain data lies there), and the objects that a slot owns (lists, dicts that change). -/
namespace Bp
open PySem PySem.Spec PyProof.Rows L2

/-! ### heaps and data -/
def Ex (F H : Hp) : Prop := ∀ a o, F a = some o → H a = some o
theorem Ex.refl (F : Hp) : Ex F F := fun _ _ h => h
theorem Ex.trans {F G H : Hp} (a : Ex F G) (b : Ex G H) : Ex F H := fun x o h => b x o (a x o h)
theorem Ex.sqt {K : PySem.W.Frag} {H H' : Hp} {a : Addr} {xs : List V} (e : Ex H H') (h : SqT K H a xs) : SqT K H' a xs := by
  rcases h with (h | ⟨o, h⟩) | h
  · exact .inl (.inl (e _ _ h))
  · exact .inl (.inr ⟨o, e _ _ h⟩)
  · exact .inr h
theorem Ex.sql {K : PySem.W.Frag} {H H' : Hp} {a : Addr} {xs : List V} (e : Ex H H') (h : SqL K H a xs) : SqL K H' a xs := by
  rcases h with (h | ⟨o, h⟩) | h
  · exact .inl (.inl (e _ _ h))
  · exact .inl (.inr ⟨o, e _ _ h⟩)
  · exact .inr h
theorem Ex.new {F : Hp} {a : Addr} {o : HO} (h : F a = none) : Ex F (upd F a o) := fun b u e => by
  rw [upd_ne (ne_of_none e h)]
  exact e
theorem Ex.none {F H : Hp} (e : Ex F H) {a : Addr} (h : H a = none) : F a = none := by
  cases q : F a with
  | none => rfl
  | some o =>
    rw [e a o q] at h
    cases h
/-- the object at a is known, and it has no dict of its own -/
def NoDt (F : Hp) (a : Addr) : Prop := ∃ (o : Obj) (u : HO), F a = some (.frz o u) ∧ o.dict = none
theorem NoDt.mono {F F' : Hp} {a : Addr} (e : Ex F F') (h : NoDt F a) : NoDt F' a := by
  obtain ⟨o, u, h1, h2⟩ := h
  exact ⟨o, u, e _ _ h1, h2⟩
/-- a dict's key as data -/
def kyD : Key → PyData
  | .inl i => .int i
  | .inr x => .str x
mutual
inductive DD (K : PySem.W.Frag) (F : Hp) : V → PyData → Prop
  | non : DD K F .non .none
  | bl (b : Bool) : DD K F (.bl b) (.bool b)
  | int (i : Int) : DD K F (.int i) (.int i)
  | str (x : Str) : DD K F (.str x) (.str x)
  | lst {a : Addr} {xs : List V} {ds : List PyData} : F a = some (.lst xs) → DDs K F xs ds → DD K F (.ref a) (.list ds)
  | tup {a : Addr} {xs : List V} {ds : List PyData} : SqT K F a xs → NoDt F a → DDs K F xs ds → DD K F (.ref a) (.tuple ds)
  | dct {a : Addr} {o : Obj} {ws : List (Key × V)} {kvd : List (PyData × PyData)} : F a = some (.frz o (.dK ws)) → (ws.map fun kv => kyD kv.1) = kvd.map (·.1) → DDs K F (ws.map (·.2)) (kvd.map (·.2)) → DD K F (.ref a) (.dict kvd)
  | exc0 {a C : Addr} : F a = some (exo a C none) → DD K F (.ref a) (.dict [(.none, .int (Int.ofNat C))])
  | exc1 {a C dx : Addr} {f : Str} {v : V} {d : PyData} : F a = some (exo a C (some dx)) → F dx = some (exd dx [(f, v)]) → DD K F v d → DD K F (.ref a) (.dict [(.none, .int (Int.ofNat C)), (.str f, d)])
inductive DDs (K : PySem.W.Frag) (F : Hp) : List V → List PyData → Prop
  | nil : DDs K F [] []
  | cons {v : V} {vs : List V} {d : PyData} {ds : List PyData} : DD K F v d → DDs K F vs ds → DDs K F (v :: vs) (d :: ds)
end
section
variable {K : PySem.W.Frag} {F F' : Hp}
mutual
theorem DD.mono (e : Ex F F') : ∀ {v : V} {d : PyData}, DD K F v d → DD K F' v d
  | _, _, .non => .non
  | _, _, .bl b => .bl b
  | _, _, .int i => .int i
  | _, _, .str x => .str x
  | _, _, .lst h hs => .lst (e _ _ h) (DDs.mono e hs)
  | _, _, .tup h n hs => .tup (e.sqt h) (n.mono e) (DDs.mono e hs)
  | _, _, .dct h q hs => .dct (e _ _ h) q (DDs.mono e hs)
  | _, _, .exc0 h => .exc0 (e _ _ h)
  | _, _, .exc1 h g d => .exc1 (e _ _ h) (e _ _ g) (DD.mono e d)
theorem DDs.mono (e : Ex F F') : ∀ {vs : List V} {ds : List PyData}, DDs K F vs ds → DDs K F' vs ds
  | _, _, .nil => .nil
  | _, _, .cons h hs => .cons (DD.mono e h) (DDs.mono e hs)
end
theorem DDs.length : ∀ {vs : List V} {ds : List PyData}, DDs K F vs ds → vs.length = ds.length
  | _, _, .nil => rfl
  | _, _, .cons _ hs => congrArg (· + 1) (DDs.length hs)
theorem DDs.get : ∀ {vs : List V} {ds : List PyData} {i : Nat} {d : PyData}, DDs K F vs ds → ds[i]? = some d → ∃ v, vs[i]? = some v ∧ DD K F v d
  | _, _, _, _, .nil, e => by simp at e
  | _, _, 0, _, .cons h _, e => by
    simp at e
    subst e
    exact ⟨_, rfl, h⟩
  | _, _, i + 1, d, .cons _ hs, e => by
    obtain ⟨v, h1, h2⟩ := DDs.get (i := i) (d := d) hs (by simpa using e)
    exact ⟨v, by simpa using h1, h2⟩
theorem DDs.getV : ∀ {vs : List V} {ds : List PyData} {i : Nat} {v : V}, DDs K F vs ds → vs[i]? = some v → ∃ d, ds[i]? = some d ∧ DD K F v d
  | _, _, _, _, .nil, e => by simp at e
  | _, _, 0, _, .cons h _, e => by
    simp at e
    subst e
    exact ⟨_, rfl, h⟩
  | _, _, i + 1, v, .cons _ hs, e => by
    obtain ⟨d, h1, h2⟩ := DDs.getV (i := i) (v := v) hs (by simpa using e)
    exact ⟨d, by simpa using h1, h2⟩
theorem DDs.append : ∀ {vs ws : List V} {ds es : List PyData}, DDs K F vs ds → DDs K F ws es → DDs K F (vs ++ ws) (ds ++ es)
  | _, _, _, _, .nil, s => s
  | _, _, _, _, .cons h hs, s => .cons h (DDs.append hs s)
theorem DDs.take : ∀ {vs : List V} {ds : List PyData} (n : Nat), DDs K F vs ds → DDs K F (vs.take n) (ds.take n)
  | _, _, 0, _ => .nil
  | _, _, _ + 1, .nil => .nil
  | _, _, n + 1, .cons h hs => .cons h (DDs.take n hs)
theorem DDs.drop : ∀ {vs : List V} {ds : List PyData} (n : Nat), DDs K F vs ds → DDs K F (vs.drop n) (ds.drop n)
  | _, _, 0, h => h
  | _, _, _ + 1, .nil => .nil
  | _, _, n + 1, .cons _ hs => DDs.drop n hs
theorem DDs.set {v : V} {d : PyData} (h : DD K F v d) : ∀ {vs : List V} {ds : List PyData} (i : Nat), DDs K F vs ds → DDs K F (vs.set i v) (ds.set i d)
  | _, _, _, .nil => .nil
  | _, _, 0, .cons _ hs => .cons h hs
  | _, _, i + 1, .cons q hs => .cons q (DDs.set h i hs)
theorem DDs.ints : ∀ {vs : List V} {ns : List Int}, DDs K F vs (ns.map PyData.int) → vs = ns.map V.int
  | _, [], .nil => rfl
  | _, _ :: _, .cons h hs => by
    cases h
    rw [DDs.ints hs]
    rfl
theorem DDs.ofInts : ∀ (ns : List Int), DDs K F (ns.map V.int) (ns.map PyData.int)
  | [] => .nil
  | n :: ns => .cons (.int n) (DDs.ofInts ns)
theorem DDs.strs : ∀ {vs : List V} {ns : List Str}, DDs K F vs (ns.map PyData.str) → vs = ns.map V.str
  | _, [], .nil => rfl
  | _, _ :: _, .cons h hs => by
    cases h
    rw [DDs.strs hs]
    rfl
theorem DDs.ofStrs : ∀ (ns : List Str), DDs K F (ns.map V.str) (ns.map PyData.str)
  | [] => .nil
  | n :: ns => .cons (.str n) (DDs.ofStrs ns)
theorem DDs.bls : ∀ {vs : List V} {ns : List Bool}, DDs K F vs (ns.map PyData.bool) → vs = ns.map V.bl
  | _, [], .nil => rfl
  | _, _ :: _, .cons h hs => by
    cases h
    rw [DDs.bls hs]
    rfl
end

/-! ### what a slot holds: plain data, or an object of its own -/
/-- the draw's state: a seed, a number at hand, numbers to come -/
def RS (ns : List Int) : Prop := ∃ s c r, ns = s :: c :: r ∧ 0 ≤ s ∧ 0 ≤ c ∧ ∀ x ∈ r, (0 : Int) ≤ x
inductive O where
  | lst (ds : List PyData)
  | dic (kvs : List (Key × PyData))
  | rs
  | ins (C dx : Addr) (fs : List (Str × PyData))
inductive S where
  | d (d : PyData)
  | own (a : Addr) (o : O)
  | scr (ns : List Int)
abbrev Rho := List (Option S)
def KVs (K : PySem.W.Frag) (F : Hp) (ws : List (Key × V)) (kvs : List (Key × PyData)) : Prop := ws.map (·.1) = kvs.map (·.1) ∧ DDs K F (ws.map (·.2)) (kvs.map (·.2))
def FVs (K : PySem.W.Frag) (F : Hp) (ws : List (Str × V)) (kvs : List (Str × PyData)) : Prop := ws.map (·.1) = kvs.map (·.1) ∧ DDs K F (ws.map (·.2)) (kvs.map (·.2))
def OO (K : PySem.W.Frag) (F : Hp) (ho : HO) : O → Prop
  | .lst ds => ∃ xs, ho = .lst xs ∧ DDs K F xs ds
  | .dic kvs => ∃ ws, ho = .dK ws ∧ KVs K F ws kvs
  | .rs => ∃ ns, ho = .lst (ns.map V.int) ∧ RS ns
  | .ins C dx fs => ∃ gs, ho = .ins C dx gs ∧ FVs K F gs fs
theorem OO.mono {K : PySem.W.Frag} {F F' : Hp} {ho : HO} {o : O} (e : Ex F F') (h : OO K F ho o) : OO K F' ho o := by
  cases o with
  | lst ds => exact ⟨h.choose, h.choose_spec.1, h.choose_spec.2.mono e⟩
  | dic kvs => exact ⟨h.choose, h.choose_spec.1, h.choose_spec.2.1, h.choose_spec.2.2.mono e⟩
  | rs => exact h
  | ins C dx fs => exact ⟨h.choose, h.choose_spec.1, h.choose_spec.2.1, h.choose_spec.2.2.mono e⟩
def Owns (ρ : Rho) (a : Addr) : Prop := ∃ (i : Nat) (o : O), ρ[i]? = some (some (S.own a o))
/-- the two heaps and what the slots own -/
structure Wd (K : PySem.W.Frag) (F H : Hp) (ρ : Rho) : Prop where
  sub : Ex F H
  own : ∀ (i : Nat) a o, ρ[i]? = some (some (.own a o)) → F a = none ∧ ∃ ho, H a = some ho ∧ OO K F ho o
  dis : ∀ (i j : Nat) a o o', ρ[i]? = some (some (.own a o)) → ρ[j]? = some (some (.own a o')) → i = j
def SV (K : PySem.W.Frag) (F : Hp) (v : V) : S → Prop
  | .d d => DD K F v d
  | .own a _ => v = .ref a
  | .scr ns => ∃ a, v = .ref a ∧ SqL K F a (ns.map V.int)
structure Sl (K : PySem.W.Frag) (F : Hp) (σ : L2.St) (ρ : Rho) : Prop where
  len : σ.length = ρ.length
  get : ∀ (i : Nat) s, ρ[i]? = some (some s) → ∃ v, σ[i]? = some (some v) ∧ SV K F v s
theorem SV.mono {K : PySem.W.Frag} {F F' : Hp} {v : V} {s : S} (e : Ex F F') (h : SV K F v s) : SV K F' v s := by
  cases s with
  | d d => exact DD.mono e h
  | own a o => exact h
  | scr ns => exact ⟨h.choose, h.choose_spec.1, e.sql h.choose_spec.2⟩
theorem Sl.mono {K : PySem.W.Frag} {F F' : Hp} {σ : L2.St} {ρ : Rho} (e : Ex F F') (h : Sl K F σ ρ) : Sl K F' σ ρ :=
  ⟨h.len, fun i s q => let ⟨v, a, b⟩ := h.get i s q; ⟨v, a, b.mono e⟩⟩
/-- one step: what lies in F stays, what is not owned stays -/
structure Stp (ρ ρ' : Rho) (F H F' H' : Hp) : Prop where
  ex : Ex F F'
  keep : ∀ a o, H a = some o → ¬ Owns ρ a → H' a = some o
  fr : ∀ a o, F a = none → H a = some o → ¬ Owns ρ a → F' a = none
  own : ∀ a, Owns ρ' a → Owns ρ a ∨ H a = none
  all : ∀ a, H' a = none → H a = none
theorem Stp.refl {ρ : Rho} {F H : Hp} : Stp ρ ρ F H F H := ⟨Ex.refl F, fun _ _ h _ => h, fun _ _ h _ _ => h, fun _ h => .inl h, fun _ h => h⟩
theorem Stp.trans {ρ ρ1 ρ2 : Rho} {F H F1 H1 F2 H2 : Hp} (a : Stp ρ ρ1 F H F1 H1) (b : Stp ρ1 ρ2 F1 H1 F2 H2) : Stp ρ ρ2 F H F2 H2 where
  ex := a.ex.trans b.ex
  keep := fun x o h n => b.keep x o (a.keep x o h n) fun w => by
    rcases a.own x w with q | q
    · exact n q
    · rw [h] at q
      cases q
  fr := fun x o f h n => b.fr x o (a.fr x o f h n) (a.keep x o h n) fun w => by
    rcases a.own x w with q | q
    · exact n q
    · rw [h] at q
      cases q
  own := fun x w => by
    rcases b.own x w with q | q
    · exact a.own x q
    · by_cases n : Owns ρ x
      · exact .inl n
      · cases h : H x with
        | none => exact .inr rfl
        | some o =>
          rw [a.keep x o h n] at q
          cases q
  all := fun x h => a.all x (b.all x h)
/-- growth: all that stands stays -/
structure Gr (F H F' H' : Hp) : Prop where
  ex : Ex F F'
  exH : Ex H H'
  sub : Ex F' H'
  fr : ∀ a o, F a = none → H a = some o → F' a = none
theorem Gr.refl {F H : Hp} (h : Ex F H) : Gr F H F H := ⟨Ex.refl _, Ex.refl _, h, fun _ _ h _ => h⟩
theorem Gr.trans {F H F1 H1 F2 H2 : Hp} (a : Gr F H F1 H1) (b : Gr F1 H1 F2 H2) : Gr F H F2 H2 := ⟨a.ex.trans b.ex, a.exH.trans b.exH, b.sub, fun x o f h => b.fr x o (a.fr x o f h) (a.exH x o h)⟩
/-- a new object of plain data -/
theorem Gr.new {F H : Hp} {p : Addr} {o : HO} (e : Ex F H) (h : H p = none) : Gr F H (upd F p o) (upd H p o) where
  ex := Ex.new (e.none h)
  exH := Ex.new h
  sub := fun b u q => by
    by_cases hb : b = p
    · subst hb
      rw [upd_same] at q ⊢
      exact q
    · rw [upd_ne hb] at q ⊢
      exact e b u q
  fr := fun b u f hb => by
    have n : b ≠ p := ne_of_none hb h
    rw [upd_ne n]
    exact f
/-- a new object that is not (yet) plain data -/
theorem Gr.side {F H : Hp} {p : Addr} {o : HO} (e : Ex F H) (h : H p = none) : Gr F H F (upd H p o) := ⟨Ex.refl _, Ex.new h, e.trans (Ex.new h), fun _ _ f _ => f⟩
theorem Gr.stp {ρ : Rho} {F H F' H' : Hp} (g : Gr F H F' H') : Stp ρ ρ F H F' H' := ⟨g.ex, fun a o h _ => g.exH a o h, fun a o f h _ => g.fr a o f h, fun _ h => .inl h, fun _ h => g.exH.none h⟩
theorem Wd.gr {K : PySem.W.Frag} {ρ : Rho} {F H F' H' : Hp} (w : Wd K F H ρ) (g : Gr F H F' H') : Wd K F' H' ρ where
  sub := g.sub
  own := fun i a o q => by
    obtain ⟨f, ho, h, oo⟩ := w.own i a o q
    exact ⟨g.fr a ho f h, ho, g.exH a ho h, oo.mono g.ex⟩
  dis := w.dis

/-! ### what a def hands back: plain data, or a new object -/
inductive Ret where
  | d (d : PyData)
  | new (o : O)
  | nest (dss : List (List PyData))
/-- a new list of new lists -/
def Nest (K : PySem.W.Frag) (H0 F H : Hp) (ρ : Rho) (v : V) (dss : List (List PyData)) : Prop :=
  ∃ (p : Addr) (as : List Addr), v = .ref p ∧ H0 p = none ∧ F p = none ∧ ¬ Owns ρ p ∧ H p = some (.lst (as.map V.ref)) ∧ (p :: as).Nodup ∧ as.length = dss.length ∧
    ∀ (i : Nat) a ds, as[i]? = some a → dss[i]? = some ds → H0 a = none ∧ F a = none ∧ ¬ Owns ρ a ∧ ∃ xs, H a = some (.lst xs) ∧ DDs K F xs ds
def RtV (K : PySem.W.Frag) (ρ0 : Rho) (H0 F H : Hp) (ρ : Rho) (v : V) : Ret → Prop
  | .d d => DD K F v d
  | .new o => ∃ p ho, v = .ref p ∧ (H0 p = none ∨ Owns ρ0 p) ∧ F p = none ∧ ¬ Owns ρ p ∧ H p = some ho ∧ OO K F ho o
  | .nest dss => Nest K H0 F H ρ v dss
theorem RtV.back {K : PySem.W.Frag} {ρ0 ρ1 : Rho} {H0 H1 F0 F1 F H : Hp} {ρ : Rho} {v : V} {r : Ret} (h : RtV K ρ1 H1 F H ρ v r) (b : Stp ρ0 ρ1 F0 H0 F1 H1) : RtV K ρ0 H0 F H ρ v r := by
  cases r with
  | d d => exact h
  | new o =>
    obtain ⟨p, ho, e, h0, r⟩ := h
    refine ⟨p, ho, e, ?_, r⟩
    rcases h0 with h0 | h0
    · exact .inl (b.all p h0)
    · exact (b.own p h0).symm
  | nest dss =>
    obtain ⟨p, as, e, h0, f, n, hh, nd, hl, each⟩ := h
    refine ⟨p, as, e, b.all p h0, f, n, hh, nd, hl, fun i a ds ha hd => ?_⟩
    obtain ⟨g0, g⟩ := each i a ds ha hd
    exact ⟨b.all a g0, g⟩
/-! ### exceptions -/
structure Xc where
  cls : Addr
  fld : Option (Str × PyData)
def XcAt (K : PySem.W.Frag) (F H : Hp) (x : Xc) (xd : Option Addr) : Prop :=
  match x.fld with
  | none => xd = none
  | some (f, d) => ∃ dx v, xd = some dx ∧ H dx = some (.xd [(f, v)]) ∧ DD K F v d

/-! ### the wishes of the pieces of syntax -/
def WEx (X : Cx) (e : Expr) : TE := fun σ H Q => ∀ pins s, Inv X pins σ H s → wpAny (model X.prog X.w) X.A (eval e X.env) (EP X pins σ Q) X.xe s
def WTx (X : Cx) (e : Expr) : TT := fun σ H Q => ∀ pins s, Inv X pins σ H s → wpAny (model X.prog X.w) X.A (isTrue e X.env (eval e X.env)) (TP X pins σ Q) X.xe s
def WWx (X : Cx) (e : Expr) : TT := fun σ H Q => ∀ (whole : Sem Value) pins s, Inv X pins σ H s → wpAny (model X.prog X.w) X.A (isTrue e X.env whole) (TP X pins σ Q) X.xe s
def WAx (X : Cx) (es : List Expr) : TA := fun σ H Q => ∀ (pos : Pos) pins s, Inv X pins σ H s → wpAny (model X.prog X.w) X.A (spliced (backTo pos (starEach es X.env))) (AP X pins σ Q) X.xe s
def WSx (X : Cx) (st : Stmt) : TS := fun D σ H => ∀ pins s, Inv X pins σ H s → wpAny (model X.prog X.w) X.A (exec st X.env) (SP X pins D) X.xe s
def WSs (X : Cx) (st : List Stmt) : TS := fun D σ H => ∀ pins s, Inv X pins σ H s → wpAny (model X.prog X.w) X.A (execs st X.env) (SP X pins D) X.xe s
theorem pe_w {X : Cx} {e : Expr} : PE X e (WEx X e) := ⟨fun pins s _ _ _ I h => h pins s I⟩
theorem pt_w {X : Cx} {e : Expr} : PT X e (WTx X e) := ⟨fun pins s _ _ _ I h => h pins s I⟩
theorem pw_w {X : Cx} {e : Expr} : PW X e (WWx X e) := ⟨fun wh pins s _ _ _ I h => h wh pins s I⟩
theorem pa_w {X : Cx} {es : List Expr} : PA X es (WAx X es) := ⟨fun pos pins s _ _ _ I h => h pos pins s I⟩
theorem ps_w {X : Cx} {st : Stmt} : PS X st (WSx X st) := ⟨fun pins s _ _ _ I h => h pins s I⟩
theorem pss_w {X : Cx} {st : List Stmt} : PSs X st (WSs X st) := ⟨fun pins s _ _ _ I h => h pins s I⟩
theorem of_pe {X : Cx} {e : Expr} {t : TE} (p : PE X e t) {σ : L2.St} {H : Hp} {Q : VK} (h : t σ H Q) : WEx X e σ H Q := fun pins s I => p.run pins s σ H Q I h
theorem of_pt {X : Cx} {e : Expr} {t : TT} (p : PT X e t) {σ : L2.St} {H : Hp} {Q : Bool → Hp → Prop} (h : t σ H Q) : WTx X e σ H Q := fun pins s I => p.run pins s σ H Q I h
theorem of_pw {X : Cx} {e : Expr} {t : TT} (p : PW X e t) {σ : L2.St} {H : Hp} {Q : Bool → Hp → Prop} (h : t σ H Q) : WWx X e σ H Q := fun wh pins s I => p.run wh pins s σ H Q I h
theorem of_pa {X : Cx} {es : List Expr} {t : TA} (p : PA X es t) {σ : L2.St} {H : Hp} {Q : List V → Hp → Prop} (h : t σ H Q) : WAx X es σ H Q := fun pos pins s I => p.run pos pins s σ H Q I h
theorem of_ps {X : Cx} {st : Stmt} {t : TS} (p : PS X st t) {D : Ends} {σ : L2.St} {H : Hp} (h : t D σ H) : WSx X st D σ H := fun pins s I => p.run pins s σ H D I h
theorem of_pss {X : Cx} {st : List Stmt} {t : TS} (p : PSs X st t) {D : Ends} {σ : L2.St} {H : Hp} (h : t D σ H) : WSs X st D σ H := fun pins s I => p.run pins s σ H D I h

/-! ### the judgements over data -/
/-- what is wanted of an exception -/
def Kx (K : PySem.W.Frag) (W : WX) (ρ : Rho) (F H : Hp) (E : Rho → Xc → Prop) : Prop := ∀ F' H' σ' ρ' x xd, Stp ρ ρ' F H F' H' → Wd K F' H' ρ' → Sl K F' σ' ρ' → XcAt K F' H' x xd → E ρ' x → W (.ref x.cls) xd σ' H'
theorem Kx.step {K : PySem.W.Frag} {W : WX} {ρ ρ1 : Rho} {F H F1 H1 : Hp} {E : Rho → Xc → Prop} (k : Kx K W ρ F H E) (s : Stp ρ ρ1 F H F1 H1) : Kx K W ρ1 F1 H1 E := fun _ _ _ _ _ _ st wd sl xa e => k _ _ _ _ _ _ (s.trans st) wd sl xa e
abbrev XQ := Rho → Xc → Prop
/-- nothing is let out -/
abbrev noX : XQ := fun _ _ => False
def EW (X : Cx) (W : WX) (e : Expr) (ρ : Rho) (Q : Rho → PyData → Prop) (E : XQ) : Prop := ∀ F H σ (R : VK), Wd X.K F H ρ → Sl X.K F σ ρ → Kx X.K W ρ F H E →
  (∀ F' H' ρ' v d, Stp ρ ρ' F H F' H' → Wd X.K F' H' ρ' → Sl X.K F' σ ρ' → DD X.K F' v d → Q ρ' d → R v H') → WEx X e σ H R
def TW (X : Cx) (W : WX) (e : Expr) (ρ : Rho) (Q : Rho → Bool → Prop) (E : XQ) : Prop := ∀ F H σ (R : Bool → Hp → Prop), Wd X.K F H ρ → Sl X.K F σ ρ → Kx X.K W ρ F H E →
  (∀ F' H' ρ' b, Stp ρ ρ' F H F' H' → Wd X.K F' H' ρ' → Sl X.K F' σ ρ' → Q ρ' b → R b H') → WTx X e σ H R
def PWW (X : Cx) (W : WX) (e : Expr) (ρ : Rho) (Q : Rho → Bool → Prop) (E : XQ) : Prop := ∀ F H σ (R : Bool → Hp → Prop), Wd X.K F H ρ → Sl X.K F σ ρ → Kx X.K W ρ F H E →
  (∀ F' H' ρ' b, Stp ρ ρ' F H F' H' → Wd X.K F' H' ρ' → Sl X.K F' σ ρ' → Q ρ' b → R b H') → WWx X e σ H R
def AW (X : Cx) (W : WX) (es : List Expr) (ρ : Rho) (Q : Rho → List PyData → Prop) (E : XQ) : Prop := ∀ F H σ (R : List V → Hp → Prop), Wd X.K F H ρ → Sl X.K F σ ρ → Kx X.K W ρ F H E →
  (∀ F' H' ρ' vs ds, Stp ρ ρ' F H F' H' → Wd X.K F' H' ρ' → Sl X.K F' σ ρ' → DDs X.K F' vs ds → Q ρ' ds → R vs H') → WAx X es σ H R
/-- a statement: N what follows, R a return -/
def S1 (X : Cx) (W : WX) (st : Stmt) (ρ : Rho) (N : Rho → Prop) (R : Rho → Ret → Prop) (E : XQ) : Prop := ∀ F H σ (D : Ends), Wd X.K F H ρ → Sl X.K F σ ρ → Kx X.K W ρ F H E →
  (∀ F' H' σ' ρ', Stp ρ ρ' F H F' H' → Wd X.K F' H' ρ' → Sl X.K F' σ' ρ' → N ρ' → D.nx σ' H') →
  (∀ F' H' ρ' v r, Stp ρ ρ' F H F' H' → Wd X.K F' H' ρ' → RtV X.K ρ H F' H' ρ' v r → R ρ' r → D.rt v H') → WSx X st D σ H
def SW (X : Cx) (W : WX) (sts : List Stmt) (ρ : Rho) (N : Rho → Prop) (R : Rho → Ret → Prop) (E : XQ) : Prop := ∀ F H σ (D : Ends), Wd X.K F H ρ → Sl X.K F σ ρ → Kx X.K W ρ F H E →
  (∀ F' H' σ' ρ', Stp ρ ρ' F H F' H' → Wd X.K F' H' ρ' → Sl X.K F' σ' ρ' → N ρ' → D.nx σ' H') →
  (∀ F' H' ρ' v r, Stp ρ ρ' F H F' H' → Wd X.K F' H' ρ' → RtV X.K ρ H F' H' ρ' v r → R ρ' r → D.rt v H') → WSs X sts D σ H

/-! ### operations on values -/
def wOp (X : Cx) (f : Value → Value → Sem Value) : R2 := fun x y H Q => ∀ pins s σ v u, Inv X pins σ H s → RelV x v → RelV y u → wpAny (model X.prog X.w) X.A (f v u) (EP X pins σ Q) X.xe s
theorem wop_self {X : Cx} {f : Value → Value → Sem Value} : OpR X f (wOp X f) := fun pins s σ _ _ _ v u _ I rx ry h => h pins s σ v u I rx ry
theorem wop_of {X : Cx} {f : Value → Value → Sem Value} {r : R2} (o : OpR X f r) {x y : V} {H : Hp} {Q : VK} (h : r x y H Q) : wOp X f x y H Q := fun pins s σ v u I rx ry => o pins s σ H x y v u Q I rx ry h
def wUn (X : Cx) (f : Value → Sem Value) : V → Hp → VK → Prop := fun x H Q => ∀ pins s σ v, Inv X pins σ H s → RelV x v → wpAny (model X.prog X.w) X.A (f v) (EP X pins σ Q) X.xe s
theorem wun_self {X : Cx} {f : Value → Sem Value} : UnR X f (wUn X f) := fun pins s σ _ _ v _ I rx h => h pins s σ v I rx
theorem wun_of {X : Cx} {f : Value → Sem Value} {r : V → Hp → VK → Prop} (o : UnR X f r) {x : V} {H : Hp} {Q : VK} (h : r x H Q) : wUn X f x H Q := fun pins s σ v I rx => o pins s σ H x v Q I rx h
def wCa (X : Cx) (f : Value) : List V → Hp → VK → Prop := fun xs H Q => ∀ pins s σ us, Inv X pins σ H s → Vals xs us → wpAny (model X.prog X.w) X.A (call f us) (EP X pins σ Q) X.xe s
theorem wca_self {X : Cx} {f : Value} : CallR X f (wCa X f) := fun pins s σ _ _ us _ I r h => h pins s σ us I r
theorem wca_of {X : Cx} {f : Value} {r : List V → Hp → VK → Prop} (o : CallR X f r) {xs : List V} {H : Hp} {Q : VK} (h : r xs H Q) : wCa X f xs H Q := fun pins s σ us I rr => o pins s σ H xs us Q I rr h
def wIx (X : Cx) : R2 := fun x y H Q => ∀ (value slice : Expr) pins s σ v u, Inv X pins σ H s → RelV x v → RelV y u → subscripted slice false v u = operate [v, u] (getItem v u) → wpAny (model X.prog X.w) X.A (subscriptTail value slice v u) (EP X pins σ Q) X.xe s
theorem wix_self {X : Cx} : IxR X (wIx X) := fun value slice pins s σ _ _ _ v u _ I rx ry h hs => h value slice pins s σ v u I rx ry hs
theorem wix_of {X : Cx} {r : R2} (o : IxR X r) {x y : V} {H : Hp} {Q : VK} (h : r x y H Q) : wIx X x y H Q := fun value slice pins s σ v u I rx ry hs => o value slice pins s σ H x y v u Q I rx ry h hs
def BW (X : Cx) (f : Value → Value → Sem Value) (x y : PyData) (Q : PyData → Prop) : Prop := ∀ F H vx vy (R : VK), Ex F H → DD X.K F vx x → DD X.K F vy y → (∀ F' H' v d, Gr F H F' H' → DD X.K F' v d → Q d → R v H') → wOp X f vx vy H R
def BU (X : Cx) (f : Value → Sem Value) (x : PyData) (Q : PyData → Prop) : Prop := ∀ F H vx (R : VK), Ex F H → DD X.K F vx x → (∀ F' H' v d, Gr F H F' H' → DD X.K F' v d → Q d → R v H') → wUn X f vx H R
def BC (X : Cx) (f : Value) (xs : List PyData) (Q : PyData → Prop) : Prop := ∀ F H vs (R : VK), Ex F H → DDs X.K F vs xs → (∀ F' H' v d, Gr F H F' H' → DD X.K F' v d → Q d → R v H') → wCa X f vs H R
def BI (X : Cx) (x y : PyData) (Q : PyData → Prop) : Prop := ∀ F H vx vy (R : VK), Ex F H → DD X.K F vx x → DD X.K F vy y → (∀ F' H' v d, Gr F H F' H' → DD X.K F' v d → Q d → R v H') → wIx X vx vy H R

/-! ### rules: expressions -/
section
variable {X : Cx} {W : WX} {ρ : Rho} {Q : Rho → PyData → Prop} {E : XQ} {a b c : Expr} {pos : Pos}
theorem ew_of {e : Expr} {t : TE} (p : PE X e t) {d : PyData} (h : ∀ (F H : Hp) (σ : L2.St) (R : VK), Wd X.K F H ρ → Sl X.K F σ ρ → (∀ F' H' v, Gr F H F' H' → DD X.K F' v d → R v H') → t σ H R) (q : Q ρ d) : EW X W e ρ Q E := by
  intro F H σ R wd sl _ k
  exact of_pe p (h F H σ R wd sl fun F' H' v g dd => k F' H' ρ v d g.stp (wd.gr g) (sl.mono g.ex) dd q)
theorem ew_int {i : Int} {j : Nat} (q : Q ρ (.int i)) : EW X W (.Constant (.int i) j pos) ρ Q E := ew_of pe_int (fun F H _ R wd _ k => k F H _ (Gr.refl wd.sub) (.int i)) q
theorem ew_bl {i : Bool} {j : Nat} (q : Q ρ (.bool i)) : EW X W (.Constant (.bool i) j pos) ρ Q E := ew_of pe_bl (fun F H _ R wd _ k => k F H _ (Gr.refl wd.sub) (.bl i)) q
theorem ew_non {j : Nat} (q : Q ρ .none) : EW X W (.Constant .none j pos) ρ Q E := ew_of pe_non (fun F H _ R wd _ k => k F H _ (Gr.refl wd.sub) .non) q
theorem ew_str {x : Str} {j : Nat} (q : Q ρ (.str x)) : EW X W (.Constant (.str x) j pos) ρ Q E := ew_of pe_str (fun F H _ R wd _ k => k F H _ (Gr.refl wd.sub) (.str x)) q
theorem ew_bin {op : Operator} (h : EW X W a ρ (fun ρ1 x => EW X W b ρ1 (fun ρ2 y => BW X (binaryOp op) x y (Q ρ2)) E) E) : EW X W (.BinOp a op b pos) ρ Q E := by
  intro F H σ R wd sl kx k
  refine of_pe (pe_op wop_self pe_w pe_w) ?_
  refine h F H σ _ wd sl kx fun F1 H1 ρ1 x dx st1 wd1 sl1 dd1 h1 => ?_
  refine h1 F1 H1 σ _ wd1 sl1 (kx.step st1) fun F2 H2 ρ2 y dy st2 wd2 sl2 dd2 h2 => ?_
  exact h2 F2 H2 x y R wd2.sub (dd1.mono st2.ex) dd2 fun F3 H3 v d gr dd3 q => k F3 H3 ρ2 v d ((st1.trans st2).trans gr.stp) (wd2.gr gr) (sl2.mono gr.ex) dd3 q
theorem ew_un {op : UnaryOp} (h : EW X W a ρ (fun ρ1 x => BU X (unaryOp op) x (Q ρ1)) E) : EW X W (.UnaryOp op a pos) ρ Q E := by
  intro F H σ R wd sl kx k
  refine of_pe (pe_un wun_self pe_w) ?_
  refine h F H σ _ wd sl kx fun F1 H1 ρ1 x dx st1 wd1 sl1 dd1 h1 => ?_
  exact h1 F1 H1 x R wd1.sub dd1 fun F3 H3 v d gr dd3 q => k F3 H3 ρ1 v d (st1.trans gr.stp) (wd1.gr gr) (sl1.mono gr.ex) dd3 q
theorem ew_cmp {op : CmpOp} (h : EW X W a ρ (fun ρ1 x => EW X W b ρ1 (fun ρ2 y => BW X (compareOp op) x y (Q ρ2)) E) E) (hm : behindInMarks op b = false := by with_unfolding_all rfl) : EW X W (.Compare a [op] [b] pos) ρ Q E := by
  intro F H σ R wd sl kx k
  refine of_pe (pe_cmpR wop_self pe_w pe_w hm) ?_
  refine h F H σ _ wd sl kx fun F1 H1 ρ1 x dx st1 wd1 sl1 dd1 h1 => ?_
  refine h1 F1 H1 σ _ wd1 sl1 (kx.step st1) fun F2 H2 ρ2 y dy st2 wd2 sl2 dd2 h2 => ?_
  exact h2 F2 H2 x y R wd2.sub (dd1.mono st2.ex) dd2 fun F3 H3 v d gr dd3 q => k F3 H3 ρ2 v d ((st1.trans st2).trans gr.stp) (wd2.gr gr) (sl2.mono gr.ex) dd3 q
end
end Bp

namespace Bp
open PySem PySem.Spec PyProof.Rows L2
/-! ### names by their places -/
class Slot (N : List Str) (x : Str) (i : outParam Nat) : Prop where
  get : N[i]? = some x
instance slot0 {x : Str} {N : List Str} : Slot (x :: N) x 0 := ⟨rfl⟩
instance slot1 {a0 x : Str} {N : List Str} : Slot (a0 :: x :: N) x 1 := ⟨rfl⟩
instance slot2 {a0 a1 x : Str} {N : List Str} : Slot (a0 :: a1 :: x :: N) x 2 := ⟨rfl⟩
instance slot3 {a0 a1 a2 x : Str} {N : List Str} : Slot (a0 :: a1 :: a2 :: x :: N) x 3 := ⟨rfl⟩
instance slot4 {a0 a1 a2 a3 x : Str} {N : List Str} : Slot (a0 :: a1 :: a2 :: a3 :: x :: N) x 4 := ⟨rfl⟩
instance slot5 {a0 a1 a2 a3 a4 x : Str} {N : List Str} : Slot (a0 :: a1 :: a2 :: a3 :: a4 :: x :: N) x 5 := ⟨rfl⟩
instance slot6 {a0 a1 a2 a3 a4 a5 x : Str} {N : List Str} : Slot (a0 :: a1 :: a2 :: a3 :: a4 :: a5 :: x :: N) x 6 := ⟨rfl⟩
instance slot7 {a0 a1 a2 a3 a4 a5 a6 x : Str} {N : List Str} : Slot (a0 :: a1 :: a2 :: a3 :: a4 :: a5 :: a6 :: x :: N) x 7 := ⟨rfl⟩
instance slot8 {a0 a1 a2 a3 a4 a5 a6 a7 x : Str} {N : List Str} : Slot (a0 :: a1 :: a2 :: a3 :: a4 :: a5 :: a6 :: a7 :: x :: N) x 8 := ⟨rfl⟩
instance slot9 {a0 a1 a2 a3 a4 a5 a6 a7 a8 x : Str} {N : List Str} : Slot (a0 :: a1 :: a2 :: a3 :: a4 :: a5 :: a6 :: a7 :: a8 :: x :: N) x 9 := ⟨rfl⟩
instance slot10 {a0 a1 a2 a3 a4 a5 a6 a7 a8 a9 x : Str} {N : List Str} : Slot (a0 :: a1 :: a2 :: a3 :: a4 :: a5 :: a6 :: a7 :: a8 :: a9 :: x :: N) x 10 := ⟨rfl⟩
instance slot11 {a0 a1 a2 a3 a4 a5 a6 a7 a8 a9 a10 x : Str} {N : List Str} : Slot (a0 :: a1 :: a2 :: a3 :: a4 :: a5 :: a6 :: a7 :: a8 :: a9 :: a10 :: x :: N) x 11 := ⟨rfl⟩
instance slot12 {a0 a1 a2 a3 a4 a5 a6 a7 a8 a9 a10 a11 x : Str} {N : List Str} : Slot (a0 :: a1 :: a2 :: a3 :: a4 :: a5 :: a6 :: a7 :: a8 :: a9 :: a10 :: a11 :: x :: N) x 12 := ⟨rfl⟩
instance slot13 {a0 a1 a2 a3 a4 a5 a6 a7 a8 a9 a10 a11 a12 x : Str} {N : List Str} : Slot (a0 :: a1 :: a2 :: a3 :: a4 :: a5 :: a6 :: a7 :: a8 :: a9 :: a10 :: a11 :: a12 :: x :: N) x 13 := ⟨rfl⟩
instance slot14 {a0 a1 a2 a3 a4 a5 a6 a7 a8 a9 a10 a11 a12 a13 x : Str} {N : List Str} : Slot (a0 :: a1 :: a2 :: a3 :: a4 :: a5 :: a6 :: a7 :: a8 :: a9 :: a10 :: a11 :: a12 :: a13 :: x :: N) x 14 := ⟨rfl⟩
instance slot15 {a0 a1 a2 a3 a4 a5 a6 a7 a8 a9 a10 a11 a12 a13 a14 x : Str} {N : List Str} : Slot (a0 :: a1 :: a2 :: a3 :: a4 :: a5 :: a6 :: a7 :: a8 :: a9 :: a10 :: a11 :: a12 :: a13 :: a14 :: x :: N) x 15 := ⟨rfl⟩
instance slot16 {a0 a1 a2 a3 a4 a5 a6 a7 a8 a9 a10 a11 a12 a13 a14 a15 x : Str} {N : List Str} : Slot (a0 :: a1 :: a2 :: a3 :: a4 :: a5 :: a6 :: a7 :: a8 :: a9 :: a10 :: a11 :: a12 :: a13 :: a14 :: a15 :: x :: N) x 16 := ⟨rfl⟩
instance slot17 {a0 a1 a2 a3 a4 a5 a6 a7 a8 a9 a10 a11 a12 a13 a14 a15 a16 x : Str} {N : List Str} : Slot (a0 :: a1 :: a2 :: a3 :: a4 :: a5 :: a6 :: a7 :: a8 :: a9 :: a10 :: a11 :: a12 :: a13 :: a14 :: a15 :: a16 :: x :: N) x 17 := ⟨rfl⟩
instance slot18 {a0 a1 a2 a3 a4 a5 a6 a7 a8 a9 a10 a11 a12 a13 a14 a15 a16 a17 x : Str} {N : List Str} : Slot (a0 :: a1 :: a2 :: a3 :: a4 :: a5 :: a6 :: a7 :: a8 :: a9 :: a10 :: a11 :: a12 :: a13 :: a14 :: a15 :: a16 :: a17 :: x :: N) x 18 := ⟨rfl⟩
instance slot19 {a0 a1 a2 a3 a4 a5 a6 a7 a8 a9 a10 a11 a12 a13 a14 a15 a16 a17 a18 x : Str} {N : List Str} : Slot (a0 :: a1 :: a2 :: a3 :: a4 :: a5 :: a6 :: a7 :: a8 :: a9 :: a10 :: a11 :: a12 :: a13 :: a14 :: a15 :: a16 :: a17 :: a18 :: x :: N) x 19 := ⟨rfl⟩
instance slot20 {a0 a1 a2 a3 a4 a5 a6 a7 a8 a9 a10 a11 a12 a13 a14 a15 a16 a17 a18 a19 x : Str} {N : List Str} : Slot (a0 :: a1 :: a2 :: a3 :: a4 :: a5 :: a6 :: a7 :: a8 :: a9 :: a10 :: a11 :: a12 :: a13 :: a14 :: a15 :: a16 :: a17 :: a18 :: a19 :: x :: N) x 20 := ⟨rfl⟩
instance slot21 {a0 a1 a2 a3 a4 a5 a6 a7 a8 a9 a10 a11 a12 a13 a14 a15 a16 a17 a18 a19 a20 x : Str} {N : List Str} : Slot (a0 :: a1 :: a2 :: a3 :: a4 :: a5 :: a6 :: a7 :: a8 :: a9 :: a10 :: a11 :: a12 :: a13 :: a14 :: a15 :: a16 :: a17 :: a18 :: a19 :: a20 :: x :: N) x 21 := ⟨rfl⟩
instance slot22 {a0 a1 a2 a3 a4 a5 a6 a7 a8 a9 a10 a11 a12 a13 a14 a15 a16 a17 a18 a19 a20 a21 x : Str} {N : List Str} : Slot (a0 :: a1 :: a2 :: a3 :: a4 :: a5 :: a6 :: a7 :: a8 :: a9 :: a10 :: a11 :: a12 :: a13 :: a14 :: a15 :: a16 :: a17 :: a18 :: a19 :: a20 :: a21 :: x :: N) x 22 := ⟨rfl⟩
instance slot23 {a0 a1 a2 a3 a4 a5 a6 a7 a8 a9 a10 a11 a12 a13 a14 a15 a16 a17 a18 a19 a20 a21 a22 x : Str} {N : List Str} : Slot (a0 :: a1 :: a2 :: a3 :: a4 :: a5 :: a6 :: a7 :: a8 :: a9 :: a10 :: a11 :: a12 :: a13 :: a14 :: a15 :: a16 :: a17 :: a18 :: a19 :: a20 :: a21 :: a22 :: x :: N) x 23 := ⟨rfl⟩
instance slot24 {a0 a1 a2 a3 a4 a5 a6 a7 a8 a9 a10 a11 a12 a13 a14 a15 a16 a17 a18 a19 a20 a21 a22 a23 x : Str} {N : List Str} : Slot (a0 :: a1 :: a2 :: a3 :: a4 :: a5 :: a6 :: a7 :: a8 :: a9 :: a10 :: a11 :: a12 :: a13 :: a14 :: a15 :: a16 :: a17 :: a18 :: a19 :: a20 :: a21 :: a22 :: a23 :: x :: N) x 24 := ⟨rfl⟩
instance slot25 {a0 a1 a2 a3 a4 a5 a6 a7 a8 a9 a10 a11 a12 a13 a14 a15 a16 a17 a18 a19 a20 a21 a22 a23 a24 x : Str} {N : List Str} : Slot (a0 :: a1 :: a2 :: a3 :: a4 :: a5 :: a6 :: a7 :: a8 :: a9 :: a10 :: a11 :: a12 :: a13 :: a14 :: a15 :: a16 :: a17 :: a18 :: a19 :: a20 :: a21 :: a22 :: a23 :: a24 :: x :: N) x 25 := ⟨rfl⟩
instance slot26 {a0 a1 a2 a3 a4 a5 a6 a7 a8 a9 a10 a11 a12 a13 a14 a15 a16 a17 a18 a19 a20 a21 a22 a23 a24 a25 x : Str} {N : List Str} : Slot (a0 :: a1 :: a2 :: a3 :: a4 :: a5 :: a6 :: a7 :: a8 :: a9 :: a10 :: a11 :: a12 :: a13 :: a14 :: a15 :: a16 :: a17 :: a18 :: a19 :: a20 :: a21 :: a22 :: a23 :: a24 :: a25 :: x :: N) x 26 := ⟨rfl⟩
instance slot27 {a0 a1 a2 a3 a4 a5 a6 a7 a8 a9 a10 a11 a12 a13 a14 a15 a16 a17 a18 a19 a20 a21 a22 a23 a24 a25 a26 x : Str} {N : List Str} : Slot (a0 :: a1 :: a2 :: a3 :: a4 :: a5 :: a6 :: a7 :: a8 :: a9 :: a10 :: a11 :: a12 :: a13 :: a14 :: a15 :: a16 :: a17 :: a18 :: a19 :: a20 :: a21 :: a22 :: a23 :: a24 :: a25 :: a26 :: x :: N) x 27 := ⟨rfl⟩
instance slot28 {a0 a1 a2 a3 a4 a5 a6 a7 a8 a9 a10 a11 a12 a13 a14 a15 a16 a17 a18 a19 a20 a21 a22 a23 a24 a25 a26 a27 x : Str} {N : List Str} : Slot (a0 :: a1 :: a2 :: a3 :: a4 :: a5 :: a6 :: a7 :: a8 :: a9 :: a10 :: a11 :: a12 :: a13 :: a14 :: a15 :: a16 :: a17 :: a18 :: a19 :: a20 :: a21 :: a22 :: a23 :: a24 :: a25 :: a26 :: a27 :: x :: N) x 28 := ⟨rfl⟩
instance slot29 {a0 a1 a2 a3 a4 a5 a6 a7 a8 a9 a10 a11 a12 a13 a14 a15 a16 a17 a18 a19 a20 a21 a22 a23 a24 a25 a26 a27 a28 x : Str} {N : List Str} : Slot (a0 :: a1 :: a2 :: a3 :: a4 :: a5 :: a6 :: a7 :: a8 :: a9 :: a10 :: a11 :: a12 :: a13 :: a14 :: a15 :: a16 :: a17 :: a18 :: a19 :: a20 :: a21 :: a22 :: a23 :: a24 :: a25 :: a26 :: a27 :: a28 :: x :: N) x 29 := ⟨rfl⟩
instance slot30 {a0 a1 a2 a3 a4 a5 a6 a7 a8 a9 a10 a11 a12 a13 a14 a15 a16 a17 a18 a19 a20 a21 a22 a23 a24 a25 a26 a27 a28 a29 x : Str} {N : List Str} : Slot (a0 :: a1 :: a2 :: a3 :: a4 :: a5 :: a6 :: a7 :: a8 :: a9 :: a10 :: a11 :: a12 :: a13 :: a14 :: a15 :: a16 :: a17 :: a18 :: a19 :: a20 :: a21 :: a22 :: a23 :: a24 :: a25 :: a26 :: a27 :: a28 :: a29 :: x :: N) x 30 := ⟨rfl⟩
instance slot31 {a0 a1 a2 a3 a4 a5 a6 a7 a8 a9 a10 a11 a12 a13 a14 a15 a16 a17 a18 a19 a20 a21 a22 a23 a24 a25 a26 a27 a28 a29 a30 x : Str} {N : List Str} : Slot (a0 :: a1 :: a2 :: a3 :: a4 :: a5 :: a6 :: a7 :: a8 :: a9 :: a10 :: a11 :: a12 :: a13 :: a14 :: a15 :: a16 :: a17 :: a18 :: a19 :: a20 :: a21 :: a22 :: a23 :: a24 :: a25 :: a26 :: a27 :: a28 :: a29 :: a30 :: x :: N) x 31 := ⟨rfl⟩
instance slot32 {a0 a1 a2 a3 a4 a5 a6 a7 a8 a9 a10 a11 a12 a13 a14 a15 a16 a17 a18 a19 a20 a21 a22 a23 a24 a25 a26 a27 a28 a29 a30 a31 x : Str} {N : List Str} : Slot (a0 :: a1 :: a2 :: a3 :: a4 :: a5 :: a6 :: a7 :: a8 :: a9 :: a10 :: a11 :: a12 :: a13 :: a14 :: a15 :: a16 :: a17 :: a18 :: a19 :: a20 :: a21 :: a22 :: a23 :: a24 :: a25 :: a26 :: a27 :: a28 :: a29 :: a30 :: a31 :: x :: N) x 32 := ⟨rfl⟩
instance slot33 {a0 a1 a2 a3 a4 a5 a6 a7 a8 a9 a10 a11 a12 a13 a14 a15 a16 a17 a18 a19 a20 a21 a22 a23 a24 a25 a26 a27 a28 a29 a30 a31 a32 x : Str} {N : List Str} : Slot (a0 :: a1 :: a2 :: a3 :: a4 :: a5 :: a6 :: a7 :: a8 :: a9 :: a10 :: a11 :: a12 :: a13 :: a14 :: a15 :: a16 :: a17 :: a18 :: a19 :: a20 :: a21 :: a22 :: a23 :: a24 :: a25 :: a26 :: a27 :: a28 :: a29 :: a30 :: a31 :: a32 :: x :: N) x 33 := ⟨rfl⟩
/-! ### the place where code runs -/
structure Cxt (P : Program) (w : World) (K : PySem.W.Frag) (mg : Str → Option Value) (base : Heap) (sc : Scope) (N : List Str) (vs ls : List Bool) (k : Nat) (X : Cx) (W : WX) : Prop where
  eP : X.prog = P
  ew : X.w = w
  eK : X.K = K
  eg : X.mg = mg
  eb : X.base = base
  eN : X.N = N
  nd : N.Nodup
  es : X.env.scope = sc
  vis : ∀ (i : Nat) x, N[i]? = some x → vs[i]? = some true → Vis sc x
  loc : ∀ (i : Nat) x, N[i]? = some x → ls[i]? = some true → Loc sc x ∧ (X.fn x = true ∨ sc.names.lookup x = some .local)
  calm : X.calm = true
  room : Room k X.A
  tk : Takes X W
  po : PassesOwn (model X.prog X.w) X.A X.env X.xe
section
variable {P : Program} {w : World} {K : PySem.W.Frag} {mg : Str → Option Value} {base : Heap} {sc : Scope} {N : List Str} {vs ls : List Bool} {k : Nat} {X : Cx} {W : WX} {ρ : Rho} {Q : Rho → PyData → Prop} {E : XQ} {a b c e : Expr} {pos p : Pos} {x : Str} {i : Nat}
theorem Cxt.gl (C : Cxt P w K mg base sc N vs ls k X W) (h : sc.names.lookup x = some .globalImplicit) : Gl X x := by
  unfold Gl Env.kindOf
  rw [C.es]
  exact h
theorem Cxt.st (C : Cxt P w K mg base sc N vs ls k X W) (h : N[i]? = some x) (hl : ls[i]? = some true) : X.fn x = true ∨ X.env.scope.names.lookup x = some .local := by
  rw [C.es]
  exact (C.loc i x h hl).2
theorem Cxt.lo (C : Cxt P w K mg base sc N vs ls k X W) (h : N[i]? = some x) (hl : ls[i]? = some true) : Loc X.env.scope x := by
  rw [C.es]
  exact (C.loc i x h hl).1
theorem ew_var (C : Cxt P w K mg base sc N vs ls k X W) [sl : Slot N x i] {d : PyData} (hs : ρ[i]? = some (some (.d d))) (hv : vs[i]? = some true) (q : Q ρ d) (hd : (x == ("__debug__" : Str)) = false := by decide) (hcd : (x == ("__classdict__" : Str)) = false := by decide) : EW X W (.Name x pos) ρ Q E := by
  refine ew_of (pe_var (i := i) (by rw [C.eN]; exact sl.get) (by rw [C.es]; exact C.vis i x sl.get hv) hd hcd) (fun F H σ R wd st kk => ?_) q
  obtain ⟨v, h1, h2⟩ := st.get i _ hs
  exact ⟨v, h1, kk F H v (Gr.refl wd.sub) h2⟩
/-- a module's constant -/
theorem ew_globI (C : Cxt P w K mg base sc N vs ls k X W) {n : Int} (hm : ∃ t, mg x = some (.int n t)) (q : Q ρ (.int n)) (hg : sc.names.lookup x = some .globalImplicit := by decide +kernel) (hd : (x == ("__debug__" : Str)) = false := by decide) : EW X W (.Name x pos) ρ Q E := by
  obtain ⟨t, hm⟩ := hm
  exact ew_of (pe_glob (C.gl hg) (by rw [C.eg]; exact hm) (v := .int n) ⟨t, rfl⟩ hd) (fun F H _ R wd _ kk => kk F H _ (Gr.refl wd.sub) (.int n)) q
theorem ew_globS (C : Cxt P w K mg base sc N vs ls k X W) {n : Str} (hm : ∃ t, mg x = some (.str n t)) (q : Q ρ (.str n)) (hg : sc.names.lookup x = some .globalImplicit := by decide +kernel) (hd : (x == ("__debug__" : Str)) = false := by decide) : EW X W (.Name x pos) ρ Q E := by
  obtain ⟨t, hm⟩ := hm
  exact ew_of (pe_glob (C.gl hg) (by rw [C.eg]; exact hm) (v := .str n) ⟨t, rfl⟩ hd) (fun F H _ R wd _ kk => kk F H _ (Gr.refl wd.sub) (.str n)) q
/-! tests -/
theorem tw_cmp {op : CmpOp} {Q : Rho → Bool → Prop} (h : EW X W a ρ (fun ρ1 x => EW X W b ρ1 (fun ρ2 y => BW X (compareOp op) x y (fun d => ∃ k, d = .bool k ∧ Q ρ2 k)) E) E) (hm : behindInMarks op b = false := by with_unfolding_all rfl) : TW X W (.Compare a [op] [b] pos) ρ Q E := by
  intro F H σ R wd sl kx kk
  refine of_pt (pt_cmpR wop_self pe_w pe_w hm) ?_
  refine h F H σ _ wd sl kx fun F1 H1 ρ1 x dx st1 wd1 sl1 dd1 h1 => ?_
  refine h1 F1 H1 σ _ wd1 sl1 (kx.step st1) fun F2 H2 ρ2 y dy st2 wd2 sl2 dd2 h2 => ?_
  refine h2 F2 H2 x y _ wd2.sub (dd1.mono st2.ex) dd2 fun F3 H3 v d gr dd3 q => ?_
  obtain ⟨k, rfl, q⟩ := q
  cases dd3
  exact ⟨k, rfl, kk F3 H3 ρ2 k ((st1.trans st2).trans gr.stp) (wd2.gr gr) (sl2.mono gr.ex) q⟩
theorem tw_val {Q : Rho → Bool → Prop} (h : EW X W e ρ (fun ρ1 d => ∃ k, d = .bool k ∧ Q ρ1 k) E) (he : ∀ whole, isTrue e X.env whole = (do let v ← whole; standAt e.pos; holding [v] (truthy v)) := by intro _; with_unfolding_all rfl) : TW X W e ρ Q E := by
  intro F H σ R wd sl kx kk
  refine of_pt (pt_val pe_w he) ?_
  refine h F H σ _ wd sl kx fun F1 H1 ρ1 x dx st1 wd1 sl1 dd1 h1 => ?_
  obtain ⟨k, rfl, q⟩ := h1
  cases dd1
  exact ⟨k, rfl, kk F1 H1 ρ1 k st1 wd1 sl1 q⟩
theorem tw_not {Q : Rho → Bool → Prop} (h : TW X W a ρ (fun ρ1 k => Q ρ1 (!k)) E) : TW X W (.UnaryOp .Not a pos) ρ Q E := by
  intro F H σ R wd sl kx kk
  refine of_pt (pt_not pt_w) ?_
  exact h F H σ _ wd sl kx fun F1 H1 ρ1 k st1 wd1 sl1 q => kk F1 H1 ρ1 (!k) st1 wd1 sl1 q
theorem pww_and1 {Q : Rho → Bool → Prop} (h : TW X W a ρ Q E) : PWW X W (.BoolOp .And [a] pos) ρ Q E := fun F H σ R wd sl kx kk => of_pw (pw_and1 pt_w) (h F H σ R wd sl kx kk)
theorem pww_or1 {Q : Rho → Bool → Prop} (h : TW X W a ρ Q E) : PWW X W (.BoolOp .Or [a] pos) ρ Q E := fun F H σ R wd sl kx kk => of_pw (pw_or1 pt_w) (h F H σ R wd sl kx kk)
theorem pww_and {rest : List Expr} {Q : Rho → Bool → Prop} (h : TW X W a ρ (fun ρ1 k => (k = true → PWW X W (.BoolOp .And (b :: rest) pos) ρ1 Q E) ∧ (k = false → Q ρ1 false)) E) : PWW X W (.BoolOp .And (a :: b :: rest) pos) ρ Q E := by
  intro F H σ R wd sl kx kk
  refine of_pw (pw_and pt_w pw_w) ?_
  refine h F H σ _ wd sl kx fun F1 H1 ρ1 k st1 wd1 sl1 q => ?_
  cases k with
  | true => exact q.1 rfl F1 H1 σ R wd1 sl1 (kx.step st1) fun F2 H2 ρ2 k2 st2 wd2 sl2 q2 => kk F2 H2 ρ2 k2 (st1.trans st2) wd2 sl2 q2
  | false => exact kk F1 H1 ρ1 false st1 wd1 sl1 (q.2 rfl)
theorem pww_or {rest : List Expr} {Q : Rho → Bool → Prop} (h : TW X W a ρ (fun ρ1 k => (k = false → PWW X W (.BoolOp .Or (b :: rest) pos) ρ1 Q E) ∧ (k = true → Q ρ1 true)) E) : PWW X W (.BoolOp .Or (a :: b :: rest) pos) ρ Q E := by
  intro F H σ R wd sl kx kk
  refine of_pw (pw_or pt_w pw_w) ?_
  refine h F H σ _ wd sl kx fun F1 H1 ρ1 k st1 wd1 sl1 q => ?_
  cases k with
  | false => exact q.1 rfl F1 H1 σ R wd1 sl1 (kx.step st1) fun F2 H2 ρ2 k2 st2 wd2 sl2 q2 => kk F2 H2 ρ2 k2 (st1.trans st2) wd2 sl2 q2
  | true => exact kk F1 H1 ρ1 true st1 wd1 sl1 (q.2 rfl)
theorem tw_bop {op : BoolOp} {es : List Expr} {Q : Rho → Bool → Prop} (h : PWW X W (.BoolOp op es pos) ρ Q E) : TW X W (.BoolOp op es pos) ρ Q E := fun F H σ R wd sl kx kk => of_pt pw_w.pt (h F H σ R wd sl kx kk)
/-! and, or, not as values -/
theorem ew_one {op : BoolOp} (h : EW X W a ρ Q E) : EW X W (.BoolOp op [a] pos) ρ Q E := fun F H σ R wd sl kx kk => of_pe (pe_one pe_w) (h F H σ R wd sl kx kk)
theorem ew_and {rest : List Expr} (h : EW X W a ρ (fun ρ1 d => ∃ k, d = .bool k ∧ (k = true → EW X W (.BoolOp .And (b :: rest) pos) ρ1 Q E) ∧ (k = false → Q ρ1 (.bool false))) E) : EW X W (.BoolOp .And (a :: b :: rest) pos) ρ Q E := by
  intro F H σ R wd sl kx kk
  refine of_pe (pe_and pe_w pe_w) ?_
  refine h F H σ _ wd sl kx fun F1 H1 ρ1 v d st1 wd1 sl1 dd1 q => ?_
  obtain ⟨k, rfl, q⟩ := q
  cases dd1
  refine ⟨k, rfl, ?_⟩
  cases k with
  | true => exact q.1 rfl F1 H1 σ R wd1 sl1 (kx.step st1) fun F2 H2 ρ2 k2 d2 st2 wd2 sl2 dd2 q2 => kk F2 H2 ρ2 k2 d2 (st1.trans st2) wd2 sl2 dd2 q2
  | false => exact kk F1 H1 ρ1 _ _ st1 wd1 sl1 (.bl false) (q.2 rfl)
theorem ew_or {rest : List Expr} (h : EW X W a ρ (fun ρ1 d => ∃ k, d = .bool k ∧ (k = false → EW X W (.BoolOp .Or (b :: rest) pos) ρ1 Q E) ∧ (k = true → Q ρ1 (.bool true))) E) : EW X W (.BoolOp .Or (a :: b :: rest) pos) ρ Q E := by
  intro F H σ R wd sl kx kk
  refine of_pe (pe_or pe_w pe_w) ?_
  refine h F H σ _ wd sl kx fun F1 H1 ρ1 v d st1 wd1 sl1 dd1 q => ?_
  obtain ⟨k, rfl, q⟩ := q
  cases dd1
  refine ⟨k, rfl, ?_⟩
  cases k with
  | false => exact q.1 rfl F1 H1 σ R wd1 sl1 (kx.step st1) fun F2 H2 ρ2 k2 d2 st2 wd2 sl2 dd2 q2 => kk F2 H2 ρ2 k2 d2 (st1.trans st2) wd2 sl2 dd2 q2
  | true => exact kk F1 H1 ρ1 _ _ st1 wd1 sl1 (.bl true) (q.2 rfl)
theorem ew_not (h : EW X W a ρ (fun ρ1 d => ∃ k, d = .bool k ∧ Q ρ1 (.bool (!k))) E) : EW X W (.UnaryOp .Not a pos) ρ Q E := by
  intro F H σ R wd sl kx kk
  refine of_pe (pe_not pe_w) ?_
  refine h F H σ _ wd sl kx fun F1 H1 ρ1 v d st1 wd1 sl1 dd1 q => ?_
  obtain ⟨k, rfl, q⟩ := q
  cases dd1
  exact ⟨k, rfl, kk F1 H1 ρ1 _ _ st1 wd1 sl1 (.bl (!k)) q⟩
theorem ew_ite (h : TW X W c ρ (fun ρ1 k => (k = true → EW X W a ρ1 Q E) ∧ (k = false → EW X W b ρ1 Q E)) E) : EW X W (.IfExp c a b pos) ρ Q E := by
  intro F H σ R wd sl kx kk
  refine of_pe (pe_ifExp pt_w pe_w pe_w) ?_
  refine h F H σ _ wd sl kx fun F1 H1 ρ1 k st1 wd1 sl1 q => ?_
  cases k with
  | true => exact q.1 rfl F1 H1 σ R wd1 sl1 (kx.step st1) fun F2 H2 ρ2 k2 d2 st2 wd2 sl2 dd2 q2 => kk F2 H2 ρ2 k2 d2 (st1.trans st2) wd2 sl2 dd2 q2
  | false => exact q.2 rfl F1 H1 σ R wd1 sl1 (kx.step st1) fun F2 H2 ρ2 k2 d2 st2 wd2 sl2 dd2 q2 => kk F2 H2 ρ2 k2 d2 (st1.trans st2) wd2 sl2 dd2 q2
/-! a < b < c -/
theorem ew_chain {op op' : CmpOp} (h : EW X W a ρ (fun ρ1 x => EW X W b ρ1 (fun ρ2 y => BW X (compareOp op) x y (fun d => ∃ k, d = .bool k ∧ (k = true → EW X W c ρ2 (fun ρ3 z => BW X (compareOp op') y z (Q ρ3)) E) ∧ (k = false → Q ρ2 (.bool false)))) E) E)
    (hm : lastMarks [op, op'] [b, c] = false := by with_unfolding_all rfl) : EW X W (.Compare a [op, op'] [b, c] pos) ρ Q E := by
  intro F H σ R wd sl kx kk
  refine of_pe (pe_chain wop_self wop_self pe_w pe_w pe_w hm) ?_
  refine h F H σ _ wd sl kx fun F1 H1 ρ1 x dx st1 wd1 sl1 dd1 h1 => ?_
  refine h1 F1 H1 σ _ wd1 sl1 (kx.step st1) fun F2 H2 ρ2 y dy st2 wd2 sl2 dd2 h2 => ?_
  refine h2 F2 H2 x y _ wd2.sub (dd1.mono st2.ex) dd2 fun F3 H3 v d gr dd3 q => ?_
  obtain ⟨k, rfl, q⟩ := q
  cases dd3
  refine ⟨k, rfl, ?_⟩
  have st3 := (st1.trans st2).trans (gr.stp (ρ := ρ2))
  cases k with
  | true =>
    refine q.1 rfl F3 H3 σ _ (wd2.gr gr) (sl2.mono gr.ex) (kx.step st3) fun F4 H4 ρ4 z dz st4 wd4 sl4 dd4 h4 => ?_
    exact h4 F4 H4 y z R wd4.sub (dd2.mono (gr.ex.trans st4.ex)) dd4 fun F5 H5 v d gr5 dd5 q5 => kk F5 H5 ρ4 v d ((st3.trans st4).trans gr5.stp) (wd4.gr gr5) (sl4.mono gr5.ex) dd5 q5
  | false => exact kk F3 H3 ρ2 _ _ st3 (wd2.gr gr) (sl2.mono gr.ex) (.bl false) (q.2 rfl)
theorem tw_chain {op op' : CmpOp} {Q : Rho → Bool → Prop} (h : EW X W a ρ (fun ρ1 x => EW X W b ρ1 (fun ρ2 y => BW X (compareOp op) x y (fun d => ∃ k, d = .bool k ∧ (k = true → EW X W c ρ2 (fun ρ3 z => BW X (compareOp op') y z (fun d => ∃ k, d = .bool k ∧ Q ρ3 k)) E) ∧ (k = false → Q ρ2 false))) E) E)
    (hm : lastMarks [op, op'] [b, c] = false := by with_unfolding_all rfl) : TW X W (.Compare a [op, op'] [b, c] pos) ρ Q E := by
  intro F H σ R wd sl kx kk
  refine of_pt (pt_chain wop_self wop_self pe_w pe_w pe_w hm) ?_
  refine h F H σ _ wd sl kx fun F1 H1 ρ1 x dx st1 wd1 sl1 dd1 h1 => ?_
  refine h1 F1 H1 σ _ wd1 sl1 (kx.step st1) fun F2 H2 ρ2 y dy st2 wd2 sl2 dd2 h2 => ?_
  refine h2 F2 H2 x y _ wd2.sub (dd1.mono st2.ex) dd2 fun F3 H3 v d gr dd3 q => ?_
  obtain ⟨k, rfl, q⟩ := q
  cases dd3
  refine ⟨k, rfl, ?_⟩
  have st3 := (st1.trans st2).trans (gr.stp (ρ := ρ2))
  cases k with
  | true =>
    refine q.1 rfl F3 H3 σ _ (wd2.gr gr) (sl2.mono gr.ex) (kx.step st3) fun F4 H4 ρ4 z dz st4 wd4 sl4 dd4 h4 => ?_
    refine h4 F4 H4 y z _ wd4.sub (dd2.mono (gr.ex.trans st4.ex)) dd4 fun F5 H5 v d gr5 dd5 q5 => ?_
    obtain ⟨k, rfl, q5⟩ := q5
    cases dd5
    exact ⟨k, rfl, kk F5 H5 ρ4 k ((st3.trans st4).trans gr5.stp) (wd4.gr gr5) (sl4.mono gr5.ex) q5⟩
  | false => exact ⟨false, rfl, kk F3 H3 ρ2 _ st3 (wd2.gr gr) (sl2.mono gr.ex) (q.2 rfl)⟩
/-! subscripts -/
theorem ew_ix (h : EW X W a ρ (fun ρ1 x => EW X W b ρ1 (fun ρ2 y => BI X x y (Q ρ2)) E) E) (hs : PlainIx b := by with_unfolding_all exact fun _ _ => rfl) : EW X W (.Subscript a b pos) ρ Q E := by
  intro F H σ R wd sl kx kk
  refine of_pe (pe_ix wix_self pe_w pe_w hs) ?_
  refine h F H σ _ wd sl kx fun F1 H1 ρ1 x dx st1 wd1 sl1 dd1 h1 => ?_
  refine h1 F1 H1 σ _ wd1 sl1 (kx.step st1) fun F2 H2 ρ2 y dy st2 wd2 sl2 dd2 h2 => ?_
  exact h2 F2 H2 x y R wd2.sub (dd1.mono st2.ex) dd2 fun F3 H3 v d gr dd3 q => kk F3 H3 ρ2 v d ((st1.trans st2).trans gr.stp) (wd2.gr gr) (sl2.mono gr.ex) dd3 q
/-! argument lists, displays -/
theorem aw_nil {Q : Rho → List PyData → Prop} (q : Q ρ []) : AW X W [] ρ Q E := fun F H σ R wd sl kx kk => of_pa pa_nil (kk F H ρ [] [] Stp.refl wd sl .nil q)
theorem aw_cons {es : List Expr} {Q : Rho → List PyData → Prop} (h : EW X W e ρ (fun ρ1 d => AW X W es ρ1 (fun ρ2 ds => Q ρ2 (d :: ds)) E) E) (he : starEach (e :: es) X.env = (false, eval e X.env) :: starEach es X.env := by with_unfolding_all rfl) : AW X W (e :: es) ρ Q E := by
  intro F H σ R wd sl kx kk
  refine of_pa (pa_cons pe_w pa_w he) ?_
  refine h F H σ _ wd sl kx fun F1 H1 ρ1 v d st1 wd1 sl1 dd1 h1 => ?_
  exact h1 F1 H1 σ _ wd1 sl1 (kx.step st1) fun F2 H2 ρ2 vs ds st2 wd2 sl2 dd2 h2 => kk F2 H2 ρ2 (v :: vs) (d :: ds) (st1.trans st2) wd2 sl2 (.cons (dd1.mono st2.ex) dd2) h2
/-- a tuple, known to the object: it has no dict -/
def tTupF (t : TA) : TE := fun σ H Q => t σ H fun xs H1 => xs.length ≤ sizeLine ∧ ∀ (p : Addr) (o : Obj), H1 p = none → o.dict = none → Q (.ref p) (upd H1 p (.frz o (.tup xs)))
theorem pe_tupF {es : List Expr} {t : TA} {x1} (h : PA X es t) : PE X (.Tuple es x1 pos) (tTupF t) := by
  refine ⟨fun pins s σ H Q I hq => ?_⟩
  refine wpAny_Tuple_spliced (thn (h.run pos pins s σ H _ I hq) fun us s1 ⟨xs, H1, I1, r, z, q⟩ => ⟨by rw [← r.length]; exact z, ?_⟩)
  have hf : H1 s1.heap.objs.size = none := I1.hok.fresh (Nat.le_refl _)
  refine ⟨.ref s1.heap.objs.size, upd H1 s1.heap.objs.size (.frz { cls := .type "tuple", data := .seq us.toArray } (.tup xs)), I1.laid (t' := s1.toks) (fun b u e => Heap.get?_push_of_some _ e) (Nat.le_refl _) ?_, rfl, q _ _ hf rfl⟩
  exact ⟨Heap.get?_push_size _ rfl, z, us, r, ⟨_, Heap.get?_push_size _ rfl, rfl, _, rfl⟩⟩
theorem ew_tup {es : List Expr} {j : Nat} (h : AW X W es ρ (fun ρ1 ds => ds.length ≤ 16777216 ∧ Q ρ1 (.tuple ds)) E) : EW X W (.Tuple es j pos) ρ Q E := by
  intro F H σ R wd sl kx kk
  refine of_pe (pe_tupF pa_w) ?_
  refine h F H σ _ wd sl kx fun F1 H1 ρ1 vs ds st1 wd1 sl1 dd1 h1 => ?_
  refine ⟨by rw [dd1.length, sizeLine_eq]; exact h1.1, fun p o hp ho => ?_⟩
  have g : Gr F1 H1 (upd F1 p (.frz o (.tup vs))) (upd H1 p (.frz o (.tup vs))) := Gr.new wd1.sub hp
  exact kk _ _ ρ1 _ _ (st1.trans g.stp) (wd1.gr g) (sl1.mono g.ex) (.tup (.inl (.inr ⟨o, upd_same⟩)) ⟨o, _, upd_same, ho⟩ (dd1.mono g.ex)) h1.2
end
end Bp

namespace Bp
open PySem PySem.Spec PyProof.Rows L2
/-! ### operations, by the kinds of data -/
theorem fin_lst {K : PySem.W.Frag} {F H : Hp} {p : Addr} {xs : List V} {ds : List PyData} {Q : PyData → Prop} {R : VK} (e : Ex F H) (hp : H p = none) (dd : DDs K F xs ds) (k : ∀ F' H' v d, Gr F H F' H' → DD K F' v d → Q d → R v H') (q : Q (.list ds)) : R (.ref p) (upd H p (.lst xs)) :=
  k _ _ _ _ (Gr.new e hp) (.lst upd_same (dd.mono (Gr.new (o := .lst xs) e hp).ex)) q
theorem fin_tup {K : PySem.W.Frag} {F H : Hp} {p : Addr} {xs : List V} {ds : List PyData} {Q : PyData → Prop} {R : VK} {o : Obj} (e : Ex F H) (hp : H p = none) (ho : o.dict = none) (dd : DDs K F xs ds) (k : ∀ F' H' v d, Gr F H F' H' → DD K F' v d → Q d → R v H') (q : Q (.tuple ds)) : R (.ref p) (upd H p (.frz o (.tup xs))) :=
  k _ _ _ _ (Gr.new e hp) (.tup (.inl (.inr ⟨o, upd_same⟩)) ⟨o, _, upd_same, ho⟩ (dd.mono (Gr.new (o := .frz o (.tup xs)) e hp).ex)) q
section
variable {X : Cx} {Q : PyData → Prop}
theorem bw_I0 {f : Value → Value → Sem Value} {g : Int → Int → V} {gd : Int → Int → PyData} (o : OpR X f (rI0 g)) (hg : ∀ F i j, DD X.K F (g i j) (gd i j)) {i j : Int} (q : Q (gd i j)) : BW X f (.int i) (.int j) Q := by
  intro F H vx vy R e hx hy k
  cases hx
  cases hy
  exact wop_of o ⟨i, j, rfl, rfl, k F H _ _ (Gr.refl e) (hg F i j) q⟩
theorem bw_I {f : Value → Value → Sem Value} {C : Int → Int → Prop} {g : Int → Int → V} {gd : Int → Int → PyData} (o : OpR X f (rI C g)) (hg : ∀ F i j, DD X.K F (g i j) (gd i j)) {i j : Int} (hc : C i j) (q : Q (gd i j)) : BW X f (.int i) (.int j) Q := by
  intro F H vx vy R e hx hy k
  cases hx
  cases hy
  exact wop_of o ⟨i, j, rfl, rfl, hc, k F H _ _ (Gr.refl e) (hg F i j) q⟩
theorem bw_add {i j : Int} (q : Q (.int (i + j))) : BW X (binaryOp .Add) (.int i) (.int j) Q := bw_I0 op_add (gd := fun i j => .int (i + j)) (fun _ _ _ => .int _) q
theorem bw_sub {i j : Int} (q : Q (.int (i - j))) : BW X (binaryOp .Sub) (.int i) (.int j) Q := bw_I0 op_sub (gd := fun i j => .int (i - j)) (fun _ _ _ => .int _) q
theorem bw_mul {i j : Int} (hc : CMulW i j) (q : Q (.int (i * j))) : BW X (binaryOp .Mult) (.int i) (.int j) Q := bw_I op_mulW (gd := fun i j => .int (i * j)) (fun _ _ _ => .int _) hc q
theorem bw_mulS {i j : Int} (hc : CMul i j) (q : Q (.int (i * j))) : BW X (binaryOp .Mult) (.int i) (.int j) Q := bw_I op_mul (gd := fun i j => .int (i * j)) (fun _ _ _ => .int _) hc q
theorem bw_div {i j : Int} (hc : CDivW i j) (q : Q (.int (i / j))) : BW X (binaryOp .FloorDiv) (.int i) (.int j) Q := bw_I op_fdivW (gd := fun i j => .int (i / j)) (fun _ _ _ => .int _) hc q
theorem bw_mod {i j : Int} (hc : 0 < j) (q : Q (.int (i % j))) : BW X (binaryOp .Mod) (.int i) (.int j) Q := bw_I op_mod (gd := fun i j => .int (i % j)) (fun _ _ _ => .int _) hc q
theorem bw_pow {i j : Int} (hc : CPow i j) (q : Q (.int (i ^ j.toNat))) : BW X (binaryOp .Pow) (.int i) (.int j) Q := bw_I op_pow (gd := fun i j => .int (i ^ j.toNat)) (fun _ _ _ => .int _) hc q
theorem bw_lt {i j : Int} (q : Q (.bool (decide (i < j)))) : BW X (compareOp .Lt) (.int i) (.int j) Q := bw_I0 op_lt (gd := fun i j => .bool (decide (i < j))) (fun _ _ _ => .bl _) q
theorem bw_le {i j : Int} (q : Q (.bool (decide (i ≤ j)))) : BW X (compareOp .LtE) (.int i) (.int j) Q := bw_I0 op_le (gd := fun i j => .bool (decide (i ≤ j))) (fun _ _ _ => .bl _) q
theorem bw_gt {i j : Int} (q : Q (.bool (decide (j < i)))) : BW X (compareOp .Gt) (.int i) (.int j) Q := bw_I0 op_gt (gd := fun i j => .bool (decide (j < i))) (fun _ _ _ => .bl _) q
theorem bw_ge {i j : Int} (q : Q (.bool (decide (j ≤ i)))) : BW X (compareOp .GtE) (.int i) (.int j) Q := bw_I0 op_ge (gd := fun i j => .bool (decide (j ≤ i))) (fun _ _ _ => .bl _) q
theorem bu_neg {i : Int} {Q : PyData → Prop} (q : Q (.int (-i))) : BU X (unaryOp .USub) (.int i) Q := by
  intro F H vx R e hx k
  cases hx
  exact wun_of un_neg ⟨i, rfl, k F H _ _ (Gr.refl e) (.int _) q⟩
theorem bw_eqI {i j : Int} (q : Q (.bool (decide (i = j)))) : BW X (compareOp .Eq) (.int i) (.int j) Q := by
  intro F H vx vy R e hx hy k
  cases hx
  cases hy
  refine wop_of op_eq ⟨rfl, k F H _ (.bool (decide (i = j))) (Gr.refl e) ?_ q⟩
  rw [dec_int]
  exact .bl _
theorem bw_neI {i j : Int} (q : Q (.bool (!decide (i = j)))) : BW X (compareOp .NotEq) (.int i) (.int j) Q := by
  intro F H vx vy R e hx hy k
  cases hx
  cases hy
  refine wop_of op_ne ⟨rfl, k F H _ (.bool (!decide (i = j))) (Gr.refl e) ?_ q⟩
  rw [dec_int]
  exact .bl _
theorem bw_eqS {i j : Str} (q : Q (.bool (decide (i = j)))) : BW X (compareOp .Eq) (.str i) (.str j) Q := by
  intro F H vx vy R e hx hy k
  cases hx
  cases hy
  refine wop_of op_eq ⟨rfl, k F H _ (.bool (decide (i = j))) (Gr.refl e) ?_ q⟩
  rw [dec_str]
  exact .bl _
theorem bw_neS {i j : Str} (q : Q (.bool (!decide (i = j)))) : BW X (compareOp .NotEq) (.str i) (.str j) Q := by
  intro F H vx vy R e hx hy k
  cases hx
  cases hy
  refine wop_of op_ne ⟨rfl, k F H _ (.bool (!decide (i = j))) (Gr.refl e) ?_ q⟩
  rw [dec_str]
  exact .bl _
mutual
theorem dd_dp {K : PySem.W.Frag} {F : Hp} : ∀ {v : V} {d : PyData}, DD K F v d → d.canLay0 = true → Dp K F v d
  | _, _, .non, _ => .non
  | _, _, .bl b, _ => .bl b
  | _, _, .int i, _ => .int i
  | _, _, .str x, _ => .str x
  | _, _, .lst h hs, e => .lst (SqL.of h) (dds_dp hs (by simpa [PyData.canLay0] using e))
  | _, _, .tup h _ hs, e => .tup h (dds_dp hs (by simpa [PyData.canLay0] using e))
  | _, _, .dct h _ _, e => by simp [PyData.canLay0] at e
theorem dds_dp {K : PySem.W.Frag} {F : Hp} : ∀ {v : List V} {d : List PyData}, DDs K F v d → PyData.canLayAll0 d = true → DpAll K F v d
  | _, _, .nil, _ => .nil
  | _, _, .cons h hs, e => by
    have e2 : (_ && _) = true := e
    exact .cons (dd_dp h (Bool.and_eq_true_iff.mp e2).1) (dds_dp hs (Bool.and_eq_true_iff.mp e2).2)
end
mutual
theorem Dp.ex {K : PySem.W.Frag} {F H : Hp} (x : Ex F H) : ∀ {v : V} {d : PyData}, Dp K F v d → Dp K H v d
  | _, _, .non => .non
  | _, _, .bl b => .bl b
  | _, _, .int i => .int i
  | _, _, .str y => .str y
  | _, _, .lst h hs => .lst (x.sql h) (DpAll.ex x hs)
  | _, _, .tup h hs => .tup (x.sqt h) (DpAll.ex x hs)
theorem DpAll.ex {K : PySem.W.Frag} {F H : Hp} (x : Ex F H) : ∀ {v : List V} {d : List PyData}, DpAll K F v d → DpAll K H v d
  | _, _, .nil => .nil
  | _, _, .cons h hs => .cons (Dp.ex x h) (DpAll.ex x hs)
end
/-- == of any data -/
theorem bw_eqD {k0 : Nat} (hr : Room k0 X.A) {x y : PyData} (hx : SeqAt.shaped x = true) (hy : SeqAt.shaped y = true) (q : Q (.bool (PyData.eqv x y))) : BW X (compareOp .Eq) x y Q := by
  intro F H vx vy R e dx dy k
  exact wop_of (op_eqD hr.units) ⟨x, y, Dp.ex e (dd_dp dx (SeqAt.canLay_of_shaped hx)), Dp.ex e (dd_dp dy (SeqAt.canLay_of_shaped hy)), hx, hy, k F H _ _ (Gr.refl e) (.bl _) q⟩
theorem bw_neD {k0 : Nat} (hr : Room k0 X.A) {x y : PyData} (hx : SeqAt.shaped x = true) (hy : SeqAt.shaped y = true) (q : Q (.bool (!PyData.eqv x y))) : BW X (compareOp .NotEq) x y Q := by
  intro F H vx vy R e dx dy k
  exact wop_of (op_neD hr.units) ⟨x, y, Dp.ex e (dd_dp dx (SeqAt.canLay_of_shaped hx)), Dp.ex e (dd_dp dy (SeqAt.canLay_of_shaped hy)), hx, hy, k F H _ _ (Gr.refl e) (.bl _) q⟩
def isNone : PyData → Bool
  | .none => true
  | _ => false
theorem dd_none {K : PySem.W.Frag} {F : Hp} {v : V} {d : PyData} (h : DD K F v d) : decide (v = .non) = isNone d := by cases h <;> rfl
theorem bw_isN {x : PyData} (q : Q (.bool (isNone x))) : BW X (compareOp .Is) x .none Q := by
  intro F H vx vy R e hx hy k
  cases hy
  refine wop_of op_isN ⟨rfl, k F H _ (.bool (isNone x)) (Gr.refl e) ?_ q⟩
  rw [dd_none hx]
  exact .bl _
theorem bw_notN {x : PyData} (q : Q (.bool (!isNone x))) : BW X (compareOp .IsNot) x .none Q := by
  intro F H vx vy R e hx hy k
  cases hy
  refine wop_of op_notN ⟨rfl, k F H _ (.bool (!isNone x)) (Gr.refl e) ?_ q⟩
  rw [dd_none hx]
  exact .bl _
theorem bw_addL {xs ys : List PyData} (hl : xs.length + ys.length ≤ 16777216) (q : Q (.list (xs ++ ys))) : BW X (binaryOp .Add) (.list xs) (.list ys) Q := by
  intro F H vx vy R e hx hy k
  cases hx with
  | lst h1 d1 =>
    cases hy with
    | lst h2 d2 =>
      refine wop_of op_cat ⟨_, _, _, _, rfl, rfl, e _ _ h1, e _ _ h2, by rw [d1.length, d2.length, sizeLine_eq]; exact hl, fun p hp => ?_⟩
      exact fin_lst e hp (d1.append d2) k q
/-- t + u, the new one known to the object -/
def rCatF (K : PySem.W.Frag) : R2 := fun x y H Q => ∃ a b xs ys, x = .ref a ∧ y = .ref b ∧ SqT K H a xs ∧ SqT K H b ys ∧ xs.length + ys.length ≤ sizeLine ∧ (xs = [] → Q (.ref b) H) ∧ (xs ≠ [] → ys = [] → Q (.ref a) H) ∧ (xs ≠ [] → ys ≠ [] → ∀ (p : Addr) (o : Obj), H p = none → o.dict = none → Q (.ref p) (upd H p (.frz o (.tup (xs ++ ys)))))
theorem op_catF {X : Cx} : OpR X (binaryOp .Add) (rCatF X.K) := by
  intro pins s σ H x y v u Q I rx ry h
  obtain ⟨a, b, xs, ys, rfl, rfl, ha, hb, hz, q0, q1, q2⟩ := h
  cases rx
  cases ry
  obtain ⟨its, r1, p1, _⟩ := I.tuple ha
  obtain ⟨its2, r2, p2, _⟩ := I.tuple hb
  by_cases hx : xs = []
  · subst hx
    cases r1
    exact cat_tup0 p1 p2 ⟨.ref b, H, I, rfl, q0 rfl⟩
  · refine HT.cat_tup p1 p2 (fun z => hx (r1.nil_iff.mp z)) (fun z => ⟨.ref a, H, I, rfl, q1 hx (r2.nil_iff.mp z)⟩) (fun z => ?_) (by rw [← r1.length, ← r2.length]; exact hz)
    refine ⟨.ref s.heap.objs.size, _, I.laid (t' := s.toks) (o := .frz { cls := .type "tuple", data := .seq (its ++ its2).toArray } (.tup (xs ++ ys))) (fun b ob q => Heap.get?_push_of_some _ q) (Nat.le_refl _) ?_, rfl, q2 hx (fun w => z (r2.nil_iff.mpr w)) _ _ (I.hok.fresh (Nat.le_refl _)) rfl⟩
    exact ⟨Heap.get?_push_size _ rfl, by rw [List.length_append]; exact hz, _, r1.append r2, IsTup.new _ _⟩
/-- tuple(xs), the new one known to the object -/
theorem call_tupF {X : Cx} : CallR X (.type "tuple") (fun xs H Q => ∃ p ys, xs = [.ref p] ∧ ((SqL X.K H p ys ∧ ∀ (l : Addr) (o : Obj), H l = none → o.dict = none → Q (.ref l) (upd H l (.frz o (.tup ys)))) ∨ (SqT X.K H p ys ∧ Q (.ref p) H))) := by
  intro pins s σ H xs us Q I r h
  obtain ⟨p, ys, rfl, h⟩ := h
  obtain ⟨u, rfl, rx⟩ := vals1 r
  cases rx
  rcases h with ⟨hq, q⟩ | ⟨hq, q⟩
  · obtain ⟨its, r', pl, hz⟩ := I.list hq
    have hlen := r'.length
    refine call_tuple_list pl.isList (fun h' kp => ?_) (by simp only [List.size_toArray] <;> omega)
    have I1 : Inv X pins σ H { s with heap := h' } := I.kept (t' := s.toks) kp
    have I2 : Inv X pins σ (upd H h'.objs.size (.frz { cls := .type "tuple", data := .seq its.toArray } (.tup ys))) { s with heap := h'.push { cls := .type "tuple", data := .seq its.toArray } } :=
      I1.laid (t' := s.toks) (fun b o e => Heap.get?_push_of_some _ e) (Nat.le_refl _) (show ObjOk X.prog X.w _ _ _ (.frz _ (.tup ys)) from ⟨Heap.get?_push_size _ rfl, hz, its, r', IsTup.new _ _⟩)
    exact ⟨.ref h'.objs.size, _, I2, rfl, q _ _ (I1.hok.fresh (Nat.le_refl _)) rfl⟩
  · obtain ⟨its, r', pl, hz⟩ := I.tuple hq
    exact call_tuple_same pl ⟨.ref p, H, I, rfl, q⟩
theorem bw_addT {xs ys : List PyData} (hl : xs.length + ys.length ≤ 16777216) (q : Q (.tuple (xs ++ ys))) : BW X (binaryOp .Add) (.tuple xs) (.tuple ys) Q := by
  intro F H vx vy R e hx hy k
  cases hx with
  | tup h1 n1 d1 =>
    cases hy with
    | tup h2 n2 d2 =>
      refine wop_of op_catF ⟨_, _, _, _, rfl, rfl, e.sqt h1, e.sqt h2, by rw [d1.length, d2.length, sizeLine_eq]; exact hl, fun z => ?_, fun z1 z2 => ?_, fun _ _ p o hp ho => ?_⟩
      · subst z
        cases d1
        exact k F H _ _ (Gr.refl e) (.tup h2 n2 d2) q
      · subst z2
        cases d2
        rw [List.append_nil] at q
        exact k F H _ _ (Gr.refl e) (.tup h1 n1 d1) q
      · exact fin_tup e hp ho (d1.append d2) k q
theorem bw_addS {x y : Str} (hl : x.length + y.length ≤ 16777216) (q : Q (.str (x ++ y))) : BW X (binaryOp .Add) (.str x) (.str y) Q := by
  intro F H vx vy R e hx hy k
  cases hx
  cases hy
  exact wop_of op_add_str ⟨_, _, rfl, rfl, by rw [sizeLine_eq]; exact hl, k F H _ _ (Gr.refl e) (.str _) q⟩
theorem DDs.rep {K : PySem.W.Frag} {F : Hp} {xs : List V} {ds : List PyData} (h : DDs K F xs ds) : ∀ n : Nat, DDs K F (List.replicate n xs).flatten (List.replicate n ds).flatten
  | 0 => .nil
  | n + 1 => by
    rw [List.replicate_succ, List.replicate_succ, List.flatten_cons, List.flatten_cons]
    exact h.append (DDs.rep h n)
theorem bw_mulL {xs : List PyData} {n : Int} (h0 : -(2 ^ 63) ≤ n) (h1 : n < 2 ^ 63) (hl : xs.length * n.toNat ≤ 16777216) (q : Q (.list (List.replicate n.toNat xs).flatten)) : BW X (binaryOp .Mult) (.list xs) (.int n) Q := by
  intro F H vx vy R e hx hy k
  cases hy
  cases hx with
  | lst h d =>
    refine wop_of op_rep ⟨_, _, _, rfl, rfl, e _ _ h, h0, h1, by rw [d.length, sizeLine_eq]; exact hl, fun p hp => ?_⟩
    exact fin_lst e hp (d.rep _) k q
/-! in, not in -/
def flatD : PyData → Bool
  | .none => true
  | .bool _ => true
  | .int _ => true
  | .str _ => true
  | _ => false
theorem dd_flat {K : PySem.W.Frag} {F : Hp} {v : V} {d : PyData} (h : DD K F v d) : flatV v = flatD d := by cases h <;> rfl
theorem dds_flat {K : PySem.W.Frag} {F : Hp} : ∀ {v : List V} {d : List PyData}, DDs K F v d → v.all flatV = d.all flatD
  | _, _, .nil => rfl
  | _, _, .cons h hs => by rw [List.all_cons, List.all_cons, dd_flat h, dds_flat hs]
def inD (x : PyData) (xs : List PyData) : Bool := xs.any fun y => PyData.eqv y x
theorem dd_eqv {K : PySem.W.Frag} {F : Hp} {v u : V} {d e : PyData} (h : DD K F v d) (h' : DD K F u e) (hf : flatD d = true) (hf' : flatD e = true) : eqV v u = PyData.eqv d e := by
  cases h <;> cases h' <;> first | (simp [flatD] at hf; done) | (simp [flatD] at hf'; done) | (simp [eqV, PyData.eqv]; done) | (simp only [eqV, PyData.eqv])
theorem dds_in {K : PySem.W.Frag} {F : Hp} {v : V} {x : PyData} (h : DD K F v x) (hx : flatD x = true) : ∀ {vs : List V} {d : List PyData}, DDs K F vs d → d.all flatD = true → inV v vs = inD x d
  | _, _, .nil, _ => rfl
  | _, _, .cons q qs, e => by
    rw [List.all_cons] at e
    have e2 := Bool.and_eq_true_iff.mp e
    unfold inV inD
    rw [List.any_cons, List.any_cons, dd_eqv q h e2.1 hx]
    exact congrArg _ (dds_in h hx qs e2.2)
theorem bw_in {x y : PyData} {ds : List PyData} (hy : y = .list ds ∨ y = .tuple ds) (hx : flatD x = true) (ha : ds.all flatD = true) (q : Q (.bool (inD x ds))) : BW X (compareOp .In) x y Q := by
  intro F H vx vy R e dx dy k
  have go : ∀ p vs, vy = .ref p → (SqL X.K H p vs ∨ SqT X.K H p vs) → DDs X.K F vs ds → wOp X (compareOp .In) vx vy H R := fun p vs ey hq dd => by
    refine wop_of op_in_seq ⟨p, vs, ey, hq, by rw [dd_flat dx]; exact hx, by rw [dds_flat dd]; exact ha, ?_⟩
    show R (.bl (inV vx vs)) H
    rw [dds_in dx hx dd ha]
    exact k F H _ _ (Gr.refl e) (.bl _) q
  rcases hy with rfl | rfl
  · cases dy with
    | lst h d => exact go _ _ rfl (.inl (SqL.of (e _ _ h))) d
  · cases dy with
    | tup h _ d => exact go _ _ rfl (.inr (e.sqt h)) d
theorem bw_notIn {x y : PyData} {ds : List PyData} (hy : y = .list ds ∨ y = .tuple ds) (hx : flatD x = true) (ha : ds.all flatD = true) (q : Q (.bool (!inD x ds))) : BW X (compareOp .NotIn) x y Q := by
  intro F H vx vy R e dx dy k
  have go : ∀ p vs, vy = .ref p → (SqL X.K H p vs ∨ SqT X.K H p vs) → DDs X.K F vs ds → wOp X (compareOp .NotIn) vx vy H R := fun p vs ey hq dd => by
    refine wop_of op_notIn_seq ⟨p, vs, ey, hq, by rw [dd_flat dx]; exact hx, by rw [dds_flat dd]; exact ha, ?_⟩
    show R (.bl (!inV vx vs)) H
    rw [dds_in dx hx dd ha]
    exact k F H _ _ (Gr.refl e) (.bl _) q
  rcases hy with rfl | rfl
  · cases dy with
    | lst h d => exact go _ _ rfl (.inl (SqL.of (e _ _ h))) d
  · cases dy with
    | tup h _ d => exact go _ _ rfl (.inr (e.sqt h)) d
/-! subscripts -/
theorem dds_at {K : PySem.W.Frag} {F : Hp} {vs : List V} {ds : List PyData} {i : Int} {d : PyData} (h : DDs K F vs ds) (e : atI ds i = some d) : ∃ v, atI vs i = some v ∧ DD K F v d := by
  unfold atI at e ⊢
  rw [h.length]
  cases q : ixN ds.length i with
  | none =>
    rw [q] at e
    cases e
  | some j =>
    rw [q] at e
    exact h.get e
theorem bi_lst {ds : List PyData} {i : Int} {d : PyData} (h : atI ds i = some d) (q : Q d) : BI X (.list ds) (.int i) Q := by
  intro F H vx vy R e hx hy k
  cases hy
  cases hx with
  | lst hh dd =>
    obtain ⟨v, h1, h2⟩ := dds_at dd h
    exact wix_of ix_list ⟨_, _, i, v, rfl, rfl, SqL.of (e _ _ hh), h1, k F H _ _ (Gr.refl e) h2 q⟩
theorem bi_tup {ds : List PyData} {i : Int} {d : PyData} (h : atI ds i = some d) (q : Q d) : BI X (.tuple ds) (.int i) Q := by
  intro F H vx vy R e hx hy k
  cases hy
  cases hx with
  | tup hh nn dd =>
    obtain ⟨v, h1, h2⟩ := dds_at dd h
    exact wix_of ix_tup ⟨_, _, i, v, rfl, rfl, e.sqt hh, h1, k F H _ _ (Gr.refl e) h2 q⟩
theorem bi_str {z : Str} {i : Int} {c : Nat} (hl : z.length ≤ 16777216) (h : atI z.cps.toList i = some c) (q : Q (.str ⟨#[c]⟩)) : BI X (.str z) (.int i) Q := by
  intro F H vx vy R e hx hy k
  cases hy
  cases hx
  exact wix_of ix_str ⟨z, i, c, rfl, rfl, by rw [sizeLine_eq]; exact hl, h, k F H _ _ (Gr.refl e) (.str _) q⟩
/-! built-in functions -/
theorem bc_lenL {ds : List PyData} (q : Q (.int ds.length)) : BC X (.builtin "len") [.list ds] Q := by
  intro F H vs R e hx k
  cases hx with
  | cons h hs =>
    cases hs
    cases h with
    | lst hh dd => exact wca_of call_len_seq ⟨_, _, rfl, .inl (SqL.of (e _ _ hh)), by rw [dd.length]; exact k F H _ _ (Gr.refl e) (.int _) q⟩
theorem bc_lenT {ds : List PyData} (q : Q (.int ds.length)) : BC X (.builtin "len") [.tuple ds] Q := by
  intro F H vs R e hx k
  cases hx with
  | cons h hs =>
    cases hs
    cases h with
    | tup hh nn dd => exact wca_of call_len_seq ⟨_, _, rfl, .inr (e.sqt hh), by rw [dd.length]; exact k F H _ _ (Gr.refl e) (.int _) q⟩
theorem bc_lenS {z : Str} (hl : z.length ≤ 16777216) (q : Q (.int z.length)) : BC X (.builtin "len") [.str z] Q := by
  intro F H vs R e hx k
  cases hx with
  | cons h hs =>
    cases hs
    cases h
    exact wca_of call_len_str ⟨z, rfl, by rw [sizeLine_eq]; exact hl, k F H _ _ (Gr.refl e) (.int _) q⟩
theorem bc_abs {i : Int} (q : Q (.int (if i < 0 then -i else i))) : BC X (.builtin "abs") [.int i] Q := by
  intro F H vs R e hx k
  cases hx with
  | cons h hs =>
    cases hs
    cases h
    exact wca_of call_abs ⟨i, rfl, k F H _ _ (Gr.refl e) (.int _) q⟩
theorem bc_all (hc : X.calm = true) {ds : List PyData} {bs : List Bool} (eb : ds = bs.map PyData.bool) (q : Q (.bool (bs.all id))) : BC X (.builtin "all") [.list ds] Q := by
  subst eb
  intro F H vs R e hx k
  cases hx with
  | cons h hs =>
    cases hs
    cases h with
    | lst hh dd =>
      have z := dd.bls
      subst z
      exact wca_of (cr_all hc) ⟨_, bs, rfl, SqL.of (e _ _ hh), k F H _ _ (Gr.refl e) (.bl _) q⟩
theorem bc_any (hc : X.calm = true) {ds : List PyData} {bs : List Bool} (eb : ds = bs.map PyData.bool) (q : Q (.bool (bs.any id))) : BC X (.builtin "any") [.list ds] Q := by
  subst eb
  intro F H vs R e hx k
  cases hx with
  | cons h hs =>
    cases hs
    cases h with
    | lst hh dd =>
      have z := dd.bls
      subst z
      exact wca_of (cr_any hc) ⟨_, bs, rfl, SqL.of (e _ _ hh), k F H _ _ (Gr.refl e) (.bl _) q⟩
theorem bc_int1 {i : Int} (q : Q (.int i)) : BC X (.type "int") [.int i] Q := by
  intro F H vs R e hx k
  cases hx with
  | cons h hs =>
    cases hs
    cases h
    exact wca_of call_int1 (.inl ⟨i, rfl, k F H _ _ (Gr.refl e) (.int _) q⟩)
theorem bc_list {y : PyData} {ds : List PyData} (hy : y = .list ds ∨ y = .tuple ds) (q : Q (.list ds)) : BC X (.type "list") [y] Q := by
  intro F H vs R e hx k
  cases hx with
  | cons h hs =>
    cases hs
    have go : ∀ v p xs, v = V.ref p → (SqL X.K H p xs ∨ SqT X.K H p xs) → DDs X.K F xs ds → wCa X (.type "list") [v] H R := fun v p xs ev hq dd => by
      refine wca_of call_list_of ⟨p, xs, by rw [ev], hq, fun l hl => ?_⟩
      exact fin_lst e hl dd k q
    rcases hy with rfl | rfl
    · cases h with
      | lst hh dd => exact go _ _ _ rfl (.inl (SqL.of (e _ _ hh))) dd
    · cases h with
      | tup hh nn dd => exact go _ _ _ rfl (.inr (e.sqt hh)) dd
theorem bc_tuple {y : PyData} {ds : List PyData} (hy : y = .list ds ∨ y = .tuple ds) (q : Q (.tuple ds)) : BC X (.type "tuple") [y] Q := by
  intro F H vs R e hx k
  cases hx with
  | cons h hs =>
    cases hs
    rcases hy with rfl | rfl
    · cases h with
      | lst hh dd =>
        refine wca_of call_tupF ⟨_, _, rfl, .inl ⟨SqL.of (e _ _ hh), fun l o hl ho => ?_⟩⟩
        exact fin_tup e hl ho dd k q
    · cases h with
      | tup hh nn dd => exact wca_of call_tupF ⟨_, _, rfl, .inr ⟨e.sqt hh, k F H _ _ (Gr.refl e) (.tup hh nn dd) q⟩⟩
end
/-! ### calls -/
section
variable {P : Program} {w : World} {K : PySem.W.Frag} {mg : Str → Option Value} {base : Heap} {sc : Scope} {N : List Str} {vs ls : List Bool} {k : Nat} {X : Cx} {W : WX} {ρ : Rho} {Q : Rho → PyData → Prop} {E : XQ} {a b c e : Expr} {es : List Expr} {pos p : Pos} {x : Str} {i : Nat}
/-- a built-in function, a built-in class, called by its name -/
theorem ew_callB (C : Cxt P w K mg base sc N vs ls k X W) {id : String} (hv : bootBuiltins x = some (.builtin id)) (hm : mg x = none) (h : AW X W (e :: es) ρ (fun ρ1 ds => BC X (.builtin id) ds (Q ρ1)) E) (hg : sc.names.lookup x = some .globalImplicit := by decide +kernel)
    (hn : x ≠ "__name__" := by decide) (hdb : (x == ("__debug__" : Str)) = false := by decide) (he : starEach (e :: es) X.env = (false, eval e X.env) :: starEach es X.env := by with_unfolding_all rfl) (hpl : (backTo pos (starEach es X.env)).any (·.1) = false := by with_unfolding_all rfl) :
    EW X W (.Call (.Name x p) (e :: es) [] pos) ρ Q E := by
  intro F H σ R wd sl kx kk
  refine of_pe (pe_callB wca_self (C.gl hg) (by rw [C.eg]; exact hm) hv pa_w hn hdb he hpl) ?_
  refine h F H σ _ wd sl kx fun F1 H1 ρ1 vs ds st1 wd1 sl1 dd1 h1 => ?_
  exact h1 F1 H1 vs R wd1.sub dd1 fun F3 H3 v d gr dd3 q => kk F3 H3 ρ1 v d (st1.trans gr.stp) (wd1.gr gr) (sl1.mono gr.ex) dd3 q
theorem ew_callT (C : Cxt P w K mg base sc N vs ls k X W) {T : String} (hv : bootBuiltins x = some (.type T)) (hm : mg x = none) (h : AW X W (e :: es) ρ (fun ρ1 ds => BC X (.type T) ds (Q ρ1)) E) (hg : sc.names.lookup x = some .globalImplicit := by decide +kernel)
    (hn : x ≠ "__name__" := by decide) (hdb : (x == ("__debug__" : Str)) = false := by decide) (he : starEach (e :: es) X.env = (false, eval e X.env) :: starEach es X.env := by with_unfolding_all rfl) (hpl : (backTo pos (starEach es X.env)).any (·.1) = false := by with_unfolding_all rfl) :
    EW X W (.Call (.Name x p) (e :: es) [] pos) ρ Q E := by
  intro F H σ R wd sl kx kk
  refine of_pe (pe_callTy wca_self (C.gl hg) (by rw [C.eg]; exact hm) hv pa_w hn hdb he hpl) ?_
  refine h F H σ _ wd sl kx fun F1 H1 ρ1 vs ds st1 wd1 sl1 dd1 h1 => ?_
  exact h1 F1 H1 vs R wd1.sub dd1 fun F3 H3 v d gr dd3 q => kk F3 H3 ρ1 v d (st1.trans gr.stp) (wd1.gr gr) (sl1.mono gr.ex) dd3 q
/-- what a def of plain arguments promises: Pf ds Q E -/
abbrev PF := List PyData → (Ret → Prop) → (Xc → Prop) → Prop
/-- what is handed back, as plain data -/
def Ret.toD : Ret → Option PyData
  | .d x => some x
  | .new (.lst ds) => some (.list ds)
  | .new _ => none
  | .nest _ => none
/-- a new list becomes plain data -/
theorem frz {K : PySem.W.Frag} {F H F' H' : Hp} {ρ ρ' : Rho} {p : Addr} {xs : List V} {ds : List PyData} (st : Stp ρ ρ' F H F' H') (wd : Wd K F' H' ρ') (hp : H p = none ∨ Owns ρ p) (fp : F' p = none) (np : ¬ Owns ρ' p) (hh : H' p = some (.lst xs)) (dd : DDs K F' xs ds) :
    Stp ρ ρ' F H (upd F' p (.lst xs)) H' ∧ Wd K (upd F' p (.lst xs)) H' ρ' ∧ Ex F' (upd F' p (.lst xs)) ∧ DD K (upd F' p (.lst xs)) (.ref p) (.list ds) := by
  have ex : Ex F' (upd F' p (.lst xs)) := Ex.new fp
  refine ⟨⟨st.ex.trans ex, st.keep, fun a o f h n => ?_, st.own, st.all⟩, ⟨fun a o q => ?_, fun j a o q => ?_, wd.dis⟩, ex, .lst upd_same (dd.mono ex)⟩
  · have ne : a ≠ p := fun z => by
      subst z
      rcases hp with hp | hp
      · rw [h] at hp
        cases hp
      · exact n hp
    rw [upd_ne ne]
    exact st.fr a o f h n
  · by_cases z : a = p
    · subst z
      rw [upd_same] at q
      rw [hh, q]
    · rw [upd_ne z] at q
      exact wd.sub a o q
  · obtain ⟨h1, ho, h2, h3⟩ := wd.own j a o q
    have ne : a ≠ p := fun z => np (z ▸ ⟨j, o, q⟩)
    exact ⟨by rw [upd_ne ne]; exact h1, ho, h2, h3.mono ex⟩
theorem frzR {K : PySem.W.Frag} {F H F' H' : Hp} {ρ ρ' : Rho} {v : V} {r : Ret} {d : PyData} (st : Stp ρ ρ' F H F' H') (wd : Wd K F' H' ρ') (rt : RtV K ρ H F' H' ρ' v r) (hd : r.toD = some d) :
    ∃ F2, Stp ρ ρ' F H F2 H' ∧ Wd K F2 H' ρ' ∧ Ex F' F2 ∧ DD K F2 v d := by
  cases r with
  | d d' =>
    cases hd
    exact ⟨F', st, wd, Ex.refl _, rt⟩
  | new o =>
    cases o with
    | lst ds =>
      cases hd
      obtain ⟨p, ho, rfl, h0, f, n, h, xs, rfl, dd⟩ := rt
      exact ⟨_, frz st wd h0 f n h dd⟩
    | _ => cases hd
  | nest dss => cases hd
def spP (K : PySem.W.Frag) (Pf : PF) : Sp := fun vs H Q E => ∃ F ds Qd Ed, Ex F H ∧ DDs K F vs ds ∧ Pf ds Qd Ed ∧ (∀ F' H' v r, Gr F H F' H' → RtV K [] H F' H' [] v r → Qd r → Q v H') ∧ ∀ F' H' x xd, Gr F H F' H' → XcAt K F' H' x xd → Ed x → E (.ref x.cls) xd H'
/-- the module's name x is a def that keeps it -/
def Fn (P : Program) (w : World) (K : PySem.W.Frag) (mg : Str → Option Value) (base : Heap) (j : Nat) (x : Str) (Pf : PF) : Prop :=
  ∃ f fd ps, FnOk P w K mg base (L2.CX P w) j f fd ps (spP K Pf) ∧ mg x = some (.ref f) ∧ PySem.W.keepIn K (.ref f) = true ∧ Binds K fd ps []
theorem ew_call (C : Cxt P w K mg base sc N vs ls k X W) {j : Nat} {Pf : PF} (G : Fn P w K mg base j x Pf) (h : AW X W (e :: es) ρ (fun ρ1 ds => Pf ds (fun r => ∃ d, r.toD = some d ∧ Q ρ1 d) (E ρ1)) E) (hj : j ≤ k := by decide) (hg : sc.names.lookup x = some .globalImplicit := by decide +kernel)
    (hdb : (x == ("__debug__" : Str)) = false := by decide) (he : starEach (e :: es) X.env = (false, eval e X.env) :: starEach es X.env := by with_unfolding_all rfl) (hpl : (backTo pos (starEach es X.env)).any (·.1) = false := by with_unfolding_all rfl) :
    EW X W (.Call (.Name x p) (e :: es) [] pos) ρ Q E := by
  intro F H σ R wd sl kx kk
  obtain ⟨f, fd, ps, ok, hm, kp, bd⟩ := G
  have hgl := C.gl hg
  have hr : Room j X.A := C.room.mono hj
  obtain ⟨rfl, rfl, rfl, rfl, rfl⟩ : X.prog = P ∧ X.w = w ∧ X.K = K ∧ X.mg = mg ∧ X.base = base := ⟨C.eP, C.ew, C.eK, C.eg, C.eb⟩
  refine of_pe (pe_callS ok hr hgl hm kp bd (fun σ => passAt C.tk σ) pa_w hdb he hpl) ?_
  refine h F H σ _ wd sl kx fun F1 H1 ρ1 vs ds st1 wd1 sl1 dd1 h1 => ?_
  refine ⟨F1, ds, _, _, wd1.sub, dd1, h1, fun F' H' v r g rt q => ?_, fun F' H' y xd g xa q => ?_⟩
  · obtain ⟨d, hd, q⟩ := q
    have wd' := wd1.gr g
    have rt' : RtV X.K ρ1 H1 F' H' ρ1 v r := by
      cases r with
      | d d => exact rt
      | new o =>
        obtain ⟨q, ho, e, h0, f, _, h, oo⟩ := rt
        have h0 : H1 q = none := h0.resolve_right fun ⟨j, o', z⟩ => by simp at z
        refine ⟨q, ho, e, .inl h0, f, fun ⟨j, o', z⟩ => ?_, h, oo⟩
        obtain ⟨_, _, z2, _⟩ := wd1.own j q o' z
        rw [h0] at z2
        cases z2
      | nest dss => cases hd
    obtain ⟨F2, s2, w2, e2, d2⟩ := frzR (g.stp (ρ := ρ1)) wd' rt' hd
    exact kk F2 H' ρ1 v d (st1.trans s2) w2 ((sl1.mono g.ex).mono e2) d2 q
  exact kx F' H' σ ρ1 y xd (st1.trans g.stp) (wd1.gr g) (sl1.mono g.ex) xa q
end
end Bp

namespace Bp
open PySem PySem.Spec PyProof.Rows L2
/-! ### slots that are set -/
section
variable {K : PySem.W.Frag} {F H F' H' : Hp} {ρ ρ' : Rho} {σ : L2.St} {i : Nat} {d : PyData} {v : V}
theorem set_own {j : Nat} {a : Addr} {o : O} {z : Option S} (hz : ∀ a o, z ≠ some (.own a o)) (h : (ρ.set i z)[j]? = some (some (S.own a o))) : ρ[j]? = some (some (S.own a o)) := by
  rw [List.getElem?_set] at h
  split at h
  · split at h
    · exact absurd (Option.some.inj h) (hz a o)
    · cases h
  · exact h
theorem Wd.set (w : Wd K F H ρ) {z : Option S} (hz : ∀ a o, z ≠ some (.own a o)) : Wd K F H (ρ.set i z) where
  sub := w.sub
  own := fun j a o q => w.own j a o (set_own hz q)
  dis := fun j l a o o' q q' => w.dis j l a o o' (set_own hz q) (set_own hz q')
theorem Sl.set (s : Sl K F σ ρ) (hd : DD K F v d) : Sl K F (σ.set i (some v)) (ρ.set i (some (.d d))) where
  len := by rw [List.length_set, List.length_set]; exact s.len
  get := fun j z q => by
    rw [List.getElem?_set] at q ⊢
    split at q
    · rename_i e
      split at q
      · rename_i hl
        cases (Option.some.inj (Option.some.inj q))
        rw [if_pos e, if_pos (by rw [s.len]; exact hl)]
        exact ⟨v, rfl, hd⟩
      · cases q
    · rename_i e
      rw [if_neg e]
      exact s.get j z q
theorem Stp.set {z : Option S} (hz : ∀ a o, z ≠ some (.own a o)) : Stp ρ (ρ.set i z) F H F H := ⟨Ex.refl _, fun _ _ h _ => h, fun _ _ h _ _ => h, fun a ⟨j, o, q⟩ => .inl ⟨j, o, set_own hz q⟩, fun _ h => h⟩
theorem noD {d : PyData} : ∀ (a : Addr) (o : O), (some (S.d d) : Option S) ≠ some (.own a o) := fun _ _ h => by cases h
theorem noN : ∀ (a : Addr) (o : O), (none : Option S) ≠ some (.own a o) := fun _ _ h => by cases h
end
/-! ### statements -/
section
variable {P : Program} {w : World} {K : PySem.W.Frag} {mg : Str → Option Value} {base : Heap} {sc : Scope} {N : List Str} {vs ls : List Bool} {k : Nat} {X : Cx} {W : WX} {ρ : Rho} {Nx : Rho → Prop} {R : Rho → Ret → Prop} {E : XQ} {a b c e : Expr} {es : List Expr} {pos p px : Pos} {x : Str} {i : Nat} {st : Stmt} {sts : List Stmt}
theorem sw_nil (h : Nx ρ) : SW X W [] ρ Nx R E := fun F H σ D wd sl kx kn kr => of_pss pss_nil (kn F H σ ρ Stp.refl wd sl h)
theorem sw_cons (h : S1 X W st ρ (fun ρ1 => SW X W sts ρ1 Nx R E) R E) : SW X W (st :: sts) ρ Nx R E := by
  intro F H σ D wd sl kx kn kr
  refine of_pss (pss_cons ps_w pss_w) ?_
  refine h F H σ _ wd sl kx (fun F1 H1 σ1 ρ1 st1 wd1 sl1 h1 => ?_) kr
  exact h1 F1 H1 σ1 D wd1 sl1 (kx.step st1) (fun F2 H2 σ2 ρ2 st2 wd2 sl2 n => kn F2 H2 σ2 ρ2 (st1.trans st2) wd2 sl2 n) (fun F2 H2 ρ2 v d st2 wd2 dd r => kr F2 H2 ρ2 v d (st1.trans st2) wd2 (dd.back st1) r)
theorem s1_ret (h : EW X W e ρ (fun ρ1 d => R ρ1 (.d d)) E) : S1 X W (.Return (some e) pos) ρ Nx R E := fun F H σ D wd sl kx kn kr => of_ps (ps_ret pe_w) (h F H σ _ wd sl kx fun F1 H1 ρ1 v d st1 wd1 sl1 dd1 r => kr F1 H1 ρ1 v (.d d) st1 wd1 dd1 r)
theorem s1_expr (h : EW X W e ρ (fun ρ1 _ => Nx ρ1) E) (hs : swapsWith e none pos.line X.env = pure false := by with_unfolding_all rfl) : S1 X W (.Expr e pos) ρ Nx R E := fun F H σ D wd sl kx kn kr => of_ps (ps_expr pe_w hs) (h F H σ _ wd sl kx fun F1 H1 ρ1 v d st1 wd1 sl1 dd1 r => kn F1 H1 σ ρ1 st1 wd1 sl1 r)
theorem s1_pass (h : Nx ρ) : S1 X W (.Pass pos) ρ Nx R E := fun F H σ D wd sl kx kn kr => of_ps ps_pass (kn F H σ ρ Stp.refl wd sl h)
theorem s1_if {t u : List Stmt} (h : TW X W c ρ (fun ρ1 b => (b = true → SW X W t ρ1 Nx R E) ∧ (b = false → SW X W u ρ1 Nx R E)) E) : S1 X W (.If c t u pos) ρ Nx R E := by
  intro F H σ D wd sl kx kn kr
  refine of_ps (ps_if pt_w pss_w pss_w) ?_
  refine h F H σ _ wd sl kx fun F1 H1 ρ1 b st1 wd1 sl1 q => ?_
  cases b with
  | true => exact q.1 rfl F1 H1 σ D wd1 sl1 (kx.step st1) (fun F2 H2 σ2 ρ2 st2 wd2 sl2 n => kn F2 H2 σ2 ρ2 (st1.trans st2) wd2 sl2 n) (fun F2 H2 ρ2 v d st2 wd2 dd r => kr F2 H2 ρ2 v d (st1.trans st2) wd2 (dd.back st1) r)
  | false => exact q.2 rfl F1 H1 σ D wd1 sl1 (kx.step st1) (fun F2 H2 σ2 ρ2 st2 wd2 sl2 n => kn F2 H2 σ2 ρ2 (st1.trans st2) wd2 sl2 n) (fun F2 H2 ρ2 v d st2 wd2 dd r => kr F2 H2 ρ2 v d (st1.trans st2) wd2 (dd.back st1) r)
theorem s1_set (C : Cxt P w K mg base sc N vs ls k X W) [sl : Slot N x i] (hl : ls[i]? = some true) (h : EW X W e ρ (fun ρ1 d => Nx (ρ1.set i (some (.d d)))) E) (hs : swapsWith e (some (.Name x px)) pos.line X.env = pure false := by with_unfolding_all rfl) : S1 X W (.Assign [.Name x px] e pos) ρ Nx R E := by
  intro F H σ D wd st kx kn kr
  refine of_ps (ps_set (i := i) (by rw [C.eN]; exact C.nd) (by rw [C.eN]; exact sl.get) (C.lo sl.get hl) pe_w hs (C.st sl.get hl)) ?_
  refine h F H σ _ wd st kx fun F1 H1 ρ1 v d st1 wd1 sl1 dd1 n => ?_
  exact kn F1 H1 _ _ (st1.trans (Stp.set noD)) (wd1.set noD) (sl1.set dd1) n
/-! while -/
theorem s1_while (C : Cxt P w K mg base sc N vs ls k X W) (I : Nat → Rho → Prop) {body : List Stmt} (h0 : ∃ m, I m ρ) (h : ∀ m ρ1, I m ρ1 → TW X W c ρ1 (fun ρ2 b => (b = true → SW X W body ρ2 (fun ρ3 => ∃ m', m' < m ∧ I m' ρ3) R E) ∧ (b = false → Nx ρ2)) E) : S1 X W (.While c body [] pos) ρ Nx R E := by
  intro F H σ D wd sl kx kn kr
  refine of_ps (ps_while C.po pt_w pss_w) ?_
  obtain ⟨m0, h0⟩ := h0
  refine ⟨fun m σ1 H1 => ∃ F1 ρ1, Stp ρ ρ1 F H F1 H1 ∧ Wd X.K F1 H1 ρ1 ∧ Sl X.K F1 σ1 ρ1 ∧ I m ρ1, ⟨m0, F, ρ, Stp.refl, wd, sl, h0⟩, ?_⟩
  rintro m σ1 H1 ⟨F1, ρ1, st1, wd1, sl1, i1⟩
  refine h m ρ1 i1 F1 H1 σ1 _ wd1 sl1 (kx.step st1) fun F2 H2 ρ2 b st2 wd2 sl2 q => ?_
  have st12 := st1.trans st2
  cases b with
  | true =>
    refine ⟨fun σ3 H3 => ∃ m', m' < m ∧ ∃ F3 ρ3, Stp ρ ρ3 F H F3 H3 ∧ Wd X.K F3 H3 ρ3 ∧ Sl X.K F3 σ3 ρ3 ∧ I m' ρ3, fun σ3 H3 hh => ?_, ?_⟩
    · obtain ⟨m', l, r⟩ := hh
      exact ⟨m', l, r⟩
    · refine q.1 rfl F2 H2 σ1 _ wd2 sl2 (kx.step st12) (fun F3 H3 σ3 ρ3 st3 wd3 sl3 n => ?_) (fun F3 H3 ρ3 v d st3 wd3 dd r => kr F3 H3 ρ3 v d (st12.trans st3) wd3 (dd.back st12) r)
      obtain ⟨m', l, i3⟩ := n
      exact ⟨m', l, F3, ρ3, st12.trans st3, wd3, sl3, i3⟩
  | false => exact kn F2 H2 σ1 ρ2 st12 wd2 sl2 (q.2 rfl)
/-! ### what is walked -/
def WIx (X : Cx) (tg iter : Expr) : TI := fun σ H R => ∀ pins s, Inv X pins σ H s → wpAny (model X.prog X.w) X.A (eval iter X.env) (fun v s1 => wpAny (model X.prog X.w) X.A (pyIter v) (PIE X pins σ tg R) X.xe s1) X.xe s
theorem pi_w {tg iter : Expr} : PI X tg iter (WIx X tg iter) := ⟨fun pins s _ _ _ I h => h pins s I⟩
theorem of_pi {tg iter : Expr} {t : TI} (q : PI X tg iter t) {σ : L2.St} {H : Hp} {R : It → Hp → Prop} (h : t σ H R) : WIx X tg iter σ H R := fun pins s I => q.run pins s σ H R I h
/-- the turns give these data -/
structure ItD (K : PySem.W.Frag) (F1 : Hp) (J : It) (ds : List PyData) : Prop where
  go : ∀ F H i, Ex F1 F → Ex F H → i < ds.length → J.go i H
  yld : ∀ F H i y H' d, Ex F1 F → Ex F H → ds[i]? = some d → J.yld i H y H' → ∃ F', Gr F H F' H' ∧ DD K F' y d
  stop : ∀ F H, Ex F1 F → Ex F H → J.stop ds.length H
def IW (X : Cx) (W : WX) (tg iter : Expr) (ρ : Rho) (Q : Rho → List PyData → Prop) (E : XQ) : Prop := ∀ F H σ (R : It → Hp → Prop), Wd X.K F H ρ → Sl X.K F σ ρ → Kx X.K W ρ F H E →
  (∀ F' H' ρ' J ds, Stp ρ ρ' F H F' H' → Wd X.K F' H' ρ' → Sl X.K F' σ ρ' → ItD X.K F' J ds → Q ρ' ds → R J H') → WIx X tg iter σ H R
theorem itd_list {F : Hp} {a : Addr} {xs : List V} {ds : List PyData} (h : F a = some (.lst xs)) (dd : DDs K F xs ds) : ItD K F (Itl K a) ds where
  go := fun F' H i e s hl => by
    obtain ⟨v, h1, _⟩ := dd.get (List.getElem?_eq_getElem hl)
    exact ⟨xs, v, SqL.of (s _ _ (e _ _ h)), h1⟩
  yld := fun F' H i y H' d e s hd ⟨eH, hy⟩ => by
    subst eH
    have q := hy xs (SqL.of (s _ _ (e _ _ h)))
    obtain ⟨v, h1, h2⟩ := dd.get hd
    rw [h1] at q
    cases q
    exact ⟨F', Gr.refl s, h2.mono e⟩
  stop := fun F' H e s => ⟨xs, SqL.of (s _ _ (e _ _ h)), by rw [dd.length]; exact Nat.le_refl _⟩
theorem itd_tup {F : Hp} {a : Addr} {xs : List V} {ds : List PyData} (h : SqT K F a xs) (dd : DDs K F xs ds) : ItD K F (Itt K a) ds where
  go := fun F' H i e s hl => by
    obtain ⟨v, h1, _⟩ := dd.get (List.getElem?_eq_getElem hl)
    exact ⟨xs, v, s.sqt (e.sqt h), h1⟩
  yld := fun F' H i y H' d e s hd ⟨eH, hy⟩ => by
    subst eH
    have q := hy xs (s.sqt (e.sqt h))
    obtain ⟨v, h1, h2⟩ := dd.get hd
    rw [h1] at q
    cases q
    exact ⟨F', Gr.refl s, h2.mono e⟩
  stop := fun F' H e s => ⟨xs, s.sqt (e.sqt h), by rw [dd.length]; exact Nat.le_refl _⟩
def rangeD (lo : Int) (n : Nat) : List PyData := (List.range n).map fun i => .int (lo + (i : Nat))
theorem rangeD_len (lo : Int) (n : Nat) : (rangeD lo n).length = n := by unfold rangeD; rw [List.length_map, List.length_range]
theorem rangeD_get {lo : Int} {n i : Nat} {d : PyData} (h : (rangeD lo n)[i]? = some d) : i < n ∧ d = .int (lo + (i : Nat)) := by
  unfold rangeD at h
  rw [List.getElem?_map] at h
  by_cases hi : i < n
  · rw [List.getElem?_range hi] at h
    exact ⟨hi, (Option.some.inj h).symm⟩
  · rw [List.getElem?_eq_none (by rw [List.length_range]; omega)] at h
    cases h
theorem itd_range {F : Hp} {lo : Int} {n : Nat} : ItD K F (Itr lo n) (rangeD lo n) where
  go := fun F' H i e s hl => by
    rw [rangeD_len] at hl
    exact hl
  yld := fun F' H i y H' d e s hd ⟨eH, hy⟩ => by
    subst eH
    obtain ⟨_, h2⟩ := rangeD_get hd
    rw [h2, hy]
    exact ⟨F', Gr.refl s, .int _⟩
  stop := fun F' H e s => by
    rw [rangeD_len]
    exact Nat.le_refl _
/-- a list or a tuple -/
def iSeq (K : PySem.W.Frag) (tl : TE) : TI := fun σ H R => tl σ H fun x H1 => ∃ a, x = .ref a ∧ (((∃ xs, SqL K H1 a xs) ∧ R (Itl K a) H1) ∨ ((∃ xs, SqT K H1 a xs) ∧ R (Itt K a) H1))
theorem pi_seq {tg l : Expr} {tl : TE} (hl : PE X l tl) : PI X tg l (iSeq X.K tl) := by
  refine ⟨fun pins s σ H R I h => ?_⟩
  refine thn (hl.run pins s σ H _ I h) fun v s1 ⟨x, H1, I1, r1, q1⟩ => ?_
  obtain ⟨a, e, q1⟩ := q1
  subst e
  cases r1
  rcases q1 with ⟨⟨xs, hq⟩, q⟩ | ⟨⟨xs, hq⟩, q⟩
  · obtain ⟨its, rv, p, hz⟩ := I1.list hq
    refine wpAny_pyIter_list p.isList ?_
    refine ⟨s1.heap.objs.size, [s1.heap.objs.size], _, _, H1, rfl, I1.kept (t' := s1.toks) fun b o e => Heap.get?_push_of_some _ e, turn_list a _, ⟨_, Heap.get?_push_size _ rfl, rfl, rfl⟩, fun b hb => ?_, q⟩
    have e : b = s1.heap.objs.size := by simpa using hb
    subst e
    exact I1.fpOk (Nat.le_refl _) (I1.hok.fresh (Nat.le_refl _))
  · obtain ⟨its, rv, p, hz⟩ := I1.tuple hq
    refine wpAny_pyIter_tuple (show s1.heap.IsTuple a its.toArray from p) ?_
    refine ⟨s1.heap.objs.size, [s1.heap.objs.size], _, _, H1, rfl, I1.kept (t' := s1.toks) fun b o e => Heap.get?_push_of_some _ e, turn_tuple a _, ⟨_, Heap.get?_push_size _ rfl, rfl, rfl⟩, fun b hb => ?_, q⟩
    have e : b = s1.heap.objs.size := by simpa using hb
    subst e
    exact I1.fpOk (Nat.le_refl _) (I1.hok.fresh (Nat.le_refl _))
theorem iw_seq {tg iter : Expr} {Q : Rho → List PyData → Prop} (h : EW X W iter ρ (fun ρ1 d => ∃ ds, (d = .list ds ∨ d = .tuple ds) ∧ Q ρ1 ds) E) : IW X W tg iter ρ Q E := by
  intro F H σ R wd sl kx kk
  refine of_pi (pi_seq pe_w) ?_
  refine h F H σ _ wd sl kx fun F1 H1 ρ1 v d st1 wd1 sl1 dd q => ?_
  obtain ⟨ds, hd, q⟩ := q
  rcases hd with rfl | rfl
  · cases dd with
    | lst hh hs => exact ⟨_, rfl, .inl ⟨⟨_, SqL.of (wd1.sub _ _ hh)⟩, kk F1 H1 ρ1 _ ds st1 wd1 sl1 (itd_list hh hs) q⟩⟩
  · cases dd with
    | tup hh _ hs => exact ⟨_, rfl, .inr ⟨⟨_, wd1.sub.sqt hh⟩, kk F1 H1 ρ1 _ ds st1 wd1 sl1 (itd_tup hh hs) q⟩⟩
theorem iw_range1 (C : Cxt P w K mg base sc N vs ls k X W) {tg : Expr} {Q : Rho → List PyData → Prop} (hm : mg "range" = none) (h : EW X W a ρ (fun ρ1 d => ∃ j : Int, d = .int j ∧ -(2 ^ 62) ≤ j ∧ j < 2 ^ 62 ∧ Q ρ1 (rangeD 0 j.toNat)) E) (hg : sc.names.lookup ("range" : Str) = some .globalImplicit := by decide +kernel)
    (hs : starEach [a] X.env = [(false, eval a X.env)] := by with_unfolding_all rfl) : IW X W tg (.Call (.Name "range" p) [a] [] pos) ρ Q E := by
  intro F H σ R wd sl kx kk
  refine of_pi (pi_range1 (C.gl hg) (by rw [C.eg]; exact hm) (pa_cons pe_w pa_nil hs) hs) ?_
  refine h F H σ _ wd sl kx fun F1 H1 ρ1 v d st1 wd1 sl1 dd q => ?_
  obtain ⟨j, rfl, h1, h2, q⟩ := q
  cases dd
  exact ⟨j, rfl, h1, h2, kk F1 H1 ρ1 _ _ st1 wd1 sl1 itd_range q⟩
theorem iw_range2 (C : Cxt P w K mg base sc N vs ls k X W) {tg : Expr} {Q : Rho → List PyData → Prop} (hm : mg "range" = none) (h : EW X W a ρ (fun ρ1 d => ∃ i : Int, d = .int i ∧ EW X W b ρ1 (fun ρ2 d' => ∃ j : Int, d' = .int j ∧ (-(2 ^ 62) ≤ i ∧ i < 2 ^ 62 ∧ -(2 ^ 62) ≤ j ∧ j < 2 ^ 62) ∧ Q ρ2 (rangeD i (j - i).toNat)) E) E)
    (hg : sc.names.lookup ("range" : Str) = some .globalImplicit := by decide +kernel)
    (hs : starEach [a, b] X.env = [(false, eval a X.env), (false, eval b X.env)] := by with_unfolding_all rfl) (hs2 : starEach [b] X.env = [(false, eval b X.env)] := by with_unfolding_all rfl) : IW X W tg (.Call (.Name "range" p) [a, b] [] pos) ρ Q E := by
  intro F H σ R wd sl kx kk
  refine of_pi (pi_range2 (C.gl hg) (by rw [C.eg]; exact hm) (pa_cons pe_w (pa_cons pe_w pa_nil hs2) (by rw [hs, hs2])) hs hs2) ?_
  refine h F H σ _ wd sl kx fun F1 H1 ρ1 v d st1 wd1 sl1 dd q => ?_
  obtain ⟨i, rfl, q⟩ := q
  cases dd
  refine q F1 H1 σ _ wd1 sl1 (kx.step st1) fun F2 H2 ρ2 v d st2 wd2 sl2 dd q => ?_
  obtain ⟨j, rfl, h1, q⟩ := q
  cases dd
  exact ⟨i, j, rfl, h1, kk F2 H2 ρ2 _ _ (st1.trans st2) wd2 sl2 itd_range q⟩
/-! ### targets, for -/
def WGx (X : Cx) (tg : Expr) : TG := fun v σ H Q => ∀ pins s u, Inv X pins σ H s → RelV v u → wpAny (model X.prog X.w) X.A (assign tg X.env u) (fun _ s' => ∃ σ' H', Inv X pins σ' H' s' ∧ Q σ' H') X.xe s
theorem pg_w {tg : Expr} : PG X tg (WGx X tg) := ⟨fun pins s _ _ _ u _ I r h => h pins s u I r⟩
theorem of_pg {tg : Expr} {t : TG} (q : PG X tg t) {v : V} {σ : L2.St} {H : Hp} {Q : L2.St → Hp → Prop} (h : t v σ H Q) : WGx X tg v σ H Q := fun pins s u I r => q.run pins s σ H v u Q I r h
/-- a target takes plain data -/
def GW (X : Cx) (tg : Expr) (d : PyData) (ρ : Rho) (Q : Rho → Prop) : Prop := ∀ F H σ v (R : L2.St → Hp → Prop), Wd X.K F H ρ → Sl X.K F σ ρ → DD X.K F v d → (∀ σ' ρ', Stp ρ ρ' F H F H → Wd X.K F H ρ' → Sl X.K F σ' ρ' → Q ρ' → R σ' H) → WGx X tg v σ H R
theorem gw_name (C : Cxt P w K mg base sc N vs ls k X W) [sl : Slot N x i] (hl : ls[i]? = some true) {d : PyData} {Q : Rho → Prop} (q : Q (ρ.set i (some (.d d)))) : GW X (.Name x px) d ρ Q := by
  intro F H σ v R wd st dd kk
  refine of_pg (pg_name (i := i) (by rw [C.eN]; exact C.nd) (by rw [C.eN]; exact sl.get) (C.lo sl.get hl) (C.st sl.get hl)) ?_
  exact kk _ _ (Stp.set noD) (wd.set noD) (st.set dd) q
theorem gw_pair (C : Cxt P w K mg base sc N vs ls k X W) {y : Str} {j : Nat} [sx : Slot N x i] [sy : Slot N y j] {py pt : Pos} {kt : Nat} (hl : ls[i]? = some true) (hl2 : ls[j]? = some true) {d1 d2 : PyData} {Q : Rho → Prop} (q : Q ((ρ.set i (some (.d d1))).set j (some (.d d2)))) : GW X (.Tuple [.Name x px, .Name y py] kt pt) (.tuple [d1, d2]) ρ Q := by
  intro F H σ v R wd st dd kk
  have nd : X.N.Nodup := by rw [C.eN]; exact C.nd
  refine of_pg (pg_tup C.calm (pgs_cons (pg_name (i := i) nd (by rw [C.eN]; exact sx.get) (C.lo sx.get hl) (C.st sx.get hl)) (pgs_cons (pg_name (i := j) nd (by rw [C.eN]; exact sy.get) (C.lo sy.get hl2) (C.st sy.get hl2)) pgs_nil))) ?_
  cases dd with
  | tup h _ hs =>
    cases hs with
    | cons h1 hs =>
      cases hs with
      | cons h2 hs =>
        cases hs
        refine ⟨_, _, rfl, wd.sub.sqt h, rfl, _, _, rfl, _, _, rfl, rfl, ?_⟩
        exact kk _ _ ((Stp.set noD).trans (Stp.set noD)) ((wd.set noD).set noD) ((st.set h1).set h2) q
theorem s1_for (C : Cxt P w K mg base sc N vs ls k X W) {tg iter : Expr} {body : List Stmt} (h : IW X W tg iter ρ (fun ρ1 ds => ∃ I : Nat → Rho → Prop, I 0 ρ1 ∧ (∀ n d ρ2, ds[n]? = some d → I n ρ2 → GW X tg d ρ2 (fun ρ3 => SW X W body ρ3 (I (n + 1)) R E)) ∧ ∀ ρ2, I ds.length ρ2 → Nx ρ2) E)
    (hs : ∀ x, foldedSetIterable iter X.env x = pure x := by intro _; with_unfolding_all rfl) : S1 X W (.For tg iter body [] pos) ρ Nx R E := by
  intro F H σ D wd sl kx kn kr
  refine of_ps (ps_for C.po C.calm pi_w pg_w pss_w hs) ?_
  refine h F H σ _ wd sl kx fun F1 H1 ρ1 J ds st1 wd1 sl1 it q => ?_
  obtain ⟨I, i0, turn, fin⟩ := q
  refine ⟨fun n m σ2 H2 => m = ds.length - n ∧ n ≤ ds.length ∧ ∃ F2 ρ2, Stp ρ1 ρ2 F1 H1 F2 H2 ∧ Wd X.K F2 H2 ρ2 ∧ Sl X.K F2 σ2 ρ2 ∧ I n ρ2, ⟨_, rfl, Nat.zero_le _, F1, ρ1, Stp.refl, wd1, sl1, i0⟩, ?_⟩
  rintro n m σ2 H2 ⟨rfl, hn, F2, ρ2, st2, wd2, sl2, i2⟩
  have st12 := st1.trans st2
  by_cases hlt : n < ds.length
  · refine .inr ⟨it.go F2 H2 n st2.ex wd2.sub hlt, fun σ3 H3 => ∃ F3 ρ3, Stp ρ1 ρ3 F1 H1 F3 H3 ∧ Wd X.K F3 H3 ρ3 ∧ Sl X.K F3 σ3 ρ3 ∧ I (n + 1) ρ3, fun σ3 H3 hh => ⟨_, by omega, rfl, hlt, hh⟩, fun y H3 hy => ?_⟩
    have hd : ds[n]? = some ds[n] := List.getElem?_eq_getElem hlt
    obtain ⟨F3, g, dd⟩ := it.yld F2 H2 n y H3 _ st2.ex wd2.sub hd hy
    have wd3 := wd2.gr g
    have sl3 := sl2.mono g.ex
    refine turn n _ ρ2 hd i2 F3 H3 σ2 y _ wd3 sl3 dd fun σ4 ρ4 st4 wd4 sl4 b => ?_
    have st24 : Stp ρ2 ρ4 F2 H2 F3 H3 := g.stp.trans st4
    refine b F3 H3 σ4 _ wd4 sl4 (kx.step (st12.trans st24)) (fun F5 H5 σ5 ρ5 st5 wd5 sl5 i5 => ⟨F5, ρ5, (st2.trans st24).trans st5, wd5, sl5, i5⟩) (fun F5 H5 ρ5 v d st5 wd5 dd5 r => kr F5 H5 ρ5 v d ((st12.trans st24).trans st5) wd5 (dd5.back (st12.trans st24)) r)
  · have e : n = ds.length := by omega
    subst e
    exact .inl ⟨it.stop F2 H2 st2.ex wd2.sub, kn F2 H2 σ2 ρ2 st12 wd2 sl2 (fin ρ2 i2)⟩
end
end Bp

namespace Bp
open PySem PySem.Spec PyProof.Rows L2
/-! ### which names a scope lets see and set -/
def visB (sc : Scope) (x : Str) : Bool := match sc.names.lookup x with
  | some .local => true
  | some .cell => true
  | some .free => true
  | _ => false
def locB (sc : Scope) (x : Str) : Bool := match sc.names.lookup x with
  | some .local => true
  | some .cell => true
  | _ => false
def chkB (f : Str → Bool) : List Str → List Bool → Bool
  | x :: N, b :: bs => (!b || f x) && chkB f N bs
  | [], _ :: _ => false
  | _, [] => true
theorem chkB_ok {f : Str → Bool} : ∀ {N : List Str} {bs : List Bool} {i : Nat} {x : Str}, chkB f N bs = true → N[i]? = some x → bs[i]? = some true → f x = true
  | x :: N, b :: bs, 0, y, h, hx, hb => by
    have h2 := (Bool.and_eq_true_iff.mp (show ((!b || f x) && chkB f N bs) = true from h)).1
    have e1 : x = y := Option.some.inj hx
    have e2 : b = true := Option.some.inj hb
    subst e1 e2
    simpa using h2
  | x :: N, b :: bs, i + 1, y, h, hx, hb => chkB_ok (f := f) (N := N) (bs := bs) (i := i) (Bool.and_eq_true_iff.mp (show ((!b || f x) && chkB f N bs) = true from h)).2 hx hb
  | [], [], i, y, h, hx, hb => by simp at hb
  | _ :: _, [], i, y, h, hx, hb => by simp at hb
  | [], _ :: _, i, y, h, hx, hb => by cases h
theorem vis_of {sc : Scope} {x : Str} (h : visB sc x = true) : Vis sc x := by
  unfold visB at h
  split at h
  · rename_i e
    exact .inl e
  · rename_i e
    exact .inr (.inl e)
  · rename_i e
    exact .inr (.inr e)
  · cases h
theorem loc_of {sc : Scope} {x : Str} (h : locB sc x = true) : Loc sc x := by
  unfold locB at h
  split at h
  · rename_i e
    exact .inl e
  · rename_i e
    exact .inr e
  · cases h
/-! ### a def keeps its promise -/
section
variable {P : Program} {w : World} {K : PySem.W.Frag} {mg : Str → Option Value} {base : Heap} {sc : Scope} {N ps : List Str} {vs : List Bool} {k : Nat} {f : Addr} {fd : FuncData} {x qual : Str} {params : Arguments} {body : List Stmt}
def args (ss : List S) (n : Nat) : Rho := ss.map some ++ List.replicate (n - ss.length) none
theorem args_len {ss : List S} {n : Nat} (h : ss.length ≤ n) : (args ss n).length = n := by
  unfold args
  rw [List.length_append, List.length_map, List.length_replicate]
  omega
theorem args_get {ss : List S} {n i : Nat} {s : S} (h : (args ss n)[i]? = some (some s)) : ss[i]? = some s := by
  unfold args at h
  by_cases hi : i < ss.length
  · rw [List.getElem?_append_left (by rw [List.length_map]; exact hi), List.getElem?_map] at h
    cases q : ss[i]? with
    | none =>
      rw [q] at h
      cases h
    | some z =>
      rw [q] at h
      exact Option.some.inj h
  · rw [List.getElem?_append_right (by rw [List.length_map]; omega), List.getElem?_replicate] at h
    split at h
    · cases (Option.some.inj h)
    · cases h
theorem start_get {vs : List V} {i : Nat} {v : V} {N : List Str} (h : vs[i]? = some v) : (L2.start N vs)[i]? = some (some v) := by
  unfold L2.start
  have hi : i < vs.length := by
    cases Nat.lt_or_ge i vs.length with
    | inl h => exact h
    | inr q =>
      rw [List.getElem?_eq_none q] at h
      cases h
  rw [List.getElem?_append_left (by rw [List.length_map]; exact hi), List.getElem?_map, h]
  rfl
theorem start_len {vs : List V} {N : List Str} (h : vs.length ≤ N.length) : (L2.start N vs).length = N.length := by
  unfold L2.start
  rw [List.length_append, List.length_map, List.length_replicate]
  omega
theorem ps_le {N ps : List Str} {sc : Scope} (S : FnScope N ps sc) : ps.length ≤ N.length := by
  have h := congrArg List.length S.pre
  rw [List.length_take] at h
  omega
theorem cxt_of {A : Around} {outer : List Env} {s : Shared} {H : Hp} {E : XK} {cdv : Value} (S : FnScope N ps sc) (hv : chkB (locB sc) N vs = true) (hr : Room k (A.deeper (envOfC qual sc s.heap.objs.size f cdv))) :
    Cxt P w K mg base sc N vs vs k (cxOf (L2.CX P w) P w K mg base N qual sc f cdv A outer s H E) (fun cls d _ H => E cls d H) where
  eP := rfl
  ew := rfl
  eK := rfl
  eg := rfl
  eb := rfl
  eN := rfl
  nd := S.nd
  es := rfl
  vis := fun i x h hb => by
    rcases loc_of (chkB_ok hv h hb) with q | q
    · exact .inl q
    · exact .inr (.inl q)
  loc := fun i x h hb => ⟨loc_of (chkB_ok hv h hb), .inl rfl⟩
  calm := rfl
  room := hr
  tk := takes_of rfl rfl rfl rfl
  po := passes_of rfl
/-- a def's own frame -/
structure Frm (X : Cx) : Prop where
  stk : X.stack = X.env :: X.outer
  fr : X.env.frame = some X.env.locals
theorem fn_ok {Pf : PF} (F : FunD K x qual params body sc [] [] f fd) (Sc : FnScope N ps sc) (len : ∀ ds Q E, Pf ds Q E → ds.length = ps.length) (hv : chkB (locB sc) N vs = true)
    (hbody : ∀ X W, Cxt P w K mg base sc N vs vs k X W → Frm X → ∀ ds Q E, Pf ds Q E → SW X W body (args (ds.map S.d) N.length) (fun _ => Q (.d .none)) (fun _ r => Q r) (fun _ y => E y)) : FnOk P w K mg base (L2.CX P w) (k + 1) f fd ps (spP K Pf) := by
  refine F.ok Sc (fun vs H Q E h => ?_) (fun cdv A outer s H vs Q E hr h => ?_)
  · obtain ⟨F, ds, Qd, Ed, _, dd, pf, _⟩ := h
    rw [dd.length]
    exact len ds Qd Ed pf
  · obtain ⟨F0, ds, Qd, Ed, ex, dd, pf, kq, ke⟩ := h
    have C := cxt_of (P := P) (w := w) (K := K) (mg := mg) (base := base) (outer := outer) (s := s) (H := H) (E := E) (cdv := cdv) (f := f) (qual := qual) Sc hv hr
    refine ⟨_, pss_w, ?_⟩
    have hl : ds.length = ps.length := len ds Qd Ed pf
    have no : ∀ a, ¬ Owns (args (ds.map S.d) N.length) a := fun a ⟨i, o, q⟩ => by
      have z := args_get q
      rw [List.getElem?_map] at z
      cases e : ds[i]? with
      | none =>
        rw [e] at z
        cases z
      | some y =>
        rw [e] at z
        cases z
    have wd : Wd K F0 H (args (ds.map S.d) N.length) := ⟨ex, fun i a o q => absurd ⟨i, o, q⟩ (no a), fun i _ a o _ q _ => absurd ⟨i, o, q⟩ (no a)⟩
    have sl : Sl K F0 (L2.start N vs) (args (ds.map S.d) N.length) := by
      refine ⟨?_, fun i z q => ?_⟩
      · rw [start_len (by rw [dd.length, hl]; exact ps_le Sc), args_len (by rw [List.length_map, hl]; exact ps_le Sc)]
      · have z2 := args_get q
        rw [List.getElem?_map] at z2
        cases e : ds[i]? with
        | none =>
          rw [e] at z2
          cases z2
        | some y =>
          rw [e] at z2
          cases z2
          obtain ⟨v, h1, h2⟩ := dd.get e
          exact ⟨v, start_get h1, h2⟩
    have gr : ∀ {F' H' : Hp} {ρ' : Rho}, Stp (args (ds.map S.d) N.length) ρ' F0 H F' H' → Wd K F' H' ρ' → Gr F0 H F' H' := fun st wd' => ⟨st.ex, fun a o q => st.keep a o q (no a), wd'.sub, fun a o q q' => st.fr a o q q' (no a)⟩
    refine hbody _ _ C ⟨rfl, rfl⟩ ds Qd Ed pf F0 H _ _ wd sl (fun F' H' σ' ρ' y xd st wd' sl' xa e => ?_) (fun F' H' σ' ρ' st wd' sl' n => ?_) (fun F' H' ρ' v d st wd' rt r => ?_)
    · exact ke F' H' y xd (gr st wd') xa e
    · exact kq F' H' .non (.d .none) (gr st wd') .non n
    · refine kq F' H' v d (gr st wd') ?_ r
      cases d with
      | d d => exact rt
      | new o =>
        obtain ⟨q, ho, e, h0, f, _, h⟩ := rt
        exact ⟨q, ho, e, .inl (h0.resolve_right (no q)), f, fun ⟨j, o', z⟩ => by simp at z, h⟩
      | nest dss =>
        obtain ⟨p, as, e, h0, f, _, hh, nd, hl, each⟩ := rt
        refine ⟨p, as, e, h0, f, fun ⟨j, o', z⟩ => by simp at z, hh, nd, hl, fun i a ds ha hd => ?_⟩
        obtain ⟨g0, g1, _, g2⟩ := each i a ds ha hd
        exact ⟨g0, g1, fun ⟨j, o', z⟩ => by simp at z, g2⟩
end
/-! ### list comprehensions -/
section
variable {P : Program} {w : World} {K : PySem.W.Frag} {mg : Str → Option Value} {base : Heap} {sc scope : Scope} {N : List Str} {vs ls vb lb : List Bool} {k : Nat} {X : Cx} {W : WX} {ρ : Rho} {E : XQ} {e elt iter : Expr} {ifs : List Expr} {pos p px : Pos} {x : Str} {i : Nat}
abbrev W0 : WX := fun _ _ _ _ => False
/-- the block of a comprehension, where it runs -/
theorem Cxt.blk (C : Cxt P w K mg base sc N vs ls k X W) (hv : chkB (visB (relS scope sc)) N vb = true) (hl : chkB (locB scope) N lb = true) (s : Shared) (H : Hp) (A : Addr) (cl : List (Str × Addr)) (fp : List Addr) :
    Cxt P w K mg base (relS scope sc) N vb lb k (X.blk s H scope (compEnvC scope cl A X.env) fp) W0 where
  eP := C.eP
  ew := C.ew
  eK := C.eK
  eg := C.eg
  eb := C.eb
  eN := C.eN
  nd := C.nd
  es := by
    rw [← C.es]
    rfl
  vis := fun i x h hb => vis_of (chkB_ok hv h hb)
  loc := fun i x h hb => by
    have z := chkB_ok hl h hb
    rcases loc_of z with q | q
    · have q2 : (relS scope sc).names.lookup x = some .local := lookup_relS_keep (by decide) q
      exact ⟨.inl q2, .inr q2⟩
    · have q2 : (relS scope sc).names.lookup x = some .cell := lookup_relS_keep (by decide) q
      refine ⟨.inr q2, .inl ?_⟩
      show (scope.names.lookup x == some NameKind.cell) = true
      rw [q]
      rfl
  calm := C.calm
  room := C.room
  tk := takes0
  po := PassesOwn.never
/-- the tests of a comprehension -/
def TsW (X : Cx) (ifs : List Expr) (ρ : Rho) (Q : Bool → Prop) : Prop := match ifs with
  | [] => Q true
  | [c] => TW X W0 c ρ (fun ρ1 b => ρ1 = ρ ∧ Q b) noX
  | _ => False
def WTs (X : Cx) (ifs : List Expr) : TT := fun σ H Q => ∀ pins s, Inv X pins σ H s →
    wpAny (model X.prog X.w) X.A (forIn ifs true fun c r => if r = true then do let ok ← isTrue c X.env (eval c X.env); pure (ForInStep.yield ok) else pure (ForInStep.yield r)) (TP X pins σ Q) X.xe s
theorem of_pts {t : TT} (q : PTs X ifs t) {σ : L2.St} {H : Hp} {Q : Bool → Hp → Prop} (h : t σ H Q) : WTs X ifs σ H Q := fun pins s I => q.run pins s σ H Q I h
theorem pts_w : PTs X ifs (WTs X ifs) := ⟨fun pins s _ _ _ I h => h pins s I⟩
theorem kx0 {F H : Hp} : Kx X.K W0 ρ F H noX := fun _ _ _ _ _ _ _ _ _ _ z => z
theorem tsw_ok {Q : Bool → Prop} (h : TsW X ifs ρ Q) {F H : Hp} {σ : L2.St} {R : Bool → Hp → Prop} (wd : Wd X.K F H ρ) (sl : Sl X.K F σ ρ) (kk : ∀ F' H' b, Stp ρ ρ F H F' H' → Wd X.K F' H' ρ → Sl X.K F' σ ρ → Q b → R b H') : WTs X ifs σ H R := by
  match ifs, h with
  | [], h => exact of_pts pts_nil (kk F H true Stp.refl wd sl h)
  | [c], h =>
    refine of_pts (pts_one pt_w) ?_
    refine h F H σ _ wd sl kx0 fun F1 H1 ρ1 b st1 wd1 sl1 q => ?_
    obtain ⟨rfl, q⟩ := q
    exact kk F1 H1 b st1 wd1 sl1 q
  | _ :: _ :: _, h => exact h.elim
/-- a piece of code in whatever block -/
def anyB (X : Cx) (scope : Scope) {α : Type} (t : Cx → α → Prop) : α → Prop := fun z => ∀ (s : Shared) (H : Hp) (A : Addr) (cl : List (Str × Addr)) (fp : List Addr), t (X.blk s H scope (compEnvC scope cl A X.env) fp) z
theorem wipe1 {σ : L2.St} {v : Option V} : wipe ((wipe σ [i]).set i v) [i] = wipe σ [i] := by
  show ((σ.set i none).set i v).set i none = σ.set i none
  rw [List.set_set, List.set_set]
theorem sl_in {F : Hp} {σ : L2.St} {v : V} {d : PyData} (s : Sl K F σ ρ) (hd : DD K F v d) : Sl K F ((wipe σ [i]).set i (some v)) (ρ.set i (some (.d d))) := by
  have e : (wipe σ [i]).set i (some v) = σ.set i (some v) := by
    show (σ.set i none).set i (some v) = _
    rw [List.set_set]
  rw [e]
  exact s.set hd
def NoOwn (ρ : Rho) (i : Nat) : Prop := ∀ a o, ρ[i]? ≠ some (some (S.own a o))
/-- the list at D grows beside -/
theorem Wd.side {F H : Hp} {D : Addr} {o : HO} (w : Wd K F H ρ) (f : F D = none) (n : ¬ Owns ρ D) : Wd K F (upd H D o) ρ where
  sub := fun a u q => by
    rw [upd_ne (ne_of_none q f)]
    exact w.sub a u q
  own := fun j a u q => by
    obtain ⟨h1, ho, h2, h3⟩ := w.own j a u q
    have ne : a ≠ D := fun z => n (z ▸ ⟨j, u, q⟩)
    exact ⟨h1, ho, by rw [upd_ne ne]; exact h2, h3⟩
  dis := w.dis
abbrev LcTurn (P : Program) (w : World) (K : PySem.W.Frag) (mg : Str → Option Value) (base : Heap) (sc' : Scope) (N : List Str) (vb lb : List Bool) (k : Nat) (ifs : List Expr) (elt : Expr) (ρ : Rho) (I I' : List PyData → Prop) (acc : List PyData) : Prop := ∀ Xb, Cxt P w K mg base sc' N vb lb k Xb W0 →
  TsW Xb ifs ρ (fun b => (b = true → ∀ Xe, Cxt P w K mg base sc' N vb lb k Xe W0 → EW Xe W0 elt ρ (fun ρ4 y => ρ4 = ρ ∧ I' (acc ++ [y])) noX) ∧ (b = false → I' acc))
theorem lc_read (C : Cxt P w K mg base sc N vs ls k X W) [sx : Slot N x i] {Q : Rho → List PyData → Prop}
    (h : IW X W (.Name x px) iter ρ (fun ρ1 ds => ds.length ≤ 16777216 ∧ NoOwn ρ1 i ∧ ∃ I : Nat → List PyData → Prop, I 0 [] ∧ (∀ n d acc, ds[n]? = some d → I n acc → ∀ Xb, Cxt P w K mg base (relS scope sc) N vb lb k Xb W0 →
        TsW Xb ifs (ρ1.set i (some (.d d))) (fun b => (b = true → ∀ Xe, Cxt P w K mg base (relS scope sc) N vb lb k Xe W0 → EW Xe W0 elt (ρ1.set i (some (.d d))) (fun ρ4 y => ρ4 = ρ1.set i (some (.d d)) ∧ I (n + 1) (acc ++ [y])) noX) ∧ (b = false → I (n + 1) acc))) ∧ ∀ acc, I ds.length acc → Q ρ1 acc) E)
    (hv : chkB (visB (relS scope sc)) N vb = true) (hl : chkB (locB scope) N lb = true) {F H : Hp} {σ : L2.St} {R : VK} (wd : Wd X.K F H ρ) (sl : Sl X.K F σ ρ) (kx : Kx X.K W ρ F H E)
    (kk : ∀ F' H' ρ' p xs ds, Stp ρ ρ' F H F' H' → Wd X.K F' H' ρ' → Sl X.K F' σ ρ' → H p = none → F' p = none → ¬ Owns ρ' p → H' p = some (.lst xs) → DDs X.K F' xs ds → Q ρ' ds → R (.ref p) H') :
    tLc (WIx X (.Name x px) iter) (gName i) (fun σ H Q => anyB X scope (fun Xb (_ : Unit) => WTs Xb ifs σ H Q) ()) (fun σ H Q => anyB X scope (fun Xb (_ : Unit) => WEx Xb elt σ H Q) ()) [i] σ H R := by
  refine h F H σ _ wd sl kx fun F1 H1 ρ1 J ds st1 wd1 sl1 it q => ?_
  obtain ⟨hlen, hno, I, i0, turn, fin⟩ := q
  intro D hD
  have hF1 : F1 D = none := wd1.sub.none hD
  have hnD : ¬ Owns ρ1 D := fun ⟨j, o, q⟩ => by
    obtain ⟨_, ho, h2, _⟩ := wd1.own j D o q
    rw [hD] at h2
    cases h2
  -- what holds ahead of each turn: the heaps, the list so far
  refine ⟨fun n m H2 => m = ds.length - n ∧ n ≤ ds.length ∧ ∃ F2 xs acc, Stp ρ1 ρ1 F1 H1 F2 H2 ∧ Wd X.K F2 H2 ρ1 ∧ F2 D = none ∧ H2 D = some (.lst xs) ∧ DDs X.K F2 xs acc ∧ acc.length ≤ n ∧ I n acc,
    ⟨_, rfl, Nat.zero_le _, F1, [], [], ⟨Ex.refl _, fun a o q _ => ?_, fun _ _ f _ _ => f, fun _ q => .inl q, fun a q => ?_⟩, wd1.side hF1 hnD, hF1, upd_same, .nil, Nat.le_refl _, i0⟩, ?_⟩
  · rw [upd_ne (ne_of_none q hD)]
    exact q
  · by_cases z : a = D
    · rw [z]
      exact hD
    · rw [upd_ne z] at q
      exact q
  rintro n m H2 ⟨rfl, hn, F2, xs, acc, st2, wd2, f2, h2, dd2, hacc, i2⟩
  have st12 := st1.trans st2
  have sl2 : Sl X.K F2 σ ρ1 := sl1.mono st2.ex
  by_cases hlt : n < ds.length
  · refine .inr ⟨it.go F2 H2 n st2.ex wd2.sub hlt, fun H3 => ∃ F3 xs acc, Stp ρ1 ρ1 F1 H1 F3 H3 ∧ Wd X.K F3 H3 ρ1 ∧ F3 D = none ∧ H3 D = some (.lst xs) ∧ DDs X.K F3 xs acc ∧ acc.length ≤ n + 1 ∧ I (n + 1) acc, fun H3 hh => ⟨_, by omega, rfl, hlt, hh⟩, fun y H3 hy => ?_⟩
    have hd : ds[n]? = some ds[n] := List.getElem?_eq_getElem hlt
    obtain ⟨F3, g, dd3⟩ := it.yld F2 H2 n y H3 _ st2.ex wd2.sub hd hy
    have f3 : F3 D = none := g.fr D _ f2 h2
    have h3 : H3 D = some (.lst xs) := g.exH D _ h2
    have wd3 := wd2.gr g
    have sl3 : Sl X.K F3 σ ρ1 := sl2.mono g.ex
    have hnb : ∀ a, Owns (ρ1.set i (some (.d ds[n]))) a ↔ Owns ρ1 a := fun a => ⟨fun ⟨j, o, q⟩ => ⟨j, o, set_own noD q⟩, fun ⟨j, o, q⟩ => ⟨j, o, by
      rw [List.getElem?_set]
      split
      · rename_i e
        subst e
        exact absurd q (hno a o)
      · exact q⟩⟩
    have slb : Sl X.K F3 ((wipe σ [i]).set i (some y)) (ρ1.set i (some (.d ds[n]))) := sl_in sl3 dd3
    have wdb : Wd X.K F3 H3 (ρ1.set i (some (.d ds[n]))) := wd3.set noD
    -- a step within the block is one outside
    have back : ∀ {F4 H4 : Hp}, Stp (ρ1.set i (some (.d ds[n]))) (ρ1.set i (some (.d ds[n]))) F3 H3 F4 H4 → Wd X.K F4 H4 (ρ1.set i (some (.d ds[n]))) → Stp ρ1 ρ1 F1 H1 F4 H4 ∧ Wd X.K F4 H4 ρ1 ∧ F4 D = none ∧ H4 D = some (.lst xs) := by
      intro F4 H4 st4 wd4
      have nb : ¬ Owns (ρ1.set i (some (.d ds[n]))) D := fun q => hnD ((hnb D).mp q)
      have s4 : Stp ρ1 ρ1 F3 H3 F4 H4 := ⟨st4.ex, fun a o q z => st4.keep a o q (fun zz => z ((hnb a).mp zz)), fun a o f q z => st4.fr a o f q (fun zz => z ((hnb a).mp zz)), fun a q => .inl q, st4.all⟩
      refine ⟨(st2.trans g.stp).trans s4, ⟨wd4.sub, fun j a o q => ?_, wd1.dis⟩, st4.fr D _ f3 h3 nb, st4.keep D _ h3 nb⟩
      refine wd4.own j a o ?_
      rw [List.getElem?_set]
      split
      · rename_i e
        subst e
        exact absurd q (hno a o)
      · exact q
    refine ⟨wipe1, fun s0 Hs A cl fp => ?_⟩
    have Cb := C.blk (scope := scope) (vb := vb) (lb := lb) hv hl s0 Hs A cl fp
    refine tsw_ok (turn n _ acc hd i2 _ Cb) wdb slb fun F4 H4 b st4 wd4 sl4 q => ?_
    cases b with
    | true =>
      rw [if_pos rfl]
      intro s0 Hs A cl fp
      have Cb := C.blk (scope := scope) (vb := vb) (lb := lb) hv hl s0 Hs A cl fp
      refine q.1 rfl _ Cb F4 H4 _ _ wd4 sl4 kx0 fun F5 H5 ρ5 z dz st5 wd5 sl5 dd5 q5 => ?_
      obtain ⟨rfl, q5⟩ := q5
      obtain ⟨s5, w5, f5, h5⟩ := back (st4.trans st5) wd5
      refine ⟨xs, h5, ?_, F5, xs ++ [z], acc ++ [dz], ?_, w5.side f5 hnD, f5, upd_same, (dd2.mono (g.ex.trans (st4.ex.trans st5.ex))).append (.cons dd5 .nil), by rw [List.length_append]; show acc.length + 1 ≤ n + 1; omega, q5⟩
      · rw [dd2.length, sizeLine_eq]
        omega
      · refine ⟨s5.ex, fun a o q z => ?_, s5.fr, s5.own, fun a q => ?_⟩
        · have ne : a ≠ D := ne_of_none q hD
          rw [upd_ne ne]
          exact s5.keep a o q z
        · by_cases z : a = D
          · rw [z]
            exact hD
          · rw [upd_ne z] at q
            exact s5.all a q
    | false =>
      rw [if_neg Bool.false_ne_true]
      obtain ⟨s5, w5, f5, h5⟩ := back st4 wd4
      exact ⟨F4, xs, acc, s5, w5, f5, h5, dd2.mono (g.ex.trans st4.ex), by omega, q.2 rfl⟩
  · have e : n = ds.length := by omega
    subst e
    refine .inl ⟨it.stop F2 H2 st2.ex wd2.sub, ?_⟩
    exact kk F2 H2 ρ1 D xs acc st12 wd2 sl2 (st1.all D hD) f2 hnD h2 dd2 (fin acc i2)
end
end Bp

namespace Bp
open PySem PySem.Spec PyProof.Rows L2
/-! ### isinstance -/
def tyD : PyData → String
  | .none => "NoneType"
  | .bool _ => "bool"
  | .int _ => "int"
  | .str _ => "str"
  | .list _ => "list"
  | .tuple _ => "tuple"
  | .dict _ => "dict"
/-- is data of this kind an instance of the built-in class -/
def isi (d : PyData) (T : String) : Bool := (kitB (tyD d) T).getD false
section
variable {P : Program} {w : World} {K : PySem.W.Frag} {mg : Str → Option Value} {base : Heap} {sc : Scope} {N : List Str} {vs ls : List Bool} {k : Nat} {X : Cx} {W : WX} {ρ : Rho} {Q : Rho → PyData → Prop} {E : XQ} {a b c e : Expr} {es : List Expr} {pos p p2 : Pos} {x y : Str} {i : Nat}
/-! ### new lists -/
/-- an expression that makes a new list -/
def EN (X : Cx) (W : WX) (e : Expr) (ρ : Rho) (Q : Rho → List PyData → Prop) (E : XQ) : Prop := ∀ F H σ (R : VK), Wd X.K F H ρ → Sl X.K F σ ρ → Kx X.K W ρ F H E →
  (∀ F' H' ρ' p xs ds, Stp ρ ρ' F H F' H' → Wd X.K F' H' ρ' → Sl X.K F' σ ρ' → H p = none → F' p = none → ¬ Owns ρ' p → H' p = some (.lst xs) → DDs X.K F' xs ds → Q ρ' ds → R (.ref p) H') → WEx X e σ H R
theorem ew_en (h : EN X W e ρ (fun ρ1 ds => Q ρ1 (.list ds)) E) : EW X W e ρ Q E := by
  intro F H σ R wd sl kx kk
  refine h F H σ _ wd sl kx fun F1 H1 ρ1 p xs ds st1 wd1 sl1 hp fp np hh dd q => ?_
  obtain ⟨s2, w2, e2, d2⟩ := frz st1 wd1 (.inl hp) fp np hh dd
  exact kk _ H1 ρ1 _ _ s2 w2 (sl1.mono e2) d2 q
theorem en_lst {Q : Rho → List PyData → Prop} (h : AW X W es ρ (fun ρ1 ds => ds.length ≤ 16777216 ∧ Q ρ1 ds) E) : EN X W (.List es pos) ρ Q E := by
  intro F H σ R wd sl kx kk
  refine of_pe (pe_lst pa_w) ?_
  refine h F H σ _ wd sl kx fun F1 H1 ρ1 vs ds st1 wd1 sl1 dd1 h1 => ?_
  refine ⟨by rw [dd1.length, sizeLine_eq]; exact h1.1, fun p hp => ?_⟩
  have g : Gr F1 H1 F1 (upd H1 p (.lst vs)) := Gr.side wd1.sub hp
  refine kk F1 _ ρ1 p vs ds (st1.trans g.stp) (wd1.gr g) sl1 (st1.all p hp) (wd1.sub.none hp) (fun ⟨j, o, q⟩ => ?_) upd_same dd1 h1.2
  obtain ⟨_, ho, h2, _⟩ := wd1.own j p o q
  rw [hp] at h2
  cases h2
theorem ew_lst (h : AW X W es ρ (fun ρ1 ds => ds.length ≤ 16777216 ∧ Q ρ1 (.list ds)) E) : EW X W (.List es pos) ρ Q E := ew_en (en_lst h)
end
section
variable {P : Program} {w : World} {K : PySem.W.Frag} {mg : Str → Option Value} {base : Heap} {sc scope : Scope} {N : List Str} {vs ls vb lb : List Bool} {k : Nat} {X : Cx} {W : WX} {ρ : Rho} {E : XQ} {e elt iter : Expr} {ifs : List Expr} {pos p px py spos : Pos} {x y : Str} {i j : Nat}
/-- the comprehension's own word: what it walks, what it makes -/
abbrev LcW (P : Program) (w : World) (K : PySem.W.Frag) (mg : Str → Option Value) (base : Heap) (sc scope : Scope) (N : List Str) (vb lb : List Bool) (k : Nat) (X : Cx) (W : WX) (tg iter : Expr) (i : Nat) (ifs : List Expr) (elt : Expr) (ρ : Rho) (Q : Rho → List PyData → Prop) (E : XQ) : Prop :=
  IW X W tg iter ρ (fun ρ1 ds => ds.length ≤ 16777216 ∧ NoOwn ρ1 i ∧ ∃ I : Nat → List PyData → Prop, I 0 [] ∧ (∀ n d acc, ds[n]? = some d → I n acc → LcTurn P w K mg base (relS scope sc) N vb lb k ifs elt (ρ1.set i (some (.d d))) (I n) (I (n + 1)) acc) ∧ ∀ acc, I ds.length acc → Q ρ1 acc) E
theorem own1_ok (hx : N[i]? = some x) (hb : blkC N sc scope [(x, i)] = true) : BlkOk N sc scope [(x, i)] := blkOk_by hb
theorem en_lc (C : Cxt P w K mg base sc N vs ls k X W) [sx : Slot N x i] {Q : Rho → List PyData → Prop} (h : LcW P w K mg base sc scope N vb lb k X W (.Name x px) iter i ifs elt ρ Q E) (hv : chkB (visB (relS scope sc)) N vb = true := by decide +kernel) (hl : chkB (locB scope) N lb = true := by decide +kernel)
    (hb : blkC N sc scope [(x, i)] = true := by decide +kernel) (hli : lb[i]? = some true := by with_unfolding_all rfl) (hs : ∀ x, foldedSetIterable iter X.env x = pure x := by intro _; with_unfolding_all rfl) : EN X W (.ListComp elt [⟨.Name x px, iter, ifs, 0⟩] scope pos) ρ Q E := by
  intro F H σ R wd sl kx kk
  have ok : BlkOk X.N X.env.scope scope [(x, i)] := by
    rw [C.eN, C.es]
    exact blkOk_by hb
  refine of_pe (pe_lc (own := [(x, i)]) (g := gName i) C.calm (by rw [C.eN]; exact C.nd) pi_w ok (fun s H A cl fp => ?_) (fun s H A cl fp => ?_) (fun s H A cl fp => ?_) hs) (lc_read C h hv hl wd sl kx kk)
  · have Cb := C.blk (scope := scope) (vb := vb) (lb := lb) hv hl s H A cl fp
    exact pg_name (by rw [Cb.eN]; exact Cb.nd) (by rw [Cb.eN]; exact sx.get) (Cb.lo sx.get hli) (Cb.st sx.get hli)
  · exact ⟨fun pins s' σ' H' Q' I' h' => h' s H A cl fp pins s' I'⟩
  · exact ⟨fun pins s' σ' H' Q' I' h' => h' s H A cl fp pins s' I'⟩
theorem ew_lc (C : Cxt P w K mg base sc N vs ls k X W) [sx : Slot N x i] {Q : Rho → PyData → Prop} (h : LcW P w K mg base sc scope N vb lb k X W (.Name x px) iter i ifs elt ρ (fun ρ1 ds => Q ρ1 (.list ds)) E) (hv : chkB (visB (relS scope sc)) N vb = true := by decide +kernel) (hl : chkB (locB scope) N lb = true := by decide +kernel)
    (hb : blkC N sc scope [(x, i)] = true := by decide +kernel) (hli : lb[i]? = some true := by with_unfolding_all rfl) (hs : ∀ x, foldedSetIterable iter X.env x = pure x := by intro _; with_unfolding_all rfl) : EW X W (.ListComp elt [⟨.Name x px, iter, ifs, 0⟩] scope pos) ρ Q E := ew_en (en_lc C h hv hl hb hli hs)
/-- y = [..] -/
theorem s1_setLc (C : Cxt P w K mg base sc N vs ls k X W) [sx : Slot N x i] [sy : Slot N y j] {Nx : Rho → Prop} {R : Rho → Ret → Prop} (h : LcW P w K mg base sc scope N vb lb k X W (.Name x px) iter i ifs elt ρ (fun ρ1 ds => Nx (ρ1.set j (some (.d (.list ds))))) E) (hv : chkB (visB (relS scope sc)) N vb = true := by decide +kernel) (hl : chkB (locB scope) N lb = true := by decide +kernel)
    (hb : blkC N sc scope [(x, i)] = true := by decide +kernel) (hli : lb[i]? = some true := by with_unfolding_all rfl) (hs : ∀ x, foldedSetIterable iter X.env x = pure x := by intro _; with_unfolding_all rfl)
    (hk : sc.kind = .function := by with_unfolding_all rfl) (hy : sc.names.lookup y = some .local := by decide +kernel) (hln : (py.line == pos.line) = true := by with_unfolding_all rfl) (hany : (scope.names.any fun (n, k) => n == y && (k == .local || k == .cell)) = false := by decide +kernel) :
    S1 X W (.Assign [.Name y py] (.ListComp elt [⟨.Name x px, iter, ifs, 0⟩] scope pos) spos) ρ Nx R E := by
  intro F H σ D wd sl kx kn kr
  have ok : BlkOk X.N X.env.scope scope [(x, i)] := by
    rw [C.eN, C.es]
    exact blkOk_by hb
  have hyl : X.env.scope.names.lookup y = some .local := by
    rw [C.es]
    exact hy
  have hk2 : X.env.scope.kind = .function := by
    rw [C.es]
    exact hk
  refine of_ps (ps_setLc (i := j) (own := [(x, i)]) (g := gName i) C.calm (by rw [C.eN]; exact C.nd) (by rw [C.eN]; exact sy.get) hyl (sw_true hk2 hyl hln hany) pi_w ok (fun s H A cl fp => ?_) (fun s H A cl fp => ?_) (fun s H A cl fp => ?_) hs) (lc_read C h hv hl wd sl kx fun F1 H1 ρ1 p xs ds st1 wd1 sl1 hp fp np hh dd q => ?_)
  · have Cb := C.blk (scope := scope) (vb := vb) (lb := lb) hv hl s H A cl fp
    exact pg_name (by rw [Cb.eN]; exact Cb.nd) (by rw [Cb.eN]; exact sx.get) (Cb.lo sx.get hli) (Cb.st sx.get hli)
  · exact ⟨fun pins s' σ' H' Q' I' h' => h' s H A cl fp pins s' I'⟩
  · exact ⟨fun pins s' σ' H' Q' I' h' => h' s H A cl fp pins s' I'⟩
  · obtain ⟨s2, w2, e2, d2⟩ := frz st1 wd1 (.inl hp) fp np hh dd
    exact kn _ _ _ _ (s2.trans (Stp.set noD)) (w2.set noD) ((sl1.mono e2).set d2) q
end
end Bp

namespace Bp
open PySem PySem.Spec PyProof.Rows L2
/-! ### both ways of a test -/
theorem brT {k : Bool} {A B : Prop} (h : k = true) (a : A) : (k = true → A) ∧ (k = false → B) := ⟨fun _ => a, fun z => by rw [h] at z; cases z⟩
theorem brF {k : Bool} {A B : Prop} (h : k = false) (b : B) : (k = true → A) ∧ (k = false → B) := ⟨fun z => (by rw [h] at z; cases z), fun _ => b⟩
theorem brT' {k : Bool} {A B : Prop} (h : k = true) (a : A) : (k = false → B) ∧ (k = true → A) := ⟨fun z => (by rw [h] at z; cases z), fun _ => a⟩
theorem brF' {k : Bool} {A B : Prop} (h : k = false) (b : B) : (k = false → B) ∧ (k = true → A) := ⟨fun _ => b, fun z => by rw [h] at z; cases z⟩
/-! ### kinds -/
def dInt : PyData → Bool
  | .int _ => true
  | .bool _ => true
  | _ => false
def dBool : PyData → Bool
  | .bool _ => true
  | _ => false
def dStr : PyData → Bool
  | .str _ => true
  | _ => false
def dTup : PyData → Bool
  | .tuple _ => true
  | _ => false
def dLst : PyData → Bool
  | .list _ => true
  | _ => false
def dDic : PyData → Bool
  | .dict _ => true
  | _ => false
theorem kit_int : ∀ d : PyData, kitB (tyD d) "int" = some (dInt d)
  | .none => (by decide +kernel : kitB "NoneType" "int" = some false)
  | .bool _ => (by decide +kernel : kitB "bool" "int" = some true)
  | .int _ => (by decide +kernel : kitB "int" "int" = some true)
  | .str _ => (by decide +kernel : kitB "str" "int" = some false)
  | .list _ => (by decide +kernel : kitB "list" "int" = some false)
  | .tuple _ => (by decide +kernel : kitB "tuple" "int" = some false)
  | .dict _ => (by decide +kernel : kitB "dict" "int" = some false)
theorem kit_bool : ∀ d : PyData, kitB (tyD d) "bool" = some (dBool d)
  | .none => (by decide +kernel : kitB "NoneType" "bool" = some false)
  | .bool _ => (by decide +kernel : kitB "bool" "bool" = some true)
  | .int _ => (by decide +kernel : kitB "int" "bool" = some false)
  | .str _ => (by decide +kernel : kitB "str" "bool" = some false)
  | .list _ => (by decide +kernel : kitB "list" "bool" = some false)
  | .tuple _ => (by decide +kernel : kitB "tuple" "bool" = some false)
  | .dict _ => (by decide +kernel : kitB "dict" "bool" = some false)
theorem kit_str : ∀ d : PyData, kitB (tyD d) "str" = some (dStr d)
  | .none => (by decide +kernel : kitB "NoneType" "str" = some false)
  | .bool _ => (by decide +kernel : kitB "bool" "str" = some false)
  | .int _ => (by decide +kernel : kitB "int" "str" = some false)
  | .str _ => (by decide +kernel : kitB "str" "str" = some true)
  | .list _ => (by decide +kernel : kitB "list" "str" = some false)
  | .tuple _ => (by decide +kernel : kitB "tuple" "str" = some false)
  | .dict _ => (by decide +kernel : kitB "dict" "str" = some false)
theorem kit_tup : ∀ d : PyData, kitB (tyD d) "tuple" = some (dTup d)
  | .none => (by decide +kernel : kitB "NoneType" "tuple" = some false)
  | .bool _ => (by decide +kernel : kitB "bool" "tuple" = some false)
  | .int _ => (by decide +kernel : kitB "int" "tuple" = some false)
  | .str _ => (by decide +kernel : kitB "str" "tuple" = some false)
  | .list _ => (by decide +kernel : kitB "list" "tuple" = some false)
  | .tuple _ => (by decide +kernel : kitB "tuple" "tuple" = some true)
  | .dict _ => (by decide +kernel : kitB "dict" "tuple" = some false)
theorem kit_lst : ∀ d : PyData, kitB (tyD d) "list" = some (dLst d)
  | .none => (by decide +kernel : kitB "NoneType" "list" = some false)
  | .bool _ => (by decide +kernel : kitB "bool" "list" = some false)
  | .int _ => (by decide +kernel : kitB "int" "list" = some false)
  | .str _ => (by decide +kernel : kitB "str" "list" = some false)
  | .list _ => (by decide +kernel : kitB "list" "list" = some true)
  | .tuple _ => (by decide +kernel : kitB "tuple" "list" = some false)
  | .dict _ => (by decide +kernel : kitB "dict" "list" = some false)
theorem kit_dic : ∀ d : PyData, kitB (tyD d) "dict" = some (dDic d)
  | .none => (by decide +kernel : kitB "NoneType" "dict" = some false)
  | .bool _ => (by decide +kernel : kitB "bool" "dict" = some false)
  | .int _ => (by decide +kernel : kitB "int" "dict" = some false)
  | .str _ => (by decide +kernel : kitB "str" "dict" = some false)
  | .list _ => (by decide +kernel : kitB "list" "dict" = some false)
  | .tuple _ => (by decide +kernel : kitB "tuple" "dict" = some false)
  | .dict _ => (by decide +kernel : kitB "dict" "dict" = some true)
/-- the built-in names that the module leaves as they are -/
structure Blt (mg : Str → Option Value) : Prop where
  isinstance : mg "isinstance" = none
  int : mg "int" = none
  bool : mg "bool" = none
  str : mg "str" = none
  tuple : mg "tuple" = none
  list : mg "list" = none
  dict : mg "dict" = none
  set : mg "set" = none
  len : mg "len" = none
  range : mg "range" = none
  enumerate : mg "enumerate" = none
  max : mg "max" = none
  min : mg "min" = none
  sorted : mg "sorted" = none
  all : mg "all" = none
  any : mg "any" = none
  abs : mg "abs" = none
section
variable {P : Program} {w : World} {K : PySem.W.Frag} {mg : Str → Option Value} {base : Heap} {sc : Scope} {N : List Str} {vs ls : List Bool} {k : Nat} {X : Cx} {W : WX} {ρ : Rho} {Q : Rho → PyData → Prop} {E : XQ} {a b c e : Expr} {es : List Expr} {pos p p2 : Pos} {x y : Str} {i : Nat}
end
end Bp

namespace Bp
open PySem PySem.Spec PyProof.Rows L2
/-! ### raise -/
/-- the module's name x is an own class of errors without an own __init__ -/
structure ExC (K : PySem.W.Frag) (mg : Str → Option Value) (x : Str) (c : Addr) : Prop where
  ex : PySem.W.excIn K c [.type "ValueError", .type "Exception", .type "BaseException", .type "object"] "ValueError.__new__" = true
  gl : mg x = some (.ref c)
  kp : PySem.W.keepIn K (.ref c) = true
  sb : PySem.W.subIn K (.ref c) (.type "BaseException") = some true
  ty : PySem.W.typeIn K (.ref c) = some (.type "type")
theorem pmk_own0 {X : Cx} {C : Addr} {bmB : List Value} {B newId initId : String} {x : Str} {p pos : Pos} (F : ExcBaseFacts B newId initId bmB) (q : PySem.W.excIn X.K C bmB newId = true) (gC : X.mg x = some (.ref C))
    (kC : PySem.W.keepIn X.K (.ref C) = true) (r : Raises X (.ref C)) (hg : Gl X x) (hdb : (x == ("__debug__" : Str)) = false := by decide) :
    PMk X (.Call (.Name x p) [] [] pos) (fun σ H Q => Q (.ref C) none H) := by
  intro pins s σ H Q I h
  refine wpAny_Call_Name_kw (ld_glob I hg gC ?_ hdb)
  refine PySem.W.callWith_K0 I.kIn kC ?_
  obtain ⟨bm, N, nm, qn, bs, hdct, sn, sub, ab, col, dd, k0, k1, k2, k3, k5, mN, hC, hN, hni, T⟩ := exc_obj I.kIn q
  refine wpAny_call_exc_subT F T hC hN hni (fun h' e hm => ?_) (Nat.zero_le _)
  exact mk_of I hm r h (I.hok.gone hm.new)
section
variable {P : Program} {w : World} {K : PySem.W.Frag} {mg : Str → Option Value} {base : Heap} {sc : Scope} {N : List Str} {vs ls : List Bool} {k : Nat} {X : Cx} {W : WX} {ρ : Rho} {Nx : Rho → Prop} {R : Rho → Ret → Prop} {E : XQ} {a b c e : Expr} {es : List Expr} {pos p p2 : Pos} {x y : Str} {i : Nat}
theorem s1_raise0 (C : Cxt P w K mg base sc N vs ls k X W) {A : Addr} (T : ExC K mg x A) (q : E ρ ⟨A, none⟩) (hg : sc.names.lookup x = some .globalImplicit := by decide +kernel) (hdb : (x == ("__debug__" : Str)) = false := by decide) : S1 X W (.Raise (some (.Call (.Name x p) [] [] pos)) none p2) ρ Nx R E := by
  intro F H σ D wd sl kx kn kr
  have hgl := C.gl hg
  obtain ⟨rfl, rfl⟩ : X.K = K ∧ X.mg = mg := ⟨C.eK, C.eg⟩
  refine of_ps (ps_raise C.calm C.tk (pmk_own0 PySem.F.excBase_ValueError T.ex T.gl T.kp (raises_own T.sb T.ty) hgl hdb)) ?_
  exact kx F H σ ρ ⟨A, none⟩ none Stp.refl wd sl rfl q
/-! ### try .. except, clauses without names -/
/-- what an except suite does of an error y that is handled -/
def UW (X : Cx) (suite : List Stmt) (ρ : Rho) (y : Xc) (Nx : Rho → Prop) : Prop := ∀ (a : Addr) (oe : Obj) (pn : List (Addr × Obj)) (d : Option Addr), Zc (.ref y.cls) d oe → (∃ vs, oe.data = .fields vs) → ∀ F H σ (D : Ends), Wd X.K F H ρ → Sl X.K F σ ρ → XcAt X.K F H y d → H a = none →
  (∀ F' H' σ' ρ', Stp ρ ρ' F H F' H' → Wd X.K F' H' ρ' → Sl X.K F' σ' ρ' → Nx ρ' → D.nx σ' H') → WSs (X.suite a ((a, oe) :: pn)) suite D σ H
def HDW (X : Cx) : List (Value × List Stmt) → Rho → Xc → (Rho → Prop) → XQ → Prop
  | [], ρ, y, _, E => E ρ y
  | (c, suite) :: r, ρ, y, Nx, E => ∃ b, PySem.W.exmOne X.K (.ref y.cls) c = some b ∧ (b = true → UW X suite ρ y Nx) ∧ (b = false → HDW X r ρ y Nx E)
/-- the clauses' classes -/
inductive Hds (sc : Scope) (mg : Str → Option Value) : List ExceptHandler → List (Value × List Stmt) → Prop
  | nil : Hds sc mg [] []
  | cons {x : Str} {c : Value} {b₀ : Stmt} {suite : List Stmt} {np pos' : Pos} {hds : List ExceptHandler} {l : List (Value × List Stmt)} (hm : mg x = some c) (hg : sc.names.lookup x = some .globalImplicit) (hd : (x == ("__debug__" : Str)) = false) (r : Hds sc mg hds l) :
      Hds sc mg (.ExceptHandler (some (.Name x np)) none (b₀ :: suite) pos' :: hds) ((c, b₀ :: suite) :: l)
/-- the readings of the suites -/
def tsOf (X : Cx) (l : List (Value × List Stmt)) : List (Value × (Addr → Value → Option Addr → TS)) := l.map fun q => (q.1, fun a cls d D σ H => ∀ (oe : Obj) (pn : List (Addr × Obj)), Zc cls d oe → (∃ vs, oe.data = .fields vs) → WSs (X.suite a ((a, oe) :: pn)) q.2 D σ H)
theorem hds_ok (C : Cxt P w K mg base sc N vs ls k X W) : ∀ {hs : List ExceptHandler} {l : List (Value × List Stmt)}, Hds sc mg hs l → HdsOk X hs (tsOf X l)
  | _, _, .nil => .nil
  | _, _, .cons hm hg hd r => .cons ⟨C.gl hg, hd, .inl (by rw [C.eg]; exact hm)⟩ (fun a oe cls d pn hz hf => ⟨fun pins s σ H D I h => h oe pn hz hf pins s I⟩) (hds_ok C r)
theorem Cxt.tr (C : Cxt P w K mg base sc N vs ls k X W) {W' : WX} {pn : List (Addr × Obj)} {xe : Value → Shared → Prop} (tk : Takes (X.tr pn xe) W') (po : PassesOwn (model X.prog X.w) X.A X.env xe) : Cxt P w K mg base sc N vs ls k (X.tr pn xe) W' :=
  { eP := C.eP, ew := C.ew, eK := C.eK, eg := C.eg, eb := C.eb, eN := C.eN, nd := C.nd, es := C.es, vis := C.vis, loc := C.loc, calm := C.calm, room := C.room, tk := tk, po := po }
theorem s1_try (C : Cxt P w K mg base sc N vs ls k X W) (Fr : Frm X) {body : List Stmt} {h0 : ExceptHandler} {hds : List ExceptHandler} {l : List (Value × List Stmt)} (hh : Hds sc mg (h0 :: hds) l)
    (h : ∀ X' W', Cxt P w K mg base sc N vs ls k X' W' → Frm X' → SW X' W' body ρ Nx R (fun ρ' y => HDW X l ρ' y Nx E)) : S1 X W (.Try body (h0 :: hds) [] [] pos) ρ Nx R E := by
  intro F H σ D wd sl kx kn kr
  refine of_ps (ps_try_many (tb := fun W' => fun D σ H => ∀ pn xe, Takes (X.tr pn xe) W' → PassesOwn (model X.prog X.w) X.A X.env xe → WSs (X.tr pn xe) body D σ H) Fr.stk Fr.fr C.tk (fun W' pn xe tk po => ⟨fun pins s σ H D I hw => hw pn xe tk po pins s I⟩) (hds_ok C hh)) ?_
  intro pn xe tk po
  refine h (X.tr pn xe) _ (C.tr tk po) ⟨Fr.stk, Fr.fr⟩ F H σ D wd sl (fun F1 H1 σ1 ρ1 y xd st1 wd1 sl1 xa q => ?_) kn kr
  -- the clauses, one after another
  have go : ∀ l : List (Value × List Stmt), HDW X l ρ1 y Nx E → wMany X.K W D (tsOf X l) (.ref y.cls) xd σ1 H1 := by
    intro l
    induction l with
    | nil =>
      intro q
      exact kx F1 H1 σ1 ρ1 y xd st1 wd1 sl1 xa q
    | cons q r ih =>
      obtain ⟨cc, suite⟩ := q
      rintro ⟨b, hb, h1, h2⟩
      refine ⟨b, hb, fun eb a ha oe pn' hz hf => ?_, fun eb => ih (h2 eb)⟩
      exact h1 eb a oe pn' xd hz hf F1 H1 σ1 D wd1 sl1 xa ha fun F2 H2 σ2 ρ2 st2 wd2 sl2 n => kn F2 H2 σ2 ρ2 (st1.trans st2) wd2 sl2 n
  exact go l q
/-! suites: x = a constant -/
theorem uw_set (C : Cxt P w K mg base sc N vs ls k X W) [sx : Slot N x i] (hl : ls[i]? = some true) {y : Xc} {px : Pos} {d : PyData} {v : V} {ee : Expr} (he : ∀ X' : Cx, PE X' ee (tC v)) (hd : ∀ (K : PySem.W.Frag) F, DD K F v d) (n : Nx (ρ.set i (some (.d d))))
    (hs : ∀ env, swapsWith ee (some (.Name x px)) pos.line env = pure false := by intro _; with_unfolding_all rfl) : UW X [.Assign [.Name x px] ee pos] ρ y Nx := by
  intro a oe pn xd hz hf F H σ D wd sl xa ha kn
  refine of_pss (pss_one (ps_set (X := X.suite a ((a, oe) :: pn)) (i := i) (show X.N.Nodup by rw [C.eN]; exact C.nd) (show X.N[i]? = some x by rw [C.eN]; exact sx.get) (show Loc X.env.scope x from C.lo sx.get hl) (he _) (hs _) (show X.fn x = true ∨ X.env.scope.names.lookup x = some .local from C.st sx.get hl))) ?_
  exact kn F H _ _ (Stp.set noD) (wd.set noD) (sl.set (hd X.K F)) n
theorem uw_setS (C : Cxt P w K mg base sc N vs ls k X W) [sx : Slot N x i] {y : Xc} {px pc : Pos} {z : Str} {j : Nat} (hl : ls[i]? = some true) (n : Nx (ρ.set i (some (.d (.str z))))) : UW X [.Assign [.Name x px] (.Constant (.str z) j pc) pos] ρ y Nx := uw_set C hl (fun _ => pe_str) (fun _ _ => .str z) n
theorem uw_setB (C : Cxt P w K mg base sc N vs ls k X W) [sx : Slot N x i] {y : Xc} {px pc : Pos} {z : Bool} {j : Nat} (hl : ls[i]? = some true) (n : Nx (ρ.set i (some (.d (.bool z))))) : UW X [.Assign [.Name x px] (.Constant (.bool z) j pc) pos] ρ y Nx := uw_set C hl (fun _ => pe_bl) (fun _ _ => .bl z) n
end
end Bp

namespace Bp
open PySem PySem.Spec PyProof.Rows L2
section
variable {P : Program} {w : World} {K : PySem.W.Frag} {mg : Str → Option Value} {base : Heap} {sc : Scope} {N : List Str} {vs ls : List Bool} {k : Nat} {X : Cx} {W : WX} {ρ : Rho} {Q : Rho → PyData → Prop} {E : XQ} {Nx : Rho → Prop} {R : Rho → Ret → Prop} {a b c e : Expr} {es : List Expr} {pos p p2 p3 p4 px : Pos} {x y : Str} {i : Nat}
/-! ### len(set(e)), e a tuple of ints -/
theorem ew_lenSet (C : Cxt P w K mg base sc N vs ls k X W) (B : Blt mg) (h : EW X W e ρ (fun ρ1 d => ∃ ns : List Int, d = .tuple (ns.map PyData.int) ∧ ns.length ≤ 1000 ∧ ∀ out : List Int, out.Nodup → (∀ z, z ∈ out ↔ z ∈ ns) → Q ρ1 (.int out.length)) E)
    (hg : sc.names.lookup ("len" : Str) = some .globalImplicit := by decide +kernel) (hg2 : sc.names.lookup ("set" : Str) = some .globalImplicit := by decide +kernel) (na : starEach [e] X.env = (false, eval e X.env) :: starEach [] X.env := by with_unfolding_all rfl) :
    EW X W (.Call (.Name "len" p) [.Call (.Name "set" p2) [e] [] p3] [] pos) ρ Q E := by
  intro F H σ R wd sl kx kk pins s I
  refine Call_ (ld_blt I (C.gl hg) (by rw [C.eg]; exact B.len) boot_len ?_)
  refine PyProof.Rows.callWith_builtin1 (PyProof.Rows.args_cons ?_ rfl) rfl rfl
  refine Call_ (ld_blt I (C.gl hg2) (by rw [C.eg]; exact B.set) PyProof.Rows.boot_set ?_)
  refine PyProof.Rows.callWith_type1 (PyProof.Rows.args_cons (thn (h F H σ (fun v H1 => ∃ F1 ρ1 d, Stp ρ ρ1 F H F1 H1 ∧ Wd X.K F1 H1 ρ1 ∧ Sl X.K F1 σ ρ1 ∧ DD X.K F1 v d ∧ ∃ ns : List Int, d = .tuple (ns.map PyData.int) ∧ ns.length ≤ 1000 ∧ ∀ out : List Int, out.Nodup → (∀ z, z ∈ out ↔ z ∈ ns) → Q ρ1 (.int out.length)) wd sl kx (fun F1 H1 ρ1 v d st1 wd1 sl1 dd q => ⟨F1, ρ1, d, st1, wd1, sl1, dd, q⟩) pins s I) fun v s1 ⟨x, H1, I1, r1, q1⟩ => PyProof.Rows.args_nil ?_) na) na rfl
  obtain ⟨F1, ρ1, d, st1, wd1, sl1, dd, ns, rfl, hl, q⟩ := q1
  cases dd with
  | tup hq _ ds =>
    have z := ds.ints
    subst z
    cases r1
    obtain ⟨its, rv, pt, hz⟩ := I1.tuple (wd1.sub.sqt hq)
    refine call_set_tupI ns (I1.ok.hd C.calm) (show s1.heap.IsTuple _ its.toArray from pt) (ints_of_vals rv) (by unfold scanBound; omega) fun h' tk c R1 hcn kp => ?_
    refine PyProof.Rows.args_nil ?_
    obtain ⟨o, es, ep, t, ho, hex, hd, g, nd, hm, hb, hf, hn, _⟩ := R1
    have I2 : Inv X pins σ H1 { s1 with heap := h', toks := tk } := I1.kept fun b o e => kp b o e
    have e1 : es.size = (es.toList.map keyOf).length := by rw [List.length_map, Array.length_toList]
    have q1 := q (es.toList.map keyOf) nd fun z => by
      rw [← hm z]
      exact decide_eq_true_iff
    rw [← e1] at q1
    exact call_len_set ho hex hd hf (by rw [hn]; omega) ⟨.int es.size, H1, I2.tok _, ⟨_, rfl⟩, kk F1 H1 ρ1 _ _ st1 wd1 sl1 (.int _) q1⟩
/-! ### lists that are glued, new -/
theorem en_fin {Q : Rho → List PyData → Prop} {F H F2 H2 : Hp} {ρ2 : Rho} {σ : L2.St} {R : VK} {q : Addr} {xs : List V} {ds : List PyData}
    (kk : ∀ F' H' ρ' p xs ds, Stp ρ ρ' F H F' H' → Wd X.K F' H' ρ' → Sl X.K F' σ ρ' → H p = none → F' p = none → ¬ Owns ρ' p → H' p = some (.lst xs) → DDs X.K F' xs ds → Q ρ' ds → R (.ref p) H')
    (st : Stp ρ ρ2 F H F2 H2) (wd : Wd X.K F2 H2 ρ2) (sl : Sl X.K F2 σ ρ2) (hq : H2 q = none) (dd : DDs X.K F2 xs ds) (h : Q ρ2 ds) : R (.ref q) (upd H2 q (.lst xs)) := by
  have g : Gr F2 H2 F2 (upd H2 q (.lst xs)) := Gr.side wd.sub hq
  refine kk F2 _ ρ2 q xs ds (st.trans g.stp) (wd.gr g) sl (st.all q hq) (wd.sub.none hq) (fun ⟨j, o, z⟩ => ?_) upd_same dd h
  obtain ⟨_, ho, z2, _⟩ := wd.own j q o z
  rw [hq] at z2
  cases z2
theorem en_add {Q : Rho → List PyData → Prop} (h : EW X W a ρ (fun ρ1 x => ∃ xs, x = .list xs ∧ EW X W b ρ1 (fun ρ2 y => ∃ ys, y = .list ys ∧ xs.length + ys.length ≤ 16777216 ∧ Q ρ2 (xs ++ ys)) E) E) : EN X W (.BinOp a .Add b pos) ρ Q E := by
  intro F H σ R wd sl kx kk
  refine of_pe (pe_op op_cat pe_w pe_w) ?_
  refine h F H σ _ wd sl kx fun F1 H1 ρ1 x dx st1 wd1 sl1 dd1 h1 => ?_
  obtain ⟨xs, rfl, h1⟩ := h1
  refine h1 F1 H1 σ _ wd1 sl1 (kx.step st1) fun F2 H2 ρ2 y dy st2 wd2 sl2 dd2 h2 => ?_
  obtain ⟨ys, rfl, hl, q⟩ := h2
  cases dd1 with
  | lst q1 d1 =>
    cases dd2 with
    | lst q2 d2 =>
      refine ⟨_, _, _, _, rfl, rfl, wd2.sub _ _ (st2.ex _ _ q1), wd2.sub _ _ q2, by rw [d1.length, d2.length, sizeLine_eq]; exact hl, fun p hp => ?_⟩
      exact en_fin kk (st1.trans st2) wd2 sl2 hp ((d1.mono st2.ex).append d2) q
theorem s1_retN {Q : Rho → List PyData → Prop} (h : EN X W e ρ (fun ρ1 ds => R ρ1 (.d (.list ds))) E) : S1 X W (.Return (some e) pos) ρ Nx R E := s1_ret (ew_en h)
/-! ### slots that own -/
theorem Wd.own_set {F H : Hp} {q : Addr} {o : O} {ho : HO} (w : Wd K F H ρ) (f : F q = none) (n : ¬ Owns ρ q) (h : H q = some ho) (oo : OO K F ho o) : Wd K F H (ρ.set i (some (.own q o))) where
  sub := w.sub
  own := fun j a o' z => by
    rw [List.getElem?_set] at z
    split at z
    · split at z
      · cases z
        exact ⟨f, ho, h, oo⟩
      · cases z
    · exact w.own j a o' z
  dis := fun j l a o1 o2 z z' => by
    rw [List.getElem?_set] at z z'
    split at z
    · rename_i e
      split at z
      · cases z
        split at z'
        · rename_i e'
          rw [← e, ← e']
        · exact absurd ⟨l, o2, z'⟩ n
      · cases z
    · split at z'
      · rename_i e'
        split at z'
        · cases z'
          exact absurd ⟨j, o1, z⟩ n
        · cases z'
      · exact w.dis j l a o1 o2 z z'
theorem Sl.own_set {F : Hp} {σ : L2.St} {q : Addr} {o : O} (s : Sl K F σ ρ) : Sl K F (σ.set i (some (.ref q))) (ρ.set i (some (.own q o))) where
  len := by rw [List.length_set, List.length_set]; exact s.len
  get := fun j z t => by
    rw [List.getElem?_set] at t ⊢
    split at t
    · rename_i e
      split at t
      · rename_i hl
        cases (Option.some.inj (Option.some.inj t))
        rw [if_pos e, if_pos (by rw [s.len]; exact hl)]
        exact ⟨_, rfl, rfl⟩
      · cases t
    · rename_i e
      rw [if_neg e]
      exact s.get j z t
theorem owns_set {q a : Addr} {o : O} (h : Owns (ρ.set i (some (.own q o))) a) : Owns ρ a ∨ a = q := by
  obtain ⟨j, o', z⟩ := h
  rw [List.getElem?_set] at z
  split at z
  · split at z
    · cases z
      exact .inr rfl
    · cases z
  · exact .inl ⟨j, o', z⟩
/-- x = a new list, that the slot owns -/
theorem s1_own (C : Cxt P w K mg base sc N vs ls k X W) [sl : Slot N x i] (hl : ls[i]? = some true) (h : EN X W e ρ (fun ρ1 ds => ∀ q, Nx (ρ1.set i (some (.own q (.lst ds))))) E) (hs : swapsWith e (some (.Name x px)) pos.line X.env = pure false := by with_unfolding_all rfl) : S1 X W (.Assign [.Name x px] e pos) ρ Nx R E := by
  intro F H σ D wd st kx kn kr
  refine of_ps (ps_set (i := i) (by rw [C.eN]; exact C.nd) (by rw [C.eN]; exact sl.get) (C.lo sl.get hl) pe_w hs (C.st sl.get hl)) ?_
  refine h F H σ _ wd st kx fun F1 H1 ρ1 q xs ds st1 wd1 sl1 hp fp np hh dd n => ?_
  refine kn F1 H1 _ _ ⟨st1.ex, st1.keep, st1.fr, fun a z => ?_, st1.all⟩ (wd1.own_set (o := .lst ds) fp np hh ⟨xs, rfl, dd⟩) sl1.own_set (n q)
  rcases owns_set z with z | z
  · exact st1.own a z
  · rw [z]
    exact .inr hp
/-! ### a def whose first argument is an object of the caller's -/
abbrev PG1 := O → List PyData → (O → PyData → Prop) → (O → Xc → Prop) → Prop
/-- growth, but for the object at q -/
structure GrB (q : Addr) (F H F' H' : Hp) : Prop where
  ex : Ex F F'
  keep : ∀ a o, a ≠ q → H a = some o → H' a = some o
  sub : Ex F' H'
  fr : ∀ a o, a ≠ q → F a = none → H a = some o → F' a = none
  all : ∀ a, H' a = none → H a = none
def spO (K : PySem.W.Frag) (Pg : PG1) : Sp := fun vs H Q E => ∃ F q o vs' ds Qd Ed, vs = .ref q :: vs' ∧ Ex F H ∧ F q = none ∧ (∃ ho, H q = some ho ∧ OO K F ho o) ∧ DDs K F vs' ds ∧ Pg o ds Qd Ed ∧
  (∀ F' H' o' v d, GrB q F H F' H' → F' q = none → (∃ ho, H' q = some ho ∧ OO K F' ho o') → DD K F' v d → Qd o' d → Q v H') ∧
  ∀ F' H' o' x xd, GrB q F H F' H' → F' q = none → (∃ ho, H' q = some ho ∧ OO K F' ho o') → XcAt K F' H' x xd → Ed o' x → E (.ref x.cls) xd H'
def FnO (P : Program) (w : World) (K : PySem.W.Frag) (mg : Str → Option Value) (base : Heap) (j : Nat) (x : Str) (Pg : PG1) : Prop :=
  ∃ f fd ps, FnOk P w K mg base (L2.CX P w) j f fd ps (spO K Pg) ∧ mg x = some (.ref f) ∧ PySem.W.keepIn K (.ref f) = true ∧ Binds K fd ps []
theorem GrB.stp {q : Addr} {o o' : O} {F H F' H' : Hp} (g : GrB q F H F' H') (hq : ρ[i]? = some (some (S.own q o))) (hH : H q ≠ none) : Stp ρ (ρ.set i (some (.own q o'))) F H F' H' where
  ex := g.ex
  keep := fun a u h n => g.keep a u (fun z => n (z ▸ ⟨i, o, hq⟩)) h
  fr := fun a u f h n => g.fr a u (fun z => n (z ▸ ⟨i, o, hq⟩)) f h
  own := fun a z => by
    rcases owns_set z with z | z
    · exact .inl z
    · exact .inl (z ▸ ⟨i, o, hq⟩)
  all := g.all
theorem GrB.wd {q : Addr} {o o' : O} {F H F' H' : Hp} (g : GrB q F H F' H') (w : Wd K F H ρ) (hq : ρ[i]? = some (some (S.own q o))) (f : F' q = none) (oo : ∃ ho, H' q = some ho ∧ OO K F' ho o') : Wd K F' H' (ρ.set i (some (.own q o'))) where
  sub := g.sub
  own := fun j a u z => by
    rw [List.getElem?_set] at z
    split at z
    · split at z
      · cases z
        exact ⟨f, oo⟩
      · cases z
    · rename_i ne
      have na : a ≠ q := fun e => by
        subst e
        exact ne (w.dis i j a o u hq z)
      obtain ⟨h1, ho, h2, h3⟩ := w.own j a u z
      exact ⟨g.fr a ho na h1 h2, ho, g.keep a ho na h2, h3.mono g.ex⟩
  dis := fun j l a o1 o2 z z' => by
    rw [List.getElem?_set] at z z'
    split at z
    · rename_i e
      split at z
      · cases z
        split at z'
        · rename_i e'
          rw [← e, ← e']
        · exact e ▸ w.dis i l q o o2 hq z'
      · cases z
    · split at z'
      · rename_i e'
        split at z'
        · cases z'
          exact e' ▸ w.dis j i q o1 o z hq
        · cases z'
      · exact w.dis j l a o1 o2 z z'
theorem GrB.sl {q : Addr} {o o' : O} {F H F' H' : Hp} {σ : L2.St} (g : GrB q F H F' H') (s : Sl K F σ ρ) (hq : ρ[i]? = some (some (S.own q o))) : Sl K F' σ (ρ.set i (some (.own q o'))) where
  len := by rw [List.length_set]; exact s.len
  get := fun j z t => by
    rw [List.getElem?_set] at t
    split at t
    · rename_i e
      split at t
      · cases (Option.some.inj (Option.some.inj t))
        obtain ⟨v, h1, h2⟩ := s.get i _ hq
        exact ⟨v, e ▸ h1, h2⟩
      · cases t
    · obtain ⟨v, h1, h2⟩ := s.get j z t
      exact ⟨v, h1, h2.mono g.ex⟩
theorem ew_callO (C : Cxt P w K mg base sc N vs ls k X W) {j : Nat} {Pg : PG1} (G : FnO P w K mg base j x Pg) [sy : Slot N y i] {q : Addr} {o : O} (hs : ρ[i]? = some (some (.own q o))) (hv : vs[i]? = some true)
    (h : AW X W es ρ (fun ρ1 ds => ∃ o1, ρ1[i]? = some (some (.own q o1)) ∧ Pg o1 ds (fun o' d => Q (ρ1.set i (some (.own q o'))) d) (fun o' z => E (ρ1.set i (some (.own q o'))) z)) E) (hj : j ≤ k := by decide) (hg : sc.names.lookup x = some .globalImplicit := by decide +kernel)
    (hdb : (x == ("__debug__" : Str)) = false := by decide) (hpl : (backTo pos (starEach es X.env)).any (·.1) = false := by with_unfolding_all rfl) (hd : (y == ("__debug__" : Str)) = false := by decide) (hcd : (y == ("__classdict__" : Str)) = false := by decide) :
    EW X W (.Call (.Name x p) (.Name y p2 :: es) [] pos) ρ Q E := by
  intro F H σ R wd sl kx kk
  obtain ⟨f, fd, ps, ok, hm, kp, bd⟩ := G
  have hgl := C.gl hg
  have hr : Room j X.A := C.room.mono hj
  have pv' : PE X (.Name y p2) (tVar i) := pe_var (i := i) (by rw [C.eN]; exact sy.get) (by rw [C.es]; exact C.vis i y sy.get hv) hd hcd
  obtain ⟨rfl, rfl, rfl, rfl, rfl⟩ : X.prog = P ∧ X.w = w ∧ X.K = K ∧ X.mg = mg ∧ X.base = base := ⟨C.eP, C.ew, C.eK, C.eg, C.eb⟩
  refine of_pe (pe_callS ok hr hgl hm kp bd (fun σ => passAt C.tk σ) (pa_cons pv' pa_w) hdb rfl hpl) ?_
  obtain ⟨v, h1, h2⟩ := sl.get i _ hs
  cases (show v = .ref q from h2)
  refine ⟨_, h1, ?_⟩
  refine h F H σ _ wd sl kx fun F1 H1 ρ1 vs ds st1 wd1 sl1 dd1 q1 => ?_
  obtain ⟨o1, hq1, pg⟩ := q1
  obtain ⟨f1, ho, hh, oo⟩ := wd1.own i q o1 hq1
  refine ⟨F1, q, o1, vs, ds, _, _, rfl, wd1.sub, f1, ⟨ho, hh, oo⟩, dd1, pg, fun F' H' o' v d g fq oq dd qd => ?_, fun F' H' o' z xd g fq oq xa ez => ?_⟩
  · exact kk F' H' _ v d (st1.trans (g.stp hq1 (by rw [hh]; exact fun z => nomatch z))) (g.wd wd1 hq1 fq oq) (g.sl sl1 hq1) dd qd
  · exact kx F' H' σ _ z xd (st1.trans (g.stp hq1 (by rw [hh]; exact fun z => nomatch z))) (g.wd wd1 hq1 fq oq) (g.sl sl1 hq1) xa ez
end
end Bp

namespace Bp
open PySem PySem.Spec PyProof.Rows L2
section
variable {P : Program} {w : World} {K : PySem.W.Frag} {mg : Str → Option Value} {base : Heap} {sc : Scope} {N : List Str} {vs ls : List Bool} {k : Nat} {X : Cx} {W : WX} {ρ : Rho} {Q : Rho → PyData → Prop} {E : XQ} {Nx : Rho → Prop} {R : Rho → Ret → Prop} {a b c e : Expr} {es : List Expr} {pos p p2 p3 p4 px : Pos} {x y : Str} {i : Nat}
theorem OO.l {F : Hp} {xs : List V} {ds : List PyData} (h : DDs K F xs ds) : OO K F (.lst xs) (.lst ds) := ⟨xs, rfl, h⟩
theorem OO.r {F : Hp} {ms : List Int} (h : RS ms) : OO K F (.lst (ms.map V.int)) .rs := ⟨ms, rfl, h⟩
/-! ### new objects -/
def EO (X : Cx) (W : WX) (e : Expr) (ρ : Rho) (Q : Rho → O → Prop) (E : XQ) : Prop := ∀ F H σ (R : VK), Wd X.K F H ρ → Sl X.K F σ ρ → Kx X.K W ρ F H E →
  (∀ F' H' ρ' p ho o, Stp ρ ρ' F H F' H' → Wd X.K F' H' ρ' → Sl X.K F' σ ρ' → H p = none → F' p = none → ¬ Owns ρ' p → H' p = some ho → OO X.K F' ho o → Q ρ' o → R (.ref p) H') → WEx X e σ H R
theorem eo_en {Q : Rho → O → Prop} (h : EN X W e ρ (fun ρ1 ds => Q ρ1 (.lst ds)) E) : EO X W e ρ Q E := fun F H σ R wd sl kx kk => h F H σ R wd sl kx fun F' H' ρ' p xs ds st wd' sl' h0 f n hh dd q => kk F' H' ρ' p _ (.lst ds) st wd' sl' h0 f n hh ⟨xs, rfl, dd⟩ q
theorem eo_dict {Q : Rho → O → Prop} (q : Q ρ (.dic [])) : EO X W (.Dict [] [] pos) ρ Q E := by
  intro F H σ R wd sl kx kk
  refine of_pe pe_dnewK fun p hp => ?_
  have g : Gr F H F (upd H p (.dK [])) := Gr.side wd.sub hp
  refine kk F _ ρ p _ (.dic []) g.stp (wd.gr g) sl hp (wd.sub.none hp) (fun ⟨j, o, z⟩ => ?_) upd_same ⟨[], rfl, rfl, .nil⟩ q
  obtain ⟨_, ho, z2, _⟩ := wd.own j p o z
  rw [hp] at z2
  cases z2
theorem upd_upd {H : Hp} {p : Addr} {o u : HO} : upd (upd H p o) p u = upd H p u := by
  funext b
  by_cases h : b = p
  · rw [h, upd_same, upd_same]
  · rw [upd_ne h, upd_ne h, upd_ne h]
/-- from here on the dict at p is only read -/
theorem wex_frz {σ : L2.St} {H : Hp} {R : VK} (h : WEx X e σ H (fun v H' => ∃ p ws, H' p = some (.dK ws) ∧ ∀ o, R v (upd H' p (.frz o (.dK ws))))) : WEx X e σ H R := fun pins s I => by
  refine wpAny_mono (h pins s I) (fun u s' z => ?_) (fun _ _ z => z)
  obtain ⟨v, H', I', r, p, ws, hp, q⟩ := z
  obtain ⟨o, I2⟩ := I'.lock hp True.intro
  exact ⟨v, _, I2, r, q o⟩
/-- an empty dict that stays as it is -/
theorem ew_dict (q : Q ρ (.dict [])) : EW X W (.Dict [] [] pos) ρ Q E := by
  intro F H σ R wd sl kx kk
  refine wex_frz (of_pe pe_dnewK fun p hp => ⟨p, [], upd_same, fun o => ?_⟩)
  rw [upd_upd]
  have g := Gr.new (o := .frz o (.dK [])) wd.sub hp
  exact kk _ _ ρ _ _ g.stp (wd.gr g) (sl.mono g.ex) (.dct upd_same rfl .nil) q
theorem eo_call (C : Cxt P w K mg base sc N vs ls k X W) {j : Nat} {Pf : PF} {Q : Rho → O → Prop} (G : Fn P w K mg base j x Pf) (h : AW X W (e :: es) ρ (fun ρ1 ds => Pf ds (fun r => ∃ o, r = .new o ∧ Q ρ1 o) (E ρ1)) E) (hj : j ≤ k := by decide) (hg : sc.names.lookup x = some .globalImplicit := by decide +kernel)
    (hdb : (x == ("__debug__" : Str)) = false := by decide) (he : starEach (e :: es) X.env = (false, eval e X.env) :: starEach es X.env := by with_unfolding_all rfl) (hpl : (backTo pos (starEach es X.env)).any (·.1) = false := by with_unfolding_all rfl) :
    EO X W (.Call (.Name x p) (e :: es) [] pos) ρ Q E := by
  intro F H σ R wd sl kx kk
  obtain ⟨f, fd, ps, ok, hm, kp, bd⟩ := G
  have hgl := C.gl hg
  have hr : Room j X.A := C.room.mono hj
  obtain ⟨rfl, rfl, rfl, rfl, rfl⟩ : X.prog = P ∧ X.w = w ∧ X.K = K ∧ X.mg = mg ∧ X.base = base := ⟨C.eP, C.ew, C.eK, C.eg, C.eb⟩
  refine of_pe (pe_callS ok hr hgl hm kp bd (fun σ => passAt C.tk σ) pa_w hdb he hpl) ?_
  refine h F H σ _ wd sl kx fun F1 H1 ρ1 vs ds st1 wd1 sl1 dd1 h1 => ?_
  refine ⟨F1, ds, _, _, wd1.sub, dd1, h1, fun F' H' v r g rt q => ?_, fun F' H' y xd g xa q => kx F' H' σ ρ1 y xd (st1.trans g.stp) (wd1.gr g) (sl1.mono g.ex) xa q⟩
  obtain ⟨o, rfl, q⟩ := q
  obtain ⟨q', ho, rfl, h0, f', _, hh, oo⟩ := rt
  have h0 : H1 q' = none := h0.resolve_right fun ⟨j, o', z⟩ => by simp at z
  refine kk F' H' ρ1 q' ho o (st1.trans g.stp) (wd1.gr g) (sl1.mono g.ex) (st1.all q' h0) f' (fun ⟨j, o', z⟩ => ?_) hh oo q
  obtain ⟨_, _, z2, _⟩ := wd1.own j q' o' z
  rw [h0] at z2
  cases z2
theorem s1_ownO (C : Cxt P w K mg base sc N vs ls k X W) [sl : Slot N x i] (hl : ls[i]? = some true) (h : EO X W e ρ (fun ρ1 o => ∀ q, Nx (ρ1.set i (some (.own q o)))) E) (hs : swapsWith e (some (.Name x px)) pos.line X.env = pure false := by with_unfolding_all rfl) : S1 X W (.Assign [.Name x px] e pos) ρ Nx R E := by
  intro F H σ D wd st kx kn kr
  refine of_ps (ps_set (i := i) (by rw [C.eN]; exact C.nd) (by rw [C.eN]; exact sl.get) (C.lo sl.get hl) pe_w hs (C.st sl.get hl)) ?_
  refine h F H σ _ wd st kx fun F1 H1 ρ1 q ho o st1 wd1 sl1 hp fp np hh oo n => ?_
  refine kn F1 H1 _ _ ⟨st1.ex, st1.keep, st1.fr, fun a z => ?_, st1.all⟩ (wd1.own_set fp np hh oo) sl1.own_set (n q)
  rcases owns_set z with z | z
  · exact st1.own a z
  · rw [z]
    exact .inr hp
theorem s1_retE (h : EO X W e ρ (fun ρ1 o => R ρ1 (.new o)) E) : S1 X W (.Return (some e) pos) ρ Nx R E := fun F H σ D wd sl kx kn kr => of_ps (ps_ret pe_w) (h F H σ _ wd sl kx fun F1 H1 ρ1 q ho o st1 wd1 sl1 hp fp np hh oo r => kr F1 H1 ρ1 _ (.new o) st1 wd1 ⟨q, ho, rfl, .inl hp, fp, np, hh, oo⟩ r)
/-! ### defs whose first argument is an object of the caller's: their bodies -/
theorem fn_okO {f : Addr} {fd : FuncData} {qual : Str} {params : Arguments} {body : List Stmt} {ps : List Str} {Pg : PG1} (F : FunD K x qual params body sc [] [] f fd) (Sc : FnScope N ps sc) (len : ∀ o ds Q E, Pg o ds Q E → ds.length + 1 = ps.length) (hv : chkB (locB sc) N vs = true)
    (hbody : ∀ X W, Cxt P w K mg base sc N vs vs k X W → Frm X → ∀ q o ds Q E, Pg o ds Q E → SW X W body (args (.own q o :: ds.map S.d) N.length) (fun ρ' => ∃ o', ρ'[0]? = some (some (.own q o')) ∧ Q o' .none) (fun ρ' r => ∃ o' d, ρ'[0]? = some (some (.own q o')) ∧ r.toD = some d ∧ Q o' d) (fun ρ' y => ∃ o', ρ'[0]? = some (some (.own q o')) ∧ E o' y)) :
    FnOk P w K mg base (L2.CX P w) (k + 1) f fd ps (spO K Pg) := by
  refine F.ok Sc (fun vs H Q E h => ?_) (fun cdv A outer s H vs Q E hr h => ?_)
  · obtain ⟨F, q, o, vs', ds, Qd, Ed, rfl, _, _, _, dd, pg, _⟩ := h
    rw [List.length_cons, dd.length]
    exact len o ds Qd Ed pg
  · obtain ⟨F0, q, o, vs', ds, Qd, Ed, rfl, ex, fq, ⟨ho, hh, oo⟩, dd, pg, kq, ke⟩ := h
    have C := cxt_of (P := P) (w := w) (K := K) (mg := mg) (base := base) (outer := outer) (s := s) (H := H) (E := E) (cdv := cdv) (f := f) (qual := qual) Sc hv hr
    refine ⟨_, pss_w, ?_⟩
    have hl := len o ds Qd Ed pg
    have at0 : ∀ (i : Nat) (a : Addr) (o' : O), (args (.own q o :: ds.map S.d) N.length)[i]? = some (some (S.own a o')) → i = 0 ∧ a = q ∧ o' = o := fun i a o' z => by
      have z1 := args_get z
      cases i with
      | zero =>
        cases z1
        exact ⟨rfl, rfl, rfl⟩
      | succ i =>
        rw [List.getElem?_cons_succ, List.getElem?_map] at z1
        cases e : ds[i]? with
        | none =>
          rw [e] at z1
          cases z1
        | some y =>
          rw [e] at z1
          cases z1
    have ow : ∀ a, Owns (args (.own q o :: ds.map S.d) N.length) a → a = q := fun a ⟨i, o', z⟩ => (at0 i a o' z).2.1
    have wd : Wd K F0 H (args (.own q o :: ds.map S.d) N.length) := by
      refine ⟨ex, fun i a o' z => ?_, fun i j a o1 o2 z z' => by rw [(at0 i a o1 z).1, (at0 j a o2 z').1]⟩
      obtain ⟨_, rfl, rfl⟩ := at0 i a o' z
      exact ⟨fq, ho, hh, oo⟩
    have sl : Sl K F0 (L2.start N (.ref q :: vs')) (args (.own q o :: ds.map S.d) N.length) := by
      refine ⟨?_, fun i z t => ?_⟩
      · rw [start_len (by rw [List.length_cons, dd.length, hl]; exact ps_le Sc), args_len (by rw [List.length_cons, List.length_map, hl]; exact ps_le Sc)]
      · have z2 := args_get t
        cases i with
        | zero =>
          cases z2
          exact ⟨.ref q, start_get rfl, rfl⟩
        | succ i =>
          rw [List.getElem?_cons_succ, List.getElem?_map] at z2
          cases e : ds[i]? with
          | none =>
            rw [e] at z2
            cases z2
          | some y =>
            rw [e] at z2
            cases z2
            obtain ⟨v, h1, h2⟩ := dd.get e
            exact ⟨v, start_get (by rw [List.getElem?_cons_succ]; exact h1), h2⟩
    have gr : ∀ {F' H' : Hp} {ρ' : Rho}, Stp (args (.own q o :: ds.map S.d) N.length) ρ' F0 H F' H' → Wd K F' H' ρ' → GrB q F0 H F' H' := fun st wd' =>
      ⟨st.ex, fun a u n z => st.keep a u z (fun y => n (ow a y)), wd'.sub, fun a u n z z' => st.fr a u z z' (fun y => n (ow a y)), st.all⟩
    refine hbody _ _ C ⟨rfl, rfl⟩ q o ds Qd Ed pg F0 H _ _ wd sl (fun F' H' σ' ρ' y xd st wd' sl' xa e => ?_) (fun F' H' σ' ρ' st wd' sl' n => ?_) (fun F' H' ρ' v r st wd' rt z => ?_)
    · obtain ⟨o', h0, e⟩ := e
      obtain ⟨f', hw⟩ := wd'.own 0 q o' h0
      exact ke F' H' o' y xd (gr st wd') f' hw xa e
    · obtain ⟨o', h0, n⟩ := n
      obtain ⟨f', hw⟩ := wd'.own 0 q o' h0
      exact kq F' H' o' .non .none (gr st wd') f' hw .non n
    · obtain ⟨o', d, h0, hd, n⟩ := z
      obtain ⟨F2, s2, w2, e2, d2⟩ := frzR st wd' rt hd
      obtain ⟨f', hw⟩ := w2.own 0 q o' h0
      exact kq F2 H' o' v d (gr s2 w2) f' hw d2 n
/-! ### draws: the first argument is the draw's state -/
def pD (Pf : List PyData → (PyData → Prop) → Prop) : PG1 := fun o ds Q _ => o = .rs ∧ Pf ds (fun d => Q .rs d)
abbrev PDr := List PyData → (PyData → Prop) → Prop
theorem set_self {i : Nat} {z : Option S} (h : ρ[i]? = some z) : ρ.set i z = ρ := by
  refine List.ext_getElem? fun j => ?_
  rw [List.getElem?_set]
  split
  · rename_i e
    subst e
    split
    · exact h.symm
    · rename_i n
      rw [List.getElem?_eq_none (by omega)] at h
      cases h
  · rfl
theorem ew_draw (C : Cxt P w K mg base sc N vs ls k X W) {j : Nat} {Pf : PDr} (G : FnO P w K mg base j x (pD Pf)) [sy : Slot N y i] {q : Addr} (hs : ρ[i]? = some (some (.own q .rs))) (hv : vs[i]? = some true)
    (h : AW X W es ρ (fun ρ1 ds => ρ1[i]? = some (some (.own q .rs)) ∧ Pf ds (Q ρ1)) E) (hj : j ≤ k := by decide) (hg : sc.names.lookup x = some .globalImplicit := by decide +kernel)
    (hdb : (x == ("__debug__" : Str)) = false := by decide) (hpl : (backTo pos (starEach es X.env)).any (·.1) = false := by with_unfolding_all rfl) (hd : (y == ("__debug__" : Str)) = false := by decide) (hcd : (y == ("__classdict__" : Str)) = false := by decide) :
    EW X W (.Call (.Name x p) (.Name y p2 :: es) [] pos) ρ Q E := by
  refine ew_callO C G hs hv ?_ hj hg hdb hpl hd hcd
  intro F H σ R wd sl kx kk
  refine h F H σ R wd sl kx fun F' H' ρ' vs' ds st wd' sl' dd q' => kk F' H' ρ' vs' ds st wd' sl' dd ⟨.rs, q'.1, rfl, ?_⟩
  show Pf ds (fun d => Q (ρ'.set i (some (.own q .rs))) d)
  rw [set_self q'.1]
  exact q'.2
theorem fn_okD {f : Addr} {fd : FuncData} {qual : Str} {params : Arguments} {body : List Stmt} {ps : List Str} {Pf : PDr} (F : FunD K x qual params body sc [] [] f fd) (Sc : FnScope N ps sc) (len : ∀ ds Q, Pf ds Q → ds.length + 1 = ps.length) (hv : chkB (locB sc) N vs = true)
    (hbody : ∀ X W, Cxt P w K mg base sc N vs vs k X W → Frm X → ∀ q ds Q, Pf ds Q → SW X W body (args (.own q .rs :: ds.map S.d) N.length) (fun _ => False) (fun ρ' r => ∃ d, ρ'[0]? = some (some (.own q .rs)) ∧ r.toD = some d ∧ Q d) noX) :
    FnOk P w K mg base (L2.CX P w) (k + 1) f fd ps (spO K (pD Pf)) := by
  refine fn_okO F Sc (fun o ds Q E h => len ds _ h.2) hv fun X W C Fr q o ds Q E h => ?_
  obtain ⟨rfl, h⟩ := h
  intro F H σ D wd sl kx kn kr
  refine hbody X W C Fr q ds _ h F H σ D wd sl (fun _ _ _ _ _ _ _ _ _ _ z => z.elim) (fun _ _ _ _ _ _ _ z => z.elim) fun F' H' ρ' v r st wd' rt z => ?_
  obtain ⟨d, h0, hd, z⟩ := z
  exact kr F' H' ρ' v r st wd' rt ⟨.rs, d, h0, hd, z⟩
theorem GrB.refl {q : Addr} {F H : Hp} (e : Ex F H) : GrB q F H F H := ⟨Ex.refl _, fun _ _ _ h => h, e, fun _ _ _ f _ => f, fun _ h => h⟩
/-- the draw's state is opened, and closed behind -/
theorem sw_open {sts : List Stmt} {q : Addr} (hq : ρ[i]? = some (some (.own q .rs))) (h : ∀ ms, RS ms → SW X W sts (ρ.set i (some (.own q (.lst (ms.map PyData.int))))) (fun _ => False) (fun ρ' r => ∃ ms' d, ρ'[i]? = some (some (.own q (.lst (ms'.map PyData.int)))) ∧ RS ms' ∧ r = .d d ∧ R (ρ'.set i (some (.own q .rs))) (.d d)) noX) : SW X W sts ρ Nx R E := by
  intro F H σ D wd sl kx kn kr
  obtain ⟨fq, ho, hh, ms, rfl, rs⟩ := wd.own i q .rs hq
  have oo : OO X.K F (.lst (ms.map V.int)) (.lst (ms.map PyData.int)) := ⟨_, rfl, DDs.ofInts ms⟩
  have g : GrB q F H F H := GrB.refl wd.sub
  have hne : H q ≠ none := by rw [hh]; exact fun z => nomatch z
  have st0 : Stp ρ (ρ.set i (some (.own q (.lst (ms.map PyData.int))))) F H F H := g.stp hq hne
  refine h ms rs F H σ D (g.wd wd hq fq ⟨_, hh, oo⟩) (g.sl sl hq) (fun _ _ _ _ _ _ _ _ _ _ z => z.elim) (fun _ _ _ _ _ _ _ z => z.elim) fun F' H' ρ' v r st wd' rt z => ?_
  obtain ⟨ms', d, h0, rs', rfl, z⟩ := z
  obtain ⟨fq', ho', hh', xs', e', dd'⟩ := wd'.own i q _ h0
  have e2 := dd'.ints
  subst e2
  subst e'
  have g' : GrB q F' H' F' H' := GrB.refl wd'.sub
  have hne' : H' q ≠ none := by rw [hh']; exact fun z => nomatch z
  exact kr F' H' _ v (.d d) ((st0.trans st).trans (g'.stp h0 hne')) (g'.wd (o' := .rs) wd' h0 fq' ⟨_, hh', OO.r rs'⟩) rt z
/-! ### what is done to an owned list -/
/-- a step that changes the object at q alone -/
theorem GrB.put {q : Addr} {F H : Hp} {o : HO} (e : Ex F H) (f : F q = none) (hq : H q ≠ none) : GrB q F H F (upd H q o) where
  ex := Ex.refl _
  keep := fun a u n h => by rw [upd_ne n]; exact h
  sub := fun a u h => by rw [upd_ne (ne_of_none h f)]; exact e a u h
  fr := fun _ _ _ f _ => f
  all := fun a h => by
    by_cases z : a = q
    · subst z
      rw [upd_same] at h
      cases h
    · rw [upd_ne z] at h
      exact h
theorem pv_of (C : Cxt P w K mg base sc N vs ls k X W) [sx : Slot N x i] (hv : vs[i]? = some true) (hd : (x == ("__debug__" : Str)) = false := by decide) (hcd : (x == ("__classdict__" : Str)) = false := by decide) : PE X (.Name x p) (tVar i) :=
  pe_var (i := i) (by rw [C.eN]; exact sx.get) (by rw [C.es]; exact C.vis i x sx.get hv) hd hcd
/-- xs[e] -/
theorem ew_ixO (C : Cxt P w K mg base sc N vs ls k X W) [sx : Slot N x i] {q : Addr} {o : O} (hs : ρ[i]? = some (some (.own q o))) (hv : vs[i]? = some true) (h : EW X W b ρ (fun ρ1 d => ∃ n ds z, d = .int n ∧ ρ1[i]? = some (some (.own q (.lst ds))) ∧ atI ds n = some z ∧ Q ρ1 z) E) (hb : PlainIx b := by with_unfolding_all exact fun _ _ => rfl)
    (hd : (x == ("__debug__" : Str)) = false := by decide) (hcd : (x == ("__classdict__" : Str)) = false := by decide) : EW X W (.Subscript (.Name x p) b pos) ρ Q E := by
  intro F H σ R wd sl kx kk
  refine of_pe (pe_ix ix_list (pv_of C hv hd hcd) pe_w hb) ?_
  obtain ⟨v, h1, h2⟩ := sl.get i _ hs
  cases (show v = .ref q from h2)
  refine ⟨_, h1, ?_⟩
  refine h F H σ _ wd sl kx fun F1 H1 ρ1 v d st1 wd1 sl1 dd1 q1 => ?_
  obtain ⟨n, ds, z, rfl, hq, ha, q1⟩ := q1
  cases dd1
  obtain ⟨f1, ho, hh, xs, rfl, dd⟩ := wd1.own i q _ hq
  obtain ⟨u, a1, a2⟩ := dds_at dd ha
  exact ⟨q, xs, n, u, rfl, rfl, SqL.of hh, a1, kk F1 H1 ρ1 u z st1 wd1 sl1 a2 q1⟩
/-- len(xs) -/
theorem ew_lenO (C : Cxt P w K mg base sc N vs ls k X W) (B : Blt mg) [sx : Slot N x i] {q : Addr} {ds : List PyData} (hs : ρ[i]? = some (some (.own q (.lst ds)))) (hv : vs[i]? = some true) (h : Q ρ (.int ds.length)) (hg : sc.names.lookup ("len" : Str) = some .globalImplicit := by decide +kernel)
    (hd : (x == ("__debug__" : Str)) = false := by decide) (hcd : (x == ("__classdict__" : Str)) = false := by decide) : EW X W (.Call (.Name "len" p2) [.Name x p] [] pos) ρ Q E := by
  intro F H σ R wd sl kx kk
  refine of_pe (pe_callB call_len_seq (C.gl hg) (by rw [C.eg]; exact B.len) boot_len (pa_cons (pv_of C hv hd hcd) pa_nil)) ?_
  obtain ⟨v, h1, h2⟩ := sl.get i _ hs
  cases (show v = .ref q from h2)
  obtain ⟨f1, ho, hh, xs, rfl, dd⟩ := wd.own i q _ hs
  exact ⟨_, h1, q, xs, rfl, .inl (SqL.of hh), by rw [dd.length]; exact kk F H ρ _ _ Stp.refl wd sl (.int _) h⟩
/-- xs[e] = v -/
theorem s1_setIxO (C : Cxt P w K mg base sc N vs ls k X W) [sx : Slot N x i] {q : Addr} {o : O} (hs : ρ[i]? = some (some (.own q o))) (hv : vs[i]? = some true)
    (h : EW X W e ρ (fun ρ1 d => ∃ o1, ρ1[i]? = some (some (.own q o1)) ∧ EW X W b ρ1 (fun ρ2 z => ∃ n ds j, z = .int n ∧ ρ2[i]? = some (some (.own q (.lst ds))) ∧ ixN ds.length n = some j ∧ Nx (ρ2.set i (some (.own q (.lst (ds.set j d)))))) E) E)
    (hs1 : swapsWithSole [.Subscript (.Name x p) b p2] e pos.line X.env = pure false := by with_unfolding_all rfl) (hw : swappedStores [.Subscript (.Name x p) b p2] e X.env = pure none := by with_unfolding_all rfl)
    (hd : (x == ("__debug__" : Str)) = false := by decide) (hcd : (x == ("__classdict__" : Str)) = false := by decide) (ha : ∀ v, assign (.Subscript (.Name x p) b p2) X.env v = (do
      let ov ← holding [v] (eval (.Name x p) X.env)
      let iv ← holding [v, ov] (eval b X.env)
      standAt p2
      holding [v, ov, iv] (setItem ov iv v)
      release [v, ov, iv] []) := by intro _; with_unfolding_all rfl) : S1 X W (.Assign [.Subscript (.Name x p) b p2] e pos) ρ Nx R E := by
  intro F H σ D wd sl kx kn kr
  refine of_ps (ps_asg pe_w (pg_sub (pv_of C hv hd hcd) pe_w set_list ha) hs1 hw) ?_
  refine h F H σ _ wd sl kx fun F1 H1 ρ1 v d st1 wd1 sl1 dd1 q1 => ?_
  obtain ⟨o1, hq1, h1⟩ := q1
  obtain ⟨u, u1, u2⟩ := sl1.get i _ hq1
  cases (show u = .ref q from u2)
  refine ⟨_, u1, ?_⟩
  refine h1 F1 H1 σ _ wd1 sl1 (kx.step st1) fun F2 H2 ρ2 y z st2 wd2 sl2 dd2 q2 => ?_
  obtain ⟨n, ds, j, rfl, hq2, hj, nx⟩ := q2
  cases dd2
  obtain ⟨f2, ho, hh, xs, rfl, dd⟩ := wd2.own i q _ hq2
  refine ⟨q, xs, n, j, rfl, rfl, hh, by rw [dd.length]; exact hj, ?_⟩
  have hne : H2 q ≠ none := by rw [hh]; exact fun z => nomatch z
  have g : GrB q F2 H2 F2 (upd H2 q (.lst (xs.set j v))) := GrB.put wd2.sub f2 hne
  exact kn F2 _ σ _ ((st1.trans st2).trans (g.stp hq2 hne)) (g.wd wd2 hq2 f2 ⟨_, upd_same, OO.l (dd.set (dd1.mono st2.ex) j)⟩) (g.sl sl2 hq2) nx
/-- behind a change of an owned list -/
theorem own_upd {F H : Hp} {σ : L2.St} {q : Addr} {o : O} {xs xs' : List V} {ds' : List PyData} (wd : Wd K F H ρ) (sl : Sl K F σ ρ) (hq : ρ[i]? = some (some (S.own q o))) (f : F q = none) (hh : H q = some (.lst xs)) (dd : DDs K F xs' ds') :
    Stp ρ (ρ.set i (some (.own q (.lst ds')))) F H F (upd H q (.lst xs')) ∧ Wd K F (upd H q (.lst xs')) (ρ.set i (some (.own q (.lst ds')))) ∧ Sl K F σ (ρ.set i (some (.own q (.lst ds')))) := by
  have hne : H q ≠ none := by rw [hh]; exact fun z => nomatch z
  have g : GrB q F H F (upd H q (.lst xs')) := GrB.put wd.sub f hne
  exact ⟨g.stp hq hne, g.wd wd hq f ⟨_, upd_same, OO.l dd⟩, g.sl sl hq⟩
theorem ty_list {F H : Hp} {q : Addr} {ds : List PyData} (wd : Wd K F H ρ) (hq : ρ[i]? = some (some (S.own q (.lst ds)))) : tyV K "list" (.ref q) H := by
  obtain ⟨_, ho, hh, xs, rfl, _⟩ := wd.own i q _ hq
  exact .inl ⟨rfl, xs, SqL.of hh⟩
/-- xs.pop(e) -/
theorem ew_popAtO (C : Cxt P w K mg base sc N vs ls k X W) [sx : Slot N x i] {q : Addr} {d0 : List PyData} (hs : ρ[i]? = some (some (.own q (.lst d0)))) (hv : vs[i]? = some true)
    (h : EW X W b ρ (fun ρ1 l => ∃ n ds j z, l = .int n ∧ ρ1[i]? = some (some (.own q (.lst ds))) ∧ -(2 ^ 63) ≤ n ∧ n < 2 ^ 63 ∧ seqIndex? n ds.length = some j ∧ ds[j]? = some z ∧ Q (ρ1.set i (some (.own q (.lst (ds.eraseIdx j))))) z) E)
    (hd : (x == ("__debug__" : Str)) = false := by decide) (hcd : (x == ("__classdict__" : Str)) = false := by decide)
    (hbm : PE X (.Name x p) (tVar i) → PA X [b] (tCons (WEx X b) tNil) → PE X (.Call (.Attribute (.Name x p) "pop" p2) [b] [] pos) (tBM X.K "list" rPopAt (tVar i) (tCons (WEx X b) tNil)) := by intro h1 h2; exact pe_bm PySem.F.plainAttrs_list PySem.F.slot_list_pop PySem.F.type_list_pop mt_popAt h1 h2 (by with_unfolding_all rfl) (by with_unfolding_all rfl) (by with_unfolding_all rfl))
    (he : starEach [b] X.env = (false, eval b X.env) :: starEach [] X.env := by with_unfolding_all rfl) : EW X W (.Call (.Attribute (.Name x p) "pop" p2) [b] [] pos) ρ Q E := by
  intro F H σ R wd sl kx kk
  refine of_pe (hbm (pv_of C hv hd hcd) (pa_cons pe_w pa_nil he)) ?_
  obtain ⟨v, h1, h2⟩ := sl.get i _ hs
  cases (show v = .ref q from h2)
  refine ⟨_, h1, ty_list wd hs, ?_⟩
  refine h F H σ _ wd sl kx fun F1 H1 ρ1 v l st1 wd1 sl1 dd1 q1 => ?_
  obtain ⟨n, ds, j, z, rfl, hq, n1, n2, hj, hz, q1⟩ := q1
  cases dd1
  obtain ⟨f1, ho, hh, xs, rfl, dd⟩ := wd1.own i q _ hq
  obtain ⟨u, u1, u2⟩ := dd.get hz
  have dd' : DDs X.K F1 (xs.eraseIdx j) (ds.eraseIdx j) := by
    rw [List.eraseIdx_eq_take_drop_succ, List.eraseIdx_eq_take_drop_succ]
    exact (dd.take j).append (dd.drop (j + 1))
  obtain ⟨s2, w2, l2⟩ := own_upd wd1 sl1 hq f1 hh dd'
  exact ⟨q, xs, n, j, u, rfl, rfl, hh, n1, n2, by rw [dd.length]; exact hj, u1, kk F1 _ _ u z (st1.trans s2) w2 l2 u2 q1⟩
/-- xs.append(e) -/
theorem ew_appO (C : Cxt P w K mg base sc N vs ls k X W) [sx : Slot N x i] {q : Addr} {d0 : List PyData} (hs : ρ[i]? = some (some (.own q (.lst d0)))) (hv : vs[i]? = some true)
    (h : EW X W b ρ (fun ρ1 d => ∃ ds, ρ1[i]? = some (some (.own q (.lst ds))) ∧ ds.length < 16777216 ∧ Q (ρ1.set i (some (.own q (.lst (ds ++ [d]))))) .none) E)
    (hd : (x == ("__debug__" : Str)) = false := by decide) (hcd : (x == ("__classdict__" : Str)) = false := by decide)
    (hbm : PE X (.Name x p) (tVar i) → PA X [b] (tCons (WEx X b) tNil) → PE X (.Call (.Attribute (.Name x p) "append" p2) [b] [] pos) (tBM X.K "list" rAppend (tVar i) (tCons (WEx X b) tNil)) := by intro h1 h2; exact pe_bm PySem.F.plainAttrs_list PySem.F.slot_list_append PySem.F.type_list_append mt_append h1 h2 (by with_unfolding_all rfl) (by with_unfolding_all rfl) (by with_unfolding_all rfl))
    (he : starEach [b] X.env = (false, eval b X.env) :: starEach [] X.env := by with_unfolding_all rfl) : EW X W (.Call (.Attribute (.Name x p) "append" p2) [b] [] pos) ρ Q E := by
  intro F H σ R wd sl kx kk
  refine of_pe (hbm (pv_of C hv hd hcd) (pa_cons pe_w pa_nil he)) ?_
  obtain ⟨v, h1, h2⟩ := sl.get i _ hs
  cases (show v = .ref q from h2)
  refine ⟨_, h1, ty_list wd hs, ?_⟩
  refine h F H σ _ wd sl kx fun F1 H1 ρ1 v l st1 wd1 sl1 dd1 q1 => ?_
  obtain ⟨ds, hq, hl, q1⟩ := q1
  obtain ⟨f1, ho, hh, xs, rfl, dd⟩ := wd1.own i q _ hq
  obtain ⟨s2, w2, l2⟩ := own_upd wd1 sl1 hq f1 hh (dd.append (.cons dd1 .nil))
  exact ⟨q, xs, v, rfl, rfl, hh, by rw [dd.length, sizeLine_eq]; exact hl, kk F1 _ _ _ _ (st1.trans s2) w2 l2 .non q1⟩
/-- xs.extend(e), e a list -/
theorem ew_extO (C : Cxt P w K mg base sc N vs ls k X W) [sx : Slot N x i] {q : Addr} {d0 : List PyData} (hs : ρ[i]? = some (some (.own q (.lst d0)))) (hv : vs[i]? = some true)
    (h : EW X W b ρ (fun ρ1 d => ∃ ds es, d = .list es ∧ ρ1[i]? = some (some (.own q (.lst ds))) ∧ ds.length + es.length ≤ 16777216 ∧ Q (ρ1.set i (some (.own q (.lst (ds ++ es))))) .none) E)
    (hd : (x == ("__debug__" : Str)) = false := by decide) (hcd : (x == ("__classdict__" : Str)) = false := by decide)
    (hbm : PE X (.Name x p) (tVar i) → PA X [b] (tCons (WEx X b) tNil) → PE X (.Call (.Attribute (.Name x p) "extend" p2) [b] [] pos) (tBM X.K "list" rExtend (tVar i) (tCons (WEx X b) tNil)) := by intro h1 h2; exact pe_bm PySem.F.plainAttrs_list PySem.F.slot_list_extend PySem.F.type_list_extend mt_extend h1 h2 (by with_unfolding_all rfl) (by with_unfolding_all rfl) (by with_unfolding_all rfl))
    (he : starEach [b] X.env = (false, eval b X.env) :: starEach [] X.env := by with_unfolding_all rfl) : EW X W (.Call (.Attribute (.Name x p) "extend" p2) [b] [] pos) ρ Q E := by
  intro F H σ R wd sl kx kk
  refine of_pe (hbm (pv_of C hv hd hcd) (pa_cons pe_w pa_nil he)) ?_
  obtain ⟨v, h1, h2⟩ := sl.get i _ hs
  cases (show v = .ref q from h2)
  refine ⟨_, h1, ty_list wd hs, ?_⟩
  refine h F H σ _ wd sl kx fun F1 H1 ρ1 v l st1 wd1 sl1 dd1 q1 => ?_
  obtain ⟨ds, es, rfl, hq, hl, q1⟩ := q1
  obtain ⟨f1, ho, hh, xs, rfl, dd⟩ := wd1.own i q _ hq
  cases dd1 with
  | lst hb db =>
    obtain ⟨s2, w2, l2⟩ := own_upd wd1 sl1 hq f1 hh (dd.append db)
    exact ⟨q, _, xs, _, rfl, rfl, hh, wd1.sub _ _ hb, by rw [dd.length, db.length, sizeLine_eq]; exact hl, kk F1 _ _ _ _ (st1.trans s2) w2 l2 .non q1⟩
/-- an owned list, looked at as plain data: from here on it stays as it is -/
theorem ew_varF (C : Cxt P w K mg base sc N vs ls k X W) [sx : Slot N x i] {q : Addr} {ds : List PyData} (hs : ρ[i]? = some (some (.own q (.lst ds)))) (hv : vs[i]? = some true) (h : Q (ρ.set i (some (.d (.list ds)))) (.list ds))
    (hd : (x == ("__debug__" : Str)) = false := by decide) (hcd : (x == ("__classdict__" : Str)) = false := by decide) : EW X W (.Name x pos) ρ Q E := by
  intro F H σ R wd sl kx kk
  refine of_pe (pv_of C hv hd hcd) ?_
  obtain ⟨v, h1, h2⟩ := sl.get i _ hs
  cases (show v = .ref q from h2)
  obtain ⟨f1, ho, hh, xs, rfl, dd⟩ := wd.own i q _ hs
  have ex : Ex F (upd F q (.lst xs)) := Ex.new f1
  have hi : i < ρ.length := by
    cases Nat.lt_or_ge i ρ.length with
    | inl z => exact z
    | inr z =>
      rw [List.getElem?_eq_none z] at hs
      cases hs
  have other : ∀ {j : Nat} {a : Addr} {o : O}, (ρ.set i (some (.d (.list ds))))[j]? = some (some (S.own a o)) → a ≠ q := fun {j a o} z e => by
    subst e
    have z1 := set_own noD z
    have e := wd.dis i j a _ o hs z1
    subst e
    rw [List.getElem?_set, if_pos rfl, if_pos hi] at z
    cases z
  refine ⟨_, h1, kk (upd F q (.lst xs)) H _ _ _ ⟨ex, fun a o z _ => z, fun a o z zz n => ?_, fun a ⟨j, o, z⟩ => .inl ⟨j, o, set_own noD z⟩, fun a z => z⟩ ⟨fun a o z => ?_, fun j a o z => ?_, (wd.set noD).dis⟩ ⟨by rw [List.length_set]; exact sl.len, fun j z t => ?_⟩ (.lst upd_same (dd.mono ex)) h⟩
  · have ne : a ≠ q := fun e => by
      subst e
      exact n ⟨i, _, hs⟩
    rw [upd_ne ne]
    exact z
  · by_cases e : a = q
    · subst e
      rw [upd_same] at z
      rw [hh, z]
    · rw [upd_ne e] at z
      exact wd.sub a o z
  · obtain ⟨z1, ho, z2, z3⟩ := wd.own j a o (set_own noD z)
    exact ⟨by rw [upd_ne (other z)]; exact z1, ho, z2, z3.mono ex⟩
  · rw [List.getElem?_set] at t
    split at t
    · rename_i e
      subst e
      first
        | rw [if_pos hi] at t
        | skip
      cases (Option.some.inj (Option.some.inj t))
      exact ⟨_, h1, .lst upd_same (dd.mono ex)⟩
    · obtain ⟨u, u1, u2⟩ := sl.get j z t
      exact ⟨u, u1, u2.mono ex⟩
/-- return xs, an owned object: it is the caller's -/
theorem s1_retO (C : Cxt P w K mg base sc N vs ls k X W) [sx : Slot N x i] {q : Addr} {o : O} (hs : ρ[i]? = some (some (.own q o))) (hv : vs[i]? = some true) (h : R (ρ.set i none) (.new o))
    (hd : (x == ("__debug__" : Str)) = false := by decide) (hcd : (x == ("__classdict__" : Str)) = false := by decide) : S1 X W (.Return (some (.Name x p)) pos) ρ Nx R E := by
  intro F H σ D wd sl kx kn kr
  refine of_ps (ps_ret (pv_of C hv hd hcd)) ?_
  obtain ⟨v, h1, h2⟩ := sl.get i _ hs
  cases (show v = .ref q from h2)
  obtain ⟨f1, ho, hh, oo⟩ := wd.own i q _ hs
  refine ⟨_, h1, kr F H _ _ (.new o) (Stp.set noN) (wd.set noN) ⟨q, ho, rfl, .inr ⟨i, o, hs⟩, f1, fun ⟨j, o', z⟩ => ?_, hh, oo⟩ h⟩
  have e := wd.dis i j q _ o' hs (set_own noN z)
  subst e
  rw [List.getElem?_set, if_pos rfl] at z
  split at z
  · cases (Option.some.inj z)
  · cases z
end
end Bp

namespace Bp
open PySem PySem.Spec PyProof.Rows L2
section
variable {P : Program} {w : World} {K : PySem.W.Frag} {mg : Str → Option Value} {base : Heap} {sc : Scope} {N : List Str} {vs ls : List Bool} {k : Nat} {X : Cx} {W : WX} {ρ : Rho} {Q : Rho → PyData → Prop} {E : XQ} {Nx : Rho → Prop} {R : Rho → Ret → Prop} {a b c e : Expr} {es : List Expr} {pos p p2 p3 p4 px : Pos} {x y : Str} {i : Nat}
/-! ### the script -/
theorem itd_sql {F : Hp} {a : Addr} {xs : List V} {ds : List PyData} (h : SqL K F a xs) (dd : DDs K F xs ds) : ItD K F (Itl K a) ds where
  go := fun F' H i e s hl => by
    obtain ⟨v, h1, _⟩ := dd.get (List.getElem?_eq_getElem hl)
    exact ⟨xs, v, s.sql (e.sql h), h1⟩
  yld := fun F' H i y H' d e s hd ⟨eH, hy⟩ => by
    subst eH
    have q := hy xs (s.sql (e.sql h))
    obtain ⟨v, h1, h2⟩ := dd.get hd
    rw [h1] at q
    cases q
    exact ⟨F', Gr.refl s, h2.mono e⟩
  stop := fun F' H e s => ⟨xs, s.sql (e.sql h), by rw [dd.length]; exact Nat.le_refl _⟩
theorem iw_scr (C : Cxt P w K mg base sc N vs ls k X W) [sx : Slot N x i] {tg : Expr} {ns : List Int} {Q : Rho → List PyData → Prop} (hs : ρ[i]? = some (some (.scr ns))) (hv : vs[i]? = some true) (h : Q ρ (ns.map PyData.int))
    (hd : (x == ("__debug__" : Str)) = false := by decide) (hcd : (x == ("__classdict__" : Str)) = false := by decide) : IW X W tg (.Name x p) ρ Q E := by
  intro F H σ R wd sl kx kk
  refine of_pi (pi_list (pv_of C hv hd hcd)) ?_
  obtain ⟨v, h1, a, rfl, h2⟩ := sl.get i _ hs
  have eK := C.eK
  exact ⟨_, h1, a, rfl, ⟨_, wd.sub.sql h2⟩, kk F H ρ _ _ Stp.refl wd sl (itd_sql h2 (DDs.ofInts ns)) h⟩
/-! ### _law_random: a new state of draws -/
def spR (K : PySem.W.Frag) : Sp := fun vs H Q _ => ∃ (F : Hp) (a : Addr) (ns : List Int) (salt : Int), vs = [.ref a, .int salt] ∧ Ex F H ∧ SqL K F a (ns.map V.int) ∧ ns.length ≤ 63 ∧ 0 ≤ salt ∧ salt < 2147483647 ∧
  ∀ (F' H' : Hp) (p : Addr) (ms : List Int), Gr F H F' H' → H p = none → F' p = none → H' p = some (.lst (ms.map V.int)) → RS ms → Q (.ref p) H'
def FnR (P : Program) (w : World) (K : PySem.W.Frag) (mg : Str → Option Value) (base : Heap) (j : Nat) (x : Str) : Prop :=
  ∃ f fd ps, FnOk P w K mg base (L2.CX P w) j f fd ps (spR K) ∧ mg x = some (.ref f) ∧ PySem.W.keepIn K (.ref f) = true ∧ Binds K fd ps []
theorem no_own {ss : List S} {n : Nat} (h : ∀ a o, S.own a o ∉ ss) : ∀ a, ¬ Owns (args ss n) a := fun a ⟨j, o, z⟩ => h a o (List.mem_of_getElem? (args_get z))
theorem fn_okR {f : Addr} {fd : FuncData} {qual : Str} {params : Arguments} {body : List Stmt} {p1 p2 : Str} (F : FunD K x qual params body sc [] [] f fd) (Sc : FnScope N [p1, p2] sc) (hv : chkB (locB sc) N vs = true)
    (hbody : ∀ X W, Cxt P w K mg base sc N vs vs k X W → Frm X → ∀ (ns : List Int) (salt : Int), ns.length ≤ 63 → 0 ≤ salt → salt < 2147483647 → SW X W body (args [.scr ns, .d (.int salt)] N.length) (fun _ => False) (fun ρ' r => ∃ ms : List Int, r = .new (.lst (ms.map PyData.int)) ∧ RS ms) noX) :
    FnOk P w K mg base (L2.CX P w) (k + 1) f fd [p1, p2] (spR K) := by
  refine F.ok Sc (fun vs H Q E h => ?_) (fun cdv A outer s H vs Q E hr h => ?_)
  · obtain ⟨F, a, ns, salt, rfl, _⟩ := h
    rfl
  · obtain ⟨F0, a, ns, salt, rfl, ex, sq, hl, s0, s1, kq⟩ := h
    have C := cxt_of (P := P) (w := w) (K := K) (mg := mg) (base := base) (outer := outer) (s := s) (H := H) (E := E) (cdv := cdv) (f := f) (qual := qual) Sc hv hr
    refine ⟨_, pss_w, ?_⟩
    have no : ∀ a, ¬ Owns (args [.scr ns, .d (.int salt)] N.length) a := no_own fun a o h => by simp at h
    have wd : Wd K F0 H (args [.scr ns, .d (.int salt)] N.length) := ⟨ex, fun i a o q => absurd ⟨i, o, q⟩ (no a), fun i _ a o _ q _ => absurd ⟨i, o, q⟩ (no a)⟩
    have sl : Sl K F0 (L2.start N [.ref a, .int salt]) (args [.scr ns, .d (.int salt)] N.length) := by
      have l2 : 2 ≤ N.length := ps_le Sc
      refine ⟨by rw [start_len (vs := [.ref a, .int salt]) l2, args_len (ss := [.scr ns, .d (.int salt)]) l2], fun i z t => ?_⟩
      have z2 := args_get t
      match i with
      | 0 =>
        cases z2
        exact ⟨.ref a, start_get rfl, a, rfl, sq⟩
      | 1 =>
        cases z2
        exact ⟨.int salt, start_get rfl, .int salt⟩
      | i + 2 => cases z2
    refine hbody _ _ C ⟨rfl, rfl⟩ ns salt hl s0 s1 F0 H _ _ wd sl (fun _ _ _ _ _ _ _ _ _ _ z => z.elim) (fun _ _ _ _ _ _ _ z => z.elim) (fun F' H' ρ' v r st wd' rt z => ?_)
    obtain ⟨ms, rfl, rs⟩ := z
    obtain ⟨q, ho, rfl, h0, f', _, hh, xs, rfl, dd⟩ := rt
    have e := dd.ints
    subst e
    exact kq F' H' q ms ⟨st.ex, fun a o z => st.keep a o z (no a), wd'.sub, fun a o z z' => st.fr a o z z' (no a)⟩ (h0.resolve_right (no q)) f' hh rs
theorem s1_random (C : Cxt P w K mg base sc N vs ls k X W) {j n : Nat} (G : FnR P w K mg base j x) {z s : Str} {l : Nat} [sz : Slot N z i] [ss : Slot N s l] {ns : List Int} {salt : Int} (hs : ρ[l]? = some (some (.scr ns))) (hv : vs[l]? = some true) (hl : ls[i]? = some true) (h63 : ns.length ≤ 63)
    (h : ∀ q, Nx (ρ.set i (some (.own q .rs)))) (s0 : 0 ≤ salt := by decide) (s1 : salt < 2147483647 := by decide) (hj : j ≤ k := by decide) (hg : sc.names.lookup x = some .globalImplicit := by decide +kernel)
    (hdb : (x == ("__debug__" : Str)) = false := by decide) (hd : (s == ("__debug__" : Str)) = false := by decide) (hcd : (s == ("__classdict__" : Str)) = false := by decide) :
    S1 X W (.Assign [.Name z px] (.Call (.Name x p) [.Name s p2, .Constant (.int salt) n p3] [] p4) pos) ρ Nx R E := by
  intro F H σ D wd sl kx kn kr
  obtain ⟨f, fd, ps, ok, hm, kp, bd⟩ := G
  have hgl := C.gl hg
  have hr : Room j X.A := C.room.mono hj
  have pv' : PE X (.Name s p2) (tVar l) := pv_of C hv hd hcd
  have hN : X.N.Nodup := by rw [C.eN]; exact C.nd
  have hi : X.N[i]? = some z := by rw [C.eN]; exact sz.get
  have hlo := C.lo sz.get hl
  have hst := C.st sz.get hl
  obtain ⟨rfl, rfl, rfl, rfl, rfl⟩ : X.prog = P ∧ X.w = w ∧ X.K = K ∧ X.mg = mg ∧ X.base = base := ⟨C.eP, C.ew, C.eK, C.eg, C.eb⟩
  refine of_ps (ps_set (i := i) hN hi hlo (pe_callS ok hr hgl hm kp bd (fun σ => passAt C.tk σ) (pa_cons pv' (pa_cons pe_int pa_nil)) hdb rfl rfl) rfl hst) ?_
  obtain ⟨v, h1, a, rfl, h2⟩ := sl.get l _ hs
  refine ⟨_, h1, F, a, ns, salt, rfl, wd.sub, h2, h63, s0, s1, fun F' H' q ms g h0 f' hh rs => ?_⟩
  have nq : ¬ Owns ρ q := fun ⟨j, o, z⟩ => by
    obtain ⟨_, _, z2, _⟩ := wd.own j q o z
    rw [h0] at z2
    cases z2
  have st : Stp ρ ρ F H F' H' := g.stp
  refine kn F' H' _ _ ⟨st.ex, st.keep, st.fr, fun a z => ?_, st.all⟩ ((wd.gr g).own_set f' nq hh (OO.r rs)) (sl.mono g.ex).own_set (h q)
  rcases owns_set z with z | z
  · exact st.own a z
  · rw [z]
    exact .inr h0
/-! ### the law itself -/
def spLaw (K : PySem.W.Frag) : Sp := fun vs H Q _ => ∃ (a : Addr) (ns : List Int), vs = [.ref a] ∧ SqL K H a (ns.map V.int) ∧ ns.length ≤ 63 ∧ ∀ H', Q (.bl true) H'
theorem fn_okL {f : Addr} {fd : FuncData} {qual : Str} {params : Arguments} {body : List Stmt} {p1 : Str} (F : FunD K x qual params body sc [] [] f fd) (Sc : FnScope N [p1] sc) (hv : chkB (locB sc) N vs = true)
    (hbody : ∀ X W, Cxt P w K mg base sc N vs vs k X W → Frm X → ∀ (ns : List Int), ns.length ≤ 63 → SW X W body (args [.scr ns] N.length) (fun _ => False) (fun ρ' r => r = .d (.bool true)) noX) :
    FnOk P w K mg base (L2.CX P w) (k + 1) f fd [p1] (spLaw K) := by
  refine F.ok Sc (fun vs H Q E h => ?_) (fun cdv A outer s H vs Q E hr h => ?_)
  · obtain ⟨a, ns, rfl, _⟩ := h
    rfl
  · obtain ⟨a, ns, rfl, sq, hl, kq⟩ := h
    have C := cxt_of (P := P) (w := w) (K := K) (mg := mg) (base := base) (outer := outer) (s := s) (H := H) (E := E) (cdv := cdv) (f := f) (qual := qual) Sc hv hr
    refine ⟨_, pss_w, ?_⟩
    have no : ∀ a, ¬ Owns (args [.scr ns] N.length) a := no_own fun a o h => by simp at h
    have wd : Wd K H H (args [.scr ns] N.length) := ⟨Ex.refl _, fun i a o q => absurd ⟨i, o, q⟩ (no a), fun i _ a o _ q _ => absurd ⟨i, o, q⟩ (no a)⟩
    have sl : Sl K H (L2.start N [.ref a]) (args [.scr ns] N.length) := by
      have l2 : 1 ≤ N.length := ps_le Sc
      refine ⟨by rw [start_len (vs := [.ref a]) l2, args_len (ss := [.scr ns]) l2], fun i z t => ?_⟩
      have z2 := args_get t
      match i with
      | 0 =>
        cases z2
        exact ⟨.ref a, start_get rfl, a, rfl, sq⟩
      | i + 1 => cases z2
    refine hbody _ _ C ⟨rfl, rfl⟩ ns hl H H _ _ wd sl (fun _ _ _ _ _ _ _ _ _ _ z => z.elim) (fun _ _ _ _ _ _ _ z => z.elim) (fun F' H' ρ' v r st wd' rt z => ?_)
    subst z
    cases rt
    exact kq H'
end
end Bp

namespace Bp
open PySem PySem.Spec PyProof.Rows L2
/-! ### defs of the module, by their names -/
abbrev FD (K : PySem.W.Frag) (x : Str) (st : Stmt) (f : Addr) (fd : FuncData) : Prop := FunD K x x (defArgs st) (defBody st) (defScope st) [] [] f fd
/-- the def st stands at the module's name x -/
def At (K : PySem.W.Frag) (mg : Str → Option Value) (x : Str) (st : Stmt) : Prop := ∃ f fd, FD K x st f fd ∧ mg x = some (.ref f)
/-- how the arguments come to the parameters -/
def Bd (x : Str) (st : Stmt) (ps : List Str) : Prop := ∀ (dV kV doc pm : Value) (an : Option Addr) (cdv ct : Value) (us : List Value), dV = .none → us.length = ps.length → bindArgs (PySem.W.fnOf x x (defArgs st) (defBody st) (defScope st) dV kV doc pm an cdv ct) ⟨us, []⟩ = pure (ps.zip us)
theorem bd_of {x : Str} {st : Stmt} {ps : List Str} (h : ∀ (kV doc pm : Value) (an : Option Addr) (cdv ct : Value) (us : List Value), us.length = ps.length → bindArgs (PySem.W.fnOf x x (defArgs st) (defBody st) (defScope st) .none kV doc pm an cdv ct) ⟨us, []⟩ = pure (ps.zip us)) : Bd x st ps :=
  fun dV kV doc pm an cdv ct us e hl => by
    subst e
    exact h kV doc pm an cdv ct us hl
theorem bd_binds {K : PySem.W.Frag} {x : Str} {st : Stmt} {ps : List Str} {f : Addr} {fd : FuncData} (F : FD K x st f fd) (b : Bd x st ps) : Binds K fd ps [] := F.bindsN fun kV doc pm an cdv ct us hl => b .none kV doc pm an cdv ct us rfl hl
section
variable {P : Program} {w : World} {K : PySem.W.Frag} {mg : Str → Option Value} {base : Heap} {N ps : List Str} {vs : List Bool} {k : Nat} {x : Str} {st : Stmt}
theorem fn_def {Pf : PF} (A : At K mg x st) (Sc : FnScope N ps (defScope st)) (bd : Bd x st ps) (len : ∀ ds Q E, Pf ds Q E → ds.length = ps.length) (hv : chkB (locB (defScope st)) N vs = true)
    (hbody : ∀ X W, Cxt P w K mg base (defScope st) N vs vs k X W → Frm X → ∀ ds Q E, Pf ds Q E → SW X W (defBody st) (args (ds.map S.d) N.length) (fun _ => Q (.d .none)) (fun _ r => Q r) (fun _ y => E y)) : Fn P w K mg base (k + 1) x Pf := by
  obtain ⟨f, fd, F, hm⟩ := A
  exact ⟨f, fd, ps, fn_ok F Sc len hv hbody, hm, F.kp, bd_binds F bd⟩
theorem fn_draw {Pf : PDr} (A : At K mg x st) (Sc : FnScope N ps (defScope st)) (bd : Bd x st ps) (len : ∀ ds Q, Pf ds Q → ds.length + 1 = ps.length) (hv : chkB (locB (defScope st)) N vs = true)
    (hbody : ∀ X W, Cxt P w K mg base (defScope st) N vs vs k X W → Frm X → ∀ q ds Q, Pf ds Q → SW X W (defBody st) (args (.own q .rs :: ds.map S.d) N.length) (fun _ => False) (fun ρ' r => ∃ d, ρ'[0]? = some (some (.own q .rs)) ∧ r.toD = some d ∧ Q d) noX) : FnO P w K mg base (k + 1) x (pD Pf) := by
  obtain ⟨f, fd, F, hm⟩ := A
  exact ⟨f, fd, ps, fn_okD F Sc len hv hbody, hm, F.kp, bd_binds F bd⟩
theorem fn_obj {Pg : PG1} (A : At K mg x st) (Sc : FnScope N ps (defScope st)) (bd : Bd x st ps) (len : ∀ o ds Q E, Pg o ds Q E → ds.length + 1 = ps.length) (hv : chkB (locB (defScope st)) N vs = true)
    (hbody : ∀ X W, Cxt P w K mg base (defScope st) N vs vs k X W → Frm X → ∀ q o ds Q E, Pg o ds Q E → SW X W (defBody st) (args (.own q o :: ds.map S.d) N.length) (fun ρ' => ∃ o', ρ'[0]? = some (some (.own q o')) ∧ Q o' .none) (fun ρ' r => ∃ o' d, ρ'[0]? = some (some (.own q o')) ∧ r.toD = some d ∧ Q o' d) (fun ρ' y => ∃ o', ρ'[0]? = some (some (.own q o')) ∧ E o' y)) : FnO P w K mg base (k + 1) x Pg := by
  obtain ⟨f, fd, F, hm⟩ := A
  exact ⟨f, fd, ps, fn_okO F Sc len hv hbody, hm, F.kp, bd_binds F bd⟩
theorem fn_random {p1 p2 : Str} (A : At K mg x st) (Sc : FnScope N [p1, p2] (defScope st)) (bd : Bd x st [p1, p2]) (hv : chkB (locB (defScope st)) N vs = true)
    (hbody : ∀ X W, Cxt P w K mg base (defScope st) N vs vs k X W → Frm X → ∀ (ns : List Int) (salt : Int), ns.length ≤ 63 → 0 ≤ salt → salt < 2147483647 → SW X W (defBody st) (args [.scr ns, .d (.int salt)] N.length) (fun _ => False) (fun ρ' r => ∃ ms : List Int, r = .new (.lst (ms.map PyData.int)) ∧ RS ms) noX) : FnR P w K mg base (k + 1) x := by
  obtain ⟨f, fd, F, hm⟩ := A
  exact ⟨f, fd, _, fn_okR F Sc hv hbody, hm, F.kp, bd_binds F bd⟩
end
/-- the address of a module's class -/
abbrev cA (K : PySem.W.Frag) (x : Str) : Addr := He.ga K x
/-- a number of the module -/
abbrev GI (mg : Str → Option Value) (x : Str) (n : Int) : Prop := ∃ t, mg x = some (.int n t)
end Bp

namespace Bp
open PySem PySem.Spec PyProof.Rows L2
def noOwnB (ρ : Rho) (i : Nat) : Bool := match ρ[i]? with
  | some (some (.own _ _)) => false
  | _ => true
theorem noOwn_of {ρ : Rho} {i : Nat} (h : noOwnB ρ i = true) : NoOwn ρ i := fun a o e => by
  unfold noOwnB at h
  rw [e] at h
  cases h
theorem take_more {α : Type} {l : List α} {i : Nat} {x : α} (h : l[i]? = some x) : l.take (i + 1) = l.take i ++ [x] := by
  rw [List.take_add_one, h]
  rfl
section
variable {P : Program} {w : World} {K : PySem.W.Frag} {mg : Str → Option Value} {base : Heap} {sc' : Scope} {N : List Str} {vb lb : List Bool} {k : Nat} {ρ : Rho} {elt c : Expr} {i : Nat}
/-- a comprehension without tests, item by item -/
theorem lc_map {α : Type} {ds : List PyData} {xs : List α} {enc f : α → PyData} {Q : List PyData → Prop} (ed : ds = xs.map enc) (h : ∀ a ∈ xs, ∀ Xe, Cxt P w K mg base sc' N vb lb k Xe W0 → EW Xe W0 elt (ρ.set i (some (.d (enc a)))) (fun ρ4 z => ρ4 = ρ.set i (some (.d (enc a))) ∧ z = f a) noX) (q : Q (xs.map f)) :
    ∃ I : Nat → List PyData → Prop, I 0 [] ∧ (∀ n d acc, ds[n]? = some d → I n acc → LcTurn P w K mg base sc' N vb lb k [] elt (ρ.set i (some (.d d))) (I n) (I (n + 1)) acc) ∧ ∀ acc, I ds.length acc → Q acc := by
  subst ed
  refine ⟨fun n acc => acc = (xs.take n).map f, rfl, fun n d acc hd hi => ?_, fun acc ha => ?_⟩
  · rw [List.getElem?_map] at hd
    cases e : xs[n]? with
    | none =>
      rw [e] at hd
      cases hd
    | some a =>
      rw [e] at hd
      cases hd
      intro Xb Cb
      refine ⟨fun _ Xe Ce => ?_, fun z => by cases z⟩
      intro F H σ R wd sl kx kk
      refine h a (List.mem_of_getElem? e) Xe Ce F H σ R wd sl kx fun F' H' ρ' v d st wd' sl' dd z => kk F' H' ρ' v d st wd' sl' dd ⟨z.1, ?_⟩
      show acc ++ [d] = (xs.take (n + 1)).map f
      rw [hi, z.2, take_more e, List.map_append]
      rfl
  · rw [ha, List.length_map, List.take_length]
    exact q
/-- a comprehension with one test -/
theorem lc_fil {α : Type} {ds : List PyData} {xs : List α} {enc f : α → PyData} {pr : α → Bool} {Q : List PyData → Prop} (ed : ds = xs.map enc) (ht : ∀ a ∈ xs, ∀ Xe, Cxt P w K mg base sc' N vb lb k Xe W0 → TW Xe W0 c (ρ.set i (some (.d (enc a)))) (fun ρ4 z => ρ4 = ρ.set i (some (.d (enc a))) ∧ z = pr a) noX)
    (h : ∀ a ∈ xs, pr a = true → ∀ Xe, Cxt P w K mg base sc' N vb lb k Xe W0 → EW Xe W0 elt (ρ.set i (some (.d (enc a)))) (fun ρ4 z => ρ4 = ρ.set i (some (.d (enc a))) ∧ z = f a) noX) (q : Q ((xs.filter pr).map f)) :
    ∃ I : Nat → List PyData → Prop, I 0 [] ∧ (∀ n d acc, ds[n]? = some d → I n acc → LcTurn P w K mg base sc' N vb lb k [c] elt (ρ.set i (some (.d d))) (I n) (I (n + 1)) acc) ∧ ∀ acc, I ds.length acc → Q acc := by
  subst ed
  refine ⟨fun n acc => acc = ((xs.take n).filter pr).map f, rfl, fun n d acc hd hi => ?_, fun acc ha => ?_⟩
  · rw [List.getElem?_map] at hd
    cases e : xs[n]? with
    | none =>
      rw [e] at hd
      cases hd
    | some a =>
      rw [e] at hd
      cases hd
      have ha := List.mem_of_getElem? e
      intro Xb Cb
      intro F H σ R wd sl kx kk
      refine ht a ha Xb Cb F H σ R wd sl kx fun F' H' ρ' b st wd' sl' z => kk F' H' ρ' b st wd' sl' ⟨z.1, fun hb Xe Ce => ?_, fun hb => ?_⟩
      · have hp : pr a = true := z.2.symm.trans hb
        intro F H σ R wd sl kx kk
        refine h a ha hp Xe Ce F H σ R wd sl kx fun F' H' ρ' v d st wd' sl' dd z => kk F' H' ρ' v d st wd' sl' dd ⟨z.1, ?_⟩
        show acc ++ [d] = ((xs.take (n + 1)).filter pr).map f
        rw [hi, z.2, take_more e, List.filter_append, List.map_append]
        congr 1
        rw [List.filter_cons_of_pos hp]
        rfl
      · have hp : pr a = false := z.2.symm.trans hb
        show acc = ((xs.take (n + 1)).filter pr).map f
        rw [hi, take_more e, List.filter_append, List.filter_cons_of_neg (by rw [hp]; decide)]
        simp
  · rw [ha, List.length_map, List.take_length]
    exact q
end
end Bp

namespace Bp
open PySem PySem.Spec PyProof.Rows L2
/-! ### instances of own classes -/
theorem run_makeS {X : Cx} {CX : CXT} {k : Nat} {f C : Addr} {fd : FuncData} {ps : List Str} {sp : Sp} {E : XK} {pins : List (Addr × Obj)} {σ : L2.St} {H : Hp} {s : Shared} {Q : VK} {us : List Value} {vs : List V} (M : Mk X.K C f) (F : FnOk X.prog X.w X.K X.mg X.base CX k f fd ps sp) (hr : Room (k + 1) X.A) (hb : Binds X.K fd ps [])
    (hx : PassesAt CX X σ E) (I : Inv X pins σ H s) (r : Vals vs us)
    (h : ∀ x dx, H x = none → H dx = none → dx ≠ x → sp (.ref x :: vs) (upd (upd H dx (.own x)) x (.ins C dx [])) (fun v H2 => v = .non ∧ Q (.ref x) H2) E) :
    wpAny (model X.prog X.w) X.A (call (.ref C) us) (EP X pins σ Q) X.xe s := by
  have hq := h (s.heap.objs.size + 1) s.heap.objs.size (I.hok.fresh (Nat.le_succ _)) (I.hok.fresh (Nat.le_refl _)) (Nat.ne_of_lt (Nat.lt_succ_self _))
  have I2 := Inv.made (C := C) I
  have r2 : Vals (V.ref (s.heap.objs.size + 1) :: vs) (Value.ref (s.heap.objs.size + 1) :: us) := .cons rfl r
  have hl : (Value.ref (s.heap.objs.size + 1) :: us ++ []).length = ps.length := by
    have e := r2.length
    rw [F.len _ _ _ _ hq] at e
    rw [List.append_nil]
    exact e.symm
  have bb := hb _ (Value.ref (s.heap.objs.size + 1) :: us) I2.kIn hl
  rw [List.append_nil] at bb
  refine wpAny_call (make_map (f := f) I.kIn M.makes M.init (beq_iff_eq.mp M.fn) (codeAny_mono (F.run _ X.stack _ _ ⟨Value.ref (s.heap.objs.size + 1) :: us, []⟩ (Value.ref (s.heap.objs.size + 1) :: us) _ _ E (hr.make C us [])
    (I2.env0.make C us []) bb r2 hq) fun r s' hq' => ?_))
  cases r with
  | error e => exact hx pins _ _ e s' I2 hq'
  | ok fl =>
    cases fl with
    | ret u =>
      obtain ⟨v, H', I3, rv, ev, q3⟩ := I2.after hq'
      subst ev
      exact ⟨rv, ⟨V.ref (s.heap.objs.size + 1), H', I3, rfl, q3⟩⟩
    | next => exact False.elim hq'
    | brk => exact False.elim hq'
    | cont => exact False.elim hq'
/-- the module's name x is a class whose __init__ keeps Pg -/
def MkO (P : Program) (w : World) (K : PySem.W.Frag) (mg : Str → Option Value) (base : Heap) (j : Nat) (x : Str) (C : Addr) (Pg : PG1) : Prop :=
  ∃ f fd ps, FnOk P w K mg base (L2.CX P w) j f fd ps (spO K Pg) ∧ mg x = some (.ref C) ∧ Mk K C f ∧ Binds K fd ps []
section
variable {P : Program} {w : World} {K : PySem.W.Frag} {mg : Str → Option Value} {base : Heap} {sc : Scope} {N : List Str} {vs ls : List Bool} {k : Nat} {X : Cx} {W : WX} {ρ : Rho} {E : XQ} {e : Expr} {es : List Expr} {pos p p2 : Pos} {x y : Str} {i : Nat}
theorem eo_make (Cx1 : Cxt P w K mg base sc N vs ls k X W) {j : Nat} {C : Addr} {Pg : PG1} {Q : Rho → O → Prop} (G : MkO P w K mg base j x C Pg) (h : AW X W (e :: es) ρ (fun ρ1 ds => ∀ dx, Pg (.ins C dx []) ds (fun o' d => d = .none ∧ Q ρ1 o') (fun _ z => E ρ1 z)) E) (hj : j + 1 ≤ k := by decide) (hg : sc.names.lookup x = some .globalImplicit := by decide +kernel)
    (hdb : (x == ("__debug__" : Str)) = false := by decide) (he : starEach (e :: es) X.env = (false, eval e X.env) :: starEach es X.env := by with_unfolding_all rfl) (hpl : (backTo pos (starEach es X.env)).any (·.1) = false := by with_unfolding_all rfl) :
    EO X W (.Call (.Name x p) (e :: es) [] pos) ρ Q E := by
  intro F H σ R wd sl kx kk pins s I
  obtain ⟨f, fd, ps, ok, hm, mk, bd⟩ := G
  have hgl := Cx1.gl hg
  have hr : Room (j + 1) X.A := Cx1.room.mono hj
  obtain ⟨rfl, rfl, rfl, rfl, rfl⟩ : X.prog = P ∧ X.w = w ∧ X.K = K ∧ X.mg = mg ∧ X.base = base := ⟨Cx1.eP, Cx1.ew, Cx1.eK, Cx1.eg, Cx1.eb⟩
  refine wpAny_Call_Name_kw (ld_glob I hgl hm ?_ hdb)
  refine PySem.W.callWith_K (h₀ := X.base) I.ok.mod.kin mk.kp (thn (h F H σ (fun vs' H1 => ∃ F1 ρ1 ds, Stp ρ ρ1 F H F1 H1 ∧ Wd X.K F1 H1 ρ1 ∧ Sl X.K F1 σ ρ1 ∧ DDs X.K F1 vs' ds ∧ ∀ dx, Pg (.ins C dx []) ds (fun o' d => d = .none ∧ Q ρ1 o') (fun _ z => E ρ1 z)) wd sl kx (fun F1 H1 ρ1 vs' ds st1 wd1 sl1 dd1 q => ⟨F1, ρ1, ds, st1, wd1, sl1, dd1, q⟩) pos pins s I) fun us s1 ⟨vs', H1, I1, r, F1, ρ1, ds, st1, wd1, sl1, dd1, q⟩ => ⟨I1.kIn, ?_⟩) he hpl
  refine run_makeS mk ok hr bd (passAt Cx1.tk σ) I1 r fun z dx hz hdx hne => ?_
  have hnz : F1 z = none := wd1.sub.none hz
  have own1 : ∀ a, Owns ρ1 a → H1 a ≠ none := fun a ⟨j, o, t⟩ e => by
    obtain ⟨_, _, t2, _⟩ := wd1.own j a o t
    rw [e] at t2
    cases t2
  have up : ∀ a o, H1 a = some o → upd (upd H1 dx (.own z)) z (.ins C dx []) a = some o := fun a o t => by
    rw [upd_ne (ne_of_none t hz), upd_ne (ne_of_none t hdx)]
    exact t
  have gr0 : ∀ {F' H' : Hp}, GrB z F1 (upd (upd H1 dx (.own z)) z (.ins C dx [])) F' H' → F' z = none → Gr F1 H1 F' H' := fun {F' H'} g fz =>
    ⟨g.ex, fun a o t => g.keep a o (ne_of_none t hz) (up a o t), g.sub, fun a o f1 t => g.fr a o (ne_of_none t hz) f1 (up a o t)⟩
  refine ⟨F1, z, .ins C dx [], vs', ds, _, _, rfl, fun a o t => up a o (wd1.sub a o t), hnz, ⟨_, upd_same, [], rfl, rfl, .nil⟩, dd1, q dx, fun F' H' o' v d g fz oz dd qd => ?_, fun F' H' o' yx xd g fz oz xa ez => ?_⟩
  · obtain ⟨rfl, qd⟩ := qd
    cases dd
    obtain ⟨ho, hh, oo⟩ := oz
    have g' := gr0 g fz
    exact ⟨rfl, kk F' H' ρ1 z ho o' (st1.trans g'.stp) (wd1.gr g') (sl1.mono g'.ex) (st1.all z hz) fz (fun t => own1 z t hz) hh oo qd⟩
  · have g' := gr0 g fz
    exact kx F' H' σ ρ1 yx xd (st1.trans g'.stp) (wd1.gr g') (sl1.mono g'.ex) xa ez
end
end Bp
namespace Bp
open PySem PySem.Spec PyProof.Rows L2
theorem s1_exprO {X : Cx} {W : WX} {ρ : Rho} {E : XQ} {e : Expr} {pos : Pos} {Nx : Rho → Prop} {R : Rho → Ret → Prop} (h : EO X W e ρ (fun ρ1 _ => Nx ρ1) E) (hs : swapsWith e none pos.line X.env = pure false := by with_unfolding_all rfl) : S1 X W (.Expr e pos) ρ Nx R E :=
  fun F H σ D wd sl kx kn kr => of_ps (ps_expr pe_w hs) (h F H σ _ wd sl kx fun F1 H1 ρ1 q ho o st1 wd1 sl1 _ _ _ _ _ r => kn F1 H1 σ ρ1 st1 wd1 sl1 r)
end Bp

namespace Bp
open PySem PySem.Spec PyProof.Rows L2
section
variable {P : Program} {w : World} {K : PySem.W.Frag} {mg : Str → Option Value} {base : Heap} {sc : Scope} {N : List Str} {vs ls : List Bool} {k : Nat} {X : Cx} {W : WX} {ρ : Rho} {Q : Rho → PyData → Prop} {E : XQ} {Nx : Rho → Prop} {R : Rho → Ret → Prop} {a b c e : Expr} {es : List Expr} {pos p p2 p3 p4 px : Pos} {x y : Str} {i : Nat}
/-- the ints lo .. hi - 1 as data -/
def rgD (lo hi : Int) : List PyData := (List.range (hi - lo).toNat).map fun (i : Nat) => PyData.int (lo + (i : Int))
theorem dds_rg {F : Hp} {lo hi : Int} : DDs K F (rgV lo hi) (rgD lo hi) := by
  have h := DDs.ofInts (K := K) (F := F) ((List.range (hi - lo).toNat).map fun (i : Nat) => lo + (i : Int))
  rw [List.map_map, List.map_map] at h
  exact h
theorem ew_listRg1 (C : Cxt P w K mg base sc N vs ls k X W) (B : Blt mg) (h : EW X W a ρ (fun ρ1 d => ∃ n, d = .int n ∧ RgOk 0 n ∧ Q ρ1 (.list (rgD 0 n))) E) (hg : sc.names.lookup ("list" : Str) = some .globalImplicit := by decide +kernel) (hg2 : sc.names.lookup ("range" : Str) = some .globalImplicit := by decide +kernel)
    (na : starEach [a] X.env = (false, eval a X.env) :: starEach [] X.env := by with_unfolding_all rfl) (nb : starEach [.Call (.Name "range" p2) [a] [] p3] X.env = (false, eval (.Call (.Name "range" p2) [a] [] p3) X.env) :: starEach [] X.env := by with_unfolding_all rfl) :
    EW X W (.Call (.Name "list" p) [.Call (.Name "range" p2) [a] [] p3] [] pos) ρ Q E := by
  intro F H σ R wd sl kx kk
  refine of_pe (pe_listRg C.calm (C.gl hg) (by rw [C.eg]; exact B.list) (prg_1 (C.gl hg2) (by rw [C.eg]; exact B.range) pe_w na) nb) ?_
  refine h F H σ _ wd sl kx fun F1 H1 ρ1 v d st1 wd1 sl1 dd1 q1 => ?_
  obtain ⟨n, rfl, ok, q⟩ := q1
  cases dd1
  refine ⟨n, rfl, ok, fun p hp => ?_⟩
  have g := Gr.new (o := .lst (rgV 0 n)) wd1.sub hp
  exact kk _ _ ρ1 _ _ (st1.trans g.stp) (wd1.gr g) (sl1.mono g.ex) (.lst upd_same dds_rg) q
theorem ew_listRg2 (C : Cxt P w K mg base sc N vs ls k X W) (B : Blt mg) (h : EW X W a ρ (fun ρ1 d => EW X W b ρ1 (fun ρ2 d2 => ∃ m n, d = .int m ∧ d2 = .int n ∧ RgOk m n ∧ Q ρ2 (.list (rgD m n))) E) E) (hg : sc.names.lookup ("list" : Str) = some .globalImplicit := by decide +kernel) (hg2 : sc.names.lookup ("range" : Str) = some .globalImplicit := by decide +kernel)
    (na : starEach [a, b] X.env = (false, eval a X.env) :: starEach [b] X.env := by with_unfolding_all rfl) (na2 : starEach [b] X.env = (false, eval b X.env) :: starEach [] X.env := by with_unfolding_all rfl) (hp : (backTo p3 (starEach [b] X.env)).any (·.1) = false := by with_unfolding_all rfl)
    (nb : starEach [.Call (.Name "range" p2) [a, b] [] p3] X.env = (false, eval (.Call (.Name "range" p2) [a, b] [] p3) X.env) :: starEach [] X.env := by with_unfolding_all rfl) :
    EW X W (.Call (.Name "list" p) [.Call (.Name "range" p2) [a, b] [] p3] [] pos) ρ Q E := by
  intro F H σ R wd sl kx kk
  refine of_pe (pe_listRg C.calm (C.gl hg) (by rw [C.eg]; exact B.list) (prg_2 (C.gl hg2) (by rw [C.eg]; exact B.range) pe_w pe_w na na2 hp) nb) ?_
  refine h F H σ _ wd sl kx fun F1 H1 ρ1 v d st1 wd1 sl1 dd1 q1 => ?_
  refine q1 F1 H1 σ _ wd1 sl1 (kx.step st1) fun F2 H2 ρ2 v2 d2 st2 wd2 sl2 dd2 q2 => ?_
  obtain ⟨m, n, rfl, rfl, ok, q⟩ := q2
  cases dd1
  cases dd2
  refine ⟨m, n, rfl, rfl, ok, fun p hp => ?_⟩
  have g := Gr.new (o := .lst (rgV m n)) wd2.sub hp
  exact kk _ _ ρ2 _ _ ((st1.trans st2).trans g.stp) (wd2.gr g) (sl2.mono g.ex) (.lst upd_same dds_rg) q
end
end Bp

namespace Bp
open PySem PySem.Spec PyProof.Rows L2
theorem at_of {fa : List He.Fa} {fn : List He.DefD} {K : PySem.W.Frag} {h : Heap} {mg : Str → Option Value} (X : K.In h) (G : h.Ns mainGlobals mg) (c : He.SaysD fa fn K) {x : Str} {st : Stmt} (i j : Nat) (hi : fn[i]? = some ⟨(x, none), x, x, defArgs st, defBody st, defScope st, [], []⟩) (hj : fa[j]? = some (.glo x)) : At K mg x st := by
  obtain ⟨fd, F⟩ := c.def_ i hi
  exact ⟨_, fd, F, He.glo_ok X G (c.fact j hj)⟩
theorem ex_of {fa : List He.Fa} {fn : List He.DefD} {K : PySem.W.Frag} {h : Heap} {mg : Str → Option Value} (X : K.In h) (G : h.Ns mainGlobals mg) (c : He.SaysD fa fn K) {x : Str} (i j : Nat) (hi : fa[i]? = some (.exc x)) (hj : fa[j]? = some (.glo x)) : ExC K mg x (cA K x) := by
  obtain ⟨h1, h2, h3, h4⟩ := He.exc_ok (c.fact i hi)
  exact ⟨h1, He.glo_ok X G (c.fact j hj), h2, h3, h4⟩
theorem gi_of {fa : List He.Fa} {fn : List He.DefD} {K : PySem.W.Frag} {h : Heap} {mg : Str → Option Value} (X : K.In h) (G : h.Ns mainGlobals mg) (c : He.SaysD fa fn K) {x : Str} {n : Int} (i : Nat) (hi : fa[i]? = some (.int x n)) : GI mg x n := He.int_ok X G (c.fact i hi)
/-- a law's end: the promise is over the world at hand -/
theorem walk_at_world {l : PySem.W.OpenLaw} {n k : Nat} {q : Program} {loose : List Str} {XP : (Str → Option Value) → Heap → Prop} {YP : World → Heap → Prop} {d : DefRec} {x : Str}
    (hn : l.most = some n) (hn2 : n ≤ sizeLine) (hdf : d.params.defaults = []) (hr : Room k callerA)
    (F : ∀ (w : World) (mg : Str → Option Value) (fa : Addr) (h : Heap), YP w h → h.Ns mainGlobals mg → mg d.name = some (.ref fa) →
      ∃ (K : PySem.W.Frag) (fd : FuncData) (sp : Sp), K.In h ∧ (∀ (s : Shared) (u : Value), BindsTo s fd ⟨[u], []⟩ [(x, u)]) ∧
        (∀ (H : Hp) (a : Addr) (ns : List Int), ns.length ≤ n → Only H → SqL K H a (ns.map V.int) → sp [.ref a] H (fun v _ => v = .bl true) fun _ _ _ => False) ∧
        ∀ base : Heap, K.In base → base.Ns mainGlobals mg → FnOk l.prog w K mg base (L2.CX l.prog w) k fa fd [x] sp) :
    PySem.W.WalkO q loose XP YP l.row.toRowW d [] (fun f vs => PySem.call f vs) := by
  refine Att.attach_call hn hdf fun w s₀ s₁ mg mb fa o pm cd doc a vs ns G Y ho hd hcd hmg hobj hints hlen hg => ?_
  obtain ⟨K, fd, sp, KX, hb, hsp, hF⟩ := F w mg fa _ Y G.T.g hmg
  refine law_call KX G.T.g G.T.b G.T.builtins G.T.nolimit hg hobj hints (Nat.le_trans hlen hn2) hr hF hb (fun H hO hS => hsp H a ns hlen hO hS) fun H e s' z => ?_
  obtain ⟨_, _, _, _, _, _, _, _, _, _, _, _, z⟩ := z
  exact z
end Bp

namespace Bp
open PySem PySem.Spec PyProof.Rows L2
section
variable {P : Program} {w : World} {K : PySem.W.Frag} {mg : Str → Option Value} {base : Heap} {sc : Scope} {N : List Str} {vs ls : List Bool} {k : Nat} {X : Cx} {W : WX} {ρ : Rho} {Q : Rho → PyData → Prop} {E : XQ} {Nx : Rho → Prop} {R : Rho → Ret → Prop} {a b c e : Expr} {es : List Expr} {pos p p2 p3 p4 px py pz pt pt2 : Pos} {x y z : Str} {i j l kt k2 : Nat}
theorem ew_mono {Q' : Rho → PyData → Prop} (h : EW X W e ρ Q E) (m : ∀ ρ d, Q ρ d → Q' ρ d) : EW X W e ρ Q' E := fun F H σ R wd sl kx kk => h F H σ R wd sl kx fun F' H' ρ' v d st wd' sl' dd q => kk F' H' ρ' v d st wd' sl' dd (m ρ' d q)
theorem s1_mono {st : Stmt} {Nx' : Rho → Prop} (h : S1 X W st ρ Nx' R E) (m : ∀ ρ', Nx' ρ' → Nx ρ') : S1 X W st ρ Nx R E := fun F H σ D wd sl kx kn kr => h F H σ D wd sl kx (fun F' H' σ' ρ' s1 w1 l1 n => kn F' H' σ' ρ' s1 w1 l1 (m ρ' n)) kr
/-- a statement that leaves the slots as they are -/
theorem sw_same {st : Stmt} {sts : List Stmt} (h : S1 X W st ρ (fun ρ' => ρ' = ρ) R E) (kk : SW X W sts ρ Nx R E) : SW X W (st :: sts) ρ Nx R E := sw_cons (s1_mono h fun ρ' e => by subst e; exact kk)
theorem sw_via {st : Stmt} {sts : List Stmt} (I : Rho → Prop) (h : S1 X W st ρ I R E) (kk : ∀ ρ', I ρ' → SW X W sts ρ' Nx R E) : SW X W (st :: sts) ρ Nx R E := sw_cons (s1_mono h kk)
/-! ### several names at once -/
def envOf (sc : Scope) : Env := { scope := sc, locals := 0, globals := 0, cells := [] }
theorem swapped_eq (C : Cxt P w K mg base sc N vs ls k X W) {ts : List Expr} {v : Expr} : swappedStores ts v X.env = swappedStores ts v (envOf sc) := by
  have e : X.env.scope = (envOf sc).scope := C.es
  unfold swappedStores Env.blockKind Env.kindOf
  rw [e]
theorem s1_par2 (C : Cxt P w K mg base sc N vs ls k X W) [sx : Slot N x i] [sy : Slot N y j] (h : EW X W a ρ (fun ρ1 d1 => EW X W b ρ1 (fun ρ2 d2 => Nx ((ρ2.set i (some (.d d1))).set j (some (.d d2)))) E) E)
    (hij : i ≠ j := by decide) (hx : sc.names.lookup x = some .local := by decide +kernel) (hy : sc.names.lookup y = some .local := by decide +kernel) (na : starEach [a, b] X.env = (false, eval a X.env) :: starEach [b] X.env := by with_unfolding_all rfl) (nb : starEach [b] X.env = (false, eval b X.env) :: starEach [] X.env := by with_unfolding_all rfl)
    (hw : swappedStores [.Tuple [.Name x px, .Name y py] kt pt] (.Tuple [a, b] k2 pt2) (envOf sc) = pure (some [x, y]) := by with_unfolding_all rfl)
    (hs : swapsWithSole [.Tuple [.Name x px, .Name y py] kt pt] (.Tuple [a, b] k2 pt2) pos.line X.env = pure false := by with_unfolding_all rfl) :
    S1 X W (.Assign [.Tuple [.Name x px, .Name y py] kt pt] (.Tuple [a, b] k2 pt2) pos) ρ Nx R E := by
  intro F H σ D wd sl kx kn kr
  refine of_ps (ps_par (i := i) (j := j) C.calm (by rw [C.eN]; exact C.nd) (by rw [C.eN]; exact sx.get) (by rw [C.eN]; exact sy.get) hij (by rw [C.es]; exact hx) (by rw [C.es]; exact hy) (pa_cons pe_w (pa_cons pe_w pa_nil nb) na) (by rw [swapped_eq C]; exact hw) hs) ?_
  refine h F H σ _ wd sl kx fun F1 H1 ρ1 v1 d1 st1 wd1 sl1 dd1 q1 => ?_
  refine q1 F1 H1 σ _ wd1 sl1 (kx.step st1) fun F2 H2 ρ2 v2 d2 st2 wd2 sl2 dd2 q2 => ?_
  refine ⟨v1, v2, rfl, ?_⟩
  exact kn F2 H2 _ _ (((st1.trans st2).trans (Stp.set noD)).trans (Stp.set noD)) ((wd2.set noD).set noD) ((sl2.set (dd1.mono st2.ex)).set dd2) q2
theorem s1_par3 (C : Cxt P w K mg base sc N vs ls k X W) [sx : Slot N x i] [sy : Slot N y j] [sz : Slot N z l] (h : EW X W a ρ (fun ρ1 d1 => EW X W b ρ1 (fun ρ2 d2 => EW X W c ρ2 (fun ρ3 d3 => Nx (((ρ3.set i (some (.d d1))).set j (some (.d d2))).set l (some (.d d3)))) E) E) E)
    (hij : i ≠ j := by decide) (hil : i ≠ l := by decide) (hjl : j ≠ l := by decide) (hx : sc.names.lookup x = some .local := by decide +kernel) (hy : sc.names.lookup y = some .local := by decide +kernel) (hz : sc.names.lookup z = some .local := by decide +kernel)
    (na : starEach [a, b, c] X.env = (false, eval a X.env) :: starEach [b, c] X.env := by with_unfolding_all rfl) (nb : starEach [b, c] X.env = (false, eval b X.env) :: starEach [c] X.env := by with_unfolding_all rfl) (nc : starEach [c] X.env = (false, eval c X.env) :: starEach [] X.env := by with_unfolding_all rfl)
    (hw : swappedStores [.Tuple [.Name x px, .Name y py, .Name z pz] kt pt] (.Tuple [a, b, c] k2 pt2) (envOf sc) = pure (some [x, y, z]) := by with_unfolding_all rfl)
    (hs : swapsWithSole [.Tuple [.Name x px, .Name y py, .Name z pz] kt pt] (.Tuple [a, b, c] k2 pt2) pos.line X.env = pure false := by with_unfolding_all rfl) :
    S1 X W (.Assign [.Tuple [.Name x px, .Name y py, .Name z pz] kt pt] (.Tuple [a, b, c] k2 pt2) pos) ρ Nx R E := by
  intro F H σ D wd sl kx kn kr
  refine of_ps (ps_par3 (i := i) (j := j) (l := l) C.calm (by rw [C.eN]; exact C.nd) (by rw [C.eN]; exact sx.get) (by rw [C.eN]; exact sy.get) (by rw [C.eN]; exact sz.get) hij hil hjl (by rw [C.es]; exact hx) (by rw [C.es]; exact hy) (by rw [C.es]; exact hz) (pa_cons pe_w (pa_cons pe_w (pa_cons pe_w pa_nil nc) nb) na) (by rw [swapped_eq C]; exact hw) hs) ?_
  refine h F H σ _ wd sl kx fun F1 H1 ρ1 v1 d1 st1 wd1 sl1 dd1 q1 => ?_
  refine q1 F1 H1 σ _ wd1 sl1 (kx.step st1) fun F2 H2 ρ2 v2 d2 st2 wd2 sl2 dd2 q2 => ?_
  refine q2 F2 H2 σ _ wd2 sl2 (kx.step (st1.trans st2)) fun F3 H3 ρ3 v3 d3 st3 wd3 sl3 dd3 q3 => ?_
  refine ⟨v1, v2, v3, rfl, ?_⟩
  exact kn F3 H3 _ _ (((((st1.trans st2).trans st3).trans (Stp.set noD)).trans (Stp.set noD)).trans (Stp.set noD)) (((wd3.set noD).set noD).set noD) (((sl3.set ((dd1.mono st2.ex).mono st3.ex)).set (dd2.mono st3.ex)).set dd3) q3
/-- a pair of names: a plain value, a new object -/
theorem s1_par2O (C : Cxt P w K mg base sc N vs ls k X W) [sx : Slot N x i] [sy : Slot N y j] (h : EW X W a ρ (fun ρ1 d1 => EO X W b ρ1 (fun ρ2 o => ∀ q, Nx ((ρ2.set i (some (.d d1))).set j (some (.own q o)))) E) E)
    (hij : i ≠ j := by decide) (hx : sc.names.lookup x = some .local := by decide +kernel) (hy : sc.names.lookup y = some .local := by decide +kernel) (na : starEach [a, b] X.env = (false, eval a X.env) :: starEach [b] X.env := by with_unfolding_all rfl) (nb : starEach [b] X.env = (false, eval b X.env) :: starEach [] X.env := by with_unfolding_all rfl)
    (hw : swappedStores [.Tuple [.Name x px, .Name y py] kt pt] (.Tuple [a, b] k2 pt2) (envOf sc) = pure (some [x, y]) := by with_unfolding_all rfl)
    (hs : swapsWithSole [.Tuple [.Name x px, .Name y py] kt pt] (.Tuple [a, b] k2 pt2) pos.line X.env = pure false := by with_unfolding_all rfl) :
    S1 X W (.Assign [.Tuple [.Name x px, .Name y py] kt pt] (.Tuple [a, b] k2 pt2) pos) ρ Nx R E := by
  intro F H σ D wd sl kx kn kr
  refine of_ps (ps_par (i := i) (j := j) C.calm (by rw [C.eN]; exact C.nd) (by rw [C.eN]; exact sx.get) (by rw [C.eN]; exact sy.get) hij (by rw [C.es]; exact hx) (by rw [C.es]; exact hy) (pa_cons pe_w (pa_cons pe_w pa_nil nb) na) (by rw [swapped_eq C]; exact hw) hs) ?_
  refine h F H σ _ wd sl kx fun F1 H1 ρ1 v1 d1 st1 wd1 sl1 dd1 q1 => ?_
  refine q1 F1 H1 σ _ wd1 sl1 (kx.step st1) fun F2 H2 ρ2 q ho o st2 wd2 sl2 hp fp np hh oo n => ?_
  refine ⟨v1, .ref q, rfl, ?_⟩
  have np' : ¬ Owns (ρ2.set i (some (.d d1))) q := fun t => by
    rcases (Stp.set (F := F2) (H := H2) (i := i) (ρ := ρ2) (z := some (.d d1)) noD).own q t with t | t
    · exact np t
    · rw [hh] at t
      cases t
  have st' : Stp ρ (ρ2.set i (some (.d d1))) F H F2 H2 := (st1.trans st2).trans (Stp.set noD)
  refine kn F2 H2 _ _ ⟨st'.ex, st'.keep, st'.fr, fun t z => ?_, st'.all⟩ ((wd2.set noD).own_set fp np' hh oo) (sl2.set (dd1.mono st2.ex)).own_set (n q)
  rcases owns_set z with z | z
  · exact st'.own t z
  · rw [z]
    exact .inr (st1.all q hp)
/-- a target of any kind -/
theorem s1_asgG (C : Cxt P w K mg base sc N vs ls k X W) {tg : Expr} (h : EW X W e ρ (fun ρ1 d => GW X tg d ρ1 Nx) E) (hs : swapsWithSole [tg] e pos.line X.env = pure false := by with_unfolding_all rfl) (hw : swappedStores [tg] e (envOf sc) = pure none := by with_unfolding_all rfl) (h1 : (assignEach [tg] X.env).map (·.2) = [assign tg X.env] := by with_unfolding_all rfl) : S1 X W (.Assign [tg] e pos) ρ Nx R E := by
  intro F H σ D wd sl kx kn kr
  refine of_ps (ps_asg pe_w pg_w hs (by rw [swapped_eq C]; exact hw) h1) ?_
  refine h F H σ _ wd sl kx fun F1 H1 ρ1 v d st1 wd1 sl1 dd q => ?_
  exact q F1 H1 σ v _ wd1 sl1 dd fun σ' ρ' st' wd' sl' n => kn F1 H1 σ' ρ' (st1.trans st') wd' sl' n
/-- x += e, ints -/
theorem s1_augAdd (C : Cxt P w K mg base sc N vs ls k X W) [sx : Slot N x i] (hl : ls[i]? = some true) {m : Int} (hr : ρ[i]? = some (some (.d (.int m)))) (h : EW X W e ρ (fun ρ1 d => ∃ n, d = .int n ∧ Nx (ρ1.set i (some (.d (.int (m + n)))))) E) : S1 X W (.AugAssign (.Name x px) .Add e pos) ρ Nx R E := by
  intro F H σ D wd sl kx kn kr
  refine of_ps (ps_aug (i := i) (by rw [C.eN]; exact C.nd) (by rw [C.eN]; exact sx.get) (C.lo sx.get hl) pe_w ip_add (C.st sx.get hl)) ?_
  obtain ⟨v, hv, dv⟩ := sl.get i _ hr
  cases dv
  refine ⟨_, hv, ?_⟩
  refine h F H σ _ wd sl kx fun F1 H1 ρ1 v1 d1 st1 wd1 sl1 dd1 q1 => ?_
  obtain ⟨n, rfl, q1⟩ := q1
  cases dd1
  refine ⟨m, n, rfl, rfl, ?_⟩
  exact kn F1 H1 _ _ (st1.trans (Stp.set noD)) (wd1.set noD) (sl1.set (.int _)) q1
end
/-! ### max, min, sorted -/
def maxI : List Int → Int
  | [] => 0
  | [x] => x
  | x :: y :: r => if maxI (y :: r) ≤ x then x else maxI (y :: r)
def minI : List Int → Int
  | [] => 0
  | [x] => x
  | x :: y :: r => if x ≤ minI (y :: r) then x else minI (y :: r)
theorem maxI_mem : ∀ {l : List Int}, 0 < l.length → maxI l ∈ l
  | [], h => absurd h (by decide)
  | [x], _ => List.mem_cons_self
  | x :: y :: r, _ => by
    unfold maxI
    split
    · exact List.mem_cons_self
    · exact List.mem_cons_of_mem _ (maxI_mem (by simp))
theorem le_maxI : ∀ {l : List Int} {y : Int}, y ∈ l → y ≤ maxI l
  | [], _, h => nomatch h
  | [x], y, h => by
    rcases List.mem_cons.mp h with rfl | h
    · exact Int.le_refl _
    · exact nomatch h
  | x :: z :: r, y, h => by
    unfold maxI
    rcases List.mem_cons.mp h with rfl | h
    · split <;> omega
    · have := le_maxI h
      split <;> omega
theorem minI_mem : ∀ {l : List Int}, 0 < l.length → minI l ∈ l
  | [], h => absurd h (by decide)
  | [x], _ => List.mem_cons_self
  | x :: y :: r, _ => by
    unfold minI
    split
    · exact List.mem_cons_self
    · exact List.mem_cons_of_mem _ (minI_mem (by simp))
theorem minI_le : ∀ {l : List Int} {y : Int}, y ∈ l → minI l ≤ y
  | [], _, h => nomatch h
  | [x], y, h => by
    rcases List.mem_cons.mp h with rfl | h
    · exact Int.le_refl _
    · exact nomatch h
  | x :: z :: r, y, h => by
    unfold minI
    rcases List.mem_cons.mp h with rfl | h
    · split <;> omega
    · have := minI_le h
      split <;> omega
/-- ints in rising order -/
def insI (x : Int) : List Int → List Int
  | [] => [x]
  | y :: r => if x ≤ y then x :: y :: r else y :: insI x r
def srtI : List Int → List Int
  | [] => []
  | x :: r => insI x (srtI r)
theorem insI_perm (x : Int) : ∀ l : List Int, (insI x l).Perm (x :: l)
  | [] => .refl _
  | y :: r => by
    unfold insI
    split
    · exact .refl _
    · exact ((insI_perm x r).cons y).trans (.swap x y r)
theorem srtI_perm : ∀ l : List Int, (srtI l).Perm l
  | [] => .refl _
  | x :: r => (insI_perm x (srtI r)).trans ((srtI_perm r).cons x)
theorem insI_sorted (x : Int) : ∀ {l : List Int}, l.Pairwise (· ≤ ·) → (insI x l).Pairwise (· ≤ ·)
  | [], _ => List.pairwise_singleton _ _
  | y :: r, h => by
    unfold insI
    have h1 := List.pairwise_cons.mp h
    split
    · rename_i hx
      refine List.pairwise_cons.mpr ⟨fun z hz => ?_, h⟩
      rcases List.mem_cons.mp hz with rfl | hz
      · exact hx
      · exact Int.le_trans hx (h1.1 z hz)
    · rename_i hx
      refine List.pairwise_cons.mpr ⟨fun z hz => ?_, insI_sorted x h1.2⟩
      rcases List.mem_cons.mp ((insI_perm x r).mem_iff.mp hz) with rfl | hz
      · omega
      · exact h1.1 z hz
theorem srtI_sorted : ∀ l : List Int, (srtI l).Pairwise (· ≤ ·)
  | [] => .nil
  | x :: r => insI_sorted x (srtI_sorted r)
theorem sorted_uniq : ∀ {l m : List Int}, l.Perm m → l.Pairwise (· ≤ ·) → m.Pairwise (· ≤ ·) → l = m
  | [], m, h, _, _ => by rw [List.nil_perm.mp h]
  | x :: l, [], h, _, _ => by simp at h
  | x :: l, y :: m, h, h1, h2 => by
    have a1 := List.pairwise_cons.mp h1
    have a2 := List.pairwise_cons.mp h2
    have e : x = y := by
      have b1 : x ≤ y := by
        rcases List.mem_cons.mp (h.mem_iff.mpr List.mem_cons_self) with z | z
        · omega
        · exact a1.1 y z
      have b2 : y ≤ x := by
        rcases List.mem_cons.mp (h.mem_iff.mp List.mem_cons_self) with z | z
        · omega
        · exact a2.1 x z
      omega
    subst e
    rw [sorted_uniq h.cons_inv a1.2 a2.2]
section
variable {X : Cx} {Q : PyData → Prop}
theorem bc_max (hc : X.calm = true) {ns : List Int} (hn : 0 < ns.length) (q : Q (.int (maxI ns))) : BC X (.builtin "max") [.list (ns.map PyData.int)] Q := by
  intro F H vs R e hx k
  cases hx with
  | cons h hs =>
    cases hs
    cases h with
    | lst hh dd =>
      have e1 := dd.ints
      subst e1
      refine wca_of (cr_max hc) ⟨_, ns, rfl, SqL.of (e _ _ hh), hn, fun m h1 h2 => ?_⟩
      have em : m = maxI ns := Int.le_antisymm (le_maxI h1) (h2 _ (maxI_mem hn))
      subst em
      exact k F H _ _ (Gr.refl e) (.int _) q
theorem bc_min (hc : X.calm = true) {ns : List Int} (hn : 0 < ns.length) (q : Q (.int (minI ns))) : BC X (.builtin "min") [.list (ns.map PyData.int)] Q := by
  intro F H vs R e hx k
  cases hx with
  | cons h hs =>
    cases hs
    cases h with
    | lst hh dd =>
      have e1 := dd.ints
      subst e1
      refine wca_of (cr_min hc) ⟨_, ns, rfl, SqL.of (e _ _ hh), hn, fun m h1 h2 => ?_⟩
      have em : m = minI ns := Int.le_antisymm (h2 _ (minI_mem hn)) (minI_le h1)
      subst em
      exact k F H _ _ (Gr.refl e) (.int _) q
theorem bc_max2 (hc : X.calm = true) {m n : Int} (q : Q (.int (max m n))) : BC X (.builtin "max") [.int m, .int n] Q := by
  intro F H vs R e hx k
  cases hx with
  | cons h hs =>
    cases hs with
    | cons h2 hs =>
      cases hs
      cases h
      cases h2
      refine wca_of (call_max2 hc) ⟨m, n, rfl, ?_⟩
      have em : (if n > m then n else m) = max m n := by split <;> omega
      rw [em]
      exact k F H _ _ (Gr.refl e) (.int _) q
theorem bc_min2 (hc : X.calm = true) {m n : Int} (q : Q (.int (min m n))) : BC X (.builtin "min") [.int m, .int n] Q := by
  intro F H vs R e hx k
  cases hx with
  | cons h hs =>
    cases hs with
    | cons h2 hs =>
      cases hs
      cases h
      cases h2
      refine wca_of (call_min2 hc) ⟨m, n, rfl, ?_⟩
      have em : (if n < m then n else m) = min m n := by split <;> omega
      rw [em]
      exact k F H _ _ (Gr.refl e) (.int _) q
theorem bc_sorted {ns : List Int} (q : Q (.list ((srtI ns).map PyData.int))) : BC X (.builtin "sorted") [.list (ns.map PyData.int)] Q := by
  intro F H vs R e hx k
  cases hx with
  | cons h hs =>
    cases hs
    cases h with
    | lst hh dd =>
      have e1 := dd.ints
      subst e1
      refine wca_of cr_sortedI ⟨_, ns, rfl, SqL.of (e _ _ hh), fun ns' p h1 h2 hp => ?_⟩
      have em : ns' = srtI ns := sorted_uniq (h1.trans (srtI_perm ns).symm) h2 (srtI_sorted ns)
      subst em
      exact fin_lst e hp (DDs.ofInts _) k q
end
end Bp
namespace Bp
open PySem PySem.Spec PyProof.Rows L2
section
variable {P : Program} {w : World} {K : PySem.W.Frag} {mg : Str → Option Value} {base : Heap} {sc : Scope} {N : List Str} {vs ls : List Bool} {k : Nat} {X : Cx} {W : WX} {Q : PyData → Prop}
theorem bw_eqB (C : Cxt P w K mg base sc N vs ls k X W) {a b : Bool} (q : Q (.bool (a == b))) : BW X (compareOp .Eq) (.bool a) (.bool b) Q := bw_eqD C.room rfl rfl (by cases a <;> cases b <;> exact q)
theorem bw_neB (C : Cxt P w K mg base sc N vs ls k X W) {a b : Bool} (q : Q (.bool (a != b))) : BW X (compareOp .NotEq) (.bool a) (.bool b) Q := bw_neD C.room rfl rfl (by cases a <;> cases b <;> exact q)
end
end Bp
namespace Bp
open PySem PySem.Spec PyProof.Rows L2
theorem bw_powE {X : Cx} {Q : PyData → Prop} {i j r : Int} (hc : CPow i j) (e : i ^ j.toNat = r) (q : Q (.int r)) : BW X (binaryOp .Pow) (.int i) (.int j) Q := bw_pow hc (by rw [e]; exact q)
end Bp

namespace Bp
open PySem PySem.Spec PyProof.Rows L2
theorem rangeD_zero (n : Nat) : rangeD 0 n = (List.range n).map fun (i : Nat) => PyData.int (i : Int) := by
  unfold rangeD
  simp only [Int.zero_add]
theorem rgD_zero (n : Int) : rgD 0 n = ((List.range n.toNat).map fun (i : Nat) => (i : Int)).map PyData.int := by
  unfold rgD
  rw [List.map_map]
  simp only [Int.zero_add, Int.sub_zero]
  rfl
/-- items of a concrete list -/
theorem mem_all {α : Type} {l : List α} {p : α → Bool} (h : l.all p = true) {x : α} (hx : x ∈ l) : p x = true := List.all_eq_true.mp h x hx
section
variable {X : Cx} {Q : PyData → Prop}
theorem bc_maxE (hc : X.calm = true) {ds : List PyData} {ns : List Int} (e : ds = ns.map PyData.int) (hn : 0 < ns.length) (q : Q (.int (maxI ns))) : BC X (.builtin "max") [.list ds] Q := by
  subst e
  exact bc_max hc hn q
theorem bc_minE (hc : X.calm = true) {ds : List PyData} {ns : List Int} (e : ds = ns.map PyData.int) (hn : 0 < ns.length) (q : Q (.int (minI ns))) : BC X (.builtin "min") [.list ds] Q := by
  subst e
  exact bc_min hc hn q
theorem bc_sortedE {ds : List PyData} {ns : List Int} (e : ds = ns.map PyData.int) (q : Q (.list ((srtI ns).map PyData.int))) : BC X (.builtin "sorted") [.list ds] Q := by
  subst e
  exact bc_sorted q
end
section
variable {P : Program} {w : World} {K : PySem.W.Frag} {mg : Str → Option Value} {base : Heap} {sc : Scope} {N : List Str} {vs ls : List Bool} {k : Nat} {X : Cx} {W : WX} {ρ : Rho} {Q : Rho → PyData → Prop} {E : XQ} {a b c e o : Expr} {es : List Expr} {pos p apos cpos : Pos} {x y z : Str} {i j l : Nat}
/-- t.index(k), t a tuple of ints -/
theorem ew_idxT (h : EW X W o ρ (fun ρ1 d => ∃ ns : List Int, d = .tuple (ns.map PyData.int) ∧ EW X W e ρ1 (fun ρ2 d2 => ∃ k : Int, d2 = .int k ∧ k ∈ ns ∧ Q ρ2 (.int (ns.idxOf k))) E) E)
    (hbase : attributeBase o "index" X.env (eval o X.env) = eval o X.env := by with_unfolding_all rfl)
    (hfew : ((backTo cpos (starEach [e] X.env)).all (fun x => !x.1) && (backToKw cpos (keywordEach [] X.env)).all (fun x => x.1.isSome)
      && decide ([e].length + ([] : List Keyword).length + (if ([] : List Keyword).isEmpty then 0 else 1) < 30)) = true := by with_unfolding_all rfl)
    (hline : (apos.endLine == cpos.line) = true := by with_unfolding_all rfl) (hs : starEach [e] X.env = (false, eval e X.env) :: starEach [] X.env := by with_unfolding_all rfl) :
    EW X W (.Call (.Attribute o "index" apos) [e] [] cpos) ρ Q E := by
  intro F H σ R wd sl kx kk pins s I
  refine wpAny_Call_method_late hbase hfew hline rfl (thn (h F H σ (fun v H1 => ∃ F1 ρ1 d, Stp ρ ρ1 F H F1 H1 ∧ Wd X.K F1 H1 ρ1 ∧ Sl X.K F1 σ ρ1 ∧ DD X.K F1 v d ∧ ∃ ns : List Int, d = .tuple (ns.map PyData.int) ∧ EW X W e ρ1 (fun ρ2 d2 => ∃ k : Int, d2 = .int k ∧ k ∈ ns ∧ Q ρ2 (.int (ns.idxOf k))) E) wd sl kx (fun F1 H1 ρ1 v d st1 wd1 sl1 dd q => ⟨F1, ρ1, d, st1, wd1, sl1, dd, q⟩) pins s I) fun v s1 ⟨x, H1, I1, r1, F1, ρ1, d, st1, wd1, sl1, dd, ns, ed, h1⟩ => ?_)
  subst ed
  cases dd with
  | @tup a xs _ sq nd ds =>
    have z := ds.ints
    subst z
    cases r1
    obtain ⟨ob, u, hf, hd⟩ := nd
    have hob : s1.heap.get? a = some ob := (I1.hok a _ (wd1.sub _ _ hf)).1
    obtain ⟨its, rv, pt, hz⟩ := I1.tuple (wd1.sub.sqt sq)
    have hty : s1.TypeIs (.ref a) "tuple" := by
      obtain ⟨o', ho', hc', _⟩ := pt
      exact ⟨o', ho', hc'⟩
    refine ⟨"tuple", "tuple.index", PySem.F.plainAttrs_tuple, PySem.F.slot_tuple_index, PySem.F.type_tuple_index, hty, fun a' e' => ?_, ?_⟩
    · cases e'
      exact ⟨ob, hob, hd⟩
    have hA := (pa_cons (X := X) pe_w pa_nil hs).run cpos pins s1 σ H1 (fun vs H2 => ∃ F2 ρ2 k, vs = [V.int k] ∧ Stp ρ1 ρ2 F1 H1 F2 H2 ∧ Wd X.K F2 H2 ρ2 ∧ Sl X.K F2 σ ρ2 ∧ k ∈ ns ∧ Q ρ2 (.int (ns.idxOf k))) I1
      (h1 F1 H1 σ _ wd1 sl1 (kx.step st1) fun F2 H2 ρ2 v2 d2 st2 wd2 sl2 dd2 q2 => by
        obtain ⟨k, rfl, hk, q2⟩ := q2
        cases dd2
        exact ⟨F2, ρ2, k, rfl, st2, wd2, sl2, hk, q2⟩)
    rw [hs] at hA ⊢
    refine Calls.callWith_builtin rfl (Calls.evalArgs_plain ?_)
    refine thn hA fun us s2 ⟨vs, H2, I2, r2, F2, ρ2, k, ev, st2, wd2, sl2, hk, q2⟩ => ?_
    subst ev
    obtain ⟨u1, rfl, ru⟩ := vals1 r2
    obtain ⟨t, rfl⟩ := ru
    obtain ⟨its2, rv2, pt2, hz2⟩ := I2.tuple (wd2.sub.sqt (st2.ex.sqt sq))
    exact PySem.SeqAt.tuple_index_ints (show s2.heap.IsTuple _ its2.toArray from pt2) (ints_of_vals rv2) hk ⟨.int (ns.idxOf k), H2, I2.tok _, ⟨_, rfl⟩, kk F2 H2 ρ2 _ _ (st1.trans st2) wd2 sl2 (.int _) q2⟩
end
end Bp

namespace Bp
open PySem PySem.Spec PyProof.Rows L2
/-! ### comprehensions with two sources -/
def SameOwn (ρ ρ' : Rho) : Prop := ∀ (j : Nat) a o, ρ[j]? = some (some (S.own a o)) ↔ ρ'[j]? = some (some (S.own a o))
theorem SameOwn.owns {ρ ρ' : Rho} (h : SameOwn ρ ρ') (a : Addr) : Owns ρ a ↔ Owns ρ' a := ⟨fun ⟨j, o, q⟩ => ⟨j, o, (h j a o).mp q⟩, fun ⟨j, o, q⟩ => ⟨j, o, (h j a o).mpr q⟩⟩
theorem SameOwn.symm {ρ ρ' : Rho} (h : SameOwn ρ ρ') : SameOwn ρ' ρ := fun j a o => (h j a o).symm
theorem SameOwn.trans {ρ ρ' ρ'' : Rho} (h : SameOwn ρ ρ') (h' : SameOwn ρ' ρ'') : SameOwn ρ ρ'' := fun j a o => (h j a o).trans (h' j a o)
theorem SameOwn.set {ρ : Rho} {i : Nat} {z : Option S} (h : NoOwn ρ i) (hz : ∀ a o, z ≠ some (.own a o)) : SameOwn ρ (ρ.set i z) := fun j a o => ⟨fun q => by
  rw [List.getElem?_set]
  split
  · rename_i e
    subst e
    exact absurd q (h a o)
  · exact q, set_own hz⟩
theorem SameOwn.stp {ρ ρ' : Rho} {F H F' H' : Hp} (h : SameOwn ρ ρ') (s : Stp ρ ρ F H F' H') : Stp ρ' ρ' F H F' H' :=
  ⟨s.ex, fun a o q n => s.keep a o q fun z => n ((h.owns a).mp z), fun a o f q n => s.fr a o f q fun z => n ((h.owns a).mp z), fun a q => .inl q, s.all⟩
theorem SameOwn.wd {K : PySem.W.Frag} {ρ ρ' : Rho} {F H : Hp} (h : SameOwn ρ ρ') (w : Wd K F H ρ) : Wd K F H ρ' :=
  ⟨w.sub, fun j a o q => w.own j a o ((h j a o).mpr q), fun i j a o o' q q' => w.dis i j a o o' ((h i a o).mpr q) ((h j a o').mpr q')⟩
section
variable {P : Program} {w : World} {K : PySem.W.Frag} {mg : Str → Option Value} {base : Heap} {sc scope : Scope} {N : List Str} {vs ls vb lb : List Bool} {k : Nat} {X : Cx} {W : WX} {ρ : Rho} {E : XQ} {e elt iter iter1 : Expr} {pos p px py spos : Pos} {x y : Str} {i j : Nat}
theorem wipe2 {σ : L2.St} {v : Option V} (hij : i ≠ j) : wipe ((wipe σ [i, j]).set i v) [i, j] = wipe σ [i, j] := by
  show ((((σ.set j none).set i none).set i v).set j none).set i none = (σ.set j none).set i none
  rw [List.set_set, List.set_comm (i := i) (j := j) v none hij, List.set_set, List.set_set]
/-- what holds of the list that grows -/
def Grown (K : PySem.W.Frag) (ρ1 : Rho) (F1 H1 : Hp) (D : Addr) (F : Hp) (H : Hp) (acc : List PyData) : Prop := ∃ xs, Stp ρ1 ρ1 F1 H1 F H ∧ Wd K F H ρ1 ∧ F D = none ∧ H D = some (.lst xs) ∧ DDs K F xs acc
abbrev Lc2W (P : Program) (w : World) (K : PySem.W.Frag) (mg : Str → Option Value) (base : Heap) (sc scope : Scope) (N : List Str) (vb lb : List Bool) (k : Nat) (X : Cx) (W : WX) (tg iter tg1 iter1 : Expr) (i j : Nat) (elt : Expr) (ρ : Rho) (Q : Rho → List PyData → Prop) (E : XQ) : Prop :=
  IW X W tg iter ρ (fun ρ1 ds => NoOwn ρ1 i ∧ NoOwn ρ1 j ∧ ∃ I : Nat → List PyData → Prop, I 0 [] ∧ (∀ n d acc, ds[n]? = some d → I n acc → ∀ Xb, Cxt P w K mg base (relS scope sc) N vb lb k Xb W0 →
      IW Xb W0 tg1 iter1 ((ρ1.set j none).set i (some (.d d))) (fun ρ2 es => ρ2 = (ρ1.set j none).set i (some (.d d)) ∧ ∃ J : Nat → List PyData → Prop, J 0 acc ∧ (∀ m e acc', es[m]? = some e → J m acc' → acc'.length < 16777216 ∧ ∀ Xe, Cxt P w K mg base (relS scope sc) N vb lb k Xe W0 →
        EW Xe W0 elt (((ρ1.set j none).set i (some (.d d))).set j (some (.d e))) (fun ρ4 z => ρ4 = ((ρ1.set j none).set i (some (.d d))).set j (some (.d e)) ∧ J (m + 1) (acc' ++ [z])) noX) ∧ ∀ acc', J es.length acc' → I (n + 1) acc') noX) ∧ ∀ acc, I ds.length acc → Q ρ1 acc) E
theorem lc2_read (C : Cxt P w K mg base sc N vs ls k X W) [sx : Slot N x i] [sy : Slot N y j] (hij : i ≠ j) {Q : Rho → List PyData → Prop} (h : Lc2W P w K mg base sc scope N vb lb k X W (.Name x px) iter (.Name y py) iter1 i j elt ρ Q E)
    (hv : chkB (visB (relS scope sc)) N vb = true) (hl : chkB (locB scope) N lb = true) {F H : Hp} {σ : L2.St} {R : VK} (wd : Wd X.K F H ρ) (sl : Sl X.K F σ ρ) (kx : Kx X.K W ρ F H E)
    (kk : ∀ F' H' ρ' p xs ds, Stp ρ ρ' F H F' H' → Wd X.K F' H' ρ' → Sl X.K F' σ ρ' → H p = none → F' p = none → ¬ Owns ρ' p → H' p = some (.lst xs) → DDs X.K F' xs ds → Q ρ' ds → R (.ref p) H') :
    tLc2 (WIx X (.Name x px) iter) (gName i) (fun σ H Q => anyB X scope (fun Xb (_ : Unit) => WTs Xb [] σ H Q) ()) (fun σ H Q => anyB X scope (fun Xb (_ : Unit) => WIx Xb (.Name y py) iter1 σ H Q) ()) (gName j) (fun σ H Q => anyB X scope (fun Xb (_ : Unit) => WTs Xb [] σ H Q) ()) (fun σ H Q => anyB X scope (fun Xb (_ : Unit) => WEx Xb elt σ H Q) ()) [i, j] [j] σ H R := by
  refine h F H σ _ wd sl kx fun F1 H1 ρ1 Jt ds st1 wd1 sl1 it q => ?_
  obtain ⟨hni, hnj, I, i0, turn, fin⟩ := q
  intro D hD
  have hF1 : F1 D = none := wd1.sub.none hD
  have hnD : ¬ Owns ρ1 D := fun ⟨j, o, q⟩ => by
    obtain ⟨_, ho, h2, _⟩ := wd1.own j D o q
    rw [hD] at h2
    cases h2
  -- one more item of the list
  have more : ∀ {F H : Hp} {acc : List PyData} {z : V} {dz : PyData} {xs : List V}, Stp ρ1 ρ1 F1 H1 F H → Wd X.K F H ρ1 → F D = none → H D = some (.lst xs) → DDs X.K F xs acc → DD X.K F z dz → Grown X.K ρ1 F1 H1 D F (upd H D (.lst (xs ++ [z]))) (acc ++ [dz]) := by
    intro F H acc z dz xs s w f h dd dz'
    refine ⟨xs ++ [z], ⟨s.ex, fun a o q n => ?_, s.fr, s.own, fun a q => ?_⟩, w.side f hnD, f, upd_same, dd.append (.cons dz' .nil)⟩
    · have ne : a ≠ D := ne_of_none q hD
      rw [upd_ne ne]
      exact s.keep a o q n
    · by_cases z : a = D
      · rw [z]
        exact hD
      · rw [upd_ne z] at q
        exact s.all a q
  refine ⟨fun n m H2 => m = ds.length - n ∧ n ≤ ds.length ∧ ∃ F2 acc, Grown X.K ρ1 F1 H1 D F2 H2 acc ∧ I n acc, ⟨_, rfl, Nat.zero_le _, F1, [], ⟨[], ⟨Ex.refl _, fun a o q _ => ?_, fun _ _ f _ _ => f, fun _ q => .inl q, fun a q => ?_⟩, wd1.side hF1 hnD, hF1, upd_same, .nil⟩, i0⟩, ?_⟩
  · rw [upd_ne (ne_of_none q hD)]
    exact q
  · by_cases z : a = D
    · rw [z]
      exact hD
    · rw [upd_ne z] at q
      exact q
  rintro n m H2 ⟨rfl, hn, F2, acc, ⟨xs, st2, wd2, f2, h2, dd2⟩, i2⟩
  have sl2 : Sl X.K F2 σ ρ1 := sl1.mono st2.ex
  by_cases hlt : n < ds.length
  · refine .inr ⟨it.go F2 H2 n st2.ex wd2.sub hlt, fun H3 => ∃ F3 acc, Grown X.K ρ1 F1 H1 D F3 H3 acc ∧ I (n + 1) acc, fun H3 hh => ⟨_, by omega, rfl, hlt, hh⟩, fun y H3 hy => ?_⟩
    have hd : ds[n]? = some ds[n] := List.getElem?_eq_getElem hlt
    obtain ⟨F3, g, dd3⟩ := it.yld F2 H2 n y H3 _ st2.ex wd2.sub hd hy
    have f3 : F3 D = none := g.fr D _ f2 h2
    have h3 : H3 D = some (.lst xs) := g.exH D _ h2
    have wd3 := wd2.gr g
    have sl3 : Sl X.K F3 σ ρ1 := sl2.mono g.ex
    have so : SameOwn ρ1 ((ρ1.set j none).set i (some (.d ds[n]))) := (SameOwn.set hnj noN).trans (SameOwn.set (fun a o q => hni a o (by rw [List.getElem?_set_ne hij.symm] at q; exact q)) noD)
    have sla : Sl X.K F3 ((wipe σ [i, j]).set i (some y)) ((ρ1.set j none).set i (some (.d ds[n]))) := by
      have e : (wipe σ [i, j]).set i (some y) = (σ.set j none).set i (some y) := by
        show ((σ.set j none).set i none).set i (some y) = _
        rw [List.set_set]
      rw [e]
      refine Sl.set ⟨by rw [List.length_set, List.length_set]; exact sl3.len, fun l z q => ?_⟩ dd3
      rw [List.getElem?_set] at q ⊢
      split at q
      · split at q
        · cases q
        · cases q
      · rename_i ne
        rw [if_neg ne]
        exact sl3.get l z q
    refine ⟨wipe2 hij, fun s0 Hs A cl fp => of_pts pts_nil ?_⟩
    unfold tYes
    dsimp only
    rw [if_pos rfl]
    intro s0 Hs A cl fp
    have Cb := C.blk (scope := scope) (vb := vb) (lb := lb) hv hl s0 Hs A cl fp
    refine turn n _ acc hd i2 _ Cb F3 H3 _ _ (so.wd wd3) sla kx0 fun F4 H4 ρ4 Jt1 es st4 wd4 sl4 it1 q4 => ?_
    obtain ⟨e4, J, j0, turn1, fin1⟩ := q4
    subst e4
    have s4 : Stp ρ1 ρ1 F1 H1 F4 H4 := (st2.trans g.stp).trans (so.symm.stp st4)
    have w4 : Wd X.K F4 H4 ρ1 := so.symm.wd wd4
    have nD' : ¬ Owns ((ρ1.set j none).set i (some (.d ds[n]))) D := fun z => hnD ((so.owns D).mpr z)
    have f4 : F4 D = none := st4.fr D _ f3 h3 nD'
    have h4 : H4 D = some (.lst xs) := st4.keep D _ h3 nD'
    refine ⟨fun m k H5 => k = es.length - m ∧ m ≤ es.length ∧ ∃ F5 acc', Ex F4 F5 ∧ Grown X.K ρ1 F1 H1 D F5 H5 acc' ∧ J m acc', ⟨_, rfl, Nat.zero_le _, F4, acc, Ex.refl _, ⟨xs, s4, w4, f4, h4, dd2.mono (g.ex.trans st4.ex)⟩, j0⟩, ?_⟩
    rintro m k H5 ⟨rfl, hm, F5, acc', e5, ⟨xs5, st5, wd5, f5, h5, dd5⟩, j5⟩
    by_cases hlt1 : m < es.length
    · refine .inr ⟨it1.go F5 H5 m e5 wd5.sub hlt1, fun H6 => ∃ F6 acc', Ex F4 F6 ∧ Grown X.K ρ1 F1 H1 D F6 H6 acc' ∧ J (m + 1) acc', fun H6 hh => ⟨_, by omega, rfl, hlt1, hh⟩, fun y1 H6 hy1 => ?_⟩
      have he : es[m]? = some es[m] := List.getElem?_eq_getElem hlt1
      obtain ⟨F6, g6, dd6⟩ := it1.yld F5 H5 m y1 H6 _ e5 wd5.sub he hy1
      have f6 : F6 D = none := g6.fr D _ f5 h5
      have h6 : H6 D = some (.lst xs5) := g6.exH D _ h5
      have so2 : SameOwn ((ρ1.set j none).set i (some (.d ds[n]))) (((ρ1.set j none).set i (some (.d ds[n]))).set j (some (.d es[m]))) := SameOwn.set (fun a o q => hnj a o ((so j a o).mpr q)) noD
      have so3 := so.trans so2
      have slb : Sl X.K F6 ((wipe ((wipe σ [i, j]).set i (some y)) [j]).set j (some y1)) (((ρ1.set j none).set i (some (.d ds[n]))).set j (some (.d es[m]))) := sl_in ((sl4.mono e5).mono g6.ex) dd6
      obtain ⟨hacc, ev⟩ := turn1 m _ acc' he j5
      refine ⟨wipe1, fun s0 Hs A cl fp => of_pts pts_nil ?_⟩
      unfold tYes
      dsimp only
      rw [if_pos rfl]
      intro s0 Hs A cl fp
      have Cb := C.blk (scope := scope) (vb := vb) (lb := lb) hv hl s0 Hs A cl fp
      refine ev _ Cb F6 H6 _ _ (so3.wd (wd5.gr g6)) slb kx0 fun F7 H7 ρ7 z dz st7 wd7 sl7 dd7 q7 => ?_
      obtain ⟨e7, q7⟩ := q7
      subst e7
      have nD7 : ¬ Owns (((ρ1.set j none).set i (some (.d ds[n]))).set j (some (.d es[m]))) D := fun z => hnD ((so3.owns D).mpr z)
      have s7 : Stp ρ1 ρ1 F1 H1 F7 H7 := (st5.trans g6.stp).trans (so3.symm.stp st7)
      have f7 : F7 D = none := st7.fr D _ f6 h6 nD7
      have h7 : H7 D = some (.lst xs5) := st7.keep D _ h6 nD7
      refine ⟨xs5, h7, by rw [dd5.length, sizeLine_eq]; exact hacc, F7, acc' ++ [dz], e5.trans (g6.ex.trans st7.ex), more s7 (so3.symm.wd wd7) f7 h7 (dd5.mono (g6.ex.trans st7.ex)) dd7, q7⟩
    · have e : m = es.length := by omega
      subst e
      exact .inl ⟨it1.stop F5 H5 e5 wd5.sub, F5, acc', ⟨xs5, st5, wd5, f5, h5, dd5⟩, fin1 acc' j5⟩
  · have e : n = ds.length := by omega
    subst e
    refine .inl ⟨it.stop F2 H2 st2.ex wd2.sub, ?_⟩
    exact kk F2 H2 ρ1 D xs acc (st1.trans st2) wd2 sl2 (st1.all D hD) f2 hnD h2 dd2 (fin acc i2)
theorem en_lc2 (C : Cxt P w K mg base sc N vs ls k X W) [sx : Slot N x i] [sy : Slot N y j] {Q : Rho → List PyData → Prop} (h : Lc2W P w K mg base sc scope N vb lb k X W (.Name x px) iter (.Name y py) iter1 i j elt ρ Q E) (hij : i ≠ j := by decide) (hv : chkB (visB (relS scope sc)) N vb = true := by decide +kernel) (hl : chkB (locB scope) N lb = true := by decide +kernel)
    (hb : blkC N sc scope [(x, i), (y, j)] = true := by decide +kernel) (hli : lb[i]? = some true := by with_unfolding_all rfl) (hlj : lb[j]? = some true := by with_unfolding_all rfl) (hs : ∀ x, foldedSetIterable iter X.env x = pure x := by intro _; with_unfolding_all rfl) (hs1 : ∀ env x, foldedSetIterable iter1 env x = pure x := by intro _ _; with_unfolding_all rfl) :
    EN X W (.ListComp elt [⟨.Name x px, iter, [], 0⟩, ⟨.Name y py, iter1, [], 0⟩] scope pos) ρ Q E := by
  intro F H σ R wd sl kx kk
  have ok : BlkOk X.N X.env.scope scope [(x, i), (y, j)] := by
    rw [C.eN, C.es]
    exact blkOk_by hb
  refine of_pe (pe_lc2 (own := [(x, i), (y, j)]) (vs1 := [j]) (g := gName i) (g1 := gName j) C.calm (by rw [C.eN]; exact C.nd) pi_w ok (fun l hl => by simp at hl; subst hl; simp) (fun s H A cl fp => ?_) (fun s H A cl fp => ?_) (fun s H A cl fp => ?_) (fun s H A cl fp => ?_) (fun s H A cl fp => ?_) (fun s H A cl fp => ?_) hs hs1) (lc2_read C hij h hv hl wd sl kx kk)
  · have Cb := C.blk (scope := scope) (vb := vb) (lb := lb) hv hl s H A cl fp
    exact pg_name (by rw [Cb.eN]; exact Cb.nd) (by rw [Cb.eN]; exact sx.get) (Cb.lo sx.get hli) (Cb.st sx.get hli)
  · exact ⟨fun pins s' σ' H' Q' I' h' => h' s H A cl fp pins s' I'⟩
  · exact ⟨fun pins s' σ' H' Q' I' h' => h' s H A cl fp pins s' I'⟩
  · have Cb := C.blk (scope := scope) (vb := vb) (lb := lb) hv hl s H A cl fp
    exact pg_name (by rw [Cb.eN]; exact Cb.nd) (by rw [Cb.eN]; exact sy.get) (Cb.lo sy.get hlj) (Cb.st sy.get hlj)
  · exact ⟨fun pins s' σ' H' Q' I' h' => h' s H A cl fp pins s' I'⟩
  · exact ⟨fun pins s' σ' H' Q' I' h' => h' s H A cl fp pins s' I'⟩
theorem ew_lc2 (C : Cxt P w K mg base sc N vs ls k X W) [sx : Slot N x i] [sy : Slot N y j] {Q : Rho → PyData → Prop} (h : Lc2W P w K mg base sc scope N vb lb k X W (.Name x px) iter (.Name y py) iter1 i j elt ρ (fun ρ1 ds => Q ρ1 (.list ds)) E) (hij : i ≠ j := by decide) (hv : chkB (visB (relS scope sc)) N vb = true := by decide +kernel) (hl : chkB (locB scope) N lb = true := by decide +kernel)
    (hb : blkC N sc scope [(x, i), (y, j)] = true := by decide +kernel) (hli : lb[i]? = some true := by with_unfolding_all rfl) (hlj : lb[j]? = some true := by with_unfolding_all rfl) (hs : ∀ x, foldedSetIterable iter X.env x = pure x := by intro _; with_unfolding_all rfl) (hs1 : ∀ env x, foldedSetIterable iter1 env x = pure x := by intro _ _; with_unfolding_all rfl) :
    EW X W (.ListComp elt [⟨.Name x px, iter, [], 0⟩, ⟨.Name y py, iter1, [], 0⟩] scope pos) ρ Q E := ew_en (en_lc2 C h hij hv hl hb hli hlj hs hs1)
end
end Bp

namespace Bp
open PySem PySem.Spec PyProof.Rows L2
/-! ### data that can be compared -/
def shp : Nat → PyData → Bool
  | _, .none => true
  | _, .bool _ => true
  | _, .int _ => true
  | _, .str x => PyData.strOk x
  | 0, .list _ => false
  | 0, .tuple _ => false
  | n + 1, .list xs => xs.all (shp n)
  | n + 1, .tuple xs => xs.all (shp n)
  | _, .dict _ => false
theorem shp_all {n : Nat} (ih : ∀ d, shp n d = true → d.canLay0 = true ∧ d.depth ≤ n) : ∀ {xs : List PyData}, xs.all (shp n) = true → PyData.canLayAll0 xs = true ∧ PyData.depthAll xs ≤ n
  | [], _ => ⟨by simp only [PyData.canLayAll0], by simp only [PyData.depthAll]; omega⟩
  | x :: xs, h => by
    rw [List.all_cons] at h
    have h2 := Bool.and_eq_true_iff.mp h
    have a := ih x h2.1
    have b := shp_all ih h2.2
    simp only [PyData.canLayAll0, PyData.depthAll, a.1, b.1, Bool.and_self, true_and]
    omega
theorem shp_ok : ∀ (n : Nat) (d : PyData), shp n d = true → d.canLay0 = true ∧ d.depth ≤ n
  | n, .none, _ => ⟨by simp only [PyData.canLay0], by simp only [PyData.depth]; omega⟩
  | n, .bool _, _ => ⟨by simp only [PyData.canLay0], by simp only [PyData.depth]; omega⟩
  | n, .int _, _ => ⟨by simp only [PyData.canLay0], by simp only [PyData.depth]; omega⟩
  | n, .str x, h => ⟨by simp only [PyData.canLay0]; cases n <;> exact h, by simp only [PyData.depth]; omega⟩
  | 0, .list _, h => by cases h
  | 0, .tuple _, h => by cases h
  | n + 1, .list xs, h => by
    have := shp_all (shp_ok n) (show xs.all (shp n) = true from h)
    simp only [PyData.canLay0, PyData.depth]
    exact ⟨this.1, by omega⟩
  | n + 1, .tuple xs, h => by
    have := shp_all (shp_ok n) (show xs.all (shp n) = true from h)
    simp only [PyData.canLay0, PyData.depth]
    exact ⟨this.1, by omega⟩
  | n, .dict _, h => by cases n <;> cases h
theorem shaped_of (n : Nat) {d : PyData} (h : shp n d = true) (hn : n ≤ 64 := by decide) : SeqAt.shaped d = true := by
  have := shp_ok n d h
  unfold SeqAt.shaped
  rw [this.1, decide_eq_true (by omega)]
  rfl
theorem shp_ints (n : Nat) : ∀ ns : List Int, (ns.map PyData.int).all (shp n) = true
  | [] => rfl
  | i :: r => by
    rw [List.map_cons, List.all_cons, shp_ints n r]
    cases n <;> rfl
theorem eqv_all {n : Nat} (ih : ∀ d, shp n d = true → PyData.eqv d d = true) : ∀ {xs : List PyData}, xs.all (shp n) = true → PyData.eqvAll xs xs = true
  | [], _ => by simp only [PyData.eqvAll]
  | x :: xs, h => by
    rw [List.all_cons] at h
    have h2 := Bool.and_eq_true_iff.mp h
    simp only [PyData.eqvAll, ih x h2.1, eqv_all ih h2.2, Bool.and_self]
theorem eqv_self : ∀ (n : Nat) (d : PyData), shp n d = true → PyData.eqv d d = true
  | n, .none, _ => by simp only [PyData.eqv]
  | n, .bool b, _ => by simp only [PyData.eqv, BEq.rfl]
  | n, .int i, _ => by simp only [PyData.eqv, BEq.rfl]
  | n, .str x, _ => by simp only [PyData.eqv, BEq.rfl]
  | 0, .list _, h => by cases h
  | 0, .tuple _, h => by cases h
  | n + 1, .list xs, h => by
    simp only [PyData.eqv]
    exact eqv_all (eqv_self n) (show xs.all (shp n) = true from h)
  | n + 1, .tuple xs, h => by
    simp only [PyData.eqv]
    exact eqv_all (eqv_self n) (show xs.all (shp n) = true from h)
  | n, .dict _, h => by cases n <;> cases h
section
variable {P : Program} {w : World} {K : PySem.W.Frag} {mg : Str → Option Value} {base : Heap} {sc : Scope} {N : List Str} {vs ls : List Bool} {k : Nat} {X : Cx} {W : WX} {ρ : Rho} {Q : Rho → PyData → Prop} {E : XQ} {a b c e o : Expr} {es : List Expr} {pos p apos cpos px : Pos} {x y z : Str} {i j l : Nat}
theorem gw_trip (C : Cxt P w K mg base sc N vs ls k X W) {l : Nat} [sx : Slot N x i] [sy : Slot N y j] [sz : Slot N z l] {py pz pt : Pos} {kt : Nat} (hl : ls[i]? = some true) (hl2 : ls[j]? = some true) (hl3 : ls[l]? = some true) {d1 d2 d3 : PyData} {Q : Rho → Prop} (q : Q (((ρ.set i (some (.d d1))).set j (some (.d d2))).set l (some (.d d3)))) :
    GW X (.Tuple [.Name x px, .Name y py, .Name z pz] kt pt) (.tuple [d1, d2, d3]) ρ Q := by
  intro F H σ v R wd st dd kk
  have nd : X.N.Nodup := by rw [C.eN]; exact C.nd
  refine of_pg (pg_tup C.calm (pgs_cons (pg_name (i := i) nd (by rw [C.eN]; exact sx.get) (C.lo sx.get hl) (C.st sx.get hl)) (pgs_cons (pg_name (i := j) nd (by rw [C.eN]; exact sy.get) (C.lo sy.get hl2) (C.st sy.get hl2)) (pgs_cons (pg_name (i := l) nd (by rw [C.eN]; exact sz.get) (C.lo sz.get hl3) (C.st sz.get hl3)) pgs_nil)))) ?_
  cases dd with
  | tup h _ hs =>
    cases hs with
    | cons h1 hs =>
      cases hs with
      | cons h2 hs =>
        cases hs with
        | cons h3 hs =>
          cases hs
          refine ⟨_, _, rfl, wd.sub.sqt h, rfl, _, _, rfl, _, _, rfl, _, _, rfl, rfl, ?_⟩
          exact kk _ _ (((Stp.set noD).trans (Stp.set noD)).trans (Stp.set noD)) (((wd.set noD).set noD).set noD) (((st.set h1).set h2).set h3) q
end
end Bp

namespace Bp
open PySem PySem.Spec PyProof.Rows L2
/-! ### own errors as values -/
/-- an error of the class at A, its fields -/
abbrev xD (A : Addr) (fs : List (PyData × PyData)) : PyData := .dict ((.none, .int (Int.ofNat A)) :: fs)
theorem dd_exc {K : PySem.W.Frag} {F : Hp} {v : V} {d : PyData} {A : Addr} {fs : List (PyData × PyData)} (h : DD K F v d) (hd : d = xD A fs) : ∃ a dx, v = .ref a ∧ F a = some (exo a A dx) ∧ ((dx = none ∧ fs = []) ∨ ∃ d1 f u e, dx = some d1 ∧ F d1 = some (exd d1 [(f, u)]) ∧ DD K F u e ∧ fs = [(.str f, e)]) := by
  cases h with
  | exc0 h =>
    cases hd
    exact ⟨_, _, rfl, h, .inl ⟨rfl, rfl⟩⟩
  | exc1 h g e =>
    cases hd
    exact ⟨_, _, rfl, h, .inr ⟨_, _, _, _, rfl, g, e, rfl⟩⟩
  | @dct a o ws kvd h1 h2 h3 =>
    cases hd
    cases ws with
    | nil => cases h2
    | cons p r =>
      obtain ⟨k, u⟩ := p
      have h2 := (List.cons.inj h2).1
      cases k <;> cases h2
  | _ => cases hd
/-- what isinstance asks of the class -/
structure XcK (K : PySem.W.Frag) (C : Addr) : Prop where
  cl : (PySem.W.clsIn K C).isSome = true
  ga : PySem.W.findIn K (.ref C) "__getattribute__" = some (some (.builtin "BaseException.__getattribute__"))
  gt : PySem.W.findIn K (.ref C) "__getattr__" = some none
  sb : PySem.W.subIn K (.ref C) (.type "BaseException") = some true
  ca : PySem.W.findIn K (.ref C) "__class__" = some (some (.builtin "object.__class__"))
  sg : PySem.W.specialIn K (.builtin "object.__class__") "__get__" = some (some (.builtin "getset_descriptor.__get__"))
  tk : PySem.W.takesIn K (.builtin "object.__class__") = some true
  mo : PySem.W.mroIn K C (.type "object") = some true
def xcB (K : PySem.W.Frag) (C : Addr) : Bool := (PySem.W.clsIn K C).isSome && (decide (PySem.W.findIn K (.ref C) "__getattribute__" = some (some (.builtin "BaseException.__getattribute__"))) && (decide (PySem.W.findIn K (.ref C) "__getattr__" = some none) && (decide (PySem.W.subIn K (.ref C) (.type "BaseException") = some true) && (decide (PySem.W.findIn K (.ref C) "__class__" = some (some (.builtin "object.__class__"))) &&
  (decide (PySem.W.specialIn K (.builtin "object.__class__") "__get__" = some (some (.builtin "getset_descriptor.__get__"))) && (decide (PySem.W.takesIn K (.builtin "object.__class__") = some true) && decide (PySem.W.mroIn K C (.type "object") = some true)))))))
theorem xcB_ok {K : PySem.W.Frag} {C : Addr} (h : xcB K C = true) : XcK K C := by
  obtain ⟨h1, h⟩ := Bool.and_eq_true_iff.mp h
  obtain ⟨h2, h⟩ := Bool.and_eq_true_iff.mp h
  obtain ⟨h3, h⟩ := Bool.and_eq_true_iff.mp h
  obtain ⟨h4, h⟩ := Bool.and_eq_true_iff.mp h
  obtain ⟨h5, h⟩ := Bool.and_eq_true_iff.mp h
  obtain ⟨h6, h⟩ := Bool.and_eq_true_iff.mp h
  obtain ⟨h7, h8⟩ := Bool.and_eq_true_iff.mp h
  exact ⟨h1, of_decide_eq_true h2, of_decide_eq_true h3, of_decide_eq_true h4, of_decide_eq_true h5, of_decide_eq_true h6, of_decide_eq_true h7, of_decide_eq_true h8⟩
section
variable {X : Cx} {x n : Str} {e : Expr} {es : List Expr} {p pos : Pos}
/-- x(), as a value -/
theorem pe_xv0 {C : Addr} {bmB : List Value} {B newId initId : String} (F : ExcBaseFacts B newId initId bmB) (q : PySem.W.excIn X.K C bmB newId = true) (gC : X.mg x = some (.ref C)) (kC : PySem.W.keepIn X.K (.ref C) = true) (hg : Gl X x)
    (hdb : (x == ("__debug__" : Str)) = false) : PE X (.Call (.Name x p) [] [] pos) (fun _ H Q => ∀ a, H a = none → Q (.ref a) (upd H a (exo a C none))) := by
  refine ⟨fun pins s σ H Q I h => wpAny_Call_Name_kw (ld_glob I hg gC (PySem.W.callWith_K0 I.kIn kC ?_) hdb)⟩
  obtain ⟨bm, N, nm, qn, bs, hdct, sn, sub, ab, col, dd, k0, k1, k2, k3, k5, mN, hC, hN, hni, T⟩ := exc_obj I.kIn q
  refine wpAny_call_exc_subT F T hC hN hni (fun h' a hm => ?_) (Nat.zero_le _)
  obtain ⟨t1, ha, _, _⟩ := hm.there
  have na := I.hok.gone hm.new
  exact ⟨.ref a, _, I.laidN (t' := s.toks) hm.keeps hm.new na (exo_ok ha), rfl, h a na⟩
/-- x(e), as a value: x has an own __init__ -/
theorem pe_xv1 {CX : CXT} {C fI : Addr} {k : Nat} {fd : FuncData} {ps : List Str} {sp : Sp} {ta : TA} (T : OexC X.K C) (iC : PySem.W.findIn X.K (.ref C) "__init__" = some (some (.ref fI))) (tI : PySem.W.typeIn X.K (.ref fI) = some (.type "function"))
    (F1 : FnOk X.prog X.w X.K X.mg X.base CX k fI fd ps sp) (hr : Room (k + 1) X.A) (hb : Binds X.K fd ps []) (hx : Passes CX X (fun _ _ _ => False)) (hg : Gl X x) (hm : X.mg x = some (.ref C)) (ha : PA X (e :: es) ta)
    (hdb : (x == ("__debug__" : Str)) = false) (he : starEach (e :: es) X.env = (false, eval e X.env) :: starEach es X.env) (hpl : (backTo pos (starEach es X.env)).any (·.1) = false) :
    PE X (.Call (.Name x p) (e :: es) [] pos) (fun σ H Q => ta σ H fun vs H1 => vs.length ≤ 1000 ∧ ∀ a, H1 a = none → sp (.ref a :: vs) (upd H1 a (exo a C none)) (fun v H2 => v = .non ∧ Q (.ref a) H2) (fun _ _ _ => False)) := by
  refine ⟨fun pins s σ H Q I h => ?_⟩
  obtain ⟨nm, q, N, bs, bm, sn, sub, ab, col, dd, k0, k1, k2, k3, k5, hC, hbm⟩ := T.cls
  refine wpAny_Call_Name_kw (ld_glob I hg hm ?_ hdb)
  refine PySem.W.callWith_K (h₀ := X.base) I.ok.mod.kin T.kC (thn (ha.run pos pins s σ H _ I h) fun us s1 ⟨vs, H1, I1, r1, hz, q1⟩ => ⟨I1.kIn, ?_⟩) he hpl
  show wpAny _ _ (call (.ref C) us) _ _ _
  obtain ⟨hp, g, dr, tk, os⟩ := s1
  have hn : H1 (hp.objs.size + 1) = none := I1.hok.fresh (Nat.le_succ _)
  have hq := q1 (hp.objs.size + 1) hn
  have kk : ∀ b o, hp.get? b = some o → ((hp.push (PySem.W.kdv_tup us)).push (PySem.HandSPX.excO C hp.objs.size)).get? b = some o := fun b o z => Heap.get?_push_of_some _ (Heap.get?_push_of_some _ z)
  have hget : ((hp.push (PySem.W.kdv_tup us)).push (PySem.HandSPX.excO C hp.objs.size)).get? (hp.objs.size + 1) = some (PySem.HandSPX.excO C hp.objs.size) := by heap_get
  have J : Inv X pins σ (upd H1 (hp.objs.size + 1) (exo (hp.objs.size + 1) C none)) ⟨(hp.push (PySem.W.kdv_tup us)).push (PySem.HandSPX.excO C hp.objs.size), g, dr, tk, os⟩ := I1.laid (t' := tk) kk (Nat.le_succ _) (exo_ok hget)
  have r2 : Vals (V.ref (hp.objs.size + 1) :: vs) (Value.ref (hp.objs.size + 1) :: us) := .cons rfl r1
  have hl : (Value.ref (hp.objs.size + 1) :: us ++ []).length = ps.length := by
    have z := r2.length
    rw [F1.len _ _ _ _ hq] at z
    rw [List.append_nil]
    exact z.symm
  have hus : us.length ≤ sizeLine := by
    rw [← Paired.length r1, sizeLine_eq]
    omega
  have bb := hb _ (Value.ref (hp.objs.size + 1) :: us) J.kIn hl
  rw [List.append_nil] at bb
  refine wpAny_call (PySem.HandSPX.call_own F.excBase_ValueError (fun Y => PySem.HandSPX.refsVE_contains Y bm hbm) (I1.kIn _ _ hC) (PySem.W.looks_findIn I1.kIn iC) (fun self => PySem.W.bind_fn I1.kIn self tI) hus
    (codeAny_mono (F1.run _ X.stack _ _ ⟨Value.ref (hp.objs.size + 1) :: us, []⟩ (Value.ref (hp.objs.size + 1) :: us) _ _ (fun _ _ _ => False) (hr.make C us []) (J.env0.make C us []) bb r2 hq) fun r s' hq' => ?_))
  cases r with
  | error er => exact hx pins σ _ _ er s' J hq'
  | ok fl =>
    cases fl with
    | ret u =>
      obtain ⟨v, H2, J2, rv, ev, q2⟩ := J.after hq'
      subst ev
      exact ⟨rv, V.ref (hp.objs.size + 1), H2, J2, rfl, q2⟩
    | next => exact False.elim hq'
    | brk => exact False.elim hq'
    | cont => exact False.elim hq'
/-- e.n, e an own error with the field n -/
theorem pe_xfld {te : TE} (he : PE X e te) (hb : attributeBase e n X.env (eval e X.env) = eval e X.env) :
    PE X (.Attribute e n pos) (fun σ H Q => te σ H fun y H1 => ∃ (a C dx : Addr) (fs : List (Str × V)) (v : V), y = .ref a ∧ XfC X.K C ∧ PySem.W.findIn X.K (.ref C) n = some none ∧ H1 a = some (exo a C (some dx)) ∧ H1 dx = some (exd dx fs) ∧ fs.lookup n = some v ∧ Q v H1) := by
  refine ⟨fun pins s σ H Q I h => attr_of hb (thn (he.run pins s σ H _ I h) fun u s1 hh => ?_)⟩
  obtain ⟨y, H1, J, ry, a, C, dx, fs, v, rfl, T, hno, ea, ed, l, q⟩ := hh
  obtain rfl : u = Value.ref a := ry
  obtain ⟨t1, hoe⟩ := exo_at J.hok ea
  obtain ⟨mA, hns, hr⟩ := exd_at J.hok ed
  obtain ⟨od, ho, hl⟩ := lookIn_ns hns
  obtain ⟨u, hu, ru⟩ := RelO.some_of (v := v) (o := mA n) (by rw [← l]; exact hr n)
  exact HandSPX.exc_get J.kIn ⟨hoe, rfl, rfl, ho⟩ T.ga T.gg T.exC (PySem.W.findObj_own T.hdC hno rfl (by rw [hl, hu])) (handed_of ru) ⟨v, H1, J.tok _, ru, q⟩
/-- isinstance(e, c), e an own error -/
theorem call_isx : CallR X (.builtin "isinstance") (fun xs H Q => ∃ (a C : Addr) (d : Option Addr) (c : V) (cv : Value) (b : Bool), xs = [.ref a, c] ∧ H a = some (exo a C d) ∧ (∀ dx, d = some dx → ∃ fs, H dx = some (exd dx fs)) ∧ XcK X.K C ∧ ClsV c cv ∧ PySem.W.kitOne X.K (.ref C) cv = some b ∧ Q (.bl b) H) := by
  intro pins s σ H xs us Q I r h
  obtain ⟨a, C, d, c, cv, b, rfl, ea, ed, T, k, e, q⟩ := h
  obtain ⟨u1, u2, rfl, r1, r2⟩ := vals2 r
  have e2 := k.eq r2
  subst e2
  obtain rfl : u1 = Value.ref a := r1
  obtain ⟨t1, hoe⟩ := exo_at I.hok ea
  cases d with
  | none => exact PySem.W.kia_one (PySem.W.kitx_exc (od := none) T.cl T.ga T.gt T.sb T.ca T.sg T.tk T.mo) I.kIn ⟨hoe, rfl, rfl, trivial⟩ e (fun z => nomatch z) fun tk => ⟨.bl b, H, I.tok tk, rfl, q⟩
  | some dx =>
    obtain ⟨fs, ed⟩ := ed dx rfl
    obtain ⟨mA, hns, _⟩ := exd_at I.hok ed
    obtain ⟨od, ho, hl⟩ := lookIn_ns hns
    exact PySem.W.kia_one (PySem.W.kitx_exc (od := some od) T.cl T.ga T.gt T.sb T.ca T.sg T.tk T.mo) I.kIn ⟨hoe, rfl, rfl, ho⟩ e (fun z => nomatch z) fun tk => ⟨.bl b, H, I.tok tk, rfl, q⟩
end
end Bp

namespace Bp
open PySem PySem.Spec PyProof.Rows L2
section
variable {P : Program} {w : World} {K : PySem.W.Frag} {mg : Str → Option Value} {base : Heap} {sc : Scope} {N : List Str} {vs ls : List Bool} {k : Nat} {X : Cx} {W : WX} {ρ : Rho} {Nx : Rho → Prop} {R : Rho → Ret → Prop} {E : XQ} {a b c e : Expr} {es : List Expr} {pos p p2 p3 p4 spos : Pos} {x y n f : Str} {i j : Nat}
/-! ### raise x(e), x an own class of errors with an own __init__ that keeps one field -/
def spXi (C : Addr) (f : Str) : Sp := fun vs H Q _ => ∃ a v, vs = [.ref a, v] ∧ H a = some (exo a C none) ∧ ∀ dx, H dx = none → dx ≠ a → Q .non (upd (upd H dx (exd dx [(f, v)])) a (exo a C (some dx)))
theorem fn_xi {Cl fI : Addr} {fd : FuncData} {qual : Str} {params : Arguments} {body : List Stmt} {p1 : Str} {q1 q2 q3 q4 : Pos} (F : FunD K "__init__" qual params body sc [] [] fI fd) (Sc : FnScope [p1, f] [p1, f] sc) (hv : chkB (locB sc) [p1, f] [true, true] = true) (T : OexC K Cl) (hno : PySem.W.findIn K (.ref Cl) f = some none)
    (hb : body = [.Assign [.Attribute (.Name p1 q1) f q2] (.Name f q3) q4]) (hdb : (p1 == ("__debug__" : Str)) = false := by decide) (hcd : (p1 == ("__classdict__" : Str)) = false := by decide) (hdb2 : (f == ("__debug__" : Str)) = false := by decide) (hcd2 : (f == ("__classdict__" : Str)) = false := by decide)
    (hsw : ∀ env, swapsWith (.Name f q3) (some (.Attribute (.Name p1 q1) f q2)) q4.line env = pure false := by intro _; with_unfolding_all rfl) :
    FnOk P w K mg base (L2.CX P w) 1 fI fd [p1, f] (spXi Cl f) := by
  subst hb
  refine F.ok (k := 0) Sc (fun vs H Q E h => ?_) (fun cdv A outer s H vs Q E hr h => ?_)
  · obtain ⟨a, v, rfl, _⟩ := h
    rfl
  · obtain ⟨a, v, rfl, ha, q⟩ := h
    have C := cxt_of (P := P) (w := w) (K := K) (mg := mg) (base := base) (outer := outer) (s := s) (H := H) (E := E) (cdv := cdv) (f := fI) (qual := qual) Sc hv hr
    refine ⟨_, pss_one (ps_ost (pe_var (i := 0) rfl (by rw [C.es]; exact C.vis 0 p1 rfl rfl) hdb hcd) (pe_var (i := 1) rfl (by rw [C.es]; exact C.vis 1 f rfl rfl) hdb2 hcd2) (hsw _)), ?_⟩
    exact ⟨v, rfl, .ref a, rfl, a, Cl, rfl, T, hno, .inl ⟨ha, fun dx n ne => q dx n ne⟩⟩
structure XiC (P : Program) (w : World) (K : PySem.W.Frag) (mg : Str → Option Value) (base : Heap) (x : Str) (Cl : Addr) (f : Str) : Prop where
  gl : mg x = some (.ref Cl)
  oe : OexC K Cl
  it : ∃ fI fd p1, PySem.W.findIn K (.ref Cl) "__init__" = some (some (.ref fI)) ∧ PySem.W.typeIn K (.ref fI) = some (.type "function") ∧ FnOk P w K mg base (L2.CX P w) 1 fI fd [p1, f] (spXi Cl f) ∧ Binds K fd [p1, f] []
end
end Bp
namespace Bp
open PySem PySem.Spec PyProof.Rows L2
/-! ### the head with further looks at the module -/
abbrev Ex1 := PySem.W.Frag → Bool
def exAll (l : List Ex1) (K : PySem.W.Frag) : Bool := l.all fun f => f K
abbrev AlM : Type := He.AlD × Bool
def obsM (fa : List He.Fa) (fn : List He.DefD) (l : List Ex1) (K : PySem.W.Frag) : AlM := (He.obsD fa fn K, exAll l K)
def obsMG (n : Nat) (fa : List He.Fa) (fn : List He.DefD) (l : List Ex1) (g : Addr → Option Obj) : AlM := obsM fa fn l (He.frG g (He.asD g n))
structure SaysM (fa : List He.Fa) (fn : List He.DefD) (l : List Ex1) (K : PySem.W.Frag) : Prop where
  d : He.SaysD fa fn K
  x : exAll l K = true
def hookM (n : Nat) (fa : List He.Fa) (fn : List He.DefD) (l : List Ex1) : PySem.W.Hook where
  α := AlM
  obs := fun s => obsMG n fa fn l s.heap.get?
  val := fun _ => (He.valD fn, true)
  says := fun _ h => ∃ K : PySem.W.Frag, K.In h ∧ SaysM fa fn l K
  of := fun _ _ e => ⟨_, He.frG_in, congrArg (fun z : AlM => z.1) e, congrArg (fun z : AlM => z.2) e⟩
  keeps := fun _ _ _ ⟨K, hK, c⟩ st => ⟨K, PySem.W.Frag.In.keeps hK st, c⟩
theorem obsMG_eq {n : Nat} {fa : List He.Fa} {fn : List He.DefD} {l : List Ex1} {g : Addr → Option Obj} {s : Shared} (h : ∀ a, g a = s.heap.get? a) : obsMG n fa fn l g = (hookM n fa fn l).obs s := by
  rw [show g = s.heap.get? from funext h]
  rfl
theorem ex_at {l : List Ex1} {K : PySem.W.Frag} (h : exAll l K = true) (i : Nat) {f : Ex1} (e : l[i]? = some f) : f K = true := List.all_eq_true.mp h f (List.mem_of_getElem? e)
/-! ### an own class of errors with an own __init__ -/
def oexB (K : PySem.W.Frag) (C : Addr) : Bool := match K.lookup C with
  | some ⟨.type c, _, .cls cd, sl⟩ => decide (c = "type") && (match cd.mro, sl.toList with
    | .ref C' :: bm, [_, _, _, _, some (.builtin n), _] => decide (C' = C) && (decide (n = "ValueError.__new__") && (!cd.hasDel && (cd.hasDict && PySem.HandSPX.refsVE bm)))
    | _, _ => false)
  | _ => false
theorem oexB_ok {K : PySem.W.Frag} {C : Addr} (h : oexB K C = true) : ∃ nm q N bs bm sn sub ab col dd k0 k1 k2 k3 k5, K.lookup C = some (excClassObj nm q C N bs bm true sn sub ab col dd k0 k1 k2 k3 k5 "ValueError.__new__") ∧ PySem.HandSPX.refsVE bm = true := by
  unfold oexB at h
  split at h
  · rename_i c dd cd sl ho
    obtain ⟨h1, h⟩ := He.ba h
    split at h
    · rename_i C' bm k0 k1 k2 k3 nI k5 hm hs
      obtain ⟨h2, h⟩ := He.ba h
      obtain ⟨h3, h⟩ := He.ba h
      obtain ⟨h4, h⟩ := He.ba h
      obtain ⟨h5, h6⟩ := He.ba h
      cases of_decide_eq_true h1
      cases of_decide_eq_true h2
      cases of_decide_eq_true h3
      obtain ⟨nm, bs, mro, nsp, qn, hd, sn, sub, ab, col, del⟩ := cd
      dsimp only at hm h4 h5
      have h4 : del = false := by simpa using h4
      subst hm h5 h4
      have es : sl = #[k0, k1, k2, k3, some (.builtin "ValueError.__new__"), k5] := by
        obtain ⟨l⟩ := sl
        exact congrArg Array.mk hs
      subst es
      exact ⟨nm, qn, nsp, bs, bm, sn, sub, ab, col, dd, k0, k1, k2, k3, k5, ho, h6⟩
    · cases h
  · cases h
def decB (K : PySem.W.Frag) (C : Addr) : Bool := decide (PySem.W.findIn K (.ref C) "__setattr__" = some (some (.builtin "object.__setattr__"))) && (decide (PySem.W.subIn K (.ref C) (.type "BaseException") = some true) && (decide (PySem.W.typeIn K (.ref C) = some (.type "type")) && PySem.W.keepIn K (.ref C)))
def xiB (x f : Str) : Ex1 := fun K => oexB K (cA K x) && (decB K (cA K x) && (xfB K (cA K x) && (decide (PySem.W.findIn K (.ref (cA K x)) f = some none) && (decide (PySem.W.findIn K (.ref (cA K x)) "__init__" = some (some (.ref (He.ma K (cA K x) "__init__")))) && decide (PySem.W.typeIn K (.ref (He.ma K (cA K x) "__init__")) = some (.type "function"))))))
structure XiF (K : PySem.W.Frag) (x f : Str) : Prop where
  oe : OexC K (cA K x)
  xf : XfC K (cA K x)
  no : PySem.W.findIn K (.ref (cA K x)) f = some none
  it : PySem.W.findIn K (.ref (cA K x)) "__init__" = some (some (.ref (He.ma K (cA K x) "__init__")))
  ty : PySem.W.typeIn K (.ref (He.ma K (cA K x) "__init__")) = some (.type "function")
theorem xiB_ok {K : PySem.W.Frag} {x f : Str} (h : xiB x f K = true) : XiF K x f := by
  obtain ⟨h1, h⟩ := He.ba h
  obtain ⟨h2, h⟩ := He.ba h
  obtain ⟨h3, h⟩ := He.ba h
  obtain ⟨h4, h⟩ := He.ba h
  obtain ⟨h5, h6⟩ := He.ba h
  obtain ⟨d1, d⟩ := He.ba h2
  obtain ⟨d2, d⟩ := He.ba d
  obtain ⟨d3, d4⟩ := He.ba d
  exact ⟨⟨oexB_ok h1, of_decide_eq_true d1, of_decide_eq_true d2, of_decide_eq_true d3, d4⟩, xfB_ok h3, of_decide_eq_true h4, of_decide_eq_true h5, of_decide_eq_true h6⟩
end Bp
namespace Bp
open PySem PySem.Spec PyProof.Rows L2
/-! ### the head, with the getters of properties -/
def fnAt (K : PySem.W.Frag) (a : Addr) : He.FnW := match K.lookup a with
  | some ⟨_, _, .func fd, _⟩ => some (fd.name, fd.qualname, fd.params, fd.body, fd.scope, fd.globals, fd.closure, fd.builtins)
  | _ => none
/-- the getter of the property f of the class x -/
def prA (x f : Str) (K : PySem.W.Frag) : Addr := match PySem.W.recIn K (He.ma K (cA K x) f) "property" with
  | some (.ref g :: _) => g
  | _ => 0
structure GetD where
  cls : Str
  prop : Str
  qual : Str
  params : Arguments
  body : List Stmt
  scope : Scope
def GetD.val (g : GetD) : He.FnW := some (g.prop, g.qual, g.params, .stmts g.body, g.scope, mainGlobals, [], builtinsNs)
def codeB (K : PySem.W.Frag) (a : Addr) (qual : Str) : Bool := PySem.W.keepIn K (.ref a) && (match K.lookup a with
  | some ⟨_, _, .func fd, _⟩ => PySem.W.codeIn K fd.code qual && (He.dflB K fd.defaults [] && He.kwdB K fd.kwdefaults [])
  | _ => false)
def propB (x f : Str) (K : PySem.W.Frag) : Bool := decide (PySem.W.findIn K (.ref (cA K x)) f = some (some (.ref (He.ma K (cA K x) f)))) && (decide (PySem.W.specialIn K (.ref (He.ma K (cA K x) f)) "__get__" = some (some (.builtin "property.__get__"))) && (decide (PySem.W.takesIn K (.ref (He.ma K (cA K x) f)) = some true) && (match PySem.W.recIn K (He.ma K (cA K x) f) "property" with
  | some (.ref _ :: _) => true
  | _ => false)))
def GetD.ok (g : GetD) (K : PySem.W.Frag) : Bool := codeB K (prA g.cls g.prop K) g.qual && propB g.cls g.prop K
theorem propB_ok {x f : Str} {K : PySem.W.Frag} (h : propB x f K = true) : PropOf K (cA K x) f (He.ma K (cA K x) f) (prA x f K) := by
  obtain ⟨h1, h⟩ := He.ba h
  obtain ⟨h2, h⟩ := He.ba h
  obtain ⟨h3, h4⟩ := He.ba h
  refine ⟨of_decide_eq_true h1, of_decide_eq_true h2, of_decide_eq_true h3, ?_⟩
  unfold prA
  split at h4
  · rename_i g r e
    exact ⟨r, by rw [e]⟩
  · cases h4
theorem funD_at {K : PySem.W.Frag} {a : Addr} {nm qual : Str} {params : Arguments} {body : List Stmt} {scope : Scope} (e : fnAt K a = some (nm, qual, params, .stmts body, scope, mainGlobals, [], builtinsNs)) (c : codeB K a qual = true) : ∃ fd, FunD K nm qual params body scope [] [] a fd := by
  obtain ⟨kp, c2⟩ := He.ba c
  unfold fnAt at e
  cases lk : K.lookup a with
  | none =>
    rw [lk] at c2
    cases c2
  | some ob =>
    obtain ⟨oc, od, dt, osl⟩ := ob
    rw [lk] at c2 e
    cases dt with
    | func fd =>
      obtain ⟨f1, f2, f3, f4, f5, f6, f7, f8, f9, f10, f11, f12, f13, f14, f15⟩ := fd
      have e2 : (some (f1, f2, f3, f4, f5, f6, f7, f15) : He.FnW) = some (nm, qual, params, .stmts body, scope, mainGlobals, [], builtinsNs) := e
      simp only [Option.some.injEq, Prod.mk.injEq] at e2
      obtain ⟨rfl, rfl, rfl, rfl, rfl, rfl, rfl, rfl⟩ := e2
      have c3 : (PySem.W.codeIn K f13 f2 && (He.dflB K f8 [] && He.kwdB K f9 [])) = true := c2
      obtain ⟨k1, c4⟩ := He.ba c3
      obtain ⟨k2, k3⟩ := He.ba c4
      exact ⟨_, ⟨oc, od, f8, f9, f10, f11, f12, f13, f14, osl, rfl, lk, k1, He.dflB_ok k2, He.kwdB_ok k3⟩, kp⟩
    | _ => cases c2
abbrev AlN : Type := AlM × List He.FnW
def obsN (fa : List He.Fa) (fn : List He.DefD) (l : List Ex1) (gs : List GetD) (K : PySem.W.Frag) : AlN := (obsM fa fn (l ++ gs.map GetD.ok) K, gs.map fun g => fnAt K (prA g.cls g.prop K))
def obsNG (n : Nat) (fa : List He.Fa) (fn : List He.DefD) (l : List Ex1) (gs : List GetD) (g : Addr → Option Obj) : AlN := obsN fa fn l gs (He.frG g (He.asD g n))
structure SaysN (fa : List He.Fa) (fn : List He.DefD) (l : List Ex1) (gs : List GetD) (K : PySem.W.Frag) : Prop where
  d : He.SaysD fa fn K
  x : exAll l K = true ∧ gs.all (fun g => g.ok K) = true ∧ (gs.map fun g => fnAt K (prA g.cls g.prop K)) = gs.map GetD.val
def hookN (n : Nat) (fa : List He.Fa) (fn : List He.DefD) (l : List Ex1) (gs : List GetD) : PySem.W.Hook where
  α := AlN
  obs := fun s => obsNG n fa fn l gs s.heap.get?
  val := fun _ => ((He.valD fn, true), gs.map GetD.val)
  says := fun _ h => ∃ K : PySem.W.Frag, K.In h ∧ SaysN fa fn l gs K
  of := fun _ _ e => by
    refine ⟨_, He.frG_in, congrArg (fun z : AlN => z.1.1) e, ?_⟩
    have e2 : exAll (l ++ gs.map GetD.ok) _ = true := congrArg (fun z : AlN => z.1.2) e
    unfold exAll at e2
    rw [List.all_append, List.all_map] at e2
    obtain ⟨a, b⟩ := He.ba e2
    exact ⟨a, b, congrArg (fun z : AlN => z.2) e⟩
  keeps := fun _ _ _ ⟨K, hK, c⟩ st => ⟨K, PySem.W.Frag.In.keeps hK st, c⟩
theorem obsNG_eq {n : Nat} {fa : List He.Fa} {fn : List He.DefD} {l : List Ex1} {gs : List GetD} {g : Addr → Option Obj} {s : Shared} (h : ∀ a, g a = s.heap.get? a) : obsNG n fa fn l gs g = (hookN n fa fn l gs).obs s := by
  rw [show g = s.heap.get? from funext h]
  rfl
theorem get_at {fa : List He.Fa} {fn : List He.DefD} {l : List Ex1} {gs : List GetD} {K : PySem.W.Frag} (c : SaysN fa fn l gs K) (i : Nat) {g : GetD} (h : gs[i]? = some g) : PropOf K (cA K g.cls) g.prop (He.ma K (cA K g.cls) g.prop) (prA g.cls g.prop K) ∧ ∃ fd, FunD K g.prop g.qual g.params g.body g.scope [] [] (prA g.cls g.prop K) fd := by
  obtain ⟨h1, h2⟩ := He.ba (List.all_eq_true.mp c.x.2.1 g (List.mem_of_getElem? h))
  have e : (gs.map fun g => fnAt K (prA g.cls g.prop K))[i]? = (gs.map GetD.val)[i]? := by rw [c.x.2.2]
  rw [List.getElem?_map, List.getElem?_map, h] at e
  exact ⟨propB_ok h2, funD_at (Option.some.inj e) h1⟩
end Bp

namespace Bp
open PySem PySem.Spec PyProof.Rows L2
/-! ### own errors as data: made, read, asked -/
section
variable {P : Program} {w : World} {K : PySem.W.Frag} {mg : Str → Option Value} {base : Heap} {sc : Scope} {N : List Str} {vs ls : List Bool} {k : Nat} {X : Cx} {W : WX} {ρ : Rho} {Q : Rho → PyData → Prop} {E : XQ} {a b c e : Expr} {es : List Expr} {pos p p2 p3 : Pos} {x y n f : Str} {i j : Nat}
theorem ew_xv0 (C : Cxt P w K mg base sc N vs ls k X W) {A : Addr} (T : ExC K mg x A) (q : Q ρ (xD A [])) (hg : sc.names.lookup x = some .globalImplicit := by decide +kernel) (hdb : (x == ("__debug__" : Str)) = false := by decide) : EW X W (.Call (.Name x p) [] [] pos) ρ Q E := by
  intro F H σ R wd sl kx kk
  have hgl := C.gl hg
  obtain ⟨rfl, rfl⟩ : X.K = K ∧ X.mg = mg := ⟨C.eK, C.eg⟩
  refine of_pe (pe_xv0 PySem.F.excBase_ValueError T.ex T.gl T.kp hgl hdb) fun a ha => ?_
  have g := Gr.new (o := exo a A none) wd.sub ha
  exact kk _ _ ρ _ _ g.stp (wd.gr g) (sl.mono g.ex) (.exc0 upd_same) q
theorem ew_xv1 (C : Cxt P w K mg base sc N vs ls k X W) {A : Addr} (T : XiC P w K mg base x A f) (h : EW X W e ρ (fun ρ1 d => Q ρ1 (xD A [(.str f, d)])) E) (hk : 2 ≤ k := by decide) (hg : sc.names.lookup x = some .globalImplicit := by decide +kernel) (hdb : (x == ("__debug__" : Str)) = false := by decide)
    (he : starEach [e] X.env = (false, eval e X.env) :: starEach [] X.env := by with_unfolding_all rfl) (hpl : (backTo pos (starEach [] X.env)).any (·.1) = false := by with_unfolding_all rfl) : EW X W (.Call (.Name x p) [e] [] pos) ρ Q E := by
  intro F H σ R wd sl kx kk
  have hgl := C.gl hg
  have hr : Room 2 X.A := C.room.mono hk
  obtain ⟨rfl, rfl, rfl, rfl, rfl⟩ : X.prog = P ∧ X.w = w ∧ X.K = K ∧ X.mg = mg ∧ X.base = base := ⟨C.eP, C.ew, C.eK, C.eg, C.eb⟩
  obtain ⟨fI, fd, p1, hi, ht, ok, bd⟩ := T.it
  refine of_pe (pe_xv1 T.oe hi ht ok hr bd (fun pins σ H s e s' I c => C.tk e s' (XE.of_call I (fun _ _ _ z => z.elim) c)) hgl T.gl (pa_cons pe_w pa_nil he) hdb he hpl) ?_
  refine h F H σ _ wd sl kx fun F1 H1 ρ1 v d st1 wd1 sl1 dd1 q1 => ?_
  refine ⟨by simp, fun a ha => ⟨a, v, rfl, upd_same, fun dx n ne => ⟨rfl, ?_⟩⟩⟩
  have n1 : H1 dx = none := by
    rw [upd_ne ne] at n
    exact n
  have eH : upd (upd (upd H1 a (exo a A none)) dx (exd dx [(f, v)])) a (exo a A (some dx)) = upd (upd H1 dx (exd dx [(f, v)])) a (exo a A (some dx)) := by
    funext b
    by_cases hb : b = a
    · rw [hb, upd_same, upd_same]
    · rw [upd_ne hb, upd_ne hb]
      by_cases hbd : b = dx
      · rw [hbd, upd_same, upd_same]
      · rw [upd_ne hbd, upd_ne hbd, upd_ne hb]
  rw [eH]
  have g1 := Gr.new (o := exd dx [(f, v)]) wd1.sub n1
  have wd2 := wd1.gr g1
  have ha2 : upd H1 dx (exd dx [(f, v)]) a = none := by
    rw [upd_ne (Ne.symm ne)]
    exact ha
  have g2 := Gr.new (o := exo a A (some dx)) wd2.sub ha2
  refine kk _ _ ρ1 _ _ ((st1.trans g1.stp).trans g2.stp) (wd2.gr g2) ((sl1.mono g1.ex).mono g2.ex) (.exc1 upd_same ?_ ((dd1.mono g1.ex).mono g2.ex)) q1
  exact g2.ex _ _ upd_same
theorem ew_xfld (C : Cxt P w K mg base sc N vs ls k X W) (h : EW X W e ρ (fun ρ1 y => ∃ A d, y = xD A [(.str n, d)] ∧ XfC K A ∧ PySem.W.findIn K (.ref A) n = some none ∧ Q ρ1 d) E) (hb : attributeBase e n X.env (eval e X.env) = eval e X.env := by with_unfolding_all rfl) : EW X W (.Attribute e n pos) ρ Q E := by
  intro F H σ R wd sl kx kk
  obtain rfl : X.K = K := C.eK
  refine of_pe (pe_xfld pe_w hb) ?_
  refine h F H σ _ wd sl kx fun F1 H1 ρ1 v y st1 wd1 sl1 dd1 q1 => ?_
  obtain ⟨A, d, ey, T, hno, q⟩ := q1
  obtain ⟨a, dx, rfl, ha, hc⟩ := dd_exc dd1 ey
  rcases hc with ⟨_, z⟩ | ⟨d1, f, u, e', rfl, hd, du, z⟩
  · cases z
  · cases z
    exact ⟨a, A, d1, _, u, rfl, T, hno, wd1.sub _ _ ha, wd1.sub _ _ hd, by simp [List.lookup], kk F1 H1 ρ1 _ _ st1 wd1 sl1 du q⟩
theorem isx_of {F H : Hp} {v : V} {y : PyData} {A : Addr} {fs : List (PyData × PyData)} {c : V} {cv : Value} {b : Bool} {R : VK} (dd : DD X.K F v y) (ey : y = xD A fs) (ex : Ex F H) (T : XcK X.K A) (k : ClsV c cv) (e : PySem.W.kitOne X.K (.ref A) cv = some b) (r : R (.bl b) H) :
    ∃ (a C : Addr) (d : Option Addr) (c' : V) (cv : Value) (b : Bool), [v, c] = [.ref a, c'] ∧ H a = some (exo a C d) ∧ (∀ dx, d = some dx → ∃ fs, H dx = some (exd dx fs)) ∧ XcK X.K C ∧ ClsV c' cv ∧ PySem.W.kitOne X.K (.ref C) cv = some b ∧ R (.bl b) H := by
  obtain ⟨a, dx, rfl, ha, hc⟩ := dd_exc dd ey
  refine ⟨a, A, dx, c, cv, b, rfl, ex _ _ ha, fun d2 ed => ?_, T, k, e, r⟩
  rcases hc with ⟨z, _⟩ | ⟨d1, f, u, e', z, hd, _, _⟩
  · rw [z] at ed
    cases ed
  · rw [z] at ed
    cases ed
    exact ⟨_, ex _ _ hd⟩
/-- isinstance(e, x), x an own class -/
theorem ew_isx (C : Cxt P w K mg base sc N vs ls k X W) (B : Blt mg) {D : Addr} (hm2 : mg x = some (.ref D)) (h : EW X W e ρ (fun ρ1 y => ∃ A fs b, y = xD A fs ∧ XcK K A ∧ PySem.W.kitOne K (.ref A) (.ref D) = some b ∧ Q ρ1 (.bool b)) E)
    (hg : sc.names.lookup ("isinstance" : Str) = some .globalImplicit := by decide +kernel) (hg2 : sc.names.lookup x = some .globalImplicit := by decide +kernel) (hd : (x == ("__debug__" : Str)) = false := by decide)
    (he : starEach [e, .Name x p2] X.env = (false, eval e X.env) :: starEach [.Name x p2] X.env := by with_unfolding_all rfl) : EW X W (.Call (.Name "isinstance" p) [e, .Name x p2] [] pos) ρ Q E := by
  intro F H σ R wd sl kx kk
  obtain rfl : X.K = K := C.eK
  refine of_pe (pe_callB call_isx (C.gl hg) (by rw [C.eg]; exact B.isinstance) (by decide +kernel) (pa_cons pe_w (pa_cons (pe_glob (v := .ref D) (C.gl hg2) (by rw [C.eg]; exact hm2) rfl hd) pa_nil) he) (by decide) (by decide) he rfl) ?_
  refine h F H σ _ wd sl kx fun F1 H1 ρ1 v y st1 wd1 sl1 dd1 q => ?_
  obtain ⟨A, fs, b, ey, T, hb, q⟩ := q
  exact isx_of dd1 ey wd1.sub T (.own D) hb (kk F1 H1 ρ1 _ _ st1 wd1 sl1 (.bl b) q)
/-- isinstance(e, x), x a built-in class -/
theorem ew_isv (C : Cxt P w K mg base sc N vs ls k X W) (B : Blt mg) {T : String} (hv : bootBuiltins x = some (.type T)) (hm2 : mg x = none) (h : EW X W e ρ (fun ρ1 y => ∃ A fs b, y = xD A fs ∧ XcK K A ∧ PySem.W.kitOne K (.ref A) (.type T) = some b ∧ Q ρ1 (.bool b)) E)
    (hg : sc.names.lookup ("isinstance" : Str) = some .globalImplicit := by decide +kernel) (hg2 : sc.names.lookup x = some .globalImplicit := by decide +kernel) (hn : x ≠ "__name__" := by decide) (hd : (x == ("__debug__" : Str)) = false := by decide)
    (he : starEach [e, .Name x p2] X.env = (false, eval e X.env) :: starEach [.Name x p2] X.env := by with_unfolding_all rfl) : EW X W (.Call (.Name "isinstance" p) [e, .Name x p2] [] pos) ρ Q E := by
  intro F H σ R wd sl kx kk
  obtain rfl : X.K = K := C.eK
  refine of_pe (pe_callB call_isx (C.gl hg) (by rw [C.eg]; exact B.isinstance) (by decide +kernel) (pa_cons pe_w (pa_cons (pe_bltn (v := .ty T) (C.gl hg2) (by rw [C.eg]; exact hm2) hv rfl hn hd) pa_nil) he) (by decide) (by decide) he rfl) ?_
  refine h F H σ _ wd sl kx fun F1 H1 ρ1 v y st1 wd1 sl1 dd1 q => ?_
  obtain ⟨A, fs, b, ey, U, hb, q⟩ := q
  exact isx_of dd1 ey wd1.sub U (.ty T) hb (kk F1 H1 ρ1 _ _ st1 wd1 sl1 (.bl b) q)
end
end Bp

namespace T
open PySem Spec PyProof.Rows L2 Bp
def top (i : Nat) : Stmt := PySem.Challenge.pw_burstsapart_k16_errors_apart.main.body.getD i (.Pass ⟨0, 0, 0, 0⟩)
abbrev s_BadWords_init : Stmt := inClass (top 9) 0
abbrev N_BadWords_init : List Str := ["self", "index"]
abbrev ps_BadWords_init : List Str := ["self", "index"]
abbrev vs_BadWords_init : List Bool := [true, true]
theorem sc_BadWords_init : FnScope N_BadWords_init ps_BadWords_init (defScope s_BadWords_init) := ⟨rfl, rfl, rfl, by decide +kernel, rfl, by decide +kernel, by decide +kernel⟩
/- slots of BadWords_init: 0 self, 1 index -/
abbrev s_BadLine_init : Stmt := inClass (top 10) 0
abbrev N_BadLine_init : List Str := ["self", "index"]
abbrev ps_BadLine_init : List Str := ["self", "index"]
abbrev vs_BadLine_init : List Bool := [true, true]
theorem sc_BadLine_init : FnScope N_BadLine_init ps_BadLine_init (defScope s_BadLine_init) := ⟨rfl, rfl, rfl, by decide +kernel, rfl, by decide +kernel, by decide +kernel⟩
/- slots of BadLine_init: 0 self, 1 index -/
abbrev s_BadText_init : Stmt := inClass (top 12) 0
abbrev N_BadText_init : List Str := ["self", "word"]
abbrev ps_BadText_init : List Str := ["self", "word"]
abbrev vs_BadText_init : List Bool := [true, true]
theorem sc_BadText_init : FnScope N_BadText_init ps_BadText_init (defScope s_BadText_init) := ⟨rfl, rfl, rfl, by decide +kernel, rfl, by decide +kernel, by decide +kernel⟩
/- slots of BadText_init: 0 self, 1 word -/
abbrev s_law_random : Stmt := top 14
abbrev N_law_random : List Str := ["_law_script", "_law_salt", "_law_seed", "_law_cell"]
abbrev ps_law_random : List Str := ["_law_script", "_law_salt"]
abbrev vs_law_random : List Bool := [true, true, true, true]
theorem sc_law_random : FnScope N_law_random ps_law_random (defScope s_law_random) := ⟨rfl, rfl, rfl, by decide +kernel, rfl, by decide +kernel, by decide +kernel⟩
theorem bd_law_random : Bd "_law_random" s_law_random ps_law_random := bd_of fun _ _ _ _ _ _ us hl => match us, hl with | [_, _], _ => rfl
abbrev vb_law_random_0 : List Bool := [false, false, false, true]
abbrev lb_law_random_0 : List Bool := [false, false, false, true]
/- slots of law_random: 0 _law_script, 1 _law_salt, 2 _law_seed, 3 _law_cell -/
abbrev s_law_below : Stmt := top 15
abbrev N_law_below : List Str := ["_law_d", "_law_size", "_law_result"]
abbrev ps_law_below : List Str := ["_law_d", "_law_size"]
abbrev vs_law_below : List Bool := [true, true, true]
theorem sc_law_below : FnScope N_law_below ps_law_below (defScope s_law_below) := ⟨rfl, rfl, rfl, by decide +kernel, rfl, by decide +kernel, by decide +kernel⟩
theorem bd_law_below : Bd "_law_below" s_law_below ps_law_below := bd_of fun _ _ _ _ _ _ us hl => match us, hl with | [_, _], _ => rfl
/- slots of law_below: 0 _law_d, 1 _law_size, 2 _law_result -/
abbrev s_law_pick : Stmt := top 16
abbrev N_law_pick : List Str := ["_law_d", "_law_items"]
abbrev ps_law_pick : List Str := ["_law_d", "_law_items"]
abbrev vs_law_pick : List Bool := [true, true]
theorem sc_law_pick : FnScope N_law_pick ps_law_pick (defScope s_law_pick) := ⟨rfl, rfl, rfl, by decide +kernel, rfl, by decide +kernel, by decide +kernel⟩
theorem bd_law_pick : Bd "_law_pick" s_law_pick ps_law_pick := bd_of fun _ _ _ _ _ _ us hl => match us, hl with | [_, _], _ => rfl
/- slots of law_pick: 0 _law_d, 1 _law_items -/
abbrev s_law_one : Stmt := top 17
abbrev N_law_one : List Str := ["_law_d", "_law_one_here", "_law_kind", "_law_error"]
abbrev ps_law_one : List Str := ["_law_d"]
abbrev vs_law_one : List Bool := [true, true, true, true]
theorem sc_law_one : FnScope N_law_one ps_law_one (defScope s_law_one) := ⟨rfl, rfl, rfl, by decide +kernel, rfl, by decide +kernel, by decide +kernel⟩
theorem bd_law_one : Bd "_law_one" s_law_one ps_law_one := bd_of fun _ _ _ _ _ _ us hl => match us, hl with | [_], _ => rfl
/- slots of law_one: 0 _law_d, 1 _law_one_here, 2 _law_kind, 3 _law_error -/
abbrev s_law_classes : Stmt := top 18
abbrev N_law_classes : List Str := ["_law_error", "_law_found", "_law_one_here"]
abbrev ps_law_classes : List Str := ["_law_error"]
abbrev vs_law_classes : List Bool := [true, true, false]
theorem sc_law_classes : FnScope N_law_classes ps_law_classes (defScope s_law_classes) := ⟨rfl, rfl, rfl, by decide +kernel, rfl, by decide +kernel, by decide +kernel⟩
theorem bd_law_classes : Bd "_law_classes" s_law_classes ps_law_classes := bd_of fun _ _ _ _ _ _ us hl => match us, hl with | [_], _ => rfl
abbrev vb_law_classes_0 : List Bool := [false, false, true]
abbrev lb_law_classes_0 : List Bool := [false, false, true]
/- slots of law_classes: 0 _law_error, 1 _law_found, 2 _law_one_here -/
abbrev s_law : Stmt := top 19
abbrev N_law : List Str := ["_law_script", "_law_d", "_law_turn", "_law_error", "_law_is_right", "_law_errors", "_law_one_here"]
abbrev ps_law : List Str := ["_law_script"]
abbrev vs_law : List Bool := [true, true, true, true, true, true, false]
theorem sc_law : FnScope N_law ps_law (defScope s_law) := ⟨rfl, rfl, rfl, by decide +kernel, rfl, by decide +kernel, by decide +kernel⟩
theorem bd_law : Bd "law" s_law ps_law := bd_of fun _ _ _ _ _ _ us hl => match us, hl with | [_], _ => rfl
abbrev vb_law_0 : List Bool := [false, false, false, false, false, false, true]
abbrev lb_law_0 : List Bool := [false, false, false, false, false, false, true]
/- slots of law: 0 _law_script, 1 _law_d, 2 _law_turn, 3 _law_error, 4 _law_is_right, 5 _law_errors, 6 _law_one_here -/
set_option hygiene false in
local macro_rules | `(tactic| walk_at "ew") => `(tactic| first
  | (show EW _ _ (.Name _ _) _ _ _; first | refine ew_var C (by with_unfolding_all rfl) (by with_unfolding_all rfl) ?_ | refine ew_globI C (by assumption) ?_)
  | (show EW _ _ (.Constant _ _ _) _ _ _; first | refine ew_int ?_ | refine ew_str ?_ | refine ew_bl ?_ | refine ew_non ?_)
  | (show EW _ _ (.Subscript _ _ _) _ _ _; first | refine ew_slH ?_ | refine ew_sl2 ?_ | refine ew_dgetO C (by with_unfolding_all rfl) (by with_unfolding_all rfl) ?_ | refine ew_ixO C (by with_unfolding_all rfl) (by with_unfolding_all rfl) ?_ | refine ew_ix ?_)
  | (show EW _ _ (.BinOp _ _ _ _) _ _ _; first | refine ew_bin ?_)
  | (show EW _ _ (.Compare _ _ _ _) _ _ _; first | refine ew_nin C (by with_unfolding_all rfl) (by with_unfolding_all rfl) ?_ | refine ew_cmp ?_ | refine ew_chain ?_)
  | (show EW _ _ (.Call (.Attribute (.Name _ _) "get" _) _ _ _) _ _ _; refine ew_getO C (by with_unfolding_all rfl) (by with_unfolding_all rfl) ?_)
  | (show EW _ _ (.Call (.Name "len" _) _ _ _) _ _ _; first | refine ew_lenDO C B (by with_unfolding_all rfl) (by with_unfolding_all rfl) ?_ | refine ew_lenO C B (by with_unfolding_all rfl) (by with_unfolding_all rfl) ?_ | refine ew_callB C (id := "len") PySem.boot_len B.len ?_)
  | (show EW _ _ (.Dict [] [] _) _ _ _; refine ew_dict ?_)
  | (show EW _ _ (.Call (.Name "list" _) _ _ _) _ _ _; first | refine ew_keysO C B (by with_unfolding_all rfl) (by with_unfolding_all rfl) ?_ | refine ew_listRg1 C B ?_ | refine ew_listRg2 C B ?_ | refine ew_callT C (T := "list") (by decide +kernel) B.list ?_)
  | (show EW _ _ (.Call (.Name "tuple" _) _ _ _) _ _ _; refine ew_callT C (T := "tuple") (by decide +kernel) B.tuple ?_)
  | (show EW _ _ (.Call (.Name "int" _) _ _ _) _ _ _; first | refine ew_callT C (T := "int") (by decide +kernel) B.int ?_)
  | (show EW _ _ (.Call (.Name "all" _) _ _ _) _ _ _; refine ew_callB C (id := "all") PyProof.Rows.boot_all B.all ?_)
  | (show EW _ _ (.Call (.Name "max" _) _ _ _) _ _ _; refine ew_callB C (id := "max") PyProof.Rows.boot_max B.max ?_)
  | (show EW _ _ (.Call (.Name "min" _) _ _ _) _ _ _; refine ew_callB C (id := "min") PyProof.Rows.boot_min B.min ?_)
  | (show EW _ _ (.Call (.Name "sorted" _) _ _ _) _ _ _; refine ew_callB C (id := "sorted") PyProof.Rows.boot_sorted B.sorted ?_)
  | (show EW _ _ (.Call (.Name "abs" _) _ _ _) _ _ _; first | refine ew_callB C (id := "abs") (by decide +kernel) B.abs ?_)
  | (show EW _ _ (.Call (.Name "isinstance" _) _ _ _) _ _ _; first | refine ew_isInt C B ?_ | refine ew_isBool C B ?_ | refine ew_isStr C B ?_ | refine ew_isTup C B ?_ | refine ew_isLst C B ?_ | refine ew_isDic C B ?_ | refine ew_isSeq C B ?_)
  | (show EW _ _ (.Call (.Name _ _) _ _ _) _ _ _; first | refine ew_call C (by assumption) ?_ | refine ew_draw C (by assumption) (by with_unfolding_all rfl) (by with_unfolding_all rfl) ?_)
  | (show EW _ _ (.IfExp _ _ _ _) _ _ _; first | refine ew_ite ?_)
  | (show EW _ _ (.BoolOp _ _ _) _ _ _; first | refine ew_and ?_ | refine ew_or ?_ | refine ew_one ?_)
  | (show EW _ _ (.UnaryOp _ _ _) _ _ _; first | refine ew_not ?_ | refine ew_un ?_)
  | (show EW _ _ (.Tuple _ _ _) _ _ _; first | refine ew_tup ?_)
  | (show EW _ _ (.List _ _) _ _ _; first | refine ew_lst ?_))
set_option hygiene false in
local macro_rules | `(tactic| walk_at "ev1") => `(tactic| with_reducible first
  | (show EW _ _ _ _ _ _; walk_at "ew")
  | (show BW _ _ _ _ _; first | refine bw_add ?_ | refine bw_addL (by with_unfolding_all exact Nat.le_of_ble_eq_true rfl) ?_ | refine bw_sub ?_ | refine bw_lt ?_ | refine bw_le ?_ | refine bw_gt ?_ | refine bw_ge ?_ | refine bw_eqS ?_ | refine bw_eqI ?_ | refine bw_eqB C ?_ | refine bw_neB C ?_ | refine bw_neS ?_ | refine bw_neI ?_ | refine bw_isN ?_ | refine bw_notN ?_)
  | (show AW _ _ _ _ _ _; first | refine aw_cons ?_ | refine aw_nil ?_)
  | (show BI _ _ _ _; first | refine bi_tup (by with_unfolding_all rfl) ?_)
  | (show BC _ _ _ _; first | refine bc_int1 ?_ | refine bc_tuple (.inl rfl) ?_ | refine bc_tuple (.inr rfl) ?_ | refine bc_list (.inl rfl) ?_ | refine bc_list (.inr rfl) ?_ | refine bc_abs ?_ | refine bc_lenL ?_ | refine bc_lenT ?_)
  | (show TW _ _ _ _ _ _; first | refine tw_neE C (by with_unfolding_all rfl) (by with_unfolding_all rfl) ?_ | refine tw_nin C (by with_unfolding_all rfl) (by with_unfolding_all rfl) ?_ | refine tw_in C (by with_unfolding_all rfl) (by with_unfolding_all rfl) ?_ | refine tw_cmp ?_ | refine tw_not ?_ | refine tw_bop ?_ | refine tw_chain ?_ | refine tw_val ?_)
  | (show PWW _ _ _ _ _ _; first | refine pww_and ?_ | refine pww_or ?_ | refine pww_and1 ?_ | refine pww_or1 ?_)
  | (show SW _ _ _ _ _ _ _; first | refine sw_cons ?_ | refine sw_nil ?_)
  | (show S1 _ _ _ _ _ _ _; first | refine s1_ret ?_ | refine s1_if ?_ | refine s1_set C (by with_unfolding_all rfl) ?_ | refine s1_raise0 C (by assumption) ?_ | refine s1_expr ?_ | refine s1_par2 C ?_ | refine s1_par3 C ?_ | (show S1 _ _ (.Assign [.Tuple _ _ _] _ _) _ _ _ _; refine s1_asgG C ?_) | refine s1_augAdd C (by with_unfolding_all rfl) (by with_unfolding_all rfl) ?_)
  | (show BU _ _ _ _; first | refine bu_neg ?_)
  | (show GW _ _ _ _ _; first | refine gw_name C (by with_unfolding_all rfl) ?_ | refine gw_pair C (by with_unfolding_all rfl) (by with_unfolding_all rfl) ?_ | refine gw_trip C (by with_unfolding_all rfl) (by with_unfolding_all rfl) (by with_unfolding_all rfl) ?_)
  | (show List.length _ ≤ 16777216 ∧ _; refine And.intro (by with_unfolding_all exact Nat.le_of_ble_eq_true rfl) ?_)
  | refine Exists.intro _ (And.intro rfl ?_))
local macro_rules | `(tactic| walk_at "ev") => `(tactic| repeat (walk_at "ev1"))
local macro_rules | `(tactic| walk_at "go") => `(tactic| (refine sw_cons ?_; repeat (walk_at "ev1")))
local macro_rules | `(tactic| walk_at "bt") => `(tactic| first
  | with_reducible rfl
  | (simp only [Bool.not_not, Bool.not_eq_true', Bool.not_eq_false', decide_eq_true_eq, decide_eq_false_iff_not, Bool.not_true, Bool.not_false]; done)
  | (simp only [Bool.not_not, Bool.not_eq_true', Bool.not_eq_false', decide_eq_true_eq, decide_eq_false_iff_not]; first | assumption | omega)
  | decide +kernel
  | with_unfolding_all exact rfl)
local macro_rules | `(tactic| walk_at "br") => `(tactic| first
  | refine brT (by walk_at "bt") ?_
  | refine brF (by walk_at "bt") ?_
  | refine brT' (by walk_at "bt") ?_
  | refine brF' (by walk_at "bt") ?_)
local macro_rules | `(tactic| walk_at "run") => `(tactic| repeat (first | walk_at "ev1" | walk_at "br"))

/-! ### the draws: _law_random, _law_below, _law_pick -/
theorem at0 {a : PyData} {l : List PyData} : atI (a :: l) 0 = some a := by
  unfold atI ixN
  rw [if_pos (by omega), if_pos (by simp)]
  rfl
theorem at1 {a b : PyData} {l : List PyData} : atI (a :: b :: l) 1 = some b := by
  unfold atI ixN
  rw [if_pos (by omega), if_pos (by simp; omega)]
  rfl
theorem ix0 {n : Nat} : ixN (n + 1) 0 = some 0 := by
  unfold ixN
  rw [if_pos (by omega), if_pos (by omega)]
  rfl
theorem ix1 {n : Nat} : ixN (n + 2) 1 = some 1 := by
  unfold ixN
  rw [if_pos (by omega), if_pos (by omega)]
  rfl
def pBelow : PDr := fun ds Q => ∃ n : Int, ds = [.int n] ∧ 1 ≤ n ∧ n < 2 ^ 200 ∧ ∀ r : Int, 0 ≤ r → r < n → Q (.int r)
def pPick : PDr := fun ds Q => ∃ l : List PyData, ds = [.list l] ∧ 1 ≤ l.length ∧ l.length ≤ 1000 ∧ ∀ x ∈ l, Q x
theorem cdiv_of {i j : Int} (h0 : 0 < j) (h1 : j < 2 ^ 200) : CDivW i j := wide_div h0 (b := 200) (by omega) (by decide) (by decide)
theorem mod_range {a b : Int} (h : 0 < b) : 0 ≤ a % b ∧ a % b < b := ⟨Int.emod_nonneg a (by omega), Int.emod_lt_of_pos a h⟩
section
variable {P : Program} {w : World} {K : PySem.W.Frag} {mg : Str → Option Value} {base : Heap}
theorem fn_law_random (A : At K mg "_law_random" s_law_random) (B : Blt mg) : FnR P w K mg base 1 "_law_random" := by
  refine fn_random (vs := vs_law_random) A sc_law_random bd_law_random (by decide +kernel) ?_
  intro X W C _ ns salt hl s0 s1
  walk_at "go"
  refine s1_for C (iw_scr C (by with_unfolding_all rfl) rfl ⟨fun n ρ => ∃ (z : Option PyData) (s : Int), ρ = [some (.scr ns), some (.d (.int salt)), some (.d (.int s)), z.map S.d] ∧ 0 ≤ s ∧ s < 2147483647, ⟨none, salt, rfl, s0, s1⟩, ?_, ?_⟩)
  · rintro n d ρ hd ⟨z, s, rfl, h0, h1⟩
    rw [List.getElem?_map] at hd
    cases e : ns[n]? with
    | none =>
      rw [e] at hd
      cases hd
    | some c =>
      rw [e] at hd
      cases hd
      refine gw_name C rfl ?_
      walk_at "ev"
      refine bw_mul (wide_mul (a := 31) (b := 5) (by omega) (by decide) (by decide) (by decide) (by decide)) ?_
      walk_at "ev"
      refine bw_mod (by decide) ?_
      have hm := mod_range (a := s * 31 + if c < 0 then -c else c) (b := 2147483647) (by decide)
      exact sw_nil ⟨some (.int c), _, rfl, hm.1, hm.2⟩
  · rintro ρ ⟨z, s, rfl, h0, h1⟩
    refine sw_cons (s1_retE (eo_en (en_add ?_)))
    walk_at "ev"
    refine ew_lc C (vb := vb_law_random_0) (lb := lb_law_random_0) (iw_scr C (by with_unfolding_all rfl) rfl ?_)
    refine ⟨by rw [List.length_map]; omega, noOwn_of (by cases z <;> rfl), ?_⟩
    refine lc_fil (xs := ns) (enc := PyData.int) (f := PyData.int) (pr := fun c => decide (10 ^ 18 ≤ c)) rfl (fun a _ X C => ?_) (fun a _ _ X C => ?_) ?_
    · walk_at "ev"
      refine bw_pow ⟨by decide, by decide, by decide⟩ ?_
      walk_at "ev"
      exact ⟨rfl, rfl⟩
    · walk_at "ev"
      exact ⟨rfl, rfl⟩
    · refine ⟨_, rfl, ?_, (s :: 0 :: ns.filter fun c => decide (10 ^ 18 ≤ c)), ?_, s, 0, _, rfl, h0, by decide, fun x hx => ?_⟩
      · have h2 := List.length_filter_le (fun c : Int => decide (10 ^ 18 ≤ c)) ns
        rw [List.length_map]
        show 2 + _ ≤ _
        omega
      · rfl
      · have := of_decide_eq_true (List.mem_filter.mp hx).2
        omega
theorem fn_law_below (A : At K mg "_law_below" s_law_below) (B : Blt mg) : FnO P w K mg base 1 "_law_below" (pD pBelow) := by
  refine fn_draw (vs := vs_law_below) A sc_law_below bd_law_below ?_ (by decide +kernel) ?_
  · rintro ds Q ⟨n, rfl, _⟩
    rfl
  · rintro X W C - q ds Q ⟨n, rfl, n0, n1, hq⟩
    refine sw_open (i := 0) rfl ?_
    rintro ms ⟨s, c, r, rfl, s0, c0, r0⟩
    -- the state at hand: behind the first statement
    have step : ∀ (c : Int) (r : List Int) (z : Option S), 0 ≤ c → (∀ x ∈ r, (0 : Int) ≤ x) → SW X W (defBody s_law_below).tail [some (.own q (.lst ((s :: c :: r).map PyData.int))), some (.d (.int n)), z] (fun _ => False)
        (fun ρ' r => ∃ ms' d, ρ'[0]? = some (some (.own q (.lst (ms'.map PyData.int)))) ∧ RS ms' ∧ r = .d d ∧ ∃ d', (ρ'.set 0 (some (.own q .rs)))[0]? = some (some (.own q .rs)) ∧ (Ret.d d).toD = some d' ∧ Q d') noX := by
      intro c r z c0 r0
      walk_at "go"
      refine ⟨1, _, _, rfl, rfl, at1, ?_⟩
      walk_at "ev"
      refine ⟨fun h => ?_, fun h => ?_⟩
      · have hc : 0 < c := of_decide_eq_true h
        walk_at "ev"
        refine ⟨1, _, _, rfl, rfl, at1, ?_⟩
        walk_at "ev"
        refine bw_mod (by omega) ?_
        walk_at "ev"
        refine s1_setIxO C (by with_unfolding_all rfl) rfl ?_
        walk_at "ev"
        refine ⟨1, _, _, rfl, rfl, at1, ?_⟩
        walk_at "ev"
        refine bw_div (cdiv_of (by omega) n1) ?_
        walk_at "ev"
        refine ⟨1, _, 1, rfl, rfl, ix1, ?_⟩
        walk_at "ev"
        have hm := mod_range (a := c) (b := n) (by omega)
        exact ⟨s :: c / n :: r, _, rfl, ⟨s, c / n, r, rfl, s0, Int.ediv_nonneg c0 (by omega), r0⟩, rfl, _, rfl, rfl, hq _ hm.1 hm.2⟩
      · walk_at "ev"
        refine s1_setIxO C (by with_unfolding_all rfl) rfl ?_
        walk_at "ev"
        refine ⟨0, _, _, rfl, rfl, at0, ?_⟩
        walk_at "ev"
        refine bw_mulS (.inr (by decide)) ?_
        walk_at "ev"
        refine bw_mod (by decide) ?_
        walk_at "ev"
        refine ⟨0, _, 0, rfl, rfl, ix0, ?_⟩
        walk_at "ev"
        refine ⟨0, _, _, rfl, rfl, at0, ?_⟩
        walk_at "ev"
        refine bw_div (cdiv_of (by decide) (by decide)) ?_
        walk_at "ev"
        refine bw_mod (by omega) ?_
        have h1 := mod_range (a := s * 48271 + 11) (b := 2147483647) (by decide)
        have hm := mod_range (a := (s * 48271 + 11) % 2147483647 / 64) (b := n) (by omega)
        exact ⟨(s * 48271 + 11) % 2147483647 :: c :: r, _, rfl, ⟨_, c, r, rfl, h1.1, c0, r0⟩, rfl, _, rfl, rfl, hq _ hm.1 hm.2⟩
    refine sw_cons ?_
    walk_at "ev"
    refine ⟨1, _, _, rfl, rfl, at1, ?_⟩
    walk_at "ev"
    refine ⟨fun h => ?_, fun h => ?_⟩
    · walk_at "ev"
      refine ⟨fun h2 => ?_, fun h2 => ?_⟩
      · have h2 : (2 : Int) < (((s :: c :: r).map PyData.int).length : Nat) := of_decide_eq_true h2
        match r, r0, h2 with
        | [], _, h2 => exact absurd h2 (by simp)
        | y :: r, r0, h2 =>
          walk_at "ev"
          refine s1_setIxO C (by with_unfolding_all rfl) rfl ?_
          refine ew_popAtO C (by with_unfolding_all rfl) rfl ?_
          walk_at "ev"
          refine ⟨2, _, 2, .int y, rfl, rfl, by decide, by decide, ?_, rfl, ?_⟩
          · unfold seqIndex?
            simp
            omega
          refine ⟨_, rfl, ?_⟩
          walk_at "ev"
          refine ⟨1, _, 1, rfl, rfl, ix1, sw_nil ?_⟩
          exact step y r _ (r0 y List.mem_cons_self) fun x hx => r0 x (List.mem_cons_of_mem _ hx)
      · exact sw_nil (step c r _ c0 r0)
    · refine ⟨fun z => (nomatch z), fun _ => sw_nil ?_⟩
      exact step c r _ c0 r0
theorem fn_law_pick (A : At K mg "_law_pick" s_law_pick) (B : Blt mg) (G1 : FnO P w K mg base 1 "_law_below" (pD pBelow)) : FnO P w K mg base 2 "_law_pick" (pD pPick) := by
  refine fn_draw (vs := vs_law_pick) A sc_law_pick bd_law_pick ?_ (by decide +kernel) ?_
  · rintro ds Q ⟨n, rfl, _⟩
    rfl
  · rintro X W C - q ds Q ⟨l, rfl, n0, n1, hq⟩
    walk_at "go"
    refine ⟨rfl, l.length, rfl, by omega, by omega, fun r r0 r1 => ?_⟩
    have hr : r.toNat < l.length := by omega
    have e : atI l r = some l[r.toNat] := by
      unfold atI ixN
      rw [if_pos r0, if_pos r1]
      exact List.getElem?_eq_getElem hr
    refine bi_lst e ?_
    exact ⟨_, rfl, rfl, hq _ (List.getElem_mem hr)⟩
end

/-! ### law k16 -/
abbrev NM : List Str := ["BadLength", "BadLine", "BadMany", "BadPlace", "BadSign", "BadText", "BadWay", "BadWord", "BadWords", "Full", "TooGreat"]
def k16B : Ex1 := fun K => NM.all fun x => xcB K (cA K x) && (decide (PySem.W.kitOne K (.ref (cA K x)) (.ref (cA K "BurstError")) = some true) && (decide (PySem.W.kitOne K (.ref (cA K x)) (.type "ValueError") = some true) && NM.all fun y => decide (PySem.W.kitOne K (.ref (cA K x)) (.ref (cA K y)) = some (decide (x = y)))))
structure K16 (K : PySem.W.Frag) : Prop where
  xc : ∀ x ∈ NM, XcK K (cA K x)
  be : ∀ x ∈ NM, PySem.W.kitOne K (.ref (cA K x)) (.ref (cA K "BurstError")) = some true
  ve : ∀ x ∈ NM, PySem.W.kitOne K (.ref (cA K x)) (.type "ValueError") = some true
  one : ∀ x ∈ NM, ∀ y ∈ NM, PySem.W.kitOne K (.ref (cA K x)) (.ref (cA K y)) = some (decide (x = y))
theorem k16B_ok {K : PySem.W.Frag} (h : k16B K = true) : K16 K := by
  have g := fun x (hx : x ∈ NM) => List.all_eq_true.mp h x hx
  refine ⟨fun x hx => ?_, fun x hx => ?_, fun x hx => ?_, fun x hx y hy => ?_⟩
  · exact xcB_ok (Bool.and_eq_true_iff.mp (g x hx)).1
  · exact of_decide_eq_true (Bool.and_eq_true_iff.mp (Bool.and_eq_true_iff.mp (g x hx)).2).1
  · exact of_decide_eq_true (Bool.and_eq_true_iff.mp (Bool.and_eq_true_iff.mp (Bool.and_eq_true_iff.mp (g x hx)).2).2).1
  · exact of_decide_eq_true (List.all_eq_true.mp (Bool.and_eq_true_iff.mp (Bool.and_eq_true_iff.mp (Bool.and_eq_true_iff.mp (g x hx)).2).2).2 y hy)
theorem one_only : ∀ x ∈ NM, ((NM.map fun y => decide (x = y)).filter id).length = 1 := by decide +kernel
def pClasses (K : PySem.W.Frag) : PF := fun ds Q _ => ∃ (x : Str) (fs : List (PyData × PyData)), x ∈ NM ∧ ds = [xD (cA K x) fs] ∧ Q (.d (.int 1))
def pOne (K : PySem.W.Frag) : PDr := fun ds Q => ds = [] ∧ ∀ (x f : Str) (d : PyData), x ∈ NM → Q (.tuple [xD (cA K x) [(.str f, d)], .bool true])
section
variable {P : Program} {w : World} {K : PySem.W.Frag} {mg : Str → Option Value} {base : Heap}
theorem fn_law_classes (A : At K mg "_law_classes" s_law_classes) (B : Blt mg) (T : K16 K) (g0 : mg "BadLength" = some (.ref (cA K "BadLength"))) (g1 : mg "BadLine" = some (.ref (cA K "BadLine"))) (g2 : mg "BadMany" = some (.ref (cA K "BadMany"))) (g3 : mg "BadPlace" = some (.ref (cA K "BadPlace"))) (g4 : mg "BadSign" = some (.ref (cA K "BadSign"))) (g5 : mg "BadText" = some (.ref (cA K "BadText"))) (g6 : mg "BadWay" = some (.ref (cA K "BadWay"))) (g7 : mg "BadWord" = some (.ref (cA K "BadWord"))) (g8 : mg "BadWords" = some (.ref (cA K "BadWords"))) (g9 : mg "Full" = some (.ref (cA K "Full"))) (g10 : mg "TooGreat" = some (.ref (cA K "TooGreat"))) : Fn P w K mg base 1 "_law_classes" (pClasses K) := by
  refine fn_def (vs := vs_law_classes) A sc_law_classes bd_law_classes ?_ (by decide +kernel) ?_
  · rintro ds Q E ⟨x, fs, _, rfl, _⟩
    rfl
  · rintro X W C - ds Q E ⟨x, fs, hx, rfl, q⟩
    have xc := T.xc x hx
    walk_at "go"
    refine ew_isx C B g0 ?_
    walk_at "ev"
    refine ⟨_, fs, _, rfl, xc, T.one x hx "BadLength" (by decide +kernel), ?_⟩
    walk_at "ev"
    refine ew_isx C B g1 ?_
    walk_at "ev"
    refine ⟨_, fs, _, rfl, xc, T.one x hx "BadLine" (by decide +kernel), ?_⟩
    walk_at "ev"
    refine ew_isx C B g2 ?_
    walk_at "ev"
    refine ⟨_, fs, _, rfl, xc, T.one x hx "BadMany" (by decide +kernel), ?_⟩
    walk_at "ev"
    refine ew_isx C B g3 ?_
    walk_at "ev"
    refine ⟨_, fs, _, rfl, xc, T.one x hx "BadPlace" (by decide +kernel), ?_⟩
    walk_at "ev"
    refine ew_isx C B g4 ?_
    walk_at "ev"
    refine ⟨_, fs, _, rfl, xc, T.one x hx "BadSign" (by decide +kernel), ?_⟩
    walk_at "ev"
    refine ew_isx C B g5 ?_
    walk_at "ev"
    refine ⟨_, fs, _, rfl, xc, T.one x hx "BadText" (by decide +kernel), ?_⟩
    walk_at "ev"
    refine ew_isx C B g6 ?_
    walk_at "ev"
    refine ⟨_, fs, _, rfl, xc, T.one x hx "BadWay" (by decide +kernel), ?_⟩
    walk_at "ev"
    refine ew_isx C B g7 ?_
    walk_at "ev"
    refine ⟨_, fs, _, rfl, xc, T.one x hx "BadWord" (by decide +kernel), ?_⟩
    walk_at "ev"
    refine ew_isx C B g8 ?_
    walk_at "ev"
    refine ⟨_, fs, _, rfl, xc, T.one x hx "BadWords" (by decide +kernel), ?_⟩
    walk_at "ev"
    refine ew_lc C (vb := vb_law_classes_0) (lb := lb_law_classes_0) (iw_seq ?_)
    walk_at "ev"
    refine ew_isx C B g9 ?_
    walk_at "ev"
    refine ⟨_, fs, _, rfl, xc, T.one x hx "Full" (by decide +kernel), ?_⟩
    walk_at "ev"
    refine ew_isx C B g10 ?_
    walk_at "ev"
    refine ⟨_, fs, _, rfl, xc, T.one x hx "TooGreat" (by decide +kernel), ?_⟩
    walk_at "ev"
    refine ⟨_, .inl rfl, by show 11 ≤ 16777216; decide, noOwn_of rfl, ?_⟩
    refine lc_fil (xs := NM.map fun y => decide (x = y)) (enc := PyData.bool) (f := PyData.bool) (pr := id) rfl (fun b hb X C => ?_) (fun b hb _ X C => ?_) ?_
    · walk_at "ev"
      exact ⟨rfl, rfl⟩
    · walk_at "ev"
      exact ⟨rfl, rfl⟩
    walk_at "ev"
    rw [List.length_map, one_only x hx]
    exact q
theorem fn_law_one (A : At K mg "_law_one" s_law_one) (B : Blt mg) (X1 : XiC P w K mg base "BadWords" (cA K "BadWords") "index") (X2 : XiC P w K mg base "BadLine" (cA K "BadLine") "index") (X3 : XiC P w K mg base "BadText" (cA K "BadText") "word") (Y1 : XiF K "BadWords" "index") (Y2 : XiF K "BadLine" "index") (Y3 : XiF K "BadText" "word") (G1 : FnO P w K mg base 1 "_law_below" (pD pBelow)) (G2 : FnO P w K mg base 2 "_law_pick" (pD pPick)) : FnO P w K mg base 3 "_law_one" (pD (pOne K)) := by
  refine fn_draw (vs := vs_law_one) A sc_law_one bd_law_one ?_ (by decide +kernel) ?_
  · rintro ds Q ⟨rfl, _⟩
    rfl
  · rintro X W C - q ds Q ⟨rfl, hq⟩
    walk_at "go"
    refine ⟨rfl, _, rfl, by with_unfolding_all exact Nat.le_of_ble_eq_true rfl, by with_unfolding_all exact Nat.le_of_ble_eq_true rfl, fun v hv => ?_⟩
    have sv : shp 2 v = true := mem_all (p := shp 2) (by decide +kernel) hv
    walk_at "ev"
    refine ⟨rfl, 3, rfl, by decide, by decide, fun kd k0 k1 => ?_⟩
    refine sw_cons (s1_if ?_)
    walk_at "ev"
    by_cases c0 : kd = 0
    · refine brT (decide_eq_true c0) ?_
      refine sw_cons (s1_set C rfl (ew_xv1 C X1 ?_))
      walk_at "ev"
      refine ew_xfld C ?_
      walk_at "ev"
      refine ⟨_, _, rfl, Y1.xf, Y1.no, ?_⟩
      walk_at "ev"
      refine bw_eqD C.room (shaped_of 2 sv) (shaped_of 2 sv) ?_
      rw [eqv_self 2 _ sv]
      walk_at "ev"
      exact ⟨_, rfl, rfl, hq "BadWords" "index" v (by decide +kernel)⟩
    refine brF (decide_eq_false c0) (sw_nil (sw_cons (s1_if ?_)))
    walk_at "ev"
    by_cases c1 : kd = 1
    · refine brT (decide_eq_true c1) ?_
      refine sw_cons (s1_set C rfl (ew_xv1 C X2 ?_))
      walk_at "ev"
      refine ew_xfld C ?_
      walk_at "ev"
      refine ⟨_, _, rfl, Y2.xf, Y2.no, ?_⟩
      walk_at "ev"
      refine bw_eqD C.room (shaped_of 2 sv) (shaped_of 2 sv) ?_
      rw [eqv_self 2 _ sv]
      walk_at "ev"
      exact ⟨_, rfl, rfl, hq "BadLine" "index" v (by decide +kernel)⟩
    refine brF (decide_eq_false c1) (sw_nil ?_)
    refine sw_cons (s1_set C rfl (ew_xv1 C X3 ?_))
    walk_at "ev"
    refine ew_xfld C ?_
    walk_at "ev"
    refine ⟨_, _, rfl, Y3.xf, Y3.no, ?_⟩
    walk_at "ev"
    refine bw_eqD C.room (shaped_of 2 sv) (shaped_of 2 sv) ?_
    rw [eqv_self 2 _ sv]
    walk_at "ev"
    exact ⟨_, rfl, rfl, hq "BadText" "word" v (by decide +kernel)⟩
theorem fn_law {f : Addr} {fd : FuncData} (F : FD K "law" s_law f fd) (B : Blt mg) (T : K16 K) (gB : mg "BurstError" = some (.ref (cA K "BurstError"))) (gV : mg "ValueError" = none) (e0 : ExC K mg "BadWay" (cA K "BadWay")) (e1 : ExC K mg "BadWord" (cA K "BadWord")) (e2 : ExC K mg "BadSign" (cA K "BadSign")) (e3 : ExC K mg "BadPlace" (cA K "BadPlace")) (e4 : ExC K mg "BadLength" (cA K "BadLength")) (e5 : ExC K mg "BadMany" (cA K "BadMany")) (e6 : ExC K mg "TooGreat" (cA K "TooGreat")) (e7 : ExC K mg "Full" (cA K "Full")) (G0 : FnR P w K mg base 1 "_law_random") (G1 : FnO P w K mg base 3 "_law_one" (pD (pOne K))) (G2 : Fn P w K mg base 1 "_law_classes" (pClasses K)) : FnOk P w K mg base (L2.CX P w) 9 f fd ["_law_script"] (spLaw K) := by
  refine fn_okL (vs := vs_law) F sc_law (by decide +kernel) ?_
  intro X W C Fr ns hns
  clear F fd f
  refine sw_cons (s1_random C G0 (l := 0) rfl rfl rfl hns fun q => ?_)
  refine sw_via (fun ρ' => ∃ z2 z3 z4, ρ' = [some (.scr ns), some (.own q .rs), z2, z3, z4, none, none]) (s1_for C (iw_range1 C B.range ?_)) ?_
  · walk_at "ev"
    refine ⟨by decide, by decide, fun n ρ' => ∃ z2 z3 z4, ρ' = [some (.scr ns), some (.own q .rs), z2, z3, z4, none, none], ⟨none, none, none, rfl⟩, ?_, fun _ z => z⟩
    rintro n d ρ hd ⟨z2, z3, z4, rfl⟩
    refine gw_name C rfl ?_
    refine sw_via (fun ρ' => ∃ (x : Str) (fs : List (PyData × PyData)), x ∈ NM ∧ ρ' = [some (.scr ns), some (.own q .rs), some (.d d), some (.d (xD (cA K x) fs)), some (.d (.bool true)), none, none]) ?_ ?_
    · walk_at "ev"
      refine ⟨rfl, rfl, fun x f v hx => ?_⟩
      walk_at "ev"
      exact ⟨x, _, hx, rfl⟩
    rintro ρ' ⟨x, fs, hx, rfl⟩
    refine sw_same ?_ ?_
    · walk_at "run"
      refine ⟨x, fs, hx, rfl, _, rfl, ?_⟩
      walk_at "run"
      refine ew_isx C B gB ?_
      walk_at "ev"
      refine ⟨_, fs, _, rfl, T.xc x hx, T.be x hx, ?_⟩
      walk_at "run"
      rfl
    refine sw_same (s1_if (tw_not (tw_val (ew_isv C B (T := "ValueError") (by decide +kernel) gV ?_)))) ?_
    · walk_at "ev"
      refine ⟨_, fs, _, rfl, T.xc x hx, T.ve x hx, ?_⟩
      walk_at "run"
      rfl
    exact sw_nil ⟨_, _, _, rfl⟩
  rintro ρ' ⟨z2, z3, z4, rfl⟩
  refine sw_via (fun ρ' => ρ' = [some (.scr ns), some (.own q .rs), z2, z3, z4, some (.d (.list ((["BadWay", "BadWord", "BadSign", "BadPlace", "BadLength", "BadMany", "TooGreat", "Full"] : List Str).map fun x => xD (cA K x) []))), none]) ?_ ?_
  · walk_at "ev"
    refine ew_xv0 C e0 ?_
    walk_at "ev"
    refine ew_xv0 C e1 ?_
    walk_at "ev"
    refine ew_xv0 C e2 ?_
    walk_at "ev"
    refine ew_xv0 C e3 ?_
    walk_at "ev"
    refine ew_xv0 C e4 ?_
    walk_at "ev"
    refine ew_xv0 C e5 ?_
    walk_at "ev"
    refine ew_xv0 C e6 ?_
    walk_at "ev"
    refine ew_xv0 C e7 ?_
    walk_at "ev"
    rfl
  rintro ρ' rfl
  refine sw_cons (s1_ret (ew_cmp (ew_lc C (vb := vb_law_0) (lb := lb_law_0) (iw_seq ?_))))
  walk_at "ev"
  refine ⟨_, .inl rfl, by rw [List.length_map]; decide, noOwn_of rfl, ?_⟩
  refine lc_fil (xs := (["BadWay", "BadWord", "BadSign", "BadPlace", "BadLength", "BadMany", "TooGreat", "Full"] : List Str)) (enc := fun x => xD (cA K x) []) (f := fun x => xD (cA K x) []) (pr := fun _ => false) rfl (fun x hx X C => ?_) (fun c hc hf X C => nomatch hf) ?_
  · have hx : x ∈ NM := (show ∀ x ∈ (["BadWay", "BadWord", "BadSign", "BadPlace", "BadLength", "BadMany", "TooGreat", "Full"] : List Str), x ∈ NM by decide +kernel) x hx
    walk_at "run"
    refine ⟨x, [], hx, rfl, _, rfl, ?_⟩
    walk_at "run"
    refine ew_isx C B gB ?_
    walk_at "ev"
    refine ⟨_, [], _, rfl, T.xc x hx, T.be x hx, ?_⟩
    exact ⟨_, rfl, rfl, rfl⟩
  rw [show (["BadWay", "BadWord", "BadSign", "BadPlace", "BadLength", "BadMany", "TooGreat", "Full"] : List Str).filter (fun _ => false) = [] from rfl]
  walk_at "ev"
  refine bw_eqD C.room rfl rfl ?_
  rfl
end

def hfa0 : List He.Fa := [.glo "_law_random", .glo "_law_below", .glo "_law_pick", .glo "_law_one", .glo "_law_classes", .glo "law", .glo "BurstError", .exc "BurstError", .glo "BadWay", .exc "BadWay", .glo "BadWord", .exc "BadWord", .glo "BadSign", .exc "BadSign", .glo "BadPlace", .exc "BadPlace", .glo "BadLength", .exc "BadLength", .glo "BadMany", .exc "BadMany", .glo "TooGreat", .exc "TooGreat", .glo "BadWords", .glo "BadLine", .glo "Full", .exc "Full", .glo "BadText", .free "isinstance", .free "int", .free "bool"]
def hfa1 : List He.Fa := [.free "str", .free "tuple", .free "list", .free "dict", .free "set", .free "len", .free "range", .free "enumerate", .free "max", .free "min", .free "sorted", .free "all", .free "any", .free "abs", .free "ValueError"]
def hfa : List He.Fa := hfa0 ++ hfa1
def hfn0 : List He.DefD := [⟨("_law_random", none), "_law_random", "_law_random", defArgs s_law_random, defBody s_law_random, defScope s_law_random, [], []⟩, ⟨("_law_below", none), "_law_below", "_law_below", defArgs s_law_below, defBody s_law_below, defScope s_law_below, [], []⟩, ⟨("_law_pick", none), "_law_pick", "_law_pick", defArgs s_law_pick, defBody s_law_pick, defScope s_law_pick, [], []⟩, ⟨("_law_one", none), "_law_one", "_law_one", defArgs s_law_one, defBody s_law_one, defScope s_law_one, [], []⟩, ⟨("_law_classes", none), "_law_classes", "_law_classes", defArgs s_law_classes, defBody s_law_classes, defScope s_law_classes, [], []⟩, ⟨("law", none), "law", "law", defArgs s_law, defBody s_law, defScope s_law, [], []⟩, ⟨("BadWords", some "__init__"), "__init__", "BadWords.__init__", defArgs s_BadWords_init, defBody s_BadWords_init, defScope s_BadWords_init, [], []⟩, ⟨("BadLine", some "__init__"), "__init__", "BadLine.__init__", defArgs s_BadLine_init, defBody s_BadLine_init, defScope s_BadLine_init, [], []⟩, ⟨("BadText", some "__init__"), "__init__", "BadText.__init__", defArgs s_BadText_init, defBody s_BadText_init, defScope s_BadText_init, [], []⟩]
def hfn : List He.DefD := hfn0
def hnm0 : List Str := ["__name__", "BurstError", "BadWay", "BadWord", "BadSign", "BadPlace", "BadLength", "BadMany", "TooGreat", "BadWords", "BadLine", "Full", "BadText", "_law_random", "_law_below", "_law_pick", "_law_one", "_law_classes"]
def hnm : List Str := hnm0
abbrev hR : PySem.W.OpenRow := PySem.W.OpenLaw.row PySem.Challenge.rw_burstsapart_k16_errors_apart
def hex : List Ex1 := [xiB "BadWords" "index", xiB "BadLine" "index", xiB "BadText" "word", k16B]
def hgs : List GetD := []
abbrev hHk : PySem.W.Hook := hookN 6 hfa hfn hex hgs
def hOb (s : PySem.W.SharedT) : AlN := obsNG 6 hfa hfn hex hgs (HandSHeadRun.getT s)
theorem hOb_eq (s : PySem.W.SharedT) : hOb s = hHk.obs s.abs := obsNG_eq (HandSHeadRun.getT_eq s)
theorem hRun (w : World) : HandSHeadRun.RunEq hR (PySem.W.view hR.prog [19]) hHk hOb 6000 hnm w := by
  intro os
  kernel_rfl
section
variable {K : PySem.W.Frag} {h : Heap} {mg : Str → Option Value}
theorem at_law_random (X : K.In h) (G : h.Ns mainGlobals mg) (c : He.SaysD hfa hfn K) : At K mg "_law_random" s_law_random := at_of X G c 0 0 rfl rfl
theorem at_law_below (X : K.In h) (G : h.Ns mainGlobals mg) (c : He.SaysD hfa hfn K) : At K mg "_law_below" s_law_below := at_of X G c 1 1 rfl rfl
theorem at_law_pick (X : K.In h) (G : h.Ns mainGlobals mg) (c : He.SaysD hfa hfn K) : At K mg "_law_pick" s_law_pick := at_of X G c 2 2 rfl rfl
theorem at_law_one (X : K.In h) (G : h.Ns mainGlobals mg) (c : He.SaysD hfa hfn K) : At K mg "_law_one" s_law_one := at_of X G c 3 3 rfl rfl
theorem at_law_classes (X : K.In h) (G : h.Ns mainGlobals mg) (c : He.SaysD hfa hfn K) : At K mg "_law_classes" s_law_classes := at_of X G c 4 4 rfl rfl
theorem at_law (X : K.In h) (G : h.Ns mainGlobals mg) (c : He.SaysD hfa hfn K) : At K mg "law" s_law := at_of X G c 5 5 rfl rfl
theorem gl_BurstError (X : K.In h) (G : h.Ns mainGlobals mg) (c : He.SaysD hfa hfn K) : mg "BurstError" = some (.ref (cA K "BurstError")) := He.glo_ok X G (c.fact 6 (f := .glo "BurstError") rfl)
theorem ex_BurstError (X : K.In h) (G : h.Ns mainGlobals mg) (c : He.SaysD hfa hfn K) : ExC K mg "BurstError" (cA K "BurstError") := ex_of X G c 7 6 rfl rfl
theorem gl_BadWay (X : K.In h) (G : h.Ns mainGlobals mg) (c : He.SaysD hfa hfn K) : mg "BadWay" = some (.ref (cA K "BadWay")) := He.glo_ok X G (c.fact 8 (f := .glo "BadWay") rfl)
theorem ex_BadWay (X : K.In h) (G : h.Ns mainGlobals mg) (c : He.SaysD hfa hfn K) : ExC K mg "BadWay" (cA K "BadWay") := ex_of X G c 9 8 rfl rfl
theorem gl_BadWord (X : K.In h) (G : h.Ns mainGlobals mg) (c : He.SaysD hfa hfn K) : mg "BadWord" = some (.ref (cA K "BadWord")) := He.glo_ok X G (c.fact 10 (f := .glo "BadWord") rfl)
theorem ex_BadWord (X : K.In h) (G : h.Ns mainGlobals mg) (c : He.SaysD hfa hfn K) : ExC K mg "BadWord" (cA K "BadWord") := ex_of X G c 11 10 rfl rfl
theorem gl_BadSign (X : K.In h) (G : h.Ns mainGlobals mg) (c : He.SaysD hfa hfn K) : mg "BadSign" = some (.ref (cA K "BadSign")) := He.glo_ok X G (c.fact 12 (f := .glo "BadSign") rfl)
theorem ex_BadSign (X : K.In h) (G : h.Ns mainGlobals mg) (c : He.SaysD hfa hfn K) : ExC K mg "BadSign" (cA K "BadSign") := ex_of X G c 13 12 rfl rfl
theorem gl_BadPlace (X : K.In h) (G : h.Ns mainGlobals mg) (c : He.SaysD hfa hfn K) : mg "BadPlace" = some (.ref (cA K "BadPlace")) := He.glo_ok X G (c.fact 14 (f := .glo "BadPlace") rfl)
theorem ex_BadPlace (X : K.In h) (G : h.Ns mainGlobals mg) (c : He.SaysD hfa hfn K) : ExC K mg "BadPlace" (cA K "BadPlace") := ex_of X G c 15 14 rfl rfl
theorem gl_BadLength (X : K.In h) (G : h.Ns mainGlobals mg) (c : He.SaysD hfa hfn K) : mg "BadLength" = some (.ref (cA K "BadLength")) := He.glo_ok X G (c.fact 16 (f := .glo "BadLength") rfl)
theorem ex_BadLength (X : K.In h) (G : h.Ns mainGlobals mg) (c : He.SaysD hfa hfn K) : ExC K mg "BadLength" (cA K "BadLength") := ex_of X G c 17 16 rfl rfl
theorem gl_BadMany (X : K.In h) (G : h.Ns mainGlobals mg) (c : He.SaysD hfa hfn K) : mg "BadMany" = some (.ref (cA K "BadMany")) := He.glo_ok X G (c.fact 18 (f := .glo "BadMany") rfl)
theorem ex_BadMany (X : K.In h) (G : h.Ns mainGlobals mg) (c : He.SaysD hfa hfn K) : ExC K mg "BadMany" (cA K "BadMany") := ex_of X G c 19 18 rfl rfl
theorem gl_TooGreat (X : K.In h) (G : h.Ns mainGlobals mg) (c : He.SaysD hfa hfn K) : mg "TooGreat" = some (.ref (cA K "TooGreat")) := He.glo_ok X G (c.fact 20 (f := .glo "TooGreat") rfl)
theorem ex_TooGreat (X : K.In h) (G : h.Ns mainGlobals mg) (c : He.SaysD hfa hfn K) : ExC K mg "TooGreat" (cA K "TooGreat") := ex_of X G c 21 20 rfl rfl
theorem gl_BadWords (X : K.In h) (G : h.Ns mainGlobals mg) (c : He.SaysD hfa hfn K) : mg "BadWords" = some (.ref (cA K "BadWords")) := He.glo_ok X G (c.fact 22 (f := .glo "BadWords") rfl)
theorem gl_BadLine (X : K.In h) (G : h.Ns mainGlobals mg) (c : He.SaysD hfa hfn K) : mg "BadLine" = some (.ref (cA K "BadLine")) := He.glo_ok X G (c.fact 23 (f := .glo "BadLine") rfl)
theorem gl_Full (X : K.In h) (G : h.Ns mainGlobals mg) (c : He.SaysD hfa hfn K) : mg "Full" = some (.ref (cA K "Full")) := He.glo_ok X G (c.fact 24 (f := .glo "Full") rfl)
theorem ex_Full (X : K.In h) (G : h.Ns mainGlobals mg) (c : He.SaysD hfa hfn K) : ExC K mg "Full" (cA K "Full") := ex_of X G c 25 24 rfl rfl
theorem gl_BadText (X : K.In h) (G : h.Ns mainGlobals mg) (c : He.SaysD hfa hfn K) : mg "BadText" = some (.ref (cA K "BadText")) := He.glo_ok X G (c.fact 26 (f := .glo "BadText") rfl)
theorem blt_of (X : K.In h) (G : h.Ns mainGlobals mg) (c : He.SaysD hfa hfn K) : Blt mg := ⟨He.free_ok X G (c.fact 27 (f := .free "isinstance") rfl), He.free_ok X G (c.fact 28 (f := .free "int") rfl), He.free_ok X G (c.fact 29 (f := .free "bool") rfl), He.free_ok X G (c.fact 30 (f := .free "str") rfl), He.free_ok X G (c.fact 31 (f := .free "tuple") rfl), He.free_ok X G (c.fact 32 (f := .free "list") rfl), He.free_ok X G (c.fact 33 (f := .free "dict") rfl), He.free_ok X G (c.fact 34 (f := .free "set") rfl), He.free_ok X G (c.fact 35 (f := .free "len") rfl), He.free_ok X G (c.fact 36 (f := .free "range") rfl), He.free_ok X G (c.fact 37 (f := .free "enumerate") rfl), He.free_ok X G (c.fact 38 (f := .free "max") rfl), He.free_ok X G (c.fact 39 (f := .free "min") rfl), He.free_ok X G (c.fact 40 (f := .free "sorted") rfl), He.free_ok X G (c.fact 41 (f := .free "all") rfl), He.free_ok X G (c.fact 42 (f := .free "any") rfl), He.free_ok X G (c.fact 43 (f := .free "abs") rfl)⟩
theorem fr_ValueError (X : K.In h) (G : h.Ns mainGlobals mg) (c : He.SaysD hfa hfn K) : mg "ValueError" = none := He.free_ok X G (c.fact 44 (f := .free "ValueError") rfl)
theorem xf_BadWords (cx : exAll hex K = true) : XiF K "BadWords" "index" := xiB_ok (ex_at cx 0 rfl)
theorem xi_BadWords {P : Program} {w : World} {base : Heap} (X : K.In h) (G : h.Ns mainGlobals mg) (c : He.SaysD hfa hfn K) (cx : exAll hex K = true) : XiC P w K mg base "BadWords" (cA K "BadWords") "index" := by
  have T := xf_BadWords cx
  obtain ⟨fd, F⟩ := c.def_ 6 (d := ⟨("BadWords", some "__init__"), "__init__", "BadWords.__init__", defArgs s_BadWords_init, defBody s_BadWords_init, defScope s_BadWords_init, [], []⟩) rfl
  exact ⟨gl_BadWords X G c, T.oe, _, fd, "self", T.it, T.ty, fn_xi F sc_BadWords_init (by decide +kernel) T.oe T.no rfl, F.bindsN fun _ _ _ _ _ _ us hl => match us, hl with | [_, _], _ => rfl⟩
theorem xf_BadLine (cx : exAll hex K = true) : XiF K "BadLine" "index" := xiB_ok (ex_at cx 1 rfl)
theorem xi_BadLine {P : Program} {w : World} {base : Heap} (X : K.In h) (G : h.Ns mainGlobals mg) (c : He.SaysD hfa hfn K) (cx : exAll hex K = true) : XiC P w K mg base "BadLine" (cA K "BadLine") "index" := by
  have T := xf_BadLine cx
  obtain ⟨fd, F⟩ := c.def_ 7 (d := ⟨("BadLine", some "__init__"), "__init__", "BadLine.__init__", defArgs s_BadLine_init, defBody s_BadLine_init, defScope s_BadLine_init, [], []⟩) rfl
  exact ⟨gl_BadLine X G c, T.oe, _, fd, "self", T.it, T.ty, fn_xi F sc_BadLine_init (by decide +kernel) T.oe T.no rfl, F.bindsN fun _ _ _ _ _ _ us hl => match us, hl with | [_, _], _ => rfl⟩
theorem xf_BadText (cx : exAll hex K = true) : XiF K "BadText" "word" := xiB_ok (ex_at cx 2 rfl)
theorem xi_BadText {P : Program} {w : World} {base : Heap} (X : K.In h) (G : h.Ns mainGlobals mg) (c : He.SaysD hfa hfn K) (cx : exAll hex K = true) : XiC P w K mg base "BadText" (cA K "BadText") "word" := by
  have T := xf_BadText cx
  obtain ⟨fd, F⟩ := c.def_ 8 (d := ⟨("BadText", some "__init__"), "__init__", "BadText.__init__", defArgs s_BadText_init, defBody s_BadText_init, defScope s_BadText_init, [], []⟩) rfl
  exact ⟨gl_BadText X G c, T.oe, _, fd, "self", T.it, T.ty, fn_xi F sc_BadText_init (by decide +kernel) T.oe T.no rfl, F.bindsN fun _ _ _ _ _ _ us hl => match us, hl with | [_, _], _ => rfl⟩
theorem k16_ok (cx : exAll hex K = true) : (k16B) K = true := ex_at cx 3 rfl
end
theorem law_end {P : Program} {w : World} {K : PySem.W.Frag} {h : Heap} {mg : Str → Option Value} {f : Addr} (X : K.In h) (G : h.Ns mainGlobals mg) (hlw : mg ("law" : Str) = some (.ref f)) (c : He.SaysD hfa hfn K) (cx : exAll hex K = true) (cn : SaysN hfa hfn hex hgs K) :
    ∃ fd : FuncData, (∀ (s : Shared) (v : Value), BindsTo s fd ⟨[v], []⟩ [("_law_script", v)]) ∧ ∀ base : Heap, K.In base → base.Ns mainGlobals mg → FnOk P w K mg base (L2.CX P w) 9 f fd ["_law_script"] (spLaw K) := by
  obtain ⟨f', fd, F, hm⟩ := at_law X G c
  cases hlw.symm.trans hm
  have b := FunD.bindsA (ps := ["_law_script"]) F fun _ _ _ _ _ _ us hl => match us, hl with | [_], _ => rfl
  refine ⟨fd, fun s v => b s [v] rfl, fun base _ _ => ?_⟩
  have B := blt_of X G c
  have x_kk := k16B_ok (k16_ok cx)
  have b_rand := fn_law_random (P := P) (w := w) (base := base) (at_law_random X G c) B
  have x_x1 := xi_BadWords (P := P) (w := w) (base := base) X G c cx
  have x_x2 := xi_BadLine (P := P) (w := w) (base := base) X G c cx
  have x_x3 := xi_BadText (P := P) (w := w) (base := base) X G c cx
  have b_below := fn_law_below (P := P) (w := w) (base := base) (at_law_below X G c) B
  have b_pick := fn_law_pick (at_law_pick X G c) B b_below
  have x_one := fn_law_one (at_law_one X G c) B x_x1 x_x2 x_x3 (xf_BadWords cx) (xf_BadLine cx) (xf_BadText cx) b_below b_pick
  have x_cls := fn_law_classes (P := P) (w := w) (base := base) (at_law_classes X G c) B x_kk (gl_BadLength X G c) (gl_BadLine X G c) (gl_BadMany X G c) (gl_BadPlace X G c) (gl_BadSign X G c) (gl_BadText X G c) (gl_BadWay X G c) (gl_BadWord X G c) (gl_BadWords X G c) (gl_Full X G c) (gl_TooGreat X G c)
  exact fn_law F B x_kk (gl_BurstError X G c) (fr_ValueError X G c) (ex_BadWay X G c) (ex_BadWord X G c) (ex_BadSign X G c) (ex_BadPlace X G c) (ex_BadLength X G c) (ex_BadMany X G c) (ex_TooGreat X G c) (ex_Full X G c) b_rand x_one x_cls

end T
open PySem PySem.W PySem.Calls PyProof.Rows
theorem PySem.Challenge.cw_burstsapart_k16_errors_apart_holds : PySem.Challenge.rw_burstsapart_k16_errors_apart.Holds := by
  w_on; o_law
  refine HandSHeadRun.head_any (r := T.hR) (q := PySem.W.view T.hR.prog [19]) (H := T.hHk) (ob := T.hOb) (M := 6000) (loose := T.hnm) (d := HandSHeadRun.topDef T.hR.prog 19) (kwd := []) T.hOb_eq (by kernel_rfl) (fun s => by kernel_rfl) T.hRun
    (by kernel_rfl) (by kernel_rfl) (by kernel_rfl) (by rfl) (by first | assumption | decide +kernel) (by decide +kernel) ⟨rfl, rfl, rfl, rfl, rfl, by decide +kernel⟩ ?hw ?hc
  case hw => w_witness2
  case hc =>
    refine Bp.walk_at_world (l := PySem.Challenge.rw_burstsapart_k16_errors_apart) (n := 63) (k := 9) (x := "_law_script") rfl (by decide) (by kernel_rfl) ⟨rfl, by decide, by decide⟩ ?F
    intro w mg fa h Y G hmg0
    obtain ⟨K, KX, cn⟩ := Y
    have hmg : mg ("law" : PySem.Str) = some (.ref fa) := by
      have e : (HandSHeadRun.topDef T.hR.prog 19).name = ("law" : PySem.Str) := by kernel_rfl
      rw [← e]
      exact hmg0
    obtain ⟨fd, hb, hF⟩ := T.law_end (P := (PySem.Challenge.rw_burstsapart_k16_errors_apart).prog) (w := w) KX G hmg cn.d cn.x.1 cn
    exact ⟨K, fd, Bp.spLaw K, KX, hb, fun H a ns hl _ hS => ⟨a, ns, rfl, hS, hl, fun _ => rfl⟩, hF⟩
