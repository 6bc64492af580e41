import PyProof.Rows.All
import Wide.All
import OpenK.AllK
import Wide.FinOn
import HandS.ForMost
import HandS.ForExc
import HandS.Star
import HandS.IsInst
import HandS.Conv
import HandS.Wide
import HandS.SortInts
import HandS.SortRule
import HandS.TryMany
import HandS.TryOnly
import HandS.ExcOwn
import HandS.ExcInit
import HandS.ExcField
import HandS.Small
import HandS.Style
import HandS.Strs
import HandS.Zip
import HandS.Defaults
import HandS.TupAny
import HandS.TupMul
import HandS.SetFor
import HandS.HeadHook2
import HandS.Head0
import HandS.Head1
import HandS.Head2
import HandS.HeadEnd
import HandS.Ends
import KE.KIndexOf
import KE.GoesEnum
import HandS.WordsDict
import PyProof.RangeIter
import PyProof.WalksMore
import PyProof.Walk
import PyProof.WalkLemmas
import PyProof.RaisesAny
import PyProof.NoPylong
import HandS.DictComp
import HandS.HeadHook1
import HandS.Property
import KE.KDictList
import PyProof.ListNew
import HandS.Text
import HandS.Codes
import HandS.Steps
import KE.IntTextText
import PyProof.ListStr
import PyProof.StrBlock2
import HandS.Dict
import PyProof.EqKinds
import HandS.TupLe
import PySem.Challenge.RW_burstsapart_k22_answers_are_new
set_option Elab.async false
set_option linter.all false
set_option maxRecDepth 100000
set_option maxHeartbeats 4000001
/-! The layer: what a program does, told by plain data. A heap H is split: F, the part that stays as it is (all plain data lies there), and the objects that a slot owns (lists, dicts that change). -/
namespace Bp
open PySem PySem.Spec PyProof.Rows L2

/-! ### heaps and data -/
def Ex (F H : Hp) : Prop := ∀ a o, F a = some o → H a = some o
theorem Ex.refl (F : Hp) : Ex F F := fun _ _ h => h
theorem Ex.trans {F G H : Hp} (a : Ex F G) (b : Ex G H) : Ex F H := fun x o h => b x o (a x o h)
theorem Ex.sqt {K : PySem.W.Frag} {H H' : Hp} {a : Addr} {xs : List V} (e : Ex H H') (h : SqT K H a xs) : SqT K H' a xs := by
  rcases h with (h | ⟨o, h⟩) | h
  · exact .inl (.inl (e _ _ h))
  · exact .inl (.inr ⟨o, e _ _ h⟩)
  · exact .inr h
theorem Ex.sql {K : PySem.W.Frag} {H H' : Hp} {a : Addr} {xs : List V} (e : Ex H H') (h : SqL K H a xs) : SqL K H' a xs := by
  rcases h with (h | ⟨o, h⟩) | h
  · exact .inl (.inl (e _ _ h))
  · exact .inl (.inr ⟨o, e _ _ h⟩)
  · exact .inr h
theorem Ex.new {F : Hp} {a : Addr} {o : HO} (h : F a = none) : Ex F (upd F a o) := fun b u e => by
  rw [upd_ne (ne_of_none e h)]
  exact e
theorem Ex.none {F H : Hp} (e : Ex F H) {a : Addr} (h : H a = none) : F a = none := by
  cases q : F a with
  | none => rfl
  | some o =>
    rw [e a o q] at h
    cases h
/-- the object at a is known, and it has no dict of its own -/
def NoDt (F : Hp) (a : Addr) : Prop := ∃ (o : Obj) (u : HO), F a = some (.frz o u) ∧ o.dict = none
theorem NoDt.mono {F F' : Hp} {a : Addr} (e : Ex F F') (h : NoDt F a) : NoDt F' a := by
  obtain ⟨o, u, h1, h2⟩ := h
  exact ⟨o, u, e _ _ h1, h2⟩
/-- a dict's key as data -/
def kyD : Key → PyData
  | .inl i => .int i
  | .inr x => .str x
mutual
inductive DD (K : PySem.W.Frag) (F : Hp) : V → PyData → Prop
  | non : DD K F .non .none
  | bl (b : Bool) : DD K F (.bl b) (.bool b)
  | int (i : Int) : DD K F (.int i) (.int i)
  | str (x : Str) : DD K F (.str x) (.str x)
  | lst {a : Addr} {xs : List V} {ds : List PyData} : F a = some (.lst xs) → DDs K F xs ds → DD K F (.ref a) (.list ds)
  | tup {a : Addr} {xs : List V} {ds : List PyData} : SqT K F a xs → NoDt F a → DDs K F xs ds → DD K F (.ref a) (.tuple ds)
  | dct {a : Addr} {o : Obj} {ws : List (Key × V)} {kvd : List (PyData × PyData)} : F a = some (.frz o (.dK ws)) → (ws.map fun kv => kyD kv.1) = kvd.map (·.1) → DDs K F (ws.map (·.2)) (kvd.map (·.2)) → DD K F (.ref a) (.dict kvd)
inductive DDs (K : PySem.W.Frag) (F : Hp) : List V → List PyData → Prop
  | nil : DDs K F [] []
  | cons {v : V} {vs : List V} {d : PyData} {ds : List PyData} : DD K F v d → DDs K F vs ds → DDs K F (v :: vs) (d :: ds)
end
section
variable {K : PySem.W.Frag} {F F' : Hp}
mutual
theorem DD.mono (e : Ex F F') : ∀ {v : V} {d : PyData}, DD K F v d → DD K F' v d
  | _, _, .non => .non
  | _, _, .bl b => .bl b
  | _, _, .int i => .int i
  | _, _, .str x => .str x
  | _, _, .lst h hs => .lst (e _ _ h) (DDs.mono e hs)
  | _, _, .tup h n hs => .tup (e.sqt h) (n.mono e) (DDs.mono e hs)
  | _, _, .dct h q hs => .dct (e _ _ h) q (DDs.mono e hs)
theorem DDs.mono (e : Ex F F') : ∀ {vs : List V} {ds : List PyData}, DDs K F vs ds → DDs K F' vs ds
  | _, _, .nil => .nil
  | _, _, .cons h hs => .cons (DD.mono e h) (DDs.mono e hs)
end
theorem DDs.length : ∀ {vs : List V} {ds : List PyData}, DDs K F vs ds → vs.length = ds.length
  | _, _, .nil => rfl
  | _, _, .cons _ hs => congrArg (· + 1) (DDs.length hs)
theorem DDs.get : ∀ {vs : List V} {ds : List PyData} {i : Nat} {d : PyData}, DDs K F vs ds → ds[i]? = some d → ∃ v, vs[i]? = some v ∧ DD K F v d
  | _, _, _, _, .nil, e => by simp at e
  | _, _, 0, _, .cons h _, e => by
    simp at e
    subst e
    exact ⟨_, rfl, h⟩
  | _, _, i + 1, d, .cons _ hs, e => by
    obtain ⟨v, h1, h2⟩ := DDs.get (i := i) (d := d) hs (by simpa using e)
    exact ⟨v, by simpa using h1, h2⟩
theorem DDs.getV : ∀ {vs : List V} {ds : List PyData} {i : Nat} {v : V}, DDs K F vs ds → vs[i]? = some v → ∃ d, ds[i]? = some d ∧ DD K F v d
  | _, _, _, _, .nil, e => by simp at e
  | _, _, 0, _, .cons h _, e => by
    simp at e
    subst e
    exact ⟨_, rfl, h⟩
  | _, _, i + 1, v, .cons _ hs, e => by
    obtain ⟨d, h1, h2⟩ := DDs.getV (i := i) (v := v) hs (by simpa using e)
    exact ⟨d, by simpa using h1, h2⟩
theorem DDs.append : ∀ {vs ws : List V} {ds es : List PyData}, DDs K F vs ds → DDs K F ws es → DDs K F (vs ++ ws) (ds ++ es)
  | _, _, _, _, .nil, s => s
  | _, _, _, _, .cons h hs, s => .cons h (DDs.append hs s)
theorem DDs.take : ∀ {vs : List V} {ds : List PyData} (n : Nat), DDs K F vs ds → DDs K F (vs.take n) (ds.take n)
  | _, _, 0, _ => .nil
  | _, _, _ + 1, .nil => .nil
  | _, _, n + 1, .cons h hs => .cons h (DDs.take n hs)
theorem DDs.drop : ∀ {vs : List V} {ds : List PyData} (n : Nat), DDs K F vs ds → DDs K F (vs.drop n) (ds.drop n)
  | _, _, 0, h => h
  | _, _, _ + 1, .nil => .nil
  | _, _, n + 1, .cons _ hs => DDs.drop n hs
theorem DDs.set {v : V} {d : PyData} (h : DD K F v d) : ∀ {vs : List V} {ds : List PyData} (i : Nat), DDs K F vs ds → DDs K F (vs.set i v) (ds.set i d)
  | _, _, _, .nil => .nil
  | _, _, 0, .cons _ hs => .cons h hs
  | _, _, i + 1, .cons q hs => .cons q (DDs.set h i hs)
theorem DDs.ints : ∀ {vs : List V} {ns : List Int}, DDs K F vs (ns.map PyData.int) → vs = ns.map V.int
  | _, [], .nil => rfl
  | _, _ :: _, .cons h hs => by
    cases h
    rw [DDs.ints hs]
    rfl
theorem DDs.ofInts : ∀ (ns : List Int), DDs K F (ns.map V.int) (ns.map PyData.int)
  | [] => .nil
  | n :: ns => .cons (.int n) (DDs.ofInts ns)
theorem DDs.strs : ∀ {vs : List V} {ns : List Str}, DDs K F vs (ns.map PyData.str) → vs = ns.map V.str
  | _, [], .nil => rfl
  | _, _ :: _, .cons h hs => by
    cases h
    rw [DDs.strs hs]
    rfl
theorem DDs.ofStrs : ∀ (ns : List Str), DDs K F (ns.map V.str) (ns.map PyData.str)
  | [] => .nil
  | n :: ns => .cons (.str n) (DDs.ofStrs ns)
theorem DDs.bls : ∀ {vs : List V} {ns : List Bool}, DDs K F vs (ns.map PyData.bool) → vs = ns.map V.bl
  | _, [], .nil => rfl
  | _, _ :: _, .cons h hs => by
    cases h
    rw [DDs.bls hs]
    rfl
end

/-! ### what a slot holds: plain data, or an object of its own -/
/-- the draw's state: a seed, a number at hand, numbers to come -/
def RS (ns : List Int) : Prop := ∃ s c r, ns = s :: c :: r ∧ 0 ≤ s ∧ 0 ≤ c ∧ ∀ x ∈ r, (0 : Int) ≤ x
inductive O where
  | lst (ds : List PyData)
  | dic (kvs : List (Key × PyData))
  | rs
  | ins (C dx : Addr) (fs : List (Str × PyData))
inductive S where
  | d (d : PyData)
  | own (a : Addr) (o : O)
  | scr (ns : List Int)
abbrev Rho := List (Option S)
def KVs (K : PySem.W.Frag) (F : Hp) (ws : List (Key × V)) (kvs : List (Key × PyData)) : Prop := ws.map (·.1) = kvs.map (·.1) ∧ DDs K F (ws.map (·.2)) (kvs.map (·.2))
def FVs (K : PySem.W.Frag) (F : Hp) (ws : List (Str × V)) (kvs : List (Str × PyData)) : Prop := ws.map (·.1) = kvs.map (·.1) ∧ DDs K F (ws.map (·.2)) (kvs.map (·.2))
def OO (K : PySem.W.Frag) (F : Hp) (ho : HO) : O → Prop
  | .lst ds => ∃ xs, ho = .lst xs ∧ DDs K F xs ds
  | .dic kvs => ∃ ws, ho = .dK ws ∧ KVs K F ws kvs
  | .rs => ∃ ns, ho = .lst (ns.map V.int) ∧ RS ns
  | .ins C dx fs => ∃ gs, ho = .ins C dx gs ∧ FVs K F gs fs
theorem OO.mono {K : PySem.W.Frag} {F F' : Hp} {ho : HO} {o : O} (e : Ex F F') (h : OO K F ho o) : OO K F' ho o := by
  cases o with
  | lst ds => exact ⟨h.choose, h.choose_spec.1, h.choose_spec.2.mono e⟩
  | dic kvs => exact ⟨h.choose, h.choose_spec.1, h.choose_spec.2.1, h.choose_spec.2.2.mono e⟩
  | rs => exact h
  | ins C dx fs => exact ⟨h.choose, h.choose_spec.1, h.choose_spec.2.1, h.choose_spec.2.2.mono e⟩
def Owns (ρ : Rho) (a : Addr) : Prop := ∃ (i : Nat) (o : O), ρ[i]? = some (some (S.own a o))
/-- the two heaps and what the slots own -/
structure Wd (K : PySem.W.Frag) (F H : Hp) (ρ : Rho) : Prop where
  sub : Ex F H
  own : ∀ (i : Nat) a o, ρ[i]? = some (some (.own a o)) → F a = none ∧ ∃ ho, H a = some ho ∧ OO K F ho o
  dis : ∀ (i j : Nat) a o o', ρ[i]? = some (some (.own a o)) → ρ[j]? = some (some (.own a o')) → i = j
def SV (K : PySem.W.Frag) (F : Hp) (v : V) : S → Prop
  | .d d => DD K F v d
  | .own a _ => v = .ref a
  | .scr ns => ∃ a, v = .ref a ∧ SqL K F a (ns.map V.int)
structure Sl (K : PySem.W.Frag) (F : Hp) (σ : L2.St) (ρ : Rho) : Prop where
  len : σ.length = ρ.length
  get : ∀ (i : Nat) s, ρ[i]? = some (some s) → ∃ v, σ[i]? = some (some v) ∧ SV K F v s
theorem SV.mono {K : PySem.W.Frag} {F F' : Hp} {v : V} {s : S} (e : Ex F F') (h : SV K F v s) : SV K F' v s := by
  cases s with
  | d d => exact DD.mono e h
  | own a o => exact h
  | scr ns => exact ⟨h.choose, h.choose_spec.1, e.sql h.choose_spec.2⟩
theorem Sl.mono {K : PySem.W.Frag} {F F' : Hp} {σ : L2.St} {ρ : Rho} (e : Ex F F') (h : Sl K F σ ρ) : Sl K F' σ ρ :=
  ⟨h.len, fun i s q => let ⟨v, a, b⟩ := h.get i s q; ⟨v, a, b.mono e⟩⟩
/-- one step: what lies in F stays, what is not owned stays -/
structure Stp (ρ ρ' : Rho) (F H F' H' : Hp) : Prop where
  ex : Ex F F'
  keep : ∀ a o, H a = some o → ¬ Owns ρ a → H' a = some o
  fr : ∀ a o, F a = none → H a = some o → ¬ Owns ρ a → F' a = none
  own : ∀ a, Owns ρ' a → Owns ρ a ∨ H a = none
  all : ∀ a, H' a = none → H a = none
theorem Stp.refl {ρ : Rho} {F H : Hp} : Stp ρ ρ F H F H := ⟨Ex.refl F, fun _ _ h _ => h, fun _ _ h _ _ => h, fun _ h => .inl h, fun _ h => h⟩
theorem Stp.trans {ρ ρ1 ρ2 : Rho} {F H F1 H1 F2 H2 : Hp} (a : Stp ρ ρ1 F H F1 H1) (b : Stp ρ1 ρ2 F1 H1 F2 H2) : Stp ρ ρ2 F H F2 H2 where
  ex := a.ex.trans b.ex
  keep := fun x o h n => b.keep x o (a.keep x o h n) fun w => by
    rcases a.own x w with q | q
    · exact n q
    · rw [h] at q
      cases q
  fr := fun x o f h n => b.fr x o (a.fr x o f h n) (a.keep x o h n) fun w => by
    rcases a.own x w with q | q
    · exact n q
    · rw [h] at q
      cases q
  own := fun x w => by
    rcases b.own x w with q | q
    · exact a.own x q
    · by_cases n : Owns ρ x
      · exact .inl n
      · cases h : H x with
        | none => exact .inr rfl
        | some o =>
          rw [a.keep x o h n] at q
          cases q
  all := fun x h => a.all x (b.all x h)
/-- growth: all that stands stays -/
structure Gr (F H F' H' : Hp) : Prop where
  ex : Ex F F'
  exH : Ex H H'
  sub : Ex F' H'
  fr : ∀ a o, F a = none → H a = some o → F' a = none
theorem Gr.refl {F H : Hp} (h : Ex F H) : Gr F H F H := ⟨Ex.refl _, Ex.refl _, h, fun _ _ h _ => h⟩
theorem Gr.trans {F H F1 H1 F2 H2 : Hp} (a : Gr F H F1 H1) (b : Gr F1 H1 F2 H2) : Gr F H F2 H2 := ⟨a.ex.trans b.ex, a.exH.trans b.exH, b.sub, fun x o f h => b.fr x o (a.fr x o f h) (a.exH x o h)⟩
/-- a new object of plain data -/
theorem Gr.new {F H : Hp} {p : Addr} {o : HO} (e : Ex F H) (h : H p = none) : Gr F H (upd F p o) (upd H p o) where
  ex := Ex.new (e.none h)
  exH := Ex.new h
  sub := fun b u q => by
    by_cases hb : b = p
    · subst hb
      rw [upd_same] at q ⊢
      exact q
    · rw [upd_ne hb] at q ⊢
      exact e b u q
  fr := fun b u f hb => by
    have n : b ≠ p := ne_of_none hb h
    rw [upd_ne n]
    exact f
/-- a new object that is not (yet) plain data -/
theorem Gr.side {F H : Hp} {p : Addr} {o : HO} (e : Ex F H) (h : H p = none) : Gr F H F (upd H p o) := ⟨Ex.refl _, Ex.new h, e.trans (Ex.new h), fun _ _ f _ => f⟩
theorem Gr.stp {ρ : Rho} {F H F' H' : Hp} (g : Gr F H F' H') : Stp ρ ρ F H F' H' := ⟨g.ex, fun a o h _ => g.exH a o h, fun a o f h _ => g.fr a o f h, fun _ h => .inl h, fun _ h => g.exH.none h⟩
theorem Wd.gr {K : PySem.W.Frag} {ρ : Rho} {F H F' H' : Hp} (w : Wd K F H ρ) (g : Gr F H F' H') : Wd K F' H' ρ where
  sub := g.sub
  own := fun i a o q => by
    obtain ⟨f, ho, h, oo⟩ := w.own i a o q
    exact ⟨g.fr a ho f h, ho, g.exH a ho h, oo.mono g.ex⟩
  dis := w.dis

/-! ### what a def hands back: plain data, or a new object -/
inductive Ret where
  | d (d : PyData)
  | new (o : O)
  | nest (dss : List (List PyData))
/-- a new list of new lists -/
def Nest (K : PySem.W.Frag) (H0 F H : Hp) (ρ : Rho) (v : V) (dss : List (List PyData)) : Prop :=
  ∃ (p : Addr) (as : List Addr), v = .ref p ∧ H0 p = none ∧ F p = none ∧ ¬ Owns ρ p ∧ H p = some (.lst (as.map V.ref)) ∧ (p :: as).Nodup ∧ as.length = dss.length ∧
    ∀ (i : Nat) a ds, as[i]? = some a → dss[i]? = some ds → H0 a = none ∧ F a = none ∧ ¬ Owns ρ a ∧ ∃ xs, H a = some (.lst xs) ∧ DDs K F xs ds
def RtV (K : PySem.W.Frag) (ρ0 : Rho) (H0 F H : Hp) (ρ : Rho) (v : V) : Ret → Prop
  | .d d => DD K F v d
  | .new o => ∃ p ho, v = .ref p ∧ (H0 p = none ∨ Owns ρ0 p) ∧ F p = none ∧ ¬ Owns ρ p ∧ H p = some ho ∧ OO K F ho o
  | .nest dss => Nest K H0 F H ρ v dss
theorem RtV.back {K : PySem.W.Frag} {ρ0 ρ1 : Rho} {H0 H1 F0 F1 F H : Hp} {ρ : Rho} {v : V} {r : Ret} (h : RtV K ρ1 H1 F H ρ v r) (b : Stp ρ0 ρ1 F0 H0 F1 H1) : RtV K ρ0 H0 F H ρ v r := by
  cases r with
  | d d => exact h
  | new o =>
    obtain ⟨p, ho, e, h0, r⟩ := h
    refine ⟨p, ho, e, ?_, r⟩
    rcases h0 with h0 | h0
    · exact .inl (b.all p h0)
    · exact (b.own p h0).symm
  | nest dss =>
    obtain ⟨p, as, e, h0, f, n, hh, nd, hl, each⟩ := h
    refine ⟨p, as, e, b.all p h0, f, n, hh, nd, hl, fun i a ds ha hd => ?_⟩
    obtain ⟨g0, g⟩ := each i a ds ha hd
    exact ⟨b.all a g0, g⟩
/-! ### exceptions -/
structure Xc where
  cls : Addr
  fld : Option (Str × PyData)
def XcAt (K : PySem.W.Frag) (F H : Hp) (x : Xc) (xd : Option Addr) : Prop :=
  match x.fld with
  | none => xd = none
  | some (f, d) => ∃ dx v, xd = some dx ∧ H dx = some (.xd [(f, v)]) ∧ DD K F v d

/-! ### the wishes of the pieces of syntax -/
def WEx (X : Cx) (e : Expr) : TE := fun σ H Q => ∀ pins s, Inv X pins σ H s → wpAny (model X.prog X.w) X.A (eval e X.env) (EP X pins σ Q) X.xe s
def WTx (X : Cx) (e : Expr) : TT := fun σ H Q => ∀ pins s, Inv X pins σ H s → wpAny (model X.prog X.w) X.A (isTrue e X.env (eval e X.env)) (TP X pins σ Q) X.xe s
def WWx (X : Cx) (e : Expr) : TT := fun σ H Q => ∀ (whole : Sem Value) pins s, Inv X pins σ H s → wpAny (model X.prog X.w) X.A (isTrue e X.env whole) (TP X pins σ Q) X.xe s
def WAx (X : Cx) (es : List Expr) : TA := fun σ H Q => ∀ (pos : Pos) pins s, Inv X pins σ H s → wpAny (model X.prog X.w) X.A (spliced (backTo pos (starEach es X.env))) (AP X pins σ Q) X.xe s
def WSx (X : Cx) (st : Stmt) : TS := fun D σ H => ∀ pins s, Inv X pins σ H s → wpAny (model X.prog X.w) X.A (exec st X.env) (SP X pins D) X.xe s
def WSs (X : Cx) (st : List Stmt) : TS := fun D σ H => ∀ pins s, Inv X pins σ H s → wpAny (model X.prog X.w) X.A (execs st X.env) (SP X pins D) X.xe s
theorem pe_w {X : Cx} {e : Expr} : PE X e (WEx X e) := ⟨fun pins s _ _ _ I h => h pins s I⟩
theorem pt_w {X : Cx} {e : Expr} : PT X e (WTx X e) := ⟨fun pins s _ _ _ I h => h pins s I⟩
theorem pw_w {X : Cx} {e : Expr} : PW X e (WWx X e) := ⟨fun wh pins s _ _ _ I h => h wh pins s I⟩
theorem pa_w {X : Cx} {es : List Expr} : PA X es (WAx X es) := ⟨fun pos pins s _ _ _ I h => h pos pins s I⟩
theorem ps_w {X : Cx} {st : Stmt} : PS X st (WSx X st) := ⟨fun pins s _ _ _ I h => h pins s I⟩
theorem pss_w {X : Cx} {st : List Stmt} : PSs X st (WSs X st) := ⟨fun pins s _ _ _ I h => h pins s I⟩
theorem of_pe {X : Cx} {e : Expr} {t : TE} (p : PE X e t) {σ : L2.St} {H : Hp} {Q : VK} (h : t σ H Q) : WEx X e σ H Q := fun pins s I => p.run pins s σ H Q I h
theorem of_pt {X : Cx} {e : Expr} {t : TT} (p : PT X e t) {σ : L2.St} {H : Hp} {Q : Bool → Hp → Prop} (h : t σ H Q) : WTx X e σ H Q := fun pins s I => p.run pins s σ H Q I h
theorem of_pw {X : Cx} {e : Expr} {t : TT} (p : PW X e t) {σ : L2.St} {H : Hp} {Q : Bool → Hp → Prop} (h : t σ H Q) : WWx X e σ H Q := fun wh pins s I => p.run wh pins s σ H Q I h
theorem of_pa {X : Cx} {es : List Expr} {t : TA} (p : PA X es t) {σ : L2.St} {H : Hp} {Q : List V → Hp → Prop} (h : t σ H Q) : WAx X es σ H Q := fun pos pins s I => p.run pos pins s σ H Q I h
theorem of_ps {X : Cx} {st : Stmt} {t : TS} (p : PS X st t) {D : Ends} {σ : L2.St} {H : Hp} (h : t D σ H) : WSx X st D σ H := fun pins s I => p.run pins s σ H D I h
theorem of_pss {X : Cx} {st : List Stmt} {t : TS} (p : PSs X st t) {D : Ends} {σ : L2.St} {H : Hp} (h : t D σ H) : WSs X st D σ H := fun pins s I => p.run pins s σ H D I h

/-! ### the judgements over data -/
/-- what is wanted of an exception -/
def Kx (K : PySem.W.Frag) (W : WX) (ρ : Rho) (F H : Hp) (E : Rho → Xc → Prop) : Prop := ∀ F' H' σ' ρ' x xd, Stp ρ ρ' F H F' H' → Wd K F' H' ρ' → Sl K F' σ' ρ' → XcAt K F' H' x xd → E ρ' x → W (.ref x.cls) xd σ' H'
theorem Kx.step {K : PySem.W.Frag} {W : WX} {ρ ρ1 : Rho} {F H F1 H1 : Hp} {E : Rho → Xc → Prop} (k : Kx K W ρ F H E) (s : Stp ρ ρ1 F H F1 H1) : Kx K W ρ1 F1 H1 E := fun _ _ _ _ _ _ st wd sl xa e => k _ _ _ _ _ _ (s.trans st) wd sl xa e
abbrev XQ := Rho → Xc → Prop
/-- nothing is let out -/
abbrev noX : XQ := fun _ _ => False
def EW (X : Cx) (W : WX) (e : Expr) (ρ : Rho) (Q : Rho → PyData → Prop) (E : XQ) : Prop := ∀ F H σ (R : VK), Wd X.K F H ρ → Sl X.K F σ ρ → Kx X.K W ρ F H E →
  (∀ F' H' ρ' v d, Stp ρ ρ' F H F' H' → Wd X.K F' H' ρ' → Sl X.K F' σ ρ' → DD X.K F' v d → Q ρ' d → R v H') → WEx X e σ H R
def TW (X : Cx) (W : WX) (e : Expr) (ρ : Rho) (Q : Rho → Bool → Prop) (E : XQ) : Prop := ∀ F H σ (R : Bool → Hp → Prop), Wd X.K F H ρ → Sl X.K F σ ρ → Kx X.K W ρ F H E →
  (∀ F' H' ρ' b, Stp ρ ρ' F H F' H' → Wd X.K F' H' ρ' → Sl X.K F' σ ρ' → Q ρ' b → R b H') → WTx X e σ H R
def PWW (X : Cx) (W : WX) (e : Expr) (ρ : Rho) (Q : Rho → Bool → Prop) (E : XQ) : Prop := ∀ F H σ (R : Bool → Hp → Prop), Wd X.K F H ρ → Sl X.K F σ ρ → Kx X.K W ρ F H E →
  (∀ F' H' ρ' b, Stp ρ ρ' F H F' H' → Wd X.K F' H' ρ' → Sl X.K F' σ ρ' → Q ρ' b → R b H') → WWx X e σ H R
def AW (X : Cx) (W : WX) (es : List Expr) (ρ : Rho) (Q : Rho → List PyData → Prop) (E : XQ) : Prop := ∀ F H σ (R : List V → Hp → Prop), Wd X.K F H ρ → Sl X.K F σ ρ → Kx X.K W ρ F H E →
  (∀ F' H' ρ' vs ds, Stp ρ ρ' F H F' H' → Wd X.K F' H' ρ' → Sl X.K F' σ ρ' → DDs X.K F' vs ds → Q ρ' ds → R vs H') → WAx X es σ H R
/-- a statement: N what follows, R a return -/
def S1 (X : Cx) (W : WX) (st : Stmt) (ρ : Rho) (N : Rho → Prop) (R : Rho → Ret → Prop) (E : XQ) : Prop := ∀ F H σ (D : Ends), Wd X.K F H ρ → Sl X.K F σ ρ → Kx X.K W ρ F H E →
  (∀ F' H' σ' ρ', Stp ρ ρ' F H F' H' → Wd X.K F' H' ρ' → Sl X.K F' σ' ρ' → N ρ' → D.nx σ' H') →
  (∀ F' H' ρ' v r, Stp ρ ρ' F H F' H' → Wd X.K F' H' ρ' → RtV X.K ρ H F' H' ρ' v r → R ρ' r → D.rt v H') → WSx X st D σ H
def SW (X : Cx) (W : WX) (sts : List Stmt) (ρ : Rho) (N : Rho → Prop) (R : Rho → Ret → Prop) (E : XQ) : Prop := ∀ F H σ (D : Ends), Wd X.K F H ρ → Sl X.K F σ ρ → Kx X.K W ρ F H E →
  (∀ F' H' σ' ρ', Stp ρ ρ' F H F' H' → Wd X.K F' H' ρ' → Sl X.K F' σ' ρ' → N ρ' → D.nx σ' H') →
  (∀ F' H' ρ' v r, Stp ρ ρ' F H F' H' → Wd X.K F' H' ρ' → RtV X.K ρ H F' H' ρ' v r → R ρ' r → D.rt v H') → WSs X sts D σ H

/-! ### operations on values -/
def wOp (X : Cx) (f : Value → Value → Sem Value) : R2 := fun x y H Q => ∀ pins s σ v u, Inv X pins σ H s → RelV x v → RelV y u → wpAny (model X.prog X.w) X.A (f v u) (EP X pins σ Q) X.xe s
theorem wop_self {X : Cx} {f : Value → Value → Sem Value} : OpR X f (wOp X f) := fun pins s σ _ _ _ v u _ I rx ry h => h pins s σ v u I rx ry
theorem wop_of {X : Cx} {f : Value → Value → Sem Value} {r : R2} (o : OpR X f r) {x y : V} {H : Hp} {Q : VK} (h : r x y H Q) : wOp X f x y H Q := fun pins s σ v u I rx ry => o pins s σ H x y v u Q I rx ry h
def wUn (X : Cx) (f : Value → Sem Value) : V → Hp → VK → Prop := fun x H Q => ∀ pins s σ v, Inv X pins σ H s → RelV x v → wpAny (model X.prog X.w) X.A (f v) (EP X pins σ Q) X.xe s
theorem wun_self {X : Cx} {f : Value → Sem Value} : UnR X f (wUn X f) := fun pins s σ _ _ v _ I rx h => h pins s σ v I rx
theorem wun_of {X : Cx} {f : Value → Sem Value} {r : V → Hp → VK → Prop} (o : UnR X f r) {x : V} {H : Hp} {Q : VK} (h : r x H Q) : wUn X f x H Q := fun pins s σ v I rx => o pins s σ H x v Q I rx h
def wCa (X : Cx) (f : Value) : List V → Hp → VK → Prop := fun xs H Q => ∀ pins s σ us, Inv X pins σ H s → Vals xs us → wpAny (model X.prog X.w) X.A (call f us) (EP X pins σ Q) X.xe s
theorem wca_self {X : Cx} {f : Value} : CallR X f (wCa X f) := fun pins s σ _ _ us _ I r h => h pins s σ us I r
theorem wca_of {X : Cx} {f : Value} {r : List V → Hp → VK → Prop} (o : CallR X f r) {xs : List V} {H : Hp} {Q : VK} (h : r xs H Q) : wCa X f xs H Q := fun pins s σ us I rr => o pins s σ H xs us Q I rr h
def wIx (X : Cx) : R2 := fun x y H Q => ∀ (value slice : Expr) pins s σ v u, Inv X pins σ H s → RelV x v → RelV y u → subscripted slice false v u = operate [v, u] (getItem v u) → wpAny (model X.prog X.w) X.A (subscriptTail value slice v u) (EP X pins σ Q) X.xe s
theorem wix_self {X : Cx} : IxR X (wIx X) := fun value slice pins s σ _ _ _ v u _ I rx ry h hs => h value slice pins s σ v u I rx ry hs
theorem wix_of {X : Cx} {r : R2} (o : IxR X r) {x y : V} {H : Hp} {Q : VK} (h : r x y H Q) : wIx X x y H Q := fun value slice pins s σ v u I rx ry hs => o value slice pins s σ H x y v u Q I rx ry h hs
def BW (X : Cx) (f : Value → Value → Sem Value) (x y : PyData) (Q : PyData → Prop) : Prop := ∀ F H vx vy (R : VK), Ex F H → DD X.K F vx x → DD X.K F vy y → (∀ F' H' v d, Gr F H F' H' → DD X.K F' v d → Q d → R v H') → wOp X f vx vy H R
def BU (X : Cx) (f : Value → Sem Value) (x : PyData) (Q : PyData → Prop) : Prop := ∀ F H vx (R : VK), Ex F H → DD X.K F vx x → (∀ F' H' v d, Gr F H F' H' → DD X.K F' v d → Q d → R v H') → wUn X f vx H R
def BC (X : Cx) (f : Value) (xs : List PyData) (Q : PyData → Prop) : Prop := ∀ F H vs (R : VK), Ex F H → DDs X.K F vs xs → (∀ F' H' v d, Gr F H F' H' → DD X.K F' v d → Q d → R v H') → wCa X f vs H R
def BI (X : Cx) (x y : PyData) (Q : PyData → Prop) : Prop := ∀ F H vx vy (R : VK), Ex F H → DD X.K F vx x → DD X.K F vy y → (∀ F' H' v d, Gr F H F' H' → DD X.K F' v d → Q d → R v H') → wIx X vx vy H R

/-! ### rules: expressions -/
section
variable {X : Cx} {W : WX} {ρ : Rho} {Q : Rho → PyData → Prop} {E : XQ} {a b c : Expr} {pos : Pos}
theorem ew_of {e : Expr} {t : TE} (p : PE X e t) {d : PyData} (h : ∀ (F H : Hp) (σ : L2.St) (R : VK), Wd X.K F H ρ → Sl X.K F σ ρ → (∀ F' H' v, Gr F H F' H' → DD X.K F' v d → R v H') → t σ H R) (q : Q ρ d) : EW X W e ρ Q E := by
  intro F H σ R wd sl _ k
  exact of_pe p (h F H σ R wd sl fun F' H' v g dd => k F' H' ρ v d g.stp (wd.gr g) (sl.mono g.ex) dd q)
theorem ew_int {i : Int} {j : Nat} (q : Q ρ (.int i)) : EW X W (.Constant (.int i) j pos) ρ Q E := ew_of pe_int (fun F H _ R wd _ k => k F H _ (Gr.refl wd.sub) (.int i)) q
theorem ew_bl {i : Bool} {j : Nat} (q : Q ρ (.bool i)) : EW X W (.Constant (.bool i) j pos) ρ Q E := ew_of pe_bl (fun F H _ R wd _ k => k F H _ (Gr.refl wd.sub) (.bl i)) q
theorem ew_non {j : Nat} (q : Q ρ .none) : EW X W (.Constant .none j pos) ρ Q E := ew_of pe_non (fun F H _ R wd _ k => k F H _ (Gr.refl wd.sub) .non) q
theorem ew_str {x : Str} {j : Nat} (q : Q ρ (.str x)) : EW X W (.Constant (.str x) j pos) ρ Q E := ew_of pe_str (fun F H _ R wd _ k => k F H _ (Gr.refl wd.sub) (.str x)) q
theorem ew_bin {op : Operator} (h : EW X W a ρ (fun ρ1 x => EW X W b ρ1 (fun ρ2 y => BW X (binaryOp op) x y (Q ρ2)) E) E) : EW X W (.BinOp a op b pos) ρ Q E := by
  intro F H σ R wd sl kx k
  refine of_pe (pe_op wop_self pe_w pe_w) ?_
  refine h F H σ _ wd sl kx fun F1 H1 ρ1 x dx st1 wd1 sl1 dd1 h1 => ?_
  refine h1 F1 H1 σ _ wd1 sl1 (kx.step st1) fun F2 H2 ρ2 y dy st2 wd2 sl2 dd2 h2 => ?_
  exact h2 F2 H2 x y R wd2.sub (dd1.mono st2.ex) dd2 fun F3 H3 v d gr dd3 q => k F3 H3 ρ2 v d ((st1.trans st2).trans gr.stp) (wd2.gr gr) (sl2.mono gr.ex) dd3 q
theorem ew_un {op : UnaryOp} (h : EW X W a ρ (fun ρ1 x => BU X (unaryOp op) x (Q ρ1)) E) : EW X W (.UnaryOp op a pos) ρ Q E := by
  intro F H σ R wd sl kx k
  refine of_pe (pe_un wun_self pe_w) ?_
  refine h F H σ _ wd sl kx fun F1 H1 ρ1 x dx st1 wd1 sl1 dd1 h1 => ?_
  exact h1 F1 H1 x R wd1.sub dd1 fun F3 H3 v d gr dd3 q => k F3 H3 ρ1 v d (st1.trans gr.stp) (wd1.gr gr) (sl1.mono gr.ex) dd3 q
theorem ew_cmp {op : CmpOp} (h : EW X W a ρ (fun ρ1 x => EW X W b ρ1 (fun ρ2 y => BW X (compareOp op) x y (Q ρ2)) E) E) (hm : behindInMarks op b = false := by with_unfolding_all rfl) : EW X W (.Compare a [op] [b] pos) ρ Q E := by
  intro F H σ R wd sl kx k
  refine of_pe (pe_cmpR wop_self pe_w pe_w hm) ?_
  refine h F H σ _ wd sl kx fun F1 H1 ρ1 x dx st1 wd1 sl1 dd1 h1 => ?_
  refine h1 F1 H1 σ _ wd1 sl1 (kx.step st1) fun F2 H2 ρ2 y dy st2 wd2 sl2 dd2 h2 => ?_
  exact h2 F2 H2 x y R wd2.sub (dd1.mono st2.ex) dd2 fun F3 H3 v d gr dd3 q => k F3 H3 ρ2 v d ((st1.trans st2).trans gr.stp) (wd2.gr gr) (sl2.mono gr.ex) dd3 q
end
end Bp

namespace Bp
open PySem PySem.Spec PyProof.Rows L2
/-! ### names by their places -/
class Slot (N : List Str) (x : Str) (i : outParam Nat) : Prop where
  get : N[i]? = some x
instance slot0 {x : Str} {N : List Str} : Slot (x :: N) x 0 := ⟨rfl⟩
instance slot1 {a0 x : Str} {N : List Str} : Slot (a0 :: x :: N) x 1 := ⟨rfl⟩
instance slot2 {a0 a1 x : Str} {N : List Str} : Slot (a0 :: a1 :: x :: N) x 2 := ⟨rfl⟩
instance slot3 {a0 a1 a2 x : Str} {N : List Str} : Slot (a0 :: a1 :: a2 :: x :: N) x 3 := ⟨rfl⟩
instance slot4 {a0 a1 a2 a3 x : Str} {N : List Str} : Slot (a0 :: a1 :: a2 :: a3 :: x :: N) x 4 := ⟨rfl⟩
instance slot5 {a0 a1 a2 a3 a4 x : Str} {N : List Str} : Slot (a0 :: a1 :: a2 :: a3 :: a4 :: x :: N) x 5 := ⟨rfl⟩
instance slot6 {a0 a1 a2 a3 a4 a5 x : Str} {N : List Str} : Slot (a0 :: a1 :: a2 :: a3 :: a4 :: a5 :: x :: N) x 6 := ⟨rfl⟩
instance slot7 {a0 a1 a2 a3 a4 a5 a6 x : Str} {N : List Str} : Slot (a0 :: a1 :: a2 :: a3 :: a4 :: a5 :: a6 :: x :: N) x 7 := ⟨rfl⟩
instance slot8 {a0 a1 a2 a3 a4 a5 a6 a7 x : Str} {N : List Str} : Slot (a0 :: a1 :: a2 :: a3 :: a4 :: a5 :: a6 :: a7 :: x :: N) x 8 := ⟨rfl⟩
instance slot9 {a0 a1 a2 a3 a4 a5 a6 a7 a8 x : Str} {N : List Str} : Slot (a0 :: a1 :: a2 :: a3 :: a4 :: a5 :: a6 :: a7 :: a8 :: x :: N) x 9 := ⟨rfl⟩
instance slot10 {a0 a1 a2 a3 a4 a5 a6 a7 a8 a9 x : Str} {N : List Str} : Slot (a0 :: a1 :: a2 :: a3 :: a4 :: a5 :: a6 :: a7 :: a8 :: a9 :: x :: N) x 10 := ⟨rfl⟩
instance slot11 {a0 a1 a2 a3 a4 a5 a6 a7 a8 a9 a10 x : Str} {N : List Str} : Slot (a0 :: a1 :: a2 :: a3 :: a4 :: a5 :: a6 :: a7 :: a8 :: a9 :: a10 :: x :: N) x 11 := ⟨rfl⟩
instance slot12 {a0 a1 a2 a3 a4 a5 a6 a7 a8 a9 a10 a11 x : Str} {N : List Str} : Slot (a0 :: a1 :: a2 :: a3 :: a4 :: a5 :: a6 :: a7 :: a8 :: a9 :: a10 :: a11 :: x :: N) x 12 := ⟨rfl⟩
instance slot13 {a0 a1 a2 a3 a4 a5 a6 a7 a8 a9 a10 a11 a12 x : Str} {N : List Str} : Slot (a0 :: a1 :: a2 :: a3 :: a4 :: a5 :: a6 :: a7 :: a8 :: a9 :: a10 :: a11 :: a12 :: x :: N) x 13 := ⟨rfl⟩
instance slot14 {a0 a1 a2 a3 a4 a5 a6 a7 a8 a9 a10 a11 a12 a13 x : Str} {N : List Str} : Slot (a0 :: a1 :: a2 :: a3 :: a4 :: a5 :: a6 :: a7 :: a8 :: a9 :: a10 :: a11 :: a12 :: a13 :: x :: N) x 14 := ⟨rfl⟩
instance slot15 {a0 a1 a2 a3 a4 a5 a6 a7 a8 a9 a10 a11 a12 a13 a14 x : Str} {N : List Str} : Slot (a0 :: a1 :: a2 :: a3 :: a4 :: a5 :: a6 :: a7 :: a8 :: a9 :: a10 :: a11 :: a12 :: a13 :: a14 :: x :: N) x 15 := ⟨rfl⟩
instance slot16 {a0 a1 a2 a3 a4 a5 a6 a7 a8 a9 a10 a11 a12 a13 a14 a15 x : Str} {N : List Str} : Slot (a0 :: a1 :: a2 :: a3 :: a4 :: a5 :: a6 :: a7 :: a8 :: a9 :: a10 :: a11 :: a12 :: a13 :: a14 :: a15 :: x :: N) x 16 := ⟨rfl⟩
instance slot17 {a0 a1 a2 a3 a4 a5 a6 a7 a8 a9 a10 a11 a12 a13 a14 a15 a16 x : Str} {N : List Str} : Slot (a0 :: a1 :: a2 :: a3 :: a4 :: a5 :: a6 :: a7 :: a8 :: a9 :: a10 :: a11 :: a12 :: a13 :: a14 :: a15 :: a16 :: x :: N) x 17 := ⟨rfl⟩
instance slot18 {a0 a1 a2 a3 a4 a5 a6 a7 a8 a9 a10 a11 a12 a13 a14 a15 a16 a17 x : Str} {N : List Str} : Slot (a0 :: a1 :: a2 :: a3 :: a4 :: a5 :: a6 :: a7 :: a8 :: a9 :: a10 :: a11 :: a12 :: a13 :: a14 :: a15 :: a16 :: a17 :: x :: N) x 18 := ⟨rfl⟩
instance slot19 {a0 a1 a2 a3 a4 a5 a6 a7 a8 a9 a10 a11 a12 a13 a14 a15 a16 a17 a18 x : Str} {N : List Str} : Slot (a0 :: a1 :: a2 :: a3 :: a4 :: a5 :: a6 :: a7 :: a8 :: a9 :: a10 :: a11 :: a12 :: a13 :: a14 :: a15 :: a16 :: a17 :: a18 :: x :: N) x 19 := ⟨rfl⟩
instance slot20 {a0 a1 a2 a3 a4 a5 a6 a7 a8 a9 a10 a11 a12 a13 a14 a15 a16 a17 a18 a19 x : Str} {N : List Str} : Slot (a0 :: a1 :: a2 :: a3 :: a4 :: a5 :: a6 :: a7 :: a8 :: a9 :: a10 :: a11 :: a12 :: a13 :: a14 :: a15 :: a16 :: a17 :: a18 :: a19 :: x :: N) x 20 := ⟨rfl⟩
instance slot21 {a0 a1 a2 a3 a4 a5 a6 a7 a8 a9 a10 a11 a12 a13 a14 a15 a16 a17 a18 a19 a20 x : Str} {N : List Str} : Slot (a0 :: a1 :: a2 :: a3 :: a4 :: a5 :: a6 :: a7 :: a8 :: a9 :: a10 :: a11 :: a12 :: a13 :: a14 :: a15 :: a16 :: a17 :: a18 :: a19 :: a20 :: x :: N) x 21 := ⟨rfl⟩
instance slot22 {a0 a1 a2 a3 a4 a5 a6 a7 a8 a9 a10 a11 a12 a13 a14 a15 a16 a17 a18 a19 a20 a21 x : Str} {N : List Str} : Slot (a0 :: a1 :: a2 :: a3 :: a4 :: a5 :: a6 :: a7 :: a8 :: a9 :: a10 :: a11 :: a12 :: a13 :: a14 :: a15 :: a16 :: a17 :: a18 :: a19 :: a20 :: a21 :: x :: N) x 22 := ⟨rfl⟩
instance slot23 {a0 a1 a2 a3 a4 a5 a6 a7 a8 a9 a10 a11 a12 a13 a14 a15 a16 a17 a18 a19 a20 a21 a22 x : Str} {N : List Str} : Slot (a0 :: a1 :: a2 :: a3 :: a4 :: a5 :: a6 :: a7 :: a8 :: a9 :: a10 :: a11 :: a12 :: a13 :: a14 :: a15 :: a16 :: a17 :: a18 :: a19 :: a20 :: a21 :: a22 :: x :: N) x 23 := ⟨rfl⟩
instance slot24 {a0 a1 a2 a3 a4 a5 a6 a7 a8 a9 a10 a11 a12 a13 a14 a15 a16 a17 a18 a19 a20 a21 a22 a23 x : Str} {N : List Str} : Slot (a0 :: a1 :: a2 :: a3 :: a4 :: a5 :: a6 :: a7 :: a8 :: a9 :: a10 :: a11 :: a12 :: a13 :: a14 :: a15 :: a16 :: a17 :: a18 :: a19 :: a20 :: a21 :: a22 :: a23 :: x :: N) x 24 := ⟨rfl⟩
instance slot25 {a0 a1 a2 a3 a4 a5 a6 a7 a8 a9 a10 a11 a12 a13 a14 a15 a16 a17 a18 a19 a20 a21 a22 a23 a24 x : Str} {N : List Str} : Slot (a0 :: a1 :: a2 :: a3 :: a4 :: a5 :: a6 :: a7 :: a8 :: a9 :: a10 :: a11 :: a12 :: a13 :: a14 :: a15 :: a16 :: a17 :: a18 :: a19 :: a20 :: a21 :: a22 :: a23 :: a24 :: x :: N) x 25 := ⟨rfl⟩
instance slot26 {a0 a1 a2 a3 a4 a5 a6 a7 a8 a9 a10 a11 a12 a13 a14 a15 a16 a17 a18 a19 a20 a21 a22 a23 a24 a25 x : Str} {N : List Str} : Slot (a0 :: a1 :: a2 :: a3 :: a4 :: a5 :: a6 :: a7 :: a8 :: a9 :: a10 :: a11 :: a12 :: a13 :: a14 :: a15 :: a16 :: a17 :: a18 :: a19 :: a20 :: a21 :: a22 :: a23 :: a24 :: a25 :: x :: N) x 26 := ⟨rfl⟩
instance slot27 {a0 a1 a2 a3 a4 a5 a6 a7 a8 a9 a10 a11 a12 a13 a14 a15 a16 a17 a18 a19 a20 a21 a22 a23 a24 a25 a26 x : Str} {N : List Str} : Slot (a0 :: a1 :: a2 :: a3 :: a4 :: a5 :: a6 :: a7 :: a8 :: a9 :: a10 :: a11 :: a12 :: a13 :: a14 :: a15 :: a16 :: a17 :: a18 :: a19 :: a20 :: a21 :: a22 :: a23 :: a24 :: a25 :: a26 :: x :: N) x 27 := ⟨rfl⟩
instance slot28 {a0 a1 a2 a3 a4 a5 a6 a7 a8 a9 a10 a11 a12 a13 a14 a15 a16 a17 a18 a19 a20 a21 a22 a23 a24 a25 a26 a27 x : Str} {N : List Str} : Slot (a0 :: a1 :: a2 :: a3 :: a4 :: a5 :: a6 :: a7 :: a8 :: a9 :: a10 :: a11 :: a12 :: a13 :: a14 :: a15 :: a16 :: a17 :: a18 :: a19 :: a20 :: a21 :: a22 :: a23 :: a24 :: a25 :: a26 :: a27 :: x :: N) x 28 := ⟨rfl⟩
instance slot29 {a0 a1 a2 a3 a4 a5 a6 a7 a8 a9 a10 a11 a12 a13 a14 a15 a16 a17 a18 a19 a20 a21 a22 a23 a24 a25 a26 a27 a28 x : Str} {N : List Str} : Slot (a0 :: a1 :: a2 :: a3 :: a4 :: a5 :: a6 :: a7 :: a8 :: a9 :: a10 :: a11 :: a12 :: a13 :: a14 :: a15 :: a16 :: a17 :: a18 :: a19 :: a20 :: a21 :: a22 :: a23 :: a24 :: a25 :: a26 :: a27 :: a28 :: x :: N) x 29 := ⟨rfl⟩
instance slot30 {a0 a1 a2 a3 a4 a5 a6 a7 a8 a9 a10 a11 a12 a13 a14 a15 a16 a17 a18 a19 a20 a21 a22 a23 a24 a25 a26 a27 a28 a29 x : Str} {N : List Str} : Slot (a0 :: a1 :: a2 :: a3 :: a4 :: a5 :: a6 :: a7 :: a8 :: a9 :: a10 :: a11 :: a12 :: a13 :: a14 :: a15 :: a16 :: a17 :: a18 :: a19 :: a20 :: a21 :: a22 :: a23 :: a24 :: a25 :: a26 :: a27 :: a28 :: a29 :: x :: N) x 30 := ⟨rfl⟩
instance slot31 {a0 a1 a2 a3 a4 a5 a6 a7 a8 a9 a10 a11 a12 a13 a14 a15 a16 a17 a18 a19 a20 a21 a22 a23 a24 a25 a26 a27 a28 a29 a30 x : Str} {N : List Str} : Slot (a0 :: a1 :: a2 :: a3 :: a4 :: a5 :: a6 :: a7 :: a8 :: a9 :: a10 :: a11 :: a12 :: a13 :: a14 :: a15 :: a16 :: a17 :: a18 :: a19 :: a20 :: a21 :: a22 :: a23 :: a24 :: a25 :: a26 :: a27 :: a28 :: a29 :: a30 :: x :: N) x 31 := ⟨rfl⟩
instance slot32 {a0 a1 a2 a3 a4 a5 a6 a7 a8 a9 a10 a11 a12 a13 a14 a15 a16 a17 a18 a19 a20 a21 a22 a23 a24 a25 a26 a27 a28 a29 a30 a31 x : Str} {N : List Str} : Slot (a0 :: a1 :: a2 :: a3 :: a4 :: a5 :: a6 :: a7 :: a8 :: a9 :: a10 :: a11 :: a12 :: a13 :: a14 :: a15 :: a16 :: a17 :: a18 :: a19 :: a20 :: a21 :: a22 :: a23 :: a24 :: a25 :: a26 :: a27 :: a28 :: a29 :: a30 :: a31 :: x :: N) x 32 := ⟨rfl⟩
instance slot33 {a0 a1 a2 a3 a4 a5 a6 a7 a8 a9 a10 a11 a12 a13 a14 a15 a16 a17 a18 a19 a20 a21 a22 a23 a24 a25 a26 a27 a28 a29 a30 a31 a32 x : Str} {N : List Str} : Slot (a0 :: a1 :: a2 :: a3 :: a4 :: a5 :: a6 :: a7 :: a8 :: a9 :: a10 :: a11 :: a12 :: a13 :: a14 :: a15 :: a16 :: a17 :: a18 :: a19 :: a20 :: a21 :: a22 :: a23 :: a24 :: a25 :: a26 :: a27 :: a28 :: a29 :: a30 :: a31 :: a32 :: x :: N) x 33 := ⟨rfl⟩
/-! ### the place where code runs -/
structure Cxt (P : Program) (w : World) (K : PySem.W.Frag) (mg : Str → Option Value) (base : Heap) (sc : Scope) (N : List Str) (vs ls : List Bool) (k : Nat) (X : Cx) (W : WX) : Prop where
  eP : X.prog = P
  ew : X.w = w
  eK : X.K = K
  eg : X.mg = mg
  eb : X.base = base
  eN : X.N = N
  nd : N.Nodup
  es : X.env.scope = sc
  vis : ∀ (i : Nat) x, N[i]? = some x → vs[i]? = some true → Vis sc x
  loc : ∀ (i : Nat) x, N[i]? = some x → ls[i]? = some true → Loc sc x ∧ (X.fn x = true ∨ sc.names.lookup x = some .local)
  calm : X.calm = true
  room : Room k X.A
  tk : Takes X W
  po : PassesOwn (model X.prog X.w) X.A X.env X.xe
section
variable {P : Program} {w : World} {K : PySem.W.Frag} {mg : Str → Option Value} {base : Heap} {sc : Scope} {N : List Str} {vs ls : List Bool} {k : Nat} {X : Cx} {W : WX} {ρ : Rho} {Q : Rho → PyData → Prop} {E : XQ} {a b c e : Expr} {pos p : Pos} {x : Str} {i : Nat}
theorem Cxt.gl (C : Cxt P w K mg base sc N vs ls k X W) (h : sc.names.lookup x = some .globalImplicit) : Gl X x := by
  unfold Gl Env.kindOf
  rw [C.es]
  exact h
theorem Cxt.st (C : Cxt P w K mg base sc N vs ls k X W) (h : N[i]? = some x) (hl : ls[i]? = some true) : X.fn x = true ∨ X.env.scope.names.lookup x = some .local := by
  rw [C.es]
  exact (C.loc i x h hl).2
theorem Cxt.lo (C : Cxt P w K mg base sc N vs ls k X W) (h : N[i]? = some x) (hl : ls[i]? = some true) : Loc X.env.scope x := by
  rw [C.es]
  exact (C.loc i x h hl).1
theorem ew_var (C : Cxt P w K mg base sc N vs ls k X W) [sl : Slot N x i] {d : PyData} (hs : ρ[i]? = some (some (.d d))) (hv : vs[i]? = some true) (q : Q ρ d) (hd : (x == ("__debug__" : Str)) = false := by decide) (hcd : (x == ("__classdict__" : Str)) = false := by decide) : EW X W (.Name x pos) ρ Q E := by
  refine ew_of (pe_var (i := i) (by rw [C.eN]; exact sl.get) (by rw [C.es]; exact C.vis i x sl.get hv) hd hcd) (fun F H σ R wd st kk => ?_) q
  obtain ⟨v, h1, h2⟩ := st.get i _ hs
  exact ⟨v, h1, kk F H v (Gr.refl wd.sub) h2⟩
/-- a module's constant -/
theorem ew_globI (C : Cxt P w K mg base sc N vs ls k X W) {n : Int} (hm : ∃ t, mg x = some (.int n t)) (q : Q ρ (.int n)) (hg : sc.names.lookup x = some .globalImplicit := by decide +kernel) (hd : (x == ("__debug__" : Str)) = false := by decide) : EW X W (.Name x pos) ρ Q E := by
  obtain ⟨t, hm⟩ := hm
  exact ew_of (pe_glob (C.gl hg) (by rw [C.eg]; exact hm) (v := .int n) ⟨t, rfl⟩ hd) (fun F H _ R wd _ kk => kk F H _ (Gr.refl wd.sub) (.int n)) q
theorem ew_globS (C : Cxt P w K mg base sc N vs ls k X W) {n : Str} (hm : ∃ t, mg x = some (.str n t)) (q : Q ρ (.str n)) (hg : sc.names.lookup x = some .globalImplicit := by decide +kernel) (hd : (x == ("__debug__" : Str)) = false := by decide) : EW X W (.Name x pos) ρ Q E := by
  obtain ⟨t, hm⟩ := hm
  exact ew_of (pe_glob (C.gl hg) (by rw [C.eg]; exact hm) (v := .str n) ⟨t, rfl⟩ hd) (fun F H _ R wd _ kk => kk F H _ (Gr.refl wd.sub) (.str n)) q
/-! tests -/
theorem tw_cmp {op : CmpOp} {Q : Rho → Bool → Prop} (h : EW X W a ρ (fun ρ1 x => EW X W b ρ1 (fun ρ2 y => BW X (compareOp op) x y (fun d => ∃ k, d = .bool k ∧ Q ρ2 k)) E) E) (hm : behindInMarks op b = false := by with_unfolding_all rfl) : TW X W (.Compare a [op] [b] pos) ρ Q E := by
  intro F H σ R wd sl kx kk
  refine of_pt (pt_cmpR wop_self pe_w pe_w hm) ?_
  refine h F H σ _ wd sl kx fun F1 H1 ρ1 x dx st1 wd1 sl1 dd1 h1 => ?_
  refine h1 F1 H1 σ _ wd1 sl1 (kx.step st1) fun F2 H2 ρ2 y dy st2 wd2 sl2 dd2 h2 => ?_
  refine h2 F2 H2 x y _ wd2.sub (dd1.mono st2.ex) dd2 fun F3 H3 v d gr dd3 q => ?_
  obtain ⟨k, rfl, q⟩ := q
  cases dd3
  exact ⟨k, rfl, kk F3 H3 ρ2 k ((st1.trans st2).trans gr.stp) (wd2.gr gr) (sl2.mono gr.ex) q⟩
theorem tw_val {Q : Rho → Bool → Prop} (h : EW X W e ρ (fun ρ1 d => ∃ k, d = .bool k ∧ Q ρ1 k) E) (he : ∀ whole, isTrue e X.env whole = (do let v ← whole; standAt e.pos; holding [v] (truthy v)) := by intro _; with_unfolding_all rfl) : TW X W e ρ Q E := by
  intro F H σ R wd sl kx kk
  refine of_pt (pt_val pe_w he) ?_
  refine h F H σ _ wd sl kx fun F1 H1 ρ1 x dx st1 wd1 sl1 dd1 h1 => ?_
  obtain ⟨k, rfl, q⟩ := h1
  cases dd1
  exact ⟨k, rfl, kk F1 H1 ρ1 k st1 wd1 sl1 q⟩
theorem tw_not {Q : Rho → Bool → Prop} (h : TW X W a ρ (fun ρ1 k => Q ρ1 (!k)) E) : TW X W (.UnaryOp .Not a pos) ρ Q E := by
  intro F H σ R wd sl kx kk
  refine of_pt (pt_not pt_w) ?_
  exact h F H σ _ wd sl kx fun F1 H1 ρ1 k st1 wd1 sl1 q => kk F1 H1 ρ1 (!k) st1 wd1 sl1 q
theorem pww_and1 {Q : Rho → Bool → Prop} (h : TW X W a ρ Q E) : PWW X W (.BoolOp .And [a] pos) ρ Q E := fun F H σ R wd sl kx kk => of_pw (pw_and1 pt_w) (h F H σ R wd sl kx kk)
theorem pww_or1 {Q : Rho → Bool → Prop} (h : TW X W a ρ Q E) : PWW X W (.BoolOp .Or [a] pos) ρ Q E := fun F H σ R wd sl kx kk => of_pw (pw_or1 pt_w) (h F H σ R wd sl kx kk)
theorem pww_and {rest : List Expr} {Q : Rho → Bool → Prop} (h : TW X W a ρ (fun ρ1 k => (k = true → PWW X W (.BoolOp .And (b :: rest) pos) ρ1 Q E) ∧ (k = false → Q ρ1 false)) E) : PWW X W (.BoolOp .And (a :: b :: rest) pos) ρ Q E := by
  intro F H σ R wd sl kx kk
  refine of_pw (pw_and pt_w pw_w) ?_
  refine h F H σ _ wd sl kx fun F1 H1 ρ1 k st1 wd1 sl1 q => ?_
  cases k with
  | true => exact q.1 rfl F1 H1 σ R wd1 sl1 (kx.step st1) fun F2 H2 ρ2 k2 st2 wd2 sl2 q2 => kk F2 H2 ρ2 k2 (st1.trans st2) wd2 sl2 q2
  | false => exact kk F1 H1 ρ1 false st1 wd1 sl1 (q.2 rfl)
theorem pww_or {rest : List Expr} {Q : Rho → Bool → Prop} (h : TW X W a ρ (fun ρ1 k => (k = false → PWW X W (.BoolOp .Or (b :: rest) pos) ρ1 Q E) ∧ (k = true → Q ρ1 true)) E) : PWW X W (.BoolOp .Or (a :: b :: rest) pos) ρ Q E := by
  intro F H σ R wd sl kx kk
  refine of_pw (pw_or pt_w pw_w) ?_
  refine h F H σ _ wd sl kx fun F1 H1 ρ1 k st1 wd1 sl1 q => ?_
  cases k with
  | false => exact q.1 rfl F1 H1 σ R wd1 sl1 (kx.step st1) fun F2 H2 ρ2 k2 st2 wd2 sl2 q2 => kk F2 H2 ρ2 k2 (st1.trans st2) wd2 sl2 q2
  | true => exact kk F1 H1 ρ1 true st1 wd1 sl1 (q.2 rfl)
theorem tw_bop {op : BoolOp} {es : List Expr} {Q : Rho → Bool → Prop} (h : PWW X W (.BoolOp op es pos) ρ Q E) : TW X W (.BoolOp op es pos) ρ Q E := fun F H σ R wd sl kx kk => of_pt pw_w.pt (h F H σ R wd sl kx kk)
/-! and, or, not as values -/
theorem ew_one {op : BoolOp} (h : EW X W a ρ Q E) : EW X W (.BoolOp op [a] pos) ρ Q E := fun F H σ R wd sl kx kk => of_pe (pe_one pe_w) (h F H σ R wd sl kx kk)
theorem ew_and {rest : List Expr} (h : EW X W a ρ (fun ρ1 d => ∃ k, d = .bool k ∧ (k = true → EW X W (.BoolOp .And (b :: rest) pos) ρ1 Q E) ∧ (k = false → Q ρ1 (.bool false))) E) : EW X W (.BoolOp .And (a :: b :: rest) pos) ρ Q E := by
  intro F H σ R wd sl kx kk
  refine of_pe (pe_and pe_w pe_w) ?_
  refine h F H σ _ wd sl kx fun F1 H1 ρ1 v d st1 wd1 sl1 dd1 q => ?_
  obtain ⟨k, rfl, q⟩ := q
  cases dd1
  refine ⟨k, rfl, ?_⟩
  cases k with
  | true => exact q.1 rfl F1 H1 σ R wd1 sl1 (kx.step st1) fun F2 H2 ρ2 k2 d2 st2 wd2 sl2 dd2 q2 => kk F2 H2 ρ2 k2 d2 (st1.trans st2) wd2 sl2 dd2 q2
  | false => exact kk F1 H1 ρ1 _ _ st1 wd1 sl1 (.bl false) (q.2 rfl)
theorem ew_or {rest : List Expr} (h : EW X W a ρ (fun ρ1 d => ∃ k, d = .bool k ∧ (k = false → EW X W (.BoolOp .Or (b :: rest) pos) ρ1 Q E) ∧ (k = true → Q ρ1 (.bool true))) E) : EW X W (.BoolOp .Or (a :: b :: rest) pos) ρ Q E := by
  intro F H σ R wd sl kx kk
  refine of_pe (pe_or pe_w pe_w) ?_
  refine h F H σ _ wd sl kx fun F1 H1 ρ1 v d st1 wd1 sl1 dd1 q => ?_
  obtain ⟨k, rfl, q⟩ := q
  cases dd1
  refine ⟨k, rfl, ?_⟩
  cases k with
  | false => exact q.1 rfl F1 H1 σ R wd1 sl1 (kx.step st1) fun F2 H2 ρ2 k2 d2 st2 wd2 sl2 dd2 q2 => kk F2 H2 ρ2 k2 d2 (st1.trans st2) wd2 sl2 dd2 q2
  | true => exact kk F1 H1 ρ1 _ _ st1 wd1 sl1 (.bl true) (q.2 rfl)
theorem ew_not (h : EW X W a ρ (fun ρ1 d => ∃ k, d = .bool k ∧ Q ρ1 (.bool (!k))) E) : EW X W (.UnaryOp .Not a pos) ρ Q E := by
  intro F H σ R wd sl kx kk
  refine of_pe (pe_not pe_w) ?_
  refine h F H σ _ wd sl kx fun F1 H1 ρ1 v d st1 wd1 sl1 dd1 q => ?_
  obtain ⟨k, rfl, q⟩ := q
  cases dd1
  exact ⟨k, rfl, kk F1 H1 ρ1 _ _ st1 wd1 sl1 (.bl (!k)) q⟩
theorem ew_ite (h : TW X W c ρ (fun ρ1 k => (k = true → EW X W a ρ1 Q E) ∧ (k = false → EW X W b ρ1 Q E)) E) : EW X W (.IfExp c a b pos) ρ Q E := by
  intro F H σ R wd sl kx kk
  refine of_pe (pe_ifExp pt_w pe_w pe_w) ?_
  refine h F H σ _ wd sl kx fun F1 H1 ρ1 k st1 wd1 sl1 q => ?_
  cases k with
  | true => exact q.1 rfl F1 H1 σ R wd1 sl1 (kx.step st1) fun F2 H2 ρ2 k2 d2 st2 wd2 sl2 dd2 q2 => kk F2 H2 ρ2 k2 d2 (st1.trans st2) wd2 sl2 dd2 q2
  | false => exact q.2 rfl F1 H1 σ R wd1 sl1 (kx.step st1) fun F2 H2 ρ2 k2 d2 st2 wd2 sl2 dd2 q2 => kk F2 H2 ρ2 k2 d2 (st1.trans st2) wd2 sl2 dd2 q2
/-! a < b < c -/
theorem ew_chain {op op' : CmpOp} (h : EW X W a ρ (fun ρ1 x => EW X W b ρ1 (fun ρ2 y => BW X (compareOp op) x y (fun d => ∃ k, d = .bool k ∧ (k = true → EW X W c ρ2 (fun ρ3 z => BW X (compareOp op') y z (Q ρ3)) E) ∧ (k = false → Q ρ2 (.bool false)))) E) E)
    (hm : lastMarks [op, op'] [b, c] = false := by with_unfolding_all rfl) : EW X W (.Compare a [op, op'] [b, c] pos) ρ Q E := by
  intro F H σ R wd sl kx kk
  refine of_pe (pe_chain wop_self wop_self pe_w pe_w pe_w hm) ?_
  refine h F H σ _ wd sl kx fun F1 H1 ρ1 x dx st1 wd1 sl1 dd1 h1 => ?_
  refine h1 F1 H1 σ _ wd1 sl1 (kx.step st1) fun F2 H2 ρ2 y dy st2 wd2 sl2 dd2 h2 => ?_
  refine h2 F2 H2 x y _ wd2.sub (dd1.mono st2.ex) dd2 fun F3 H3 v d gr dd3 q => ?_
  obtain ⟨k, rfl, q⟩ := q
  cases dd3
  refine ⟨k, rfl, ?_⟩
  have st3 := (st1.trans st2).trans (gr.stp (ρ := ρ2))
  cases k with
  | true =>
    refine q.1 rfl F3 H3 σ _ (wd2.gr gr) (sl2.mono gr.ex) (kx.step st3) fun F4 H4 ρ4 z dz st4 wd4 sl4 dd4 h4 => ?_
    exact h4 F4 H4 y z R wd4.sub (dd2.mono (gr.ex.trans st4.ex)) dd4 fun F5 H5 v d gr5 dd5 q5 => kk F5 H5 ρ4 v d ((st3.trans st4).trans gr5.stp) (wd4.gr gr5) (sl4.mono gr5.ex) dd5 q5
  | false => exact kk F3 H3 ρ2 _ _ st3 (wd2.gr gr) (sl2.mono gr.ex) (.bl false) (q.2 rfl)
theorem tw_chain {op op' : CmpOp} {Q : Rho → Bool → Prop} (h : EW X W a ρ (fun ρ1 x => EW X W b ρ1 (fun ρ2 y => BW X (compareOp op) x y (fun d => ∃ k, d = .bool k ∧ (k = true → EW X W c ρ2 (fun ρ3 z => BW X (compareOp op') y z (fun d => ∃ k, d = .bool k ∧ Q ρ3 k)) E) ∧ (k = false → Q ρ2 false))) E) E)
    (hm : lastMarks [op, op'] [b, c] = false := by with_unfolding_all rfl) : TW X W (.Compare a [op, op'] [b, c] pos) ρ Q E := by
  intro F H σ R wd sl kx kk
  refine of_pt (pt_chain wop_self wop_self pe_w pe_w pe_w hm) ?_
  refine h F H σ _ wd sl kx fun F1 H1 ρ1 x dx st1 wd1 sl1 dd1 h1 => ?_
  refine h1 F1 H1 σ _ wd1 sl1 (kx.step st1) fun F2 H2 ρ2 y dy st2 wd2 sl2 dd2 h2 => ?_
  refine h2 F2 H2 x y _ wd2.sub (dd1.mono st2.ex) dd2 fun F3 H3 v d gr dd3 q => ?_
  obtain ⟨k, rfl, q⟩ := q
  cases dd3
  refine ⟨k, rfl, ?_⟩
  have st3 := (st1.trans st2).trans (gr.stp (ρ := ρ2))
  cases k with
  | true =>
    refine q.1 rfl F3 H3 σ _ (wd2.gr gr) (sl2.mono gr.ex) (kx.step st3) fun F4 H4 ρ4 z dz st4 wd4 sl4 dd4 h4 => ?_
    refine h4 F4 H4 y z _ wd4.sub (dd2.mono (gr.ex.trans st4.ex)) dd4 fun F5 H5 v d gr5 dd5 q5 => ?_
    obtain ⟨k, rfl, q5⟩ := q5
    cases dd5
    exact ⟨k, rfl, kk F5 H5 ρ4 k ((st3.trans st4).trans gr5.stp) (wd4.gr gr5) (sl4.mono gr5.ex) q5⟩
  | false => exact ⟨false, rfl, kk F3 H3 ρ2 _ st3 (wd2.gr gr) (sl2.mono gr.ex) (q.2 rfl)⟩
/-! subscripts -/
theorem ew_ix (h : EW X W a ρ (fun ρ1 x => EW X W b ρ1 (fun ρ2 y => BI X x y (Q ρ2)) E) E) (hs : PlainIx b := by with_unfolding_all exact fun _ _ => rfl) : EW X W (.Subscript a b pos) ρ Q E := by
  intro F H σ R wd sl kx kk
  refine of_pe (pe_ix wix_self pe_w pe_w hs) ?_
  refine h F H σ _ wd sl kx fun F1 H1 ρ1 x dx st1 wd1 sl1 dd1 h1 => ?_
  refine h1 F1 H1 σ _ wd1 sl1 (kx.step st1) fun F2 H2 ρ2 y dy st2 wd2 sl2 dd2 h2 => ?_
  exact h2 F2 H2 x y R wd2.sub (dd1.mono st2.ex) dd2 fun F3 H3 v d gr dd3 q => kk F3 H3 ρ2 v d ((st1.trans st2).trans gr.stp) (wd2.gr gr) (sl2.mono gr.ex) dd3 q
/-! argument lists, displays -/
theorem aw_nil {Q : Rho → List PyData → Prop} (q : Q ρ []) : AW X W [] ρ Q E := fun F H σ R wd sl kx kk => of_pa pa_nil (kk F H ρ [] [] Stp.refl wd sl .nil q)
theorem aw_cons {es : List Expr} {Q : Rho → List PyData → Prop} (h : EW X W e ρ (fun ρ1 d => AW X W es ρ1 (fun ρ2 ds => Q ρ2 (d :: ds)) E) E) (he : starEach (e :: es) X.env = (false, eval e X.env) :: starEach es X.env := by with_unfolding_all rfl) : AW X W (e :: es) ρ Q E := by
  intro F H σ R wd sl kx kk
  refine of_pa (pa_cons pe_w pa_w he) ?_
  refine h F H σ _ wd sl kx fun F1 H1 ρ1 v d st1 wd1 sl1 dd1 h1 => ?_
  exact h1 F1 H1 σ _ wd1 sl1 (kx.step st1) fun F2 H2 ρ2 vs ds st2 wd2 sl2 dd2 h2 => kk F2 H2 ρ2 (v :: vs) (d :: ds) (st1.trans st2) wd2 sl2 (.cons (dd1.mono st2.ex) dd2) h2
/-- a tuple, known to the object: it has no dict -/
def tTupF (t : TA) : TE := fun σ H Q => t σ H fun xs H1 => xs.length ≤ sizeLine ∧ ∀ (p : Addr) (o : Obj), H1 p = none → o.dict = none → Q (.ref p) (upd H1 p (.frz o (.tup xs)))
theorem pe_tupF {es : List Expr} {t : TA} {x1} (h : PA X es t) : PE X (.Tuple es x1 pos) (tTupF t) := by
  refine ⟨fun pins s σ H Q I hq => ?_⟩
  refine wpAny_Tuple_spliced (thn (h.run pos pins s σ H _ I hq) fun us s1 ⟨xs, H1, I1, r, z, q⟩ => ⟨by rw [← r.length]; exact z, ?_⟩)
  have hf : H1 s1.heap.objs.size = none := I1.hok.fresh (Nat.le_refl _)
  refine ⟨.ref s1.heap.objs.size, upd H1 s1.heap.objs.size (.frz { cls := .type "tuple", data := .seq us.toArray } (.tup xs)), I1.laid (t' := s1.toks) (fun b u e => Heap.get?_push_of_some _ e) (Nat.le_refl _) ?_, rfl, q _ _ hf rfl⟩
  exact ⟨Heap.get?_push_size _ rfl, z, us, r, ⟨_, Heap.get?_push_size _ rfl, rfl, _, rfl⟩⟩
theorem ew_tup {es : List Expr} {j : Nat} (h : AW X W es ρ (fun ρ1 ds => ds.length ≤ 16777216 ∧ Q ρ1 (.tuple ds)) E) : EW X W (.Tuple es j pos) ρ Q E := by
  intro F H σ R wd sl kx kk
  refine of_pe (pe_tupF pa_w) ?_
  refine h F H σ _ wd sl kx fun F1 H1 ρ1 vs ds st1 wd1 sl1 dd1 h1 => ?_
  refine ⟨by rw [dd1.length, sizeLine_eq]; exact h1.1, fun p o hp ho => ?_⟩
  have g : Gr F1 H1 (upd F1 p (.frz o (.tup vs))) (upd H1 p (.frz o (.tup vs))) := Gr.new wd1.sub hp
  exact kk _ _ ρ1 _ _ (st1.trans g.stp) (wd1.gr g) (sl1.mono g.ex) (.tup (.inl (.inr ⟨o, upd_same⟩)) ⟨o, _, upd_same, ho⟩ (dd1.mono g.ex)) h1.2
end
end Bp

namespace Bp
open PySem PySem.Spec PyProof.Rows L2
/-! ### operations, by the kinds of data -/
theorem fin_lst {K : PySem.W.Frag} {F H : Hp} {p : Addr} {xs : List V} {ds : List PyData} {Q : PyData → Prop} {R : VK} (e : Ex F H) (hp : H p = none) (dd : DDs K F xs ds) (k : ∀ F' H' v d, Gr F H F' H' → DD K F' v d → Q d → R v H') (q : Q (.list ds)) : R (.ref p) (upd H p (.lst xs)) :=
  k _ _ _ _ (Gr.new e hp) (.lst upd_same (dd.mono (Gr.new (o := .lst xs) e hp).ex)) q
theorem fin_tup {K : PySem.W.Frag} {F H : Hp} {p : Addr} {xs : List V} {ds : List PyData} {Q : PyData → Prop} {R : VK} {o : Obj} (e : Ex F H) (hp : H p = none) (ho : o.dict = none) (dd : DDs K F xs ds) (k : ∀ F' H' v d, Gr F H F' H' → DD K F' v d → Q d → R v H') (q : Q (.tuple ds)) : R (.ref p) (upd H p (.frz o (.tup xs))) :=
  k _ _ _ _ (Gr.new e hp) (.tup (.inl (.inr ⟨o, upd_same⟩)) ⟨o, _, upd_same, ho⟩ (dd.mono (Gr.new (o := .frz o (.tup xs)) e hp).ex)) q
section
variable {X : Cx} {Q : PyData → Prop}
theorem bw_I0 {f : Value → Value → Sem Value} {g : Int → Int → V} {gd : Int → Int → PyData} (o : OpR X f (rI0 g)) (hg : ∀ F i j, DD X.K F (g i j) (gd i j)) {i j : Int} (q : Q (gd i j)) : BW X f (.int i) (.int j) Q := by
  intro F H vx vy R e hx hy k
  cases hx
  cases hy
  exact wop_of o ⟨i, j, rfl, rfl, k F H _ _ (Gr.refl e) (hg F i j) q⟩
theorem bw_I {f : Value → Value → Sem Value} {C : Int → Int → Prop} {g : Int → Int → V} {gd : Int → Int → PyData} (o : OpR X f (rI C g)) (hg : ∀ F i j, DD X.K F (g i j) (gd i j)) {i j : Int} (hc : C i j) (q : Q (gd i j)) : BW X f (.int i) (.int j) Q := by
  intro F H vx vy R e hx hy k
  cases hx
  cases hy
  exact wop_of o ⟨i, j, rfl, rfl, hc, k F H _ _ (Gr.refl e) (hg F i j) q⟩
theorem bw_add {i j : Int} (q : Q (.int (i + j))) : BW X (binaryOp .Add) (.int i) (.int j) Q := bw_I0 op_add (gd := fun i j => .int (i + j)) (fun _ _ _ => .int _) q
theorem bw_sub {i j : Int} (q : Q (.int (i - j))) : BW X (binaryOp .Sub) (.int i) (.int j) Q := bw_I0 op_sub (gd := fun i j => .int (i - j)) (fun _ _ _ => .int _) q
theorem bw_mul {i j : Int} (hc : CMulW i j) (q : Q (.int (i * j))) : BW X (binaryOp .Mult) (.int i) (.int j) Q := bw_I op_mulW (gd := fun i j => .int (i * j)) (fun _ _ _ => .int _) hc q
theorem bw_mulS {i j : Int} (hc : CMul i j) (q : Q (.int (i * j))) : BW X (binaryOp .Mult) (.int i) (.int j) Q := bw_I op_mul (gd := fun i j => .int (i * j)) (fun _ _ _ => .int _) hc q
theorem bw_div {i j : Int} (hc : CDivW i j) (q : Q (.int (i / j))) : BW X (binaryOp .FloorDiv) (.int i) (.int j) Q := bw_I op_fdivW (gd := fun i j => .int (i / j)) (fun _ _ _ => .int _) hc q
theorem bw_mod {i j : Int} (hc : 0 < j) (q : Q (.int (i % j))) : BW X (binaryOp .Mod) (.int i) (.int j) Q := bw_I op_mod (gd := fun i j => .int (i % j)) (fun _ _ _ => .int _) hc q
theorem bw_pow {i j : Int} (hc : CPow i j) (q : Q (.int (i ^ j.toNat))) : BW X (binaryOp .Pow) (.int i) (.int j) Q := bw_I op_pow (gd := fun i j => .int (i ^ j.toNat)) (fun _ _ _ => .int _) hc q
theorem bw_lt {i j : Int} (q : Q (.bool (decide (i < j)))) : BW X (compareOp .Lt) (.int i) (.int j) Q := bw_I0 op_lt (gd := fun i j => .bool (decide (i < j))) (fun _ _ _ => .bl _) q
theorem bw_le {i j : Int} (q : Q (.bool (decide (i ≤ j)))) : BW X (compareOp .LtE) (.int i) (.int j) Q := bw_I0 op_le (gd := fun i j => .bool (decide (i ≤ j))) (fun _ _ _ => .bl _) q
theorem bw_gt {i j : Int} (q : Q (.bool (decide (j < i)))) : BW X (compareOp .Gt) (.int i) (.int j) Q := bw_I0 op_gt (gd := fun i j => .bool (decide (j < i))) (fun _ _ _ => .bl _) q
theorem bw_ge {i j : Int} (q : Q (.bool (decide (j ≤ i)))) : BW X (compareOp .GtE) (.int i) (.int j) Q := bw_I0 op_ge (gd := fun i j => .bool (decide (j ≤ i))) (fun _ _ _ => .bl _) q
theorem bu_neg {i : Int} {Q : PyData → Prop} (q : Q (.int (-i))) : BU X (unaryOp .USub) (.int i) Q := by
  intro F H vx R e hx k
  cases hx
  exact wun_of un_neg ⟨i, rfl, k F H _ _ (Gr.refl e) (.int _) q⟩
theorem bw_eqI {i j : Int} (q : Q (.bool (decide (i = j)))) : BW X (compareOp .Eq) (.int i) (.int j) Q := by
  intro F H vx vy R e hx hy k
  cases hx
  cases hy
  refine wop_of op_eq ⟨rfl, k F H _ (.bool (decide (i = j))) (Gr.refl e) ?_ q⟩
  rw [dec_int]
  exact .bl _
theorem bw_neI {i j : Int} (q : Q (.bool (!decide (i = j)))) : BW X (compareOp .NotEq) (.int i) (.int j) Q := by
  intro F H vx vy R e hx hy k
  cases hx
  cases hy
  refine wop_of op_ne ⟨rfl, k F H _ (.bool (!decide (i = j))) (Gr.refl e) ?_ q⟩
  rw [dec_int]
  exact .bl _
theorem bw_eqS {i j : Str} (q : Q (.bool (decide (i = j)))) : BW X (compareOp .Eq) (.str i) (.str j) Q := by
  intro F H vx vy R e hx hy k
  cases hx
  cases hy
  refine wop_of op_eq ⟨rfl, k F H _ (.bool (decide (i = j))) (Gr.refl e) ?_ q⟩
  rw [dec_str]
  exact .bl _
theorem bw_neS {i j : Str} (q : Q (.bool (!decide (i = j)))) : BW X (compareOp .NotEq) (.str i) (.str j) Q := by
  intro F H vx vy R e hx hy k
  cases hx
  cases hy
  refine wop_of op_ne ⟨rfl, k F H _ (.bool (!decide (i = j))) (Gr.refl e) ?_ q⟩
  rw [dec_str]
  exact .bl _
mutual
theorem dd_dp {K : PySem.W.Frag} {F : Hp} : ∀ {v : V} {d : PyData}, DD K F v d → d.canLay0 = true → Dp K F v d
  | _, _, .non, _ => .non
  | _, _, .bl b, _ => .bl b
  | _, _, .int i, _ => .int i
  | _, _, .str x, _ => .str x
  | _, _, .lst h hs, e => .lst (SqL.of h) (dds_dp hs (by simpa [PyData.canLay0] using e))
  | _, _, .tup h _ hs, e => .tup h (dds_dp hs (by simpa [PyData.canLay0] using e))
  | _, _, .dct h _ _, e => by simp [PyData.canLay0] at e
theorem dds_dp {K : PySem.W.Frag} {F : Hp} : ∀ {v : List V} {d : List PyData}, DDs K F v d → PyData.canLayAll0 d = true → DpAll K F v d
  | _, _, .nil, _ => .nil
  | _, _, .cons h hs, e => by
    have e2 : (_ && _) = true := e
    exact .cons (dd_dp h (Bool.and_eq_true_iff.mp e2).1) (dds_dp hs (Bool.and_eq_true_iff.mp e2).2)
end
mutual
theorem Dp.ex {K : PySem.W.Frag} {F H : Hp} (x : Ex F H) : ∀ {v : V} {d : PyData}, Dp K F v d → Dp K H v d
  | _, _, .non => .non
  | _, _, .bl b => .bl b
  | _, _, .int i => .int i
  | _, _, .str y => .str y
  | _, _, .lst h hs => .lst (x.sql h) (DpAll.ex x hs)
  | _, _, .tup h hs => .tup (x.sqt h) (DpAll.ex x hs)
theorem DpAll.ex {K : PySem.W.Frag} {F H : Hp} (x : Ex F H) : ∀ {v : List V} {d : List PyData}, DpAll K F v d → DpAll K H v d
  | _, _, .nil => .nil
  | _, _, .cons h hs => .cons (Dp.ex x h) (DpAll.ex x hs)
end
/-- == of any data -/
theorem bw_eqD {k0 : Nat} (hr : Room k0 X.A) {x y : PyData} (hx : SeqAt.shaped x = true) (hy : SeqAt.shaped y = true) (q : Q (.bool (PyData.eqv x y))) : BW X (compareOp .Eq) x y Q := by
  intro F H vx vy R e dx dy k
  exact wop_of (op_eqD hr.units) ⟨x, y, Dp.ex e (dd_dp dx (SeqAt.canLay_of_shaped hx)), Dp.ex e (dd_dp dy (SeqAt.canLay_of_shaped hy)), hx, hy, k F H _ _ (Gr.refl e) (.bl _) q⟩
theorem bw_neD {k0 : Nat} (hr : Room k0 X.A) {x y : PyData} (hx : SeqAt.shaped x = true) (hy : SeqAt.shaped y = true) (q : Q (.bool (!PyData.eqv x y))) : BW X (compareOp .NotEq) x y Q := by
  intro F H vx vy R e dx dy k
  exact wop_of (op_neD hr.units) ⟨x, y, Dp.ex e (dd_dp dx (SeqAt.canLay_of_shaped hx)), Dp.ex e (dd_dp dy (SeqAt.canLay_of_shaped hy)), hx, hy, k F H _ _ (Gr.refl e) (.bl _) q⟩
def isNone : PyData → Bool
  | .none => true
  | _ => false
theorem dd_none {K : PySem.W.Frag} {F : Hp} {v : V} {d : PyData} (h : DD K F v d) : decide (v = .non) = isNone d := by cases h <;> rfl
theorem bw_isN {x : PyData} (q : Q (.bool (isNone x))) : BW X (compareOp .Is) x .none Q := by
  intro F H vx vy R e hx hy k
  cases hy
  refine wop_of op_isN ⟨rfl, k F H _ (.bool (isNone x)) (Gr.refl e) ?_ q⟩
  rw [dd_none hx]
  exact .bl _
theorem bw_notN {x : PyData} (q : Q (.bool (!isNone x))) : BW X (compareOp .IsNot) x .none Q := by
  intro F H vx vy R e hx hy k
  cases hy
  refine wop_of op_notN ⟨rfl, k F H _ (.bool (!isNone x)) (Gr.refl e) ?_ q⟩
  rw [dd_none hx]
  exact .bl _
theorem bw_addL {xs ys : List PyData} (hl : xs.length + ys.length ≤ 16777216) (q : Q (.list (xs ++ ys))) : BW X (binaryOp .Add) (.list xs) (.list ys) Q := by
  intro F H vx vy R e hx hy k
  cases hx with
  | lst h1 d1 =>
    cases hy with
    | lst h2 d2 =>
      refine wop_of op_cat ⟨_, _, _, _, rfl, rfl, e _ _ h1, e _ _ h2, by rw [d1.length, d2.length, sizeLine_eq]; exact hl, fun p hp => ?_⟩
      exact fin_lst e hp (d1.append d2) k q
/-- t + u, the new one known to the object -/
def rCatF (K : PySem.W.Frag) : R2 := fun x y H Q => ∃ a b xs ys, x = .ref a ∧ y = .ref b ∧ SqT K H a xs ∧ SqT K H b ys ∧ xs.length + ys.length ≤ sizeLine ∧ (xs = [] → Q (.ref b) H) ∧ (xs ≠ [] → ys = [] → Q (.ref a) H) ∧ (xs ≠ [] → ys ≠ [] → ∀ (p : Addr) (o : Obj), H p = none → o.dict = none → Q (.ref p) (upd H p (.frz o (.tup (xs ++ ys)))))
theorem op_catF {X : Cx} : OpR X (binaryOp .Add) (rCatF X.K) := by
  intro pins s σ H x y v u Q I rx ry h
  obtain ⟨a, b, xs, ys, rfl, rfl, ha, hb, hz, q0, q1, q2⟩ := h
  cases rx
  cases ry
  obtain ⟨its, r1, p1, _⟩ := I.tuple ha
  obtain ⟨its2, r2, p2, _⟩ := I.tuple hb
  by_cases hx : xs = []
  · subst hx
    cases r1
    exact cat_tup0 p1 p2 ⟨.ref b, H, I, rfl, q0 rfl⟩
  · refine HT.cat_tup p1 p2 (fun z => hx (r1.nil_iff.mp z)) (fun z => ⟨.ref a, H, I, rfl, q1 hx (r2.nil_iff.mp z)⟩) (fun z => ?_) (by rw [← r1.length, ← r2.length]; exact hz)
    refine ⟨.ref s.heap.objs.size, _, I.laid (t' := s.toks) (o := .frz { cls := .type "tuple", data := .seq (its ++ its2).toArray } (.tup (xs ++ ys))) (fun b ob q => Heap.get?_push_of_some _ q) (Nat.le_refl _) ?_, rfl, q2 hx (fun w => z (r2.nil_iff.mpr w)) _ _ (I.hok.fresh (Nat.le_refl _)) rfl⟩
    exact ⟨Heap.get?_push_size _ rfl, by rw [List.length_append]; exact hz, _, r1.append r2, IsTup.new _ _⟩
/-- tuple(xs), the new one known to the object -/
theorem call_tupF {X : Cx} : CallR X (.type "tuple") (fun xs H Q => ∃ p ys, xs = [.ref p] ∧ ((SqL X.K H p ys ∧ ∀ (l : Addr) (o : Obj), H l = none → o.dict = none → Q (.ref l) (upd H l (.frz o (.tup ys)))) ∨ (SqT X.K H p ys ∧ Q (.ref p) H))) := by
  intro pins s σ H xs us Q I r h
  obtain ⟨p, ys, rfl, h⟩ := h
  obtain ⟨u, rfl, rx⟩ := vals1 r
  cases rx
  rcases h with ⟨hq, q⟩ | ⟨hq, q⟩
  · obtain ⟨its, r', pl, hz⟩ := I.list hq
    have hlen := r'.length
    refine call_tuple_list pl.isList (fun h' kp => ?_) (by simp only [List.size_toArray] <;> omega)
    have I1 : Inv X pins σ H { s with heap := h' } := I.kept (t' := s.toks) kp
    have I2 : Inv X pins σ (upd H h'.objs.size (.frz { cls := .type "tuple", data := .seq its.toArray } (.tup ys))) { s with heap := h'.push { cls := .type "tuple", data := .seq its.toArray } } :=
      I1.laid (t' := s.toks) (fun b o e => Heap.get?_push_of_some _ e) (Nat.le_refl _) (show ObjOk X.prog X.w _ _ _ (.frz _ (.tup ys)) from ⟨Heap.get?_push_size _ rfl, hz, its, r', IsTup.new _ _⟩)
    exact ⟨.ref h'.objs.size, _, I2, rfl, q _ _ (I1.hok.fresh (Nat.le_refl _)) rfl⟩
  · obtain ⟨its, r', pl, hz⟩ := I.tuple hq
    exact call_tuple_same pl ⟨.ref p, H, I, rfl, q⟩
theorem bw_addT {xs ys : List PyData} (hl : xs.length + ys.length ≤ 16777216) (q : Q (.tuple (xs ++ ys))) : BW X (binaryOp .Add) (.tuple xs) (.tuple ys) Q := by
  intro F H vx vy R e hx hy k
  cases hx with
  | tup h1 n1 d1 =>
    cases hy with
    | tup h2 n2 d2 =>
      refine wop_of op_catF ⟨_, _, _, _, rfl, rfl, e.sqt h1, e.sqt h2, by rw [d1.length, d2.length, sizeLine_eq]; exact hl, fun z => ?_, fun z1 z2 => ?_, fun _ _ p o hp ho => ?_⟩
      · subst z
        cases d1
        exact k F H _ _ (Gr.refl e) (.tup h2 n2 d2) q
      · subst z2
        cases d2
        rw [List.append_nil] at q
        exact k F H _ _ (Gr.refl e) (.tup h1 n1 d1) q
      · exact fin_tup e hp ho (d1.append d2) k q
theorem bw_addS {x y : Str} (hl : x.length + y.length ≤ 16777216) (q : Q (.str (x ++ y))) : BW X (binaryOp .Add) (.str x) (.str y) Q := by
  intro F H vx vy R e hx hy k
  cases hx
  cases hy
  exact wop_of op_add_str ⟨_, _, rfl, rfl, by rw [sizeLine_eq]; exact hl, k F H _ _ (Gr.refl e) (.str _) q⟩
theorem DDs.rep {K : PySem.W.Frag} {F : Hp} {xs : List V} {ds : List PyData} (h : DDs K F xs ds) : ∀ n : Nat, DDs K F (List.replicate n xs).flatten (List.replicate n ds).flatten
  | 0 => .nil
  | n + 1 => by
    rw [List.replicate_succ, List.replicate_succ, List.flatten_cons, List.flatten_cons]
    exact h.append (DDs.rep h n)
theorem bw_mulL {xs : List PyData} {n : Int} (h0 : -(2 ^ 63) ≤ n) (h1 : n < 2 ^ 63) (hl : xs.length * n.toNat ≤ 16777216) (q : Q (.list (List.replicate n.toNat xs).flatten)) : BW X (binaryOp .Mult) (.list xs) (.int n) Q := by
  intro F H vx vy R e hx hy k
  cases hy
  cases hx with
  | lst h d =>
    refine wop_of op_rep ⟨_, _, _, rfl, rfl, e _ _ h, h0, h1, by rw [d.length, sizeLine_eq]; exact hl, fun p hp => ?_⟩
    exact fin_lst e hp (d.rep _) k q
/-! in, not in -/
def flatD : PyData → Bool
  | .none => true
  | .bool _ => true
  | .int _ => true
  | .str _ => true
  | _ => false
theorem dd_flat {K : PySem.W.Frag} {F : Hp} {v : V} {d : PyData} (h : DD K F v d) : flatV v = flatD d := by cases h <;> rfl
theorem dds_flat {K : PySem.W.Frag} {F : Hp} : ∀ {v : List V} {d : List PyData}, DDs K F v d → v.all flatV = d.all flatD
  | _, _, .nil => rfl
  | _, _, .cons h hs => by rw [List.all_cons, List.all_cons, dd_flat h, dds_flat hs]
def inD (x : PyData) (xs : List PyData) : Bool := xs.any fun y => PyData.eqv y x
theorem dd_eqv {K : PySem.W.Frag} {F : Hp} {v u : V} {d e : PyData} (h : DD K F v d) (h' : DD K F u e) (hf : flatD d = true) (hf' : flatD e = true) : eqV v u = PyData.eqv d e := by
  cases h <;> cases h' <;> first | (simp [flatD] at hf; done) | (simp [flatD] at hf'; done) | (simp [eqV, PyData.eqv]; done) | (simp only [eqV, PyData.eqv])
theorem dds_in {K : PySem.W.Frag} {F : Hp} {v : V} {x : PyData} (h : DD K F v x) (hx : flatD x = true) : ∀ {vs : List V} {d : List PyData}, DDs K F vs d → d.all flatD = true → inV v vs = inD x d
  | _, _, .nil, _ => rfl
  | _, _, .cons q qs, e => by
    rw [List.all_cons] at e
    have e2 := Bool.and_eq_true_iff.mp e
    unfold inV inD
    rw [List.any_cons, List.any_cons, dd_eqv q h e2.1 hx]
    exact congrArg _ (dds_in h hx qs e2.2)
theorem bw_in {x y : PyData} {ds : List PyData} (hy : y = .list ds ∨ y = .tuple ds) (hx : flatD x = true) (ha : ds.all flatD = true) (q : Q (.bool (inD x ds))) : BW X (compareOp .In) x y Q := by
  intro F H vx vy R e dx dy k
  have go : ∀ p vs, vy = .ref p → (SqL X.K H p vs ∨ SqT X.K H p vs) → DDs X.K F vs ds → wOp X (compareOp .In) vx vy H R := fun p vs ey hq dd => by
    refine wop_of op_in_seq ⟨p, vs, ey, hq, by rw [dd_flat dx]; exact hx, by rw [dds_flat dd]; exact ha, ?_⟩
    show R (.bl (inV vx vs)) H
    rw [dds_in dx hx dd ha]
    exact k F H _ _ (Gr.refl e) (.bl _) q
  rcases hy with rfl | rfl
  · cases dy with
    | lst h d => exact go _ _ rfl (.inl (SqL.of (e _ _ h))) d
  · cases dy with
    | tup h _ d => exact go _ _ rfl (.inr (e.sqt h)) d
theorem bw_notIn {x y : PyData} {ds : List PyData} (hy : y = .list ds ∨ y = .tuple ds) (hx : flatD x = true) (ha : ds.all flatD = true) (q : Q (.bool (!inD x ds))) : BW X (compareOp .NotIn) x y Q := by
  intro F H vx vy R e dx dy k
  have go : ∀ p vs, vy = .ref p → (SqL X.K H p vs ∨ SqT X.K H p vs) → DDs X.K F vs ds → wOp X (compareOp .NotIn) vx vy H R := fun p vs ey hq dd => by
    refine wop_of op_notIn_seq ⟨p, vs, ey, hq, by rw [dd_flat dx]; exact hx, by rw [dds_flat dd]; exact ha, ?_⟩
    show R (.bl (!inV vx vs)) H
    rw [dds_in dx hx dd ha]
    exact k F H _ _ (Gr.refl e) (.bl _) q
  rcases hy with rfl | rfl
  · cases dy with
    | lst h d => exact go _ _ rfl (.inl (SqL.of (e _ _ h))) d
  · cases dy with
    | tup h _ d => exact go _ _ rfl (.inr (e.sqt h)) d
/-! subscripts -/
theorem dds_at {K : PySem.W.Frag} {F : Hp} {vs : List V} {ds : List PyData} {i : Int} {d : PyData} (h : DDs K F vs ds) (e : atI ds i = some d) : ∃ v, atI vs i = some v ∧ DD K F v d := by
  unfold atI at e ⊢
  rw [h.length]
  cases q : ixN ds.length i with
  | none =>
    rw [q] at e
    cases e
  | some j =>
    rw [q] at e
    exact h.get e
theorem bi_lst {ds : List PyData} {i : Int} {d : PyData} (h : atI ds i = some d) (q : Q d) : BI X (.list ds) (.int i) Q := by
  intro F H vx vy R e hx hy k
  cases hy
  cases hx with
  | lst hh dd =>
    obtain ⟨v, h1, h2⟩ := dds_at dd h
    exact wix_of ix_list ⟨_, _, i, v, rfl, rfl, SqL.of (e _ _ hh), h1, k F H _ _ (Gr.refl e) h2 q⟩
theorem bi_tup {ds : List PyData} {i : Int} {d : PyData} (h : atI ds i = some d) (q : Q d) : BI X (.tuple ds) (.int i) Q := by
  intro F H vx vy R e hx hy k
  cases hy
  cases hx with
  | tup hh nn dd =>
    obtain ⟨v, h1, h2⟩ := dds_at dd h
    exact wix_of ix_tup ⟨_, _, i, v, rfl, rfl, e.sqt hh, h1, k F H _ _ (Gr.refl e) h2 q⟩
theorem bi_str {z : Str} {i : Int} {c : Nat} (hl : z.length ≤ 16777216) (h : atI z.cps.toList i = some c) (q : Q (.str ⟨#[c]⟩)) : BI X (.str z) (.int i) Q := by
  intro F H vx vy R e hx hy k
  cases hy
  cases hx
  exact wix_of ix_str ⟨z, i, c, rfl, rfl, by rw [sizeLine_eq]; exact hl, h, k F H _ _ (Gr.refl e) (.str _) q⟩
/-! built-in functions -/
theorem bc_lenL {ds : List PyData} (q : Q (.int ds.length)) : BC X (.builtin "len") [.list ds] Q := by
  intro F H vs R e hx k
  cases hx with
  | cons h hs =>
    cases hs
    cases h with
    | lst hh dd => exact wca_of call_len_seq ⟨_, _, rfl, .inl (SqL.of (e _ _ hh)), by rw [dd.length]; exact k F H _ _ (Gr.refl e) (.int _) q⟩
theorem bc_lenT {ds : List PyData} (q : Q (.int ds.length)) : BC X (.builtin "len") [.tuple ds] Q := by
  intro F H vs R e hx k
  cases hx with
  | cons h hs =>
    cases hs
    cases h with
    | tup hh nn dd => exact wca_of call_len_seq ⟨_, _, rfl, .inr (e.sqt hh), by rw [dd.length]; exact k F H _ _ (Gr.refl e) (.int _) q⟩
theorem bc_lenS {z : Str} (hl : z.length ≤ 16777216) (q : Q (.int z.length)) : BC X (.builtin "len") [.str z] Q := by
  intro F H vs R e hx k
  cases hx with
  | cons h hs =>
    cases hs
    cases h
    exact wca_of call_len_str ⟨z, rfl, by rw [sizeLine_eq]; exact hl, k F H _ _ (Gr.refl e) (.int _) q⟩
theorem bc_abs {i : Int} (q : Q (.int (if i < 0 then -i else i))) : BC X (.builtin "abs") [.int i] Q := by
  intro F H vs R e hx k
  cases hx with
  | cons h hs =>
    cases hs
    cases h
    exact wca_of call_abs ⟨i, rfl, k F H _ _ (Gr.refl e) (.int _) q⟩
theorem bc_all (hc : X.calm = true) {ds : List PyData} {bs : List Bool} (eb : ds = bs.map PyData.bool) (q : Q (.bool (bs.all id))) : BC X (.builtin "all") [.list ds] Q := by
  subst eb
  intro F H vs R e hx k
  cases hx with
  | cons h hs =>
    cases hs
    cases h with
    | lst hh dd =>
      have z := dd.bls
      subst z
      exact wca_of (cr_all hc) ⟨_, bs, rfl, SqL.of (e _ _ hh), k F H _ _ (Gr.refl e) (.bl _) q⟩
theorem bc_any (hc : X.calm = true) {ds : List PyData} {bs : List Bool} (eb : ds = bs.map PyData.bool) (q : Q (.bool (bs.any id))) : BC X (.builtin "any") [.list ds] Q := by
  subst eb
  intro F H vs R e hx k
  cases hx with
  | cons h hs =>
    cases hs
    cases h with
    | lst hh dd =>
      have z := dd.bls
      subst z
      exact wca_of (cr_any hc) ⟨_, bs, rfl, SqL.of (e _ _ hh), k F H _ _ (Gr.refl e) (.bl _) q⟩
theorem bc_int1 {i : Int} (q : Q (.int i)) : BC X (.type "int") [.int i] Q := by
  intro F H vs R e hx k
  cases hx with
  | cons h hs =>
    cases hs
    cases h
    exact wca_of call_int1 (.inl ⟨i, rfl, k F H _ _ (Gr.refl e) (.int _) q⟩)
theorem bc_list {y : PyData} {ds : List PyData} (hy : y = .list ds ∨ y = .tuple ds) (q : Q (.list ds)) : BC X (.type "list") [y] Q := by
  intro F H vs R e hx k
  cases hx with
  | cons h hs =>
    cases hs
    have go : ∀ v p xs, v = V.ref p → (SqL X.K H p xs ∨ SqT X.K H p xs) → DDs X.K F xs ds → wCa X (.type "list") [v] H R := fun v p xs ev hq dd => by
      refine wca_of call_list_of ⟨p, xs, by rw [ev], hq, fun l hl => ?_⟩
      exact fin_lst e hl dd k q
    rcases hy with rfl | rfl
    · cases h with
      | lst hh dd => exact go _ _ _ rfl (.inl (SqL.of (e _ _ hh))) dd
    · cases h with
      | tup hh nn dd => exact go _ _ _ rfl (.inr (e.sqt hh)) dd
theorem bc_tuple {y : PyData} {ds : List PyData} (hy : y = .list ds ∨ y = .tuple ds) (q : Q (.tuple ds)) : BC X (.type "tuple") [y] Q := by
  intro F H vs R e hx k
  cases hx with
  | cons h hs =>
    cases hs
    rcases hy with rfl | rfl
    · cases h with
      | lst hh dd =>
        refine wca_of call_tupF ⟨_, _, rfl, .inl ⟨SqL.of (e _ _ hh), fun l o hl ho => ?_⟩⟩
        exact fin_tup e hl ho dd k q
    · cases h with
      | tup hh nn dd => exact wca_of call_tupF ⟨_, _, rfl, .inr ⟨e.sqt hh, k F H _ _ (Gr.refl e) (.tup hh nn dd) q⟩⟩
end
/-! ### calls -/
section
variable {P : Program} {w : World} {K : PySem.W.Frag} {mg : Str → Option Value} {base : Heap} {sc : Scope} {N : List Str} {vs ls : List Bool} {k : Nat} {X : Cx} {W : WX} {ρ : Rho} {Q : Rho → PyData → Prop} {E : XQ} {a b c e : Expr} {es : List Expr} {pos p : Pos} {x : Str} {i : Nat}
/-- a built-in function, a built-in class, called by its name -/
theorem ew_callB (C : Cxt P w K mg base sc N vs ls k X W) {id : String} (hv : bootBuiltins x = some (.builtin id)) (hm : mg x = none) (h : AW X W (e :: es) ρ (fun ρ1 ds => BC X (.builtin id) ds (Q ρ1)) E) (hg : sc.names.lookup x = some .globalImplicit := by decide +kernel)
    (hn : x ≠ "__name__" := by decide) (hdb : (x == ("__debug__" : Str)) = false := by decide) (he : starEach (e :: es) X.env = (false, eval e X.env) :: starEach es X.env := by with_unfolding_all rfl) (hpl : (backTo pos (starEach es X.env)).any (·.1) = false := by with_unfolding_all rfl) :
    EW X W (.Call (.Name x p) (e :: es) [] pos) ρ Q E := by
  intro F H σ R wd sl kx kk
  refine of_pe (pe_callB wca_self (C.gl hg) (by rw [C.eg]; exact hm) hv pa_w hn hdb he hpl) ?_
  refine h F H σ _ wd sl kx fun F1 H1 ρ1 vs ds st1 wd1 sl1 dd1 h1 => ?_
  exact h1 F1 H1 vs R wd1.sub dd1 fun F3 H3 v d gr dd3 q => kk F3 H3 ρ1 v d (st1.trans gr.stp) (wd1.gr gr) (sl1.mono gr.ex) dd3 q
theorem ew_callT (C : Cxt P w K mg base sc N vs ls k X W) {T : String} (hv : bootBuiltins x = some (.type T)) (hm : mg x = none) (h : AW X W (e :: es) ρ (fun ρ1 ds => BC X (.type T) ds (Q ρ1)) E) (hg : sc.names.lookup x = some .globalImplicit := by decide +kernel)
    (hn : x ≠ "__name__" := by decide) (hdb : (x == ("__debug__" : Str)) = false := by decide) (he : starEach (e :: es) X.env = (false, eval e X.env) :: starEach es X.env := by with_unfolding_all rfl) (hpl : (backTo pos (starEach es X.env)).any (·.1) = false := by with_unfolding_all rfl) :
    EW X W (.Call (.Name x p) (e :: es) [] pos) ρ Q E := by
  intro F H σ R wd sl kx kk
  refine of_pe (pe_callTy wca_self (C.gl hg) (by rw [C.eg]; exact hm) hv pa_w hn hdb he hpl) ?_
  refine h F H σ _ wd sl kx fun F1 H1 ρ1 vs ds st1 wd1 sl1 dd1 h1 => ?_
  exact h1 F1 H1 vs R wd1.sub dd1 fun F3 H3 v d gr dd3 q => kk F3 H3 ρ1 v d (st1.trans gr.stp) (wd1.gr gr) (sl1.mono gr.ex) dd3 q
/-- what a def of plain arguments promises: Pf ds Q E -/
abbrev PF := List PyData → (Ret → Prop) → (Xc → Prop) → Prop
/-- what is handed back, as plain data -/
def Ret.toD : Ret → Option PyData
  | .d x => some x
  | .new (.lst ds) => some (.list ds)
  | .new _ => none
  | .nest _ => none
/-- a new list becomes plain data -/
theorem frz {K : PySem.W.Frag} {F H F' H' : Hp} {ρ ρ' : Rho} {p : Addr} {xs : List V} {ds : List PyData} (st : Stp ρ ρ' F H F' H') (wd : Wd K F' H' ρ') (hp : H p = none ∨ Owns ρ p) (fp : F' p = none) (np : ¬ Owns ρ' p) (hh : H' p = some (.lst xs)) (dd : DDs K F' xs ds) :
    Stp ρ ρ' F H (upd F' p (.lst xs)) H' ∧ Wd K (upd F' p (.lst xs)) H' ρ' ∧ Ex F' (upd F' p (.lst xs)) ∧ DD K (upd F' p (.lst xs)) (.ref p) (.list ds) := by
  have ex : Ex F' (upd F' p (.lst xs)) := Ex.new fp
  refine ⟨⟨st.ex.trans ex, st.keep, fun a o f h n => ?_, st.own, st.all⟩, ⟨fun a o q => ?_, fun j a o q => ?_, wd.dis⟩, ex, .lst upd_same (dd.mono ex)⟩
  · have ne : a ≠ p := fun z => by
      subst z
      rcases hp with hp | hp
      · rw [h] at hp
        cases hp
      · exact n hp
    rw [upd_ne ne]
    exact st.fr a o f h n
  · by_cases z : a = p
    · subst z
      rw [upd_same] at q
      rw [hh, q]
    · rw [upd_ne z] at q
      exact wd.sub a o q
  · obtain ⟨h1, ho, h2, h3⟩ := wd.own j a o q
    have ne : a ≠ p := fun z => np (z ▸ ⟨j, o, q⟩)
    exact ⟨by rw [upd_ne ne]; exact h1, ho, h2, h3.mono ex⟩
theorem frzR {K : PySem.W.Frag} {F H F' H' : Hp} {ρ ρ' : Rho} {v : V} {r : Ret} {d : PyData} (st : Stp ρ ρ' F H F' H') (wd : Wd K F' H' ρ') (rt : RtV K ρ H F' H' ρ' v r) (hd : r.toD = some d) :
    ∃ F2, Stp ρ ρ' F H F2 H' ∧ Wd K F2 H' ρ' ∧ Ex F' F2 ∧ DD K F2 v d := by
  cases r with
  | d d' =>
    cases hd
    exact ⟨F', st, wd, Ex.refl _, rt⟩
  | new o =>
    cases o with
    | lst ds =>
      cases hd
      obtain ⟨p, ho, rfl, h0, f, n, h, xs, rfl, dd⟩ := rt
      exact ⟨_, frz st wd h0 f n h dd⟩
    | _ => cases hd
  | nest dss => cases hd
def spP (K : PySem.W.Frag) (Pf : PF) : Sp := fun vs H Q E => ∃ F ds Qd Ed, Ex F H ∧ DDs K F vs ds ∧ Pf ds Qd Ed ∧ (∀ F' H' v r, Gr F H F' H' → RtV K [] H F' H' [] v r → Qd r → Q v H') ∧ ∀ F' H' x xd, Gr F H F' H' → XcAt K F' H' x xd → Ed x → E (.ref x.cls) xd H'
/-- the module's name x is a def that keeps it -/
def Fn (P : Program) (w : World) (K : PySem.W.Frag) (mg : Str → Option Value) (base : Heap) (j : Nat) (x : Str) (Pf : PF) : Prop :=
  ∃ f fd ps, FnOk P w K mg base (L2.CX P w) j f fd ps (spP K Pf) ∧ mg x = some (.ref f) ∧ PySem.W.keepIn K (.ref f) = true ∧ Binds K fd ps []
theorem ew_call (C : Cxt P w K mg base sc N vs ls k X W) {j : Nat} {Pf : PF} (G : Fn P w K mg base j x Pf) (h : AW X W (e :: es) ρ (fun ρ1 ds => Pf ds (fun r => ∃ d, r.toD = some d ∧ Q ρ1 d) (E ρ1)) E) (hj : j ≤ k := by decide) (hg : sc.names.lookup x = some .globalImplicit := by decide +kernel)
    (hdb : (x == ("__debug__" : Str)) = false := by decide) (he : starEach (e :: es) X.env = (false, eval e X.env) :: starEach es X.env := by with_unfolding_all rfl) (hpl : (backTo pos (starEach es X.env)).any (·.1) = false := by with_unfolding_all rfl) :
    EW X W (.Call (.Name x p) (e :: es) [] pos) ρ Q E := by
  intro F H σ R wd sl kx kk
  obtain ⟨f, fd, ps, ok, hm, kp, bd⟩ := G
  have hgl := C.gl hg
  have hr : Room j X.A := C.room.mono hj
  obtain ⟨rfl, rfl, rfl, rfl, rfl⟩ : X.prog = P ∧ X.w = w ∧ X.K = K ∧ X.mg = mg ∧ X.base = base := ⟨C.eP, C.ew, C.eK, C.eg, C.eb⟩
  refine of_pe (pe_callS ok hr hgl hm kp bd (fun σ => passAt C.tk σ) pa_w hdb he hpl) ?_
  refine h F H σ _ wd sl kx fun F1 H1 ρ1 vs ds st1 wd1 sl1 dd1 h1 => ?_
  refine ⟨F1, ds, _, _, wd1.sub, dd1, h1, fun F' H' v r g rt q => ?_, fun F' H' y xd g xa q => ?_⟩
  · obtain ⟨d, hd, q⟩ := q
    have wd' := wd1.gr g
    have rt' : RtV X.K ρ1 H1 F' H' ρ1 v r := by
      cases r with
      | d d => exact rt
      | new o =>
        obtain ⟨q, ho, e, h0, f, _, h, oo⟩ := rt
        have h0 : H1 q = none := h0.resolve_right fun ⟨j, o', z⟩ => by simp at z
        refine ⟨q, ho, e, .inl h0, f, fun ⟨j, o', z⟩ => ?_, h, oo⟩
        obtain ⟨_, _, z2, _⟩ := wd1.own j q o' z
        rw [h0] at z2
        cases z2
      | nest dss => cases hd
    obtain ⟨F2, s2, w2, e2, d2⟩ := frzR (g.stp (ρ := ρ1)) wd' rt' hd
    exact kk F2 H' ρ1 v d (st1.trans s2) w2 ((sl1.mono g.ex).mono e2) d2 q
  exact kx F' H' σ ρ1 y xd (st1.trans g.stp) (wd1.gr g) (sl1.mono g.ex) xa q
end
end Bp

namespace Bp
open PySem PySem.Spec PyProof.Rows L2
/-! ### slots that are set -/
section
variable {K : PySem.W.Frag} {F H F' H' : Hp} {ρ ρ' : Rho} {σ : L2.St} {i : Nat} {d : PyData} {v : V}
theorem set_own {j : Nat} {a : Addr} {o : O} {z : Option S} (hz : ∀ a o, z ≠ some (.own a o)) (h : (ρ.set i z)[j]? = some (some (S.own a o))) : ρ[j]? = some (some (S.own a o)) := by
  rw [List.getElem?_set] at h
  split at h
  · split at h
    · exact absurd (Option.some.inj h) (hz a o)
    · cases h
  · exact h
theorem Wd.set (w : Wd K F H ρ) {z : Option S} (hz : ∀ a o, z ≠ some (.own a o)) : Wd K F H (ρ.set i z) where
  sub := w.sub
  own := fun j a o q => w.own j a o (set_own hz q)
  dis := fun j l a o o' q q' => w.dis j l a o o' (set_own hz q) (set_own hz q')
theorem Sl.set (s : Sl K F σ ρ) (hd : DD K F v d) : Sl K F (σ.set i (some v)) (ρ.set i (some (.d d))) where
  len := by rw [List.length_set, List.length_set]; exact s.len
  get := fun j z q => by
    rw [List.getElem?_set] at q ⊢
    split at q
    · rename_i e
      split at q
      · rename_i hl
        cases (Option.some.inj (Option.some.inj q))
        rw [if_pos e, if_pos (by rw [s.len]; exact hl)]
        exact ⟨v, rfl, hd⟩
      · cases q
    · rename_i e
      rw [if_neg e]
      exact s.get j z q
theorem Stp.set {z : Option S} (hz : ∀ a o, z ≠ some (.own a o)) : Stp ρ (ρ.set i z) F H F H := ⟨Ex.refl _, fun _ _ h _ => h, fun _ _ h _ _ => h, fun a ⟨j, o, q⟩ => .inl ⟨j, o, set_own hz q⟩, fun _ h => h⟩
theorem noD {d : PyData} : ∀ (a : Addr) (o : O), (some (S.d d) : Option S) ≠ some (.own a o) := fun _ _ h => by cases h
theorem noN : ∀ (a : Addr) (o : O), (none : Option S) ≠ some (.own a o) := fun _ _ h => by cases h
end
/-! ### statements -/
section
variable {P : Program} {w : World} {K : PySem.W.Frag} {mg : Str → Option Value} {base : Heap} {sc : Scope} {N : List Str} {vs ls : List Bool} {k : Nat} {X : Cx} {W : WX} {ρ : Rho} {Nx : Rho → Prop} {R : Rho → Ret → Prop} {E : XQ} {a b c e : Expr} {es : List Expr} {pos p px : Pos} {x : Str} {i : Nat} {st : Stmt} {sts : List Stmt}
theorem sw_nil (h : Nx ρ) : SW X W [] ρ Nx R E := fun F H σ D wd sl kx kn kr => of_pss pss_nil (kn F H σ ρ Stp.refl wd sl h)
theorem sw_cons (h : S1 X W st ρ (fun ρ1 => SW X W sts ρ1 Nx R E) R E) : SW X W (st :: sts) ρ Nx R E := by
  intro F H σ D wd sl kx kn kr
  refine of_pss (pss_cons ps_w pss_w) ?_
  refine h F H σ _ wd sl kx (fun F1 H1 σ1 ρ1 st1 wd1 sl1 h1 => ?_) kr
  exact h1 F1 H1 σ1 D wd1 sl1 (kx.step st1) (fun F2 H2 σ2 ρ2 st2 wd2 sl2 n => kn F2 H2 σ2 ρ2 (st1.trans st2) wd2 sl2 n) (fun F2 H2 ρ2 v d st2 wd2 dd r => kr F2 H2 ρ2 v d (st1.trans st2) wd2 (dd.back st1) r)
theorem s1_ret (h : EW X W e ρ (fun ρ1 d => R ρ1 (.d d)) E) : S1 X W (.Return (some e) pos) ρ Nx R E := fun F H σ D wd sl kx kn kr => of_ps (ps_ret pe_w) (h F H σ _ wd sl kx fun F1 H1 ρ1 v d st1 wd1 sl1 dd1 r => kr F1 H1 ρ1 v (.d d) st1 wd1 dd1 r)
theorem s1_expr (h : EW X W e ρ (fun ρ1 _ => Nx ρ1) E) (hs : swapsWith e none pos.line X.env = pure false := by with_unfolding_all rfl) : S1 X W (.Expr e pos) ρ Nx R E := fun F H σ D wd sl kx kn kr => of_ps (ps_expr pe_w hs) (h F H σ _ wd sl kx fun F1 H1 ρ1 v d st1 wd1 sl1 dd1 r => kn F1 H1 σ ρ1 st1 wd1 sl1 r)
theorem s1_pass (h : Nx ρ) : S1 X W (.Pass pos) ρ Nx R E := fun F H σ D wd sl kx kn kr => of_ps ps_pass (kn F H σ ρ Stp.refl wd sl h)
theorem s1_if {t u : List Stmt} (h : TW X W c ρ (fun ρ1 b => (b = true → SW X W t ρ1 Nx R E) ∧ (b = false → SW X W u ρ1 Nx R E)) E) : S1 X W (.If c t u pos) ρ Nx R E := by
  intro F H σ D wd sl kx kn kr
  refine of_ps (ps_if pt_w pss_w pss_w) ?_
  refine h F H σ _ wd sl kx fun F1 H1 ρ1 b st1 wd1 sl1 q => ?_
  cases b with
  | true => exact q.1 rfl F1 H1 σ D wd1 sl1 (kx.step st1) (fun F2 H2 σ2 ρ2 st2 wd2 sl2 n => kn F2 H2 σ2 ρ2 (st1.trans st2) wd2 sl2 n) (fun F2 H2 ρ2 v d st2 wd2 dd r => kr F2 H2 ρ2 v d (st1.trans st2) wd2 (dd.back st1) r)
  | false => exact q.2 rfl F1 H1 σ D wd1 sl1 (kx.step st1) (fun F2 H2 σ2 ρ2 st2 wd2 sl2 n => kn F2 H2 σ2 ρ2 (st1.trans st2) wd2 sl2 n) (fun F2 H2 ρ2 v d st2 wd2 dd r => kr F2 H2 ρ2 v d (st1.trans st2) wd2 (dd.back st1) r)
theorem s1_set (C : Cxt P w K mg base sc N vs ls k X W) [sl : Slot N x i] (hl : ls[i]? = some true) (h : EW X W e ρ (fun ρ1 d => Nx (ρ1.set i (some (.d d)))) E) (hs : swapsWith e (some (.Name x px)) pos.line X.env = pure false := by with_unfolding_all rfl) : S1 X W (.Assign [.Name x px] e pos) ρ Nx R E := by
  intro F H σ D wd st kx kn kr
  refine of_ps (ps_set (i := i) (by rw [C.eN]; exact C.nd) (by rw [C.eN]; exact sl.get) (C.lo sl.get hl) pe_w hs (C.st sl.get hl)) ?_
  refine h F H σ _ wd st kx fun F1 H1 ρ1 v d st1 wd1 sl1 dd1 n => ?_
  exact kn F1 H1 _ _ (st1.trans (Stp.set noD)) (wd1.set noD) (sl1.set dd1) n
/-! while -/
theorem s1_while (C : Cxt P w K mg base sc N vs ls k X W) (I : Nat → Rho → Prop) {body : List Stmt} (h0 : ∃ m, I m ρ) (h : ∀ m ρ1, I m ρ1 → TW X W c ρ1 (fun ρ2 b => (b = true → SW X W body ρ2 (fun ρ3 => ∃ m', m' < m ∧ I m' ρ3) R E) ∧ (b = false → Nx ρ2)) E) : S1 X W (.While c body [] pos) ρ Nx R E := by
  intro F H σ D wd sl kx kn kr
  refine of_ps (ps_while C.po pt_w pss_w) ?_
  obtain ⟨m0, h0⟩ := h0
  refine ⟨fun m σ1 H1 => ∃ F1 ρ1, Stp ρ ρ1 F H F1 H1 ∧ Wd X.K F1 H1 ρ1 ∧ Sl X.K F1 σ1 ρ1 ∧ I m ρ1, ⟨m0, F, ρ, Stp.refl, wd, sl, h0⟩, ?_⟩
  rintro m σ1 H1 ⟨F1, ρ1, st1, wd1, sl1, i1⟩
  refine h m ρ1 i1 F1 H1 σ1 _ wd1 sl1 (kx.step st1) fun F2 H2 ρ2 b st2 wd2 sl2 q => ?_
  have st12 := st1.trans st2
  cases b with
  | true =>
    refine ⟨fun σ3 H3 => ∃ m', m' < m ∧ ∃ F3 ρ3, Stp ρ ρ3 F H F3 H3 ∧ Wd X.K F3 H3 ρ3 ∧ Sl X.K F3 σ3 ρ3 ∧ I m' ρ3, fun σ3 H3 hh => ?_, ?_⟩
    · obtain ⟨m', l, r⟩ := hh
      exact ⟨m', l, r⟩
    · refine q.1 rfl F2 H2 σ1 _ wd2 sl2 (kx.step st12) (fun F3 H3 σ3 ρ3 st3 wd3 sl3 n => ?_) (fun F3 H3 ρ3 v d st3 wd3 dd r => kr F3 H3 ρ3 v d (st12.trans st3) wd3 (dd.back st12) r)
      obtain ⟨m', l, i3⟩ := n
      exact ⟨m', l, F3, ρ3, st12.trans st3, wd3, sl3, i3⟩
  | false => exact kn F2 H2 σ1 ρ2 st12 wd2 sl2 (q.2 rfl)
/-! ### what is walked -/
def WIx (X : Cx) (tg iter : Expr) : TI := fun σ H R => ∀ pins s, Inv X pins σ H s → wpAny (model X.prog X.w) X.A (eval iter X.env) (fun v s1 => wpAny (model X.prog X.w) X.A (pyIter v) (PIE X pins σ tg R) X.xe s1) X.xe s
theorem pi_w {tg iter : Expr} : PI X tg iter (WIx X tg iter) := ⟨fun pins s _ _ _ I h => h pins s I⟩
theorem of_pi {tg iter : Expr} {t : TI} (q : PI X tg iter t) {σ : L2.St} {H : Hp} {R : It → Hp → Prop} (h : t σ H R) : WIx X tg iter σ H R := fun pins s I => q.run pins s σ H R I h
/-- the turns give these data -/
structure ItD (K : PySem.W.Frag) (F1 : Hp) (J : It) (ds : List PyData) : Prop where
  go : ∀ F H i, Ex F1 F → Ex F H → i < ds.length → J.go i H
  yld : ∀ F H i y H' d, Ex F1 F → Ex F H → ds[i]? = some d → J.yld i H y H' → ∃ F', Gr F H F' H' ∧ DD K F' y d
  stop : ∀ F H, Ex F1 F → Ex F H → J.stop ds.length H
def IW (X : Cx) (W : WX) (tg iter : Expr) (ρ : Rho) (Q : Rho → List PyData → Prop) (E : XQ) : Prop := ∀ F H σ (R : It → Hp → Prop), Wd X.K F H ρ → Sl X.K F σ ρ → Kx X.K W ρ F H E →
  (∀ F' H' ρ' J ds, Stp ρ ρ' F H F' H' → Wd X.K F' H' ρ' → Sl X.K F' σ ρ' → ItD X.K F' J ds → Q ρ' ds → R J H') → WIx X tg iter σ H R
theorem itd_list {F : Hp} {a : Addr} {xs : List V} {ds : List PyData} (h : F a = some (.lst xs)) (dd : DDs K F xs ds) : ItD K F (Itl K a) ds where
  go := fun F' H i e s hl => by
    obtain ⟨v, h1, _⟩ := dd.get (List.getElem?_eq_getElem hl)
    exact ⟨xs, v, SqL.of (s _ _ (e _ _ h)), h1⟩
  yld := fun F' H i y H' d e s hd ⟨eH, hy⟩ => by
    subst eH
    have q := hy xs (SqL.of (s _ _ (e _ _ h)))
    obtain ⟨v, h1, h2⟩ := dd.get hd
    rw [h1] at q
    cases q
    exact ⟨F', Gr.refl s, h2.mono e⟩
  stop := fun F' H e s => ⟨xs, SqL.of (s _ _ (e _ _ h)), by rw [dd.length]; exact Nat.le_refl _⟩
theorem itd_tup {F : Hp} {a : Addr} {xs : List V} {ds : List PyData} (h : SqT K F a xs) (dd : DDs K F xs ds) : ItD K F (Itt K a) ds where
  go := fun F' H i e s hl => by
    obtain ⟨v, h1, _⟩ := dd.get (List.getElem?_eq_getElem hl)
    exact ⟨xs, v, s.sqt (e.sqt h), h1⟩
  yld := fun F' H i y H' d e s hd ⟨eH, hy⟩ => by
    subst eH
    have q := hy xs (s.sqt (e.sqt h))
    obtain ⟨v, h1, h2⟩ := dd.get hd
    rw [h1] at q
    cases q
    exact ⟨F', Gr.refl s, h2.mono e⟩
  stop := fun F' H e s => ⟨xs, s.sqt (e.sqt h), by rw [dd.length]; exact Nat.le_refl _⟩
def rangeD (lo : Int) (n : Nat) : List PyData := (List.range n).map fun i => .int (lo + (i : Nat))
theorem rangeD_len (lo : Int) (n : Nat) : (rangeD lo n).length = n := by unfold rangeD; rw [List.length_map, List.length_range]
theorem rangeD_get {lo : Int} {n i : Nat} {d : PyData} (h : (rangeD lo n)[i]? = some d) : i < n ∧ d = .int (lo + (i : Nat)) := by
  unfold rangeD at h
  rw [List.getElem?_map] at h
  by_cases hi : i < n
  · rw [List.getElem?_range hi] at h
    exact ⟨hi, (Option.some.inj h).symm⟩
  · rw [List.getElem?_eq_none (by rw [List.length_range]; omega)] at h
    cases h
theorem itd_range {F : Hp} {lo : Int} {n : Nat} : ItD K F (Itr lo n) (rangeD lo n) where
  go := fun F' H i e s hl => by
    rw [rangeD_len] at hl
    exact hl
  yld := fun F' H i y H' d e s hd ⟨eH, hy⟩ => by
    subst eH
    obtain ⟨_, h2⟩ := rangeD_get hd
    rw [h2, hy]
    exact ⟨F', Gr.refl s, .int _⟩
  stop := fun F' H e s => by
    rw [rangeD_len]
    exact Nat.le_refl _
/-- a list or a tuple -/
def iSeq (K : PySem.W.Frag) (tl : TE) : TI := fun σ H R => tl σ H fun x H1 => ∃ a, x = .ref a ∧ (((∃ xs, SqL K H1 a xs) ∧ R (Itl K a) H1) ∨ ((∃ xs, SqT K H1 a xs) ∧ R (Itt K a) H1))
theorem pi_seq {tg l : Expr} {tl : TE} (hl : PE X l tl) : PI X tg l (iSeq X.K tl) := by
  refine ⟨fun pins s σ H R I h => ?_⟩
  refine thn (hl.run pins s σ H _ I h) fun v s1 ⟨x, H1, I1, r1, q1⟩ => ?_
  obtain ⟨a, e, q1⟩ := q1
  subst e
  cases r1
  rcases q1 with ⟨⟨xs, hq⟩, q⟩ | ⟨⟨xs, hq⟩, q⟩
  · obtain ⟨its, rv, p, hz⟩ := I1.list hq
    refine wpAny_pyIter_list p.isList ?_
    refine ⟨s1.heap.objs.size, [s1.heap.objs.size], _, _, H1, rfl, I1.kept (t' := s1.toks) fun b o e => Heap.get?_push_of_some _ e, turn_list a _, ⟨_, Heap.get?_push_size _ rfl, rfl, rfl⟩, fun b hb => ?_, q⟩
    have e : b = s1.heap.objs.size := by simpa using hb
    subst e
    exact I1.fpOk (Nat.le_refl _) (I1.hok.fresh (Nat.le_refl _))
  · obtain ⟨its, rv, p, hz⟩ := I1.tuple hq
    refine wpAny_pyIter_tuple (show s1.heap.IsTuple a its.toArray from p) ?_
    refine ⟨s1.heap.objs.size, [s1.heap.objs.size], _, _, H1, rfl, I1.kept (t' := s1.toks) fun b o e => Heap.get?_push_of_some _ e, turn_tuple a _, ⟨_, Heap.get?_push_size _ rfl, rfl, rfl⟩, fun b hb => ?_, q⟩
    have e : b = s1.heap.objs.size := by simpa using hb
    subst e
    exact I1.fpOk (Nat.le_refl _) (I1.hok.fresh (Nat.le_refl _))
theorem iw_seq {tg iter : Expr} {Q : Rho → List PyData → Prop} (h : EW X W iter ρ (fun ρ1 d => ∃ ds, (d = .list ds ∨ d = .tuple ds) ∧ Q ρ1 ds) E) : IW X W tg iter ρ Q E := by
  intro F H σ R wd sl kx kk
  refine of_pi (pi_seq pe_w) ?_
  refine h F H σ _ wd sl kx fun F1 H1 ρ1 v d st1 wd1 sl1 dd q => ?_
  obtain ⟨ds, hd, q⟩ := q
  rcases hd with rfl | rfl
  · cases dd with
    | lst hh hs => exact ⟨_, rfl, .inl ⟨⟨_, SqL.of (wd1.sub _ _ hh)⟩, kk F1 H1 ρ1 _ ds st1 wd1 sl1 (itd_list hh hs) q⟩⟩
  · cases dd with
    | tup hh _ hs => exact ⟨_, rfl, .inr ⟨⟨_, wd1.sub.sqt hh⟩, kk F1 H1 ρ1 _ ds st1 wd1 sl1 (itd_tup hh hs) q⟩⟩
theorem iw_range1 (C : Cxt P w K mg base sc N vs ls k X W) {tg : Expr} {Q : Rho → List PyData → Prop} (hm : mg "range" = none) (h : EW X W a ρ (fun ρ1 d => ∃ j : Int, d = .int j ∧ -(2 ^ 62) ≤ j ∧ j < 2 ^ 62 ∧ Q ρ1 (rangeD 0 j.toNat)) E) (hg : sc.names.lookup ("range" : Str) = some .globalImplicit := by decide +kernel)
    (hs : starEach [a] X.env = [(false, eval a X.env)] := by with_unfolding_all rfl) : IW X W tg (.Call (.Name "range" p) [a] [] pos) ρ Q E := by
  intro F H σ R wd sl kx kk
  refine of_pi (pi_range1 (C.gl hg) (by rw [C.eg]; exact hm) (pa_cons pe_w pa_nil hs) hs) ?_
  refine h F H σ _ wd sl kx fun F1 H1 ρ1 v d st1 wd1 sl1 dd q => ?_
  obtain ⟨j, rfl, h1, h2, q⟩ := q
  cases dd
  exact ⟨j, rfl, h1, h2, kk F1 H1 ρ1 _ _ st1 wd1 sl1 itd_range q⟩
theorem iw_range2 (C : Cxt P w K mg base sc N vs ls k X W) {tg : Expr} {Q : Rho → List PyData → Prop} (hm : mg "range" = none) (h : EW X W a ρ (fun ρ1 d => ∃ i : Int, d = .int i ∧ EW X W b ρ1 (fun ρ2 d' => ∃ j : Int, d' = .int j ∧ (-(2 ^ 62) ≤ i ∧ i < 2 ^ 62 ∧ -(2 ^ 62) ≤ j ∧ j < 2 ^ 62) ∧ Q ρ2 (rangeD i (j - i).toNat)) E) E)
    (hg : sc.names.lookup ("range" : Str) = some .globalImplicit := by decide +kernel)
    (hs : starEach [a, b] X.env = [(false, eval a X.env), (false, eval b X.env)] := by with_unfolding_all rfl) (hs2 : starEach [b] X.env = [(false, eval b X.env)] := by with_unfolding_all rfl) : IW X W tg (.Call (.Name "range" p) [a, b] [] pos) ρ Q E := by
  intro F H σ R wd sl kx kk
  refine of_pi (pi_range2 (C.gl hg) (by rw [C.eg]; exact hm) (pa_cons pe_w (pa_cons pe_w pa_nil hs2) (by rw [hs, hs2])) hs hs2) ?_
  refine h F H σ _ wd sl kx fun F1 H1 ρ1 v d st1 wd1 sl1 dd q => ?_
  obtain ⟨i, rfl, q⟩ := q
  cases dd
  refine q F1 H1 σ _ wd1 sl1 (kx.step st1) fun F2 H2 ρ2 v d st2 wd2 sl2 dd q => ?_
  obtain ⟨j, rfl, h1, q⟩ := q
  cases dd
  exact ⟨i, j, rfl, h1, kk F2 H2 ρ2 _ _ (st1.trans st2) wd2 sl2 itd_range q⟩
/-! ### targets, for -/
def WGx (X : Cx) (tg : Expr) : TG := fun v σ H Q => ∀ pins s u, Inv X pins σ H s → RelV v u → wpAny (model X.prog X.w) X.A (assign tg X.env u) (fun _ s' => ∃ σ' H', Inv X pins σ' H' s' ∧ Q σ' H') X.xe s
theorem pg_w {tg : Expr} : PG X tg (WGx X tg) := ⟨fun pins s _ _ _ u _ I r h => h pins s u I r⟩
theorem of_pg {tg : Expr} {t : TG} (q : PG X tg t) {v : V} {σ : L2.St} {H : Hp} {Q : L2.St → Hp → Prop} (h : t v σ H Q) : WGx X tg v σ H Q := fun pins s u I r => q.run pins s σ H v u Q I r h
/-- a target takes plain data -/
def GW (X : Cx) (tg : Expr) (d : PyData) (ρ : Rho) (Q : Rho → Prop) : Prop := ∀ F H σ v (R : L2.St → Hp → Prop), Wd X.K F H ρ → Sl X.K F σ ρ → DD X.K F v d → (∀ σ' ρ', Stp ρ ρ' F H F H → Wd X.K F H ρ' → Sl X.K F σ' ρ' → Q ρ' → R σ' H) → WGx X tg v σ H R
theorem gw_name (C : Cxt P w K mg base sc N vs ls k X W) [sl : Slot N x i] (hl : ls[i]? = some true) {d : PyData} {Q : Rho → Prop} (q : Q (ρ.set i (some (.d d)))) : GW X (.Name x px) d ρ Q := by
  intro F H σ v R wd st dd kk
  refine of_pg (pg_name (i := i) (by rw [C.eN]; exact C.nd) (by rw [C.eN]; exact sl.get) (C.lo sl.get hl) (C.st sl.get hl)) ?_
  exact kk _ _ (Stp.set noD) (wd.set noD) (st.set dd) q
theorem gw_pair (C : Cxt P w K mg base sc N vs ls k X W) {y : Str} {j : Nat} [sx : Slot N x i] [sy : Slot N y j] {py pt : Pos} {kt : Nat} (hl : ls[i]? = some true) (hl2 : ls[j]? = some true) {d1 d2 : PyData} {Q : Rho → Prop} (q : Q ((ρ.set i (some (.d d1))).set j (some (.d d2)))) : GW X (.Tuple [.Name x px, .Name y py] kt pt) (.tuple [d1, d2]) ρ Q := by
  intro F H σ v R wd st dd kk
  have nd : X.N.Nodup := by rw [C.eN]; exact C.nd
  refine of_pg (pg_tup C.calm (pgs_cons (pg_name (i := i) nd (by rw [C.eN]; exact sx.get) (C.lo sx.get hl) (C.st sx.get hl)) (pgs_cons (pg_name (i := j) nd (by rw [C.eN]; exact sy.get) (C.lo sy.get hl2) (C.st sy.get hl2)) pgs_nil))) ?_
  cases dd with
  | tup h _ hs =>
    cases hs with
    | cons h1 hs =>
      cases hs with
      | cons h2 hs =>
        cases hs
        refine ⟨_, _, rfl, wd.sub.sqt h, rfl, _, _, rfl, _, _, rfl, rfl, ?_⟩
        exact kk _ _ ((Stp.set noD).trans (Stp.set noD)) ((wd.set noD).set noD) ((st.set h1).set h2) q
theorem s1_for (C : Cxt P w K mg base sc N vs ls k X W) {tg iter : Expr} {body : List Stmt} (h : IW X W tg iter ρ (fun ρ1 ds => ∃ I : Nat → Rho → Prop, I 0 ρ1 ∧ (∀ n d ρ2, ds[n]? = some d → I n ρ2 → GW X tg d ρ2 (fun ρ3 => SW X W body ρ3 (I (n + 1)) R E)) ∧ ∀ ρ2, I ds.length ρ2 → Nx ρ2) E)
    (hs : ∀ x, foldedSetIterable iter X.env x = pure x := by intro _; with_unfolding_all rfl) : S1 X W (.For tg iter body [] pos) ρ Nx R E := by
  intro F H σ D wd sl kx kn kr
  refine of_ps (ps_for C.po C.calm pi_w pg_w pss_w hs) ?_
  refine h F H σ _ wd sl kx fun F1 H1 ρ1 J ds st1 wd1 sl1 it q => ?_
  obtain ⟨I, i0, turn, fin⟩ := q
  refine ⟨fun n m σ2 H2 => m = ds.length - n ∧ n ≤ ds.length ∧ ∃ F2 ρ2, Stp ρ1 ρ2 F1 H1 F2 H2 ∧ Wd X.K F2 H2 ρ2 ∧ Sl X.K F2 σ2 ρ2 ∧ I n ρ2, ⟨_, rfl, Nat.zero_le _, F1, ρ1, Stp.refl, wd1, sl1, i0⟩, ?_⟩
  rintro n m σ2 H2 ⟨rfl, hn, F2, ρ2, st2, wd2, sl2, i2⟩
  have st12 := st1.trans st2
  by_cases hlt : n < ds.length
  · refine .inr ⟨it.go F2 H2 n st2.ex wd2.sub hlt, fun σ3 H3 => ∃ F3 ρ3, Stp ρ1 ρ3 F1 H1 F3 H3 ∧ Wd X.K F3 H3 ρ3 ∧ Sl X.K F3 σ3 ρ3 ∧ I (n + 1) ρ3, fun σ3 H3 hh => ⟨_, by omega, rfl, hlt, hh⟩, fun y H3 hy => ?_⟩
    have hd : ds[n]? = some ds[n] := List.getElem?_eq_getElem hlt
    obtain ⟨F3, g, dd⟩ := it.yld F2 H2 n y H3 _ st2.ex wd2.sub hd hy
    have wd3 := wd2.gr g
    have sl3 := sl2.mono g.ex
    refine turn n _ ρ2 hd i2 F3 H3 σ2 y _ wd3 sl3 dd fun σ4 ρ4 st4 wd4 sl4 b => ?_
    have st24 : Stp ρ2 ρ4 F2 H2 F3 H3 := g.stp.trans st4
    refine b F3 H3 σ4 _ wd4 sl4 (kx.step (st12.trans st24)) (fun F5 H5 σ5 ρ5 st5 wd5 sl5 i5 => ⟨F5, ρ5, (st2.trans st24).trans st5, wd5, sl5, i5⟩) (fun F5 H5 ρ5 v d st5 wd5 dd5 r => kr F5 H5 ρ5 v d ((st12.trans st24).trans st5) wd5 (dd5.back (st12.trans st24)) r)
  · have e : n = ds.length := by omega
    subst e
    exact .inl ⟨it.stop F2 H2 st2.ex wd2.sub, kn F2 H2 σ2 ρ2 st12 wd2 sl2 (fin ρ2 i2)⟩
end
end Bp

namespace Bp
open PySem PySem.Spec PyProof.Rows L2
/-! ### which names a scope lets see and set -/
def visB (sc : Scope) (x : Str) : Bool := match sc.names.lookup x with
  | some .local => true
  | some .cell => true
  | some .free => true
  | _ => false
def locB (sc : Scope) (x : Str) : Bool := match sc.names.lookup x with
  | some .local => true
  | some .cell => true
  | _ => false
def chkB (f : Str → Bool) : List Str → List Bool → Bool
  | x :: N, b :: bs => (!b || f x) && chkB f N bs
  | [], _ :: _ => false
  | _, [] => true
theorem chkB_ok {f : Str → Bool} : ∀ {N : List Str} {bs : List Bool} {i : Nat} {x : Str}, chkB f N bs = true → N[i]? = some x → bs[i]? = some true → f x = true
  | x :: N, b :: bs, 0, y, h, hx, hb => by
    have h2 := (Bool.and_eq_true_iff.mp (show ((!b || f x) && chkB f N bs) = true from h)).1
    have e1 : x = y := Option.some.inj hx
    have e2 : b = true := Option.some.inj hb
    subst e1 e2
    simpa using h2
  | x :: N, b :: bs, i + 1, y, h, hx, hb => chkB_ok (f := f) (N := N) (bs := bs) (i := i) (Bool.and_eq_true_iff.mp (show ((!b || f x) && chkB f N bs) = true from h)).2 hx hb
  | [], [], i, y, h, hx, hb => by simp at hb
  | _ :: _, [], i, y, h, hx, hb => by simp at hb
  | [], _ :: _, i, y, h, hx, hb => by cases h
theorem vis_of {sc : Scope} {x : Str} (h : visB sc x = true) : Vis sc x := by
  unfold visB at h
  split at h
  · rename_i e
    exact .inl e
  · rename_i e
    exact .inr (.inl e)
  · rename_i e
    exact .inr (.inr e)
  · cases h
theorem loc_of {sc : Scope} {x : Str} (h : locB sc x = true) : Loc sc x := by
  unfold locB at h
  split at h
  · rename_i e
    exact .inl e
  · rename_i e
    exact .inr e
  · cases h
/-! ### a def keeps its promise -/
section
variable {P : Program} {w : World} {K : PySem.W.Frag} {mg : Str → Option Value} {base : Heap} {sc : Scope} {N ps : List Str} {vs : List Bool} {k : Nat} {f : Addr} {fd : FuncData} {x qual : Str} {params : Arguments} {body : List Stmt}
def args (ss : List S) (n : Nat) : Rho := ss.map some ++ List.replicate (n - ss.length) none
theorem args_len {ss : List S} {n : Nat} (h : ss.length ≤ n) : (args ss n).length = n := by
  unfold args
  rw [List.length_append, List.length_map, List.length_replicate]
  omega
theorem args_get {ss : List S} {n i : Nat} {s : S} (h : (args ss n)[i]? = some (some s)) : ss[i]? = some s := by
  unfold args at h
  by_cases hi : i < ss.length
  · rw [List.getElem?_append_left (by rw [List.length_map]; exact hi), List.getElem?_map] at h
    cases q : ss[i]? with
    | none =>
      rw [q] at h
      cases h
    | some z =>
      rw [q] at h
      exact Option.some.inj h
  · rw [List.getElem?_append_right (by rw [List.length_map]; omega), List.getElem?_replicate] at h
    split at h
    · cases (Option.some.inj h)
    · cases h
theorem start_get {vs : List V} {i : Nat} {v : V} {N : List Str} (h : vs[i]? = some v) : (L2.start N vs)[i]? = some (some v) := by
  unfold L2.start
  have hi : i < vs.length := by
    cases Nat.lt_or_ge i vs.length with
    | inl h => exact h
    | inr q =>
      rw [List.getElem?_eq_none q] at h
      cases h
  rw [List.getElem?_append_left (by rw [List.length_map]; exact hi), List.getElem?_map, h]
  rfl
theorem start_len {vs : List V} {N : List Str} (h : vs.length ≤ N.length) : (L2.start N vs).length = N.length := by
  unfold L2.start
  rw [List.length_append, List.length_map, List.length_replicate]
  omega
theorem ps_le {N ps : List Str} {sc : Scope} (S : FnScope N ps sc) : ps.length ≤ N.length := by
  have h := congrArg List.length S.pre
  rw [List.length_take] at h
  omega
theorem cxt_of {A : Around} {outer : List Env} {s : Shared} {H : Hp} {E : XK} {cdv : Value} (S : FnScope N ps sc) (hv : chkB (locB sc) N vs = true) (hr : Room k (A.deeper (envOfC qual sc s.heap.objs.size f cdv))) :
    Cxt P w K mg base sc N vs vs k (cxOf (L2.CX P w) P w K mg base N qual sc f cdv A outer s H E) (fun cls d _ H => E cls d H) where
  eP := rfl
  ew := rfl
  eK := rfl
  eg := rfl
  eb := rfl
  eN := rfl
  nd := S.nd
  es := rfl
  vis := fun i x h hb => by
    rcases loc_of (chkB_ok hv h hb) with q | q
    · exact .inl q
    · exact .inr (.inl q)
  loc := fun i x h hb => ⟨loc_of (chkB_ok hv h hb), .inl rfl⟩
  calm := rfl
  room := hr
  tk := takes_of rfl rfl rfl rfl
  po := passes_of rfl
/-- a def's own frame -/
structure Frm (X : Cx) : Prop where
  stk : X.stack = X.env :: X.outer
  fr : X.env.frame = some X.env.locals
theorem fn_ok {Pf : PF} (F : FunD K x qual params body sc [] [] f fd) (Sc : FnScope N ps sc) (len : ∀ ds Q E, Pf ds Q E → ds.length = ps.length) (hv : chkB (locB sc) N vs = true)
    (hbody : ∀ X W, Cxt P w K mg base sc N vs vs k X W → Frm X → ∀ ds Q E, Pf ds Q E → SW X W body (args (ds.map S.d) N.length) (fun _ => Q (.d .none)) (fun _ r => Q r) (fun _ y => E y)) : FnOk P w K mg base (L2.CX P w) (k + 1) f fd ps (spP K Pf) := by
  refine F.ok Sc (fun vs H Q E h => ?_) (fun cdv A outer s H vs Q E hr h => ?_)
  · obtain ⟨F, ds, Qd, Ed, _, dd, pf, _⟩ := h
    rw [dd.length]
    exact len ds Qd Ed pf
  · obtain ⟨F0, ds, Qd, Ed, ex, dd, pf, kq, ke⟩ := h
    have C := cxt_of (P := P) (w := w) (K := K) (mg := mg) (base := base) (outer := outer) (s := s) (H := H) (E := E) (cdv := cdv) (f := f) (qual := qual) Sc hv hr
    refine ⟨_, pss_w, ?_⟩
    have hl : ds.length = ps.length := len ds Qd Ed pf
    have no : ∀ a, ¬ Owns (args (ds.map S.d) N.length) a := fun a ⟨i, o, q⟩ => by
      have z := args_get q
      rw [List.getElem?_map] at z
      cases e : ds[i]? with
      | none =>
        rw [e] at z
        cases z
      | some y =>
        rw [e] at z
        cases z
    have wd : Wd K F0 H (args (ds.map S.d) N.length) := ⟨ex, fun i a o q => absurd ⟨i, o, q⟩ (no a), fun i _ a o _ q _ => absurd ⟨i, o, q⟩ (no a)⟩
    have sl : Sl K F0 (L2.start N vs) (args (ds.map S.d) N.length) := by
      refine ⟨?_, fun i z q => ?_⟩
      · rw [start_len (by rw [dd.length, hl]; exact ps_le Sc), args_len (by rw [List.length_map, hl]; exact ps_le Sc)]
      · have z2 := args_get q
        rw [List.getElem?_map] at z2
        cases e : ds[i]? with
        | none =>
          rw [e] at z2
          cases z2
        | some y =>
          rw [e] at z2
          cases z2
          obtain ⟨v, h1, h2⟩ := dd.get e
          exact ⟨v, start_get h1, h2⟩
    have gr : ∀ {F' H' : Hp} {ρ' : Rho}, Stp (args (ds.map S.d) N.length) ρ' F0 H F' H' → Wd K F' H' ρ' → Gr F0 H F' H' := fun st wd' => ⟨st.ex, fun a o q => st.keep a o q (no a), wd'.sub, fun a o q q' => st.fr a o q q' (no a)⟩
    refine hbody _ _ C ⟨rfl, rfl⟩ ds Qd Ed pf F0 H _ _ wd sl (fun F' H' σ' ρ' y xd st wd' sl' xa e => ?_) (fun F' H' σ' ρ' st wd' sl' n => ?_) (fun F' H' ρ' v d st wd' rt r => ?_)
    · exact ke F' H' y xd (gr st wd') xa e
    · exact kq F' H' .non (.d .none) (gr st wd') .non n
    · refine kq F' H' v d (gr st wd') ?_ r
      cases d with
      | d d => exact rt
      | new o =>
        obtain ⟨q, ho, e, h0, f, _, h⟩ := rt
        exact ⟨q, ho, e, .inl (h0.resolve_right (no q)), f, fun ⟨j, o', z⟩ => by simp at z, h⟩
      | nest dss =>
        obtain ⟨p, as, e, h0, f, _, hh, nd, hl, each⟩ := rt
        refine ⟨p, as, e, h0, f, fun ⟨j, o', z⟩ => by simp at z, hh, nd, hl, fun i a ds ha hd => ?_⟩
        obtain ⟨g0, g1, _, g2⟩ := each i a ds ha hd
        exact ⟨g0, g1, fun ⟨j, o', z⟩ => by simp at z, g2⟩
end
/-! ### list comprehensions -/
section
variable {P : Program} {w : World} {K : PySem.W.Frag} {mg : Str → Option Value} {base : Heap} {sc scope : Scope} {N : List Str} {vs ls vb lb : List Bool} {k : Nat} {X : Cx} {W : WX} {ρ : Rho} {E : XQ} {e elt iter : Expr} {ifs : List Expr} {pos p px : Pos} {x : Str} {i : Nat}
abbrev W0 : WX := fun _ _ _ _ => False
/-- the block of a comprehension, where it runs -/
theorem Cxt.blk (C : Cxt P w K mg base sc N vs ls k X W) (hv : chkB (visB (relS scope sc)) N vb = true) (hl : chkB (locB scope) N lb = true) (s : Shared) (H : Hp) (A : Addr) (cl : List (Str × Addr)) (fp : List Addr) :
    Cxt P w K mg base (relS scope sc) N vb lb k (X.blk s H scope (compEnvC scope cl A X.env) fp) W0 where
  eP := C.eP
  ew := C.ew
  eK := C.eK
  eg := C.eg
  eb := C.eb
  eN := C.eN
  nd := C.nd
  es := by
    rw [← C.es]
    rfl
  vis := fun i x h hb => vis_of (chkB_ok hv h hb)
  loc := fun i x h hb => by
    have z := chkB_ok hl h hb
    rcases loc_of z with q | q
    · have q2 : (relS scope sc).names.lookup x = some .local := lookup_relS_keep (by decide) q
      exact ⟨.inl q2, .inr q2⟩
    · have q2 : (relS scope sc).names.lookup x = some .cell := lookup_relS_keep (by decide) q
      refine ⟨.inr q2, .inl ?_⟩
      show (scope.names.lookup x == some NameKind.cell) = true
      rw [q]
      rfl
  calm := C.calm
  room := C.room
  tk := takes0
  po := PassesOwn.never
/-- the tests of a comprehension -/
def TsW (X : Cx) (ifs : List Expr) (ρ : Rho) (Q : Bool → Prop) : Prop := match ifs with
  | [] => Q true
  | [c] => TW X W0 c ρ (fun ρ1 b => ρ1 = ρ ∧ Q b) noX
  | _ => False
def WTs (X : Cx) (ifs : List Expr) : TT := fun σ H Q => ∀ pins s, Inv X pins σ H s →
    wpAny (model X.prog X.w) X.A (forIn ifs true fun c r => if r = true then do let ok ← isTrue c X.env (eval c X.env); pure (ForInStep.yield ok) else pure (ForInStep.yield r)) (TP X pins σ Q) X.xe s
theorem of_pts {t : TT} (q : PTs X ifs t) {σ : L2.St} {H : Hp} {Q : Bool → Hp → Prop} (h : t σ H Q) : WTs X ifs σ H Q := fun pins s I => q.run pins s σ H Q I h
theorem pts_w : PTs X ifs (WTs X ifs) := ⟨fun pins s _ _ _ I h => h pins s I⟩
theorem kx0 {F H : Hp} : Kx X.K W0 ρ F H noX := fun _ _ _ _ _ _ _ _ _ _ z => z
theorem tsw_ok {Q : Bool → Prop} (h : TsW X ifs ρ Q) {F H : Hp} {σ : L2.St} {R : Bool → Hp → Prop} (wd : Wd X.K F H ρ) (sl : Sl X.K F σ ρ) (kk : ∀ F' H' b, Stp ρ ρ F H F' H' → Wd X.K F' H' ρ → Sl X.K F' σ ρ → Q b → R b H') : WTs X ifs σ H R := by
  match ifs, h with
  | [], h => exact of_pts pts_nil (kk F H true Stp.refl wd sl h)
  | [c], h =>
    refine of_pts (pts_one pt_w) ?_
    refine h F H σ _ wd sl kx0 fun F1 H1 ρ1 b st1 wd1 sl1 q => ?_
    obtain ⟨rfl, q⟩ := q
    exact kk F1 H1 b st1 wd1 sl1 q
  | _ :: _ :: _, h => exact h.elim
/-- a piece of code in whatever block -/
def anyB (X : Cx) (scope : Scope) {α : Type} (t : Cx → α → Prop) : α → Prop := fun z => ∀ (s : Shared) (H : Hp) (A : Addr) (cl : List (Str × Addr)) (fp : List Addr), t (X.blk s H scope (compEnvC scope cl A X.env) fp) z
theorem wipe1 {σ : L2.St} {v : Option V} : wipe ((wipe σ [i]).set i v) [i] = wipe σ [i] := by
  show ((σ.set i none).set i v).set i none = σ.set i none
  rw [List.set_set, List.set_set]
theorem sl_in {F : Hp} {σ : L2.St} {v : V} {d : PyData} (s : Sl K F σ ρ) (hd : DD K F v d) : Sl K F ((wipe σ [i]).set i (some v)) (ρ.set i (some (.d d))) := by
  have e : (wipe σ [i]).set i (some v) = σ.set i (some v) := by
    show (σ.set i none).set i (some v) = _
    rw [List.set_set]
  rw [e]
  exact s.set hd
def NoOwn (ρ : Rho) (i : Nat) : Prop := ∀ a o, ρ[i]? ≠ some (some (S.own a o))
/-- the list at D grows beside -/
theorem Wd.side {F H : Hp} {D : Addr} {o : HO} (w : Wd K F H ρ) (f : F D = none) (n : ¬ Owns ρ D) : Wd K F (upd H D o) ρ where
  sub := fun a u q => by
    rw [upd_ne (ne_of_none q f)]
    exact w.sub a u q
  own := fun j a u q => by
    obtain ⟨h1, ho, h2, h3⟩ := w.own j a u q
    have ne : a ≠ D := fun z => n (z ▸ ⟨j, u, q⟩)
    exact ⟨h1, ho, by rw [upd_ne ne]; exact h2, h3⟩
  dis := w.dis
abbrev LcTurn (P : Program) (w : World) (K : PySem.W.Frag) (mg : Str → Option Value) (base : Heap) (sc' : Scope) (N : List Str) (vb lb : List Bool) (k : Nat) (ifs : List Expr) (elt : Expr) (ρ : Rho) (I I' : List PyData → Prop) (acc : List PyData) : Prop := ∀ Xb, Cxt P w K mg base sc' N vb lb k Xb W0 →
  TsW Xb ifs ρ (fun b => (b = true → ∀ Xe, Cxt P w K mg base sc' N vb lb k Xe W0 → EW Xe W0 elt ρ (fun ρ4 y => ρ4 = ρ ∧ I' (acc ++ [y])) noX) ∧ (b = false → I' acc))
theorem lc_read (C : Cxt P w K mg base sc N vs ls k X W) [sx : Slot N x i] {Q : Rho → List PyData → Prop}
    (h : IW X W (.Name x px) iter ρ (fun ρ1 ds => ds.length ≤ 16777216 ∧ NoOwn ρ1 i ∧ ∃ I : Nat → List PyData → Prop, I 0 [] ∧ (∀ n d acc, ds[n]? = some d → I n acc → ∀ Xb, Cxt P w K mg base (relS scope sc) N vb lb k Xb W0 →
        TsW Xb ifs (ρ1.set i (some (.d d))) (fun b => (b = true → ∀ Xe, Cxt P w K mg base (relS scope sc) N vb lb k Xe W0 → EW Xe W0 elt (ρ1.set i (some (.d d))) (fun ρ4 y => ρ4 = ρ1.set i (some (.d d)) ∧ I (n + 1) (acc ++ [y])) noX) ∧ (b = false → I (n + 1) acc))) ∧ ∀ acc, I ds.length acc → Q ρ1 acc) E)
    (hv : chkB (visB (relS scope sc)) N vb = true) (hl : chkB (locB scope) N lb = true) {F H : Hp} {σ : L2.St} {R : VK} (wd : Wd X.K F H ρ) (sl : Sl X.K F σ ρ) (kx : Kx X.K W ρ F H E)
    (kk : ∀ F' H' ρ' p xs ds, Stp ρ ρ' F H F' H' → Wd X.K F' H' ρ' → Sl X.K F' σ ρ' → H p = none → F' p = none → ¬ Owns ρ' p → H' p = some (.lst xs) → DDs X.K F' xs ds → Q ρ' ds → R (.ref p) H') :
    tLc (WIx X (.Name x px) iter) (gName i) (fun σ H Q => anyB X scope (fun Xb (_ : Unit) => WTs Xb ifs σ H Q) ()) (fun σ H Q => anyB X scope (fun Xb (_ : Unit) => WEx Xb elt σ H Q) ()) [i] σ H R := by
  refine h F H σ _ wd sl kx fun F1 H1 ρ1 J ds st1 wd1 sl1 it q => ?_
  obtain ⟨hlen, hno, I, i0, turn, fin⟩ := q
  intro D hD
  have hF1 : F1 D = none := wd1.sub.none hD
  have hnD : ¬ Owns ρ1 D := fun ⟨j, o, q⟩ => by
    obtain ⟨_, ho, h2, _⟩ := wd1.own j D o q
    rw [hD] at h2
    cases h2
  -- what holds ahead of each turn: the heaps, the list so far
  refine ⟨fun n m H2 => m = ds.length - n ∧ n ≤ ds.length ∧ ∃ F2 xs acc, Stp ρ1 ρ1 F1 H1 F2 H2 ∧ Wd X.K F2 H2 ρ1 ∧ F2 D = none ∧ H2 D = some (.lst xs) ∧ DDs X.K F2 xs acc ∧ acc.length ≤ n ∧ I n acc,
    ⟨_, rfl, Nat.zero_le _, F1, [], [], ⟨Ex.refl _, fun a o q _ => ?_, fun _ _ f _ _ => f, fun _ q => .inl q, fun a q => ?_⟩, wd1.side hF1 hnD, hF1, upd_same, .nil, Nat.le_refl _, i0⟩, ?_⟩
  · rw [upd_ne (ne_of_none q hD)]
    exact q
  · by_cases z : a = D
    · rw [z]
      exact hD
    · rw [upd_ne z] at q
      exact q
  rintro n m H2 ⟨rfl, hn, F2, xs, acc, st2, wd2, f2, h2, dd2, hacc, i2⟩
  have st12 := st1.trans st2
  have sl2 : Sl X.K F2 σ ρ1 := sl1.mono st2.ex
  by_cases hlt : n < ds.length
  · refine .inr ⟨it.go F2 H2 n st2.ex wd2.sub hlt, fun H3 => ∃ F3 xs acc, Stp ρ1 ρ1 F1 H1 F3 H3 ∧ Wd X.K F3 H3 ρ1 ∧ F3 D = none ∧ H3 D = some (.lst xs) ∧ DDs X.K F3 xs acc ∧ acc.length ≤ n + 1 ∧ I (n + 1) acc, fun H3 hh => ⟨_, by omega, rfl, hlt, hh⟩, fun y H3 hy => ?_⟩
    have hd : ds[n]? = some ds[n] := List.getElem?_eq_getElem hlt
    obtain ⟨F3, g, dd3⟩ := it.yld F2 H2 n y H3 _ st2.ex wd2.sub hd hy
    have f3 : F3 D = none := g.fr D _ f2 h2
    have h3 : H3 D = some (.lst xs) := g.exH D _ h2
    have wd3 := wd2.gr g
    have sl3 : Sl X.K F3 σ ρ1 := sl2.mono g.ex
    have hnb : ∀ a, Owns (ρ1.set i (some (.d ds[n]))) a ↔ Owns ρ1 a := fun a => ⟨fun ⟨j, o, q⟩ => ⟨j, o, set_own noD q⟩, fun ⟨j, o, q⟩ => ⟨j, o, by
      rw [List.getElem?_set]
      split
      · rename_i e
        subst e
        exact absurd q (hno a o)
      · exact q⟩⟩
    have slb : Sl X.K F3 ((wipe σ [i]).set i (some y)) (ρ1.set i (some (.d ds[n]))) := sl_in sl3 dd3
    have wdb : Wd X.K F3 H3 (ρ1.set i (some (.d ds[n]))) := wd3.set noD
    -- a step within the block is one outside
    have back : ∀ {F4 H4 : Hp}, Stp (ρ1.set i (some (.d ds[n]))) (ρ1.set i (some (.d ds[n]))) F3 H3 F4 H4 → Wd X.K F4 H4 (ρ1.set i (some (.d ds[n]))) → Stp ρ1 ρ1 F1 H1 F4 H4 ∧ Wd X.K F4 H4 ρ1 ∧ F4 D = none ∧ H4 D = some (.lst xs) := by
      intro F4 H4 st4 wd4
      have nb : ¬ Owns (ρ1.set i (some (.d ds[n]))) D := fun q => hnD ((hnb D).mp q)
      have s4 : Stp ρ1 ρ1 F3 H3 F4 H4 := ⟨st4.ex, fun a o q z => st4.keep a o q (fun zz => z ((hnb a).mp zz)), fun a o f q z => st4.fr a o f q (fun zz => z ((hnb a).mp zz)), fun a q => .inl q, st4.all⟩
      refine ⟨(st2.trans g.stp).trans s4, ⟨wd4.sub, fun j a o q => ?_, wd1.dis⟩, st4.fr D _ f3 h3 nb, st4.keep D _ h3 nb⟩
      refine wd4.own j a o ?_
      rw [List.getElem?_set]
      split
      · rename_i e
        subst e
        exact absurd q (hno a o)
      · exact q
    refine ⟨wipe1, fun s0 Hs A cl fp => ?_⟩
    have Cb := C.blk (scope := scope) (vb := vb) (lb := lb) hv hl s0 Hs A cl fp
    refine tsw_ok (turn n _ acc hd i2 _ Cb) wdb slb fun F4 H4 b st4 wd4 sl4 q => ?_
    cases b with
    | true =>
      rw [if_pos rfl]
      intro s0 Hs A cl fp
      have Cb := C.blk (scope := scope) (vb := vb) (lb := lb) hv hl s0 Hs A cl fp
      refine q.1 rfl _ Cb F4 H4 _ _ wd4 sl4 kx0 fun F5 H5 ρ5 z dz st5 wd5 sl5 dd5 q5 => ?_
      obtain ⟨rfl, q5⟩ := q5
      obtain ⟨s5, w5, f5, h5⟩ := back (st4.trans st5) wd5
      refine ⟨xs, h5, ?_, F5, xs ++ [z], acc ++ [dz], ?_, w5.side f5 hnD, f5, upd_same, (dd2.mono (g.ex.trans (st4.ex.trans st5.ex))).append (.cons dd5 .nil), by rw [List.length_append]; show acc.length + 1 ≤ n + 1; omega, q5⟩
      · rw [dd2.length, sizeLine_eq]
        omega
      · refine ⟨s5.ex, fun a o q z => ?_, s5.fr, s5.own, fun a q => ?_⟩
        · have ne : a ≠ D := ne_of_none q hD
          rw [upd_ne ne]
          exact s5.keep a o q z
        · by_cases z : a = D
          · rw [z]
            exact hD
          · rw [upd_ne z] at q
            exact s5.all a q
    | false =>
      rw [if_neg Bool.false_ne_true]
      obtain ⟨s5, w5, f5, h5⟩ := back st4 wd4
      exact ⟨F4, xs, acc, s5, w5, f5, h5, dd2.mono (g.ex.trans st4.ex), by omega, q.2 rfl⟩
  · have e : n = ds.length := by omega
    subst e
    refine .inl ⟨it.stop F2 H2 st2.ex wd2.sub, ?_⟩
    exact kk F2 H2 ρ1 D xs acc st12 wd2 sl2 (st1.all D hD) f2 hnD h2 dd2 (fin acc i2)
end
end Bp

namespace Bp
open PySem PySem.Spec PyProof.Rows L2
/-! ### isinstance -/
def tyD : PyData → String
  | .none => "NoneType"
  | .bool _ => "bool"
  | .int _ => "int"
  | .str _ => "str"
  | .list _ => "list"
  | .tuple _ => "tuple"
  | .dict _ => "dict"
theorem dd_ty {K : PySem.W.Frag} {F H : Hp} {v : V} {d : PyData} (e : Ex F H) (h : DD K F v d) : TyX K H v (.type (tyD d)) := by
  cases h with
  | non => exact .base .non
  | bl b => exact .base (.bl b)
  | int i => exact .base (.int i)
  | str z => exact .base (.str z)
  | lst q _ => exact .base (.lst (e _ _ q))
  | dct q _ _ => exact .fDict (e _ _ q)
  | tup q _ _ =>
    rcases q with (q | ⟨o, q⟩) | q
    · exact .base (.tup (e _ _ q))
    · exact .fTuple (e _ _ q)
    · obtain ⟨ob, its, n, h1, h2, _⟩ := q
      exact .kTuple h1 h2
/-- is data of this kind an instance of the built-in class -/
def isi (d : PyData) (T : String) : Bool := (kitB (tyD d) T).getD false
section
variable {P : Program} {w : World} {K : PySem.W.Frag} {mg : Str → Option Value} {base : Heap} {sc : Scope} {N : List Str} {vs ls : List Bool} {k : Nat} {X : Cx} {W : WX} {ρ : Rho} {Q : Rho → PyData → Prop} {E : XQ} {a b c e : Expr} {es : List Expr} {pos p p2 : Pos} {x y : Str} {i : Nat}
theorem ew_isi (C : Cxt P w K mg base sc N vs ls k X W) {T : String} (hv : bootBuiltins x = some (.type T)) (hm : mg "isinstance" = none) (hm2 : mg x = none) (h : EW X W e ρ (fun ρ1 d => ∃ b, kitB (tyD d) T = some b ∧ Q ρ1 (.bool b)) E)
    (hg : sc.names.lookup ("isinstance" : Str) = some .globalImplicit := by decide +kernel) (hg2 : sc.names.lookup x = some .globalImplicit := by decide +kernel) (hn : x ≠ "__name__" := by decide) (hd : (x == ("__debug__" : Str)) = false := by decide)
    (he : starEach [e, .Name x p2] X.env = (false, eval e X.env) :: starEach [.Name x p2] X.env := by with_unfolding_all rfl) : EW X W (.Call (.Name "isinstance" p) [e, .Name x p2] [] pos) ρ Q E := by
  intro F H σ R wd sl kx kk
  refine of_pe (pe_callB call_isi (C.gl hg) (by rw [C.eg]; exact hm) (by decide +kernel) (pa_cons pe_w (pa_cons (pe_bltn (v := .ty T) (C.gl hg2) (by rw [C.eg]; exact hm2) hv rfl hn hd) pa_nil) he) (by decide) (by decide) he rfl) ?_
  refine h F H σ _ wd sl kx fun F1 H1 ρ1 v d st1 wd1 sl1 dd1 q => ?_
  obtain ⟨b, hb, q⟩ := q
  exact ⟨v, .ty T, _, _, b, rfl, .ty T, dd_ty wd1.sub dd1, kit_ty hb, kk F1 H1 ρ1 _ _ st1 wd1 sl1 (.bl b) q⟩
theorem ew_isi2 (C : Cxt P w K mg base sc N vs ls k X W) {T U : String} {j : Nat} {p3 p4 : Pos} (hv : bootBuiltins x = some (.type T)) (hv2 : bootBuiltins y = some (.type U)) (hm : mg "isinstance" = none) (hm2 : mg x = none) (hm3 : mg y = none)
    (h : EW X W e ρ (fun ρ1 d => ∃ b c, kitB (tyD d) T = some b ∧ kitB (tyD d) U = some c ∧ Q ρ1 (.bool (b || c))) E)
    (hg : sc.names.lookup ("isinstance" : Str) = some .globalImplicit := by decide +kernel) (hg2 : sc.names.lookup x = some .globalImplicit := by decide +kernel) (hg3 : sc.names.lookup y = some .globalImplicit := by decide +kernel) (hn : x ≠ "__name__" := by decide) (hd : (x == ("__debug__" : Str)) = false := by decide) (hn2 : y ≠ "__name__" := by decide) (hd2 : (y == ("__debug__" : Str)) = false := by decide)
    (he : starEach [e, .Tuple [.Name x p2, .Name y p3] j p4] X.env = (false, eval e X.env) :: starEach [.Tuple [.Name x p2, .Name y p3] j p4] X.env := by with_unfolding_all rfl) : EW X W (.Call (.Name "isinstance" p) [e, .Tuple [.Name x p2, .Name y p3] j p4] [] pos) ρ Q E := by
  intro F H σ R wd sl kx kk
  refine of_pe (pe_callB call_isiT (C.gl hg) (by rw [C.eg]; exact hm) (by decide +kernel) (pa_cons pe_w (pa_cons (pe_tup (pa_cons (pe_bltn (v := .ty T) (C.gl hg2) (by rw [C.eg]; exact hm2) hv rfl hn hd) (pa_cons (pe_bltn (v := .ty U) (C.gl hg3) (by rw [C.eg]; exact hm3) hv2 rfl hn2 hd2) pa_nil))) pa_nil) he) (by decide) (by decide) he rfl) ?_
  refine h F H σ _ wd sl kx fun F1 H1 ρ1 v d st1 wd1 sl1 dd1 q => ?_
  obtain ⟨b, c, hb, hc, q⟩ := q
  refine ⟨by rw [sizeLine_eq]; show 2 ≤ 16777216; omega, fun t ht => ?_⟩
  have g : Gr F1 H1 F1 (upd H1 t (.tup [.ty T, .ty U])) := Gr.side wd1.sub ht
  refine ⟨v, t, _, _, [.type T, .type U], b || c, rfl, upd_same, .cons (.ty T) (.cons (.ty U) .nil), dd_ty g.sub dd1, ?_, kk _ _ ρ1 _ _ (st1.trans g.stp) (wd1.gr g) (sl1.mono g.ex) (.bl _) q⟩
  refine kitAny_cons (kit_ty hb) (fun z => ?_) (fun z => by rw [z]; rfl)
  subst z
  refine kitAny_cons (kit_ty hc) (fun z => ?_) (fun z => by rw [z]; rfl)
  subst z
  exact kitAny_nil
/-! ### new lists -/
/-- an expression that makes a new list -/
def EN (X : Cx) (W : WX) (e : Expr) (ρ : Rho) (Q : Rho → List PyData → Prop) (E : XQ) : Prop := ∀ F H σ (R : VK), Wd X.K F H ρ → Sl X.K F σ ρ → Kx X.K W ρ F H E →
  (∀ F' H' ρ' p xs ds, Stp ρ ρ' F H F' H' → Wd X.K F' H' ρ' → Sl X.K F' σ ρ' → H p = none → F' p = none → ¬ Owns ρ' p → H' p = some (.lst xs) → DDs X.K F' xs ds → Q ρ' ds → R (.ref p) H') → WEx X e σ H R
theorem ew_en (h : EN X W e ρ (fun ρ1 ds => Q ρ1 (.list ds)) E) : EW X W e ρ Q E := by
  intro F H σ R wd sl kx kk
  refine h F H σ _ wd sl kx fun F1 H1 ρ1 p xs ds st1 wd1 sl1 hp fp np hh dd q => ?_
  obtain ⟨s2, w2, e2, d2⟩ := frz st1 wd1 (.inl hp) fp np hh dd
  exact kk _ H1 ρ1 _ _ s2 w2 (sl1.mono e2) d2 q
theorem en_lst {Q : Rho → List PyData → Prop} (h : AW X W es ρ (fun ρ1 ds => ds.length ≤ 16777216 ∧ Q ρ1 ds) E) : EN X W (.List es pos) ρ Q E := by
  intro F H σ R wd sl kx kk
  refine of_pe (pe_lst pa_w) ?_
  refine h F H σ _ wd sl kx fun F1 H1 ρ1 vs ds st1 wd1 sl1 dd1 h1 => ?_
  refine ⟨by rw [dd1.length, sizeLine_eq]; exact h1.1, fun p hp => ?_⟩
  have g : Gr F1 H1 F1 (upd H1 p (.lst vs)) := Gr.side wd1.sub hp
  refine kk F1 _ ρ1 p vs ds (st1.trans g.stp) (wd1.gr g) sl1 (st1.all p hp) (wd1.sub.none hp) (fun ⟨j, o, q⟩ => ?_) upd_same dd1 h1.2
  obtain ⟨_, ho, h2, _⟩ := wd1.own j p o q
  rw [hp] at h2
  cases h2
theorem ew_lst (h : AW X W es ρ (fun ρ1 ds => ds.length ≤ 16777216 ∧ Q ρ1 (.list ds)) E) : EW X W (.List es pos) ρ Q E := ew_en (en_lst h)
end
section
variable {P : Program} {w : World} {K : PySem.W.Frag} {mg : Str → Option Value} {base : Heap} {sc scope : Scope} {N : List Str} {vs ls vb lb : List Bool} {k : Nat} {X : Cx} {W : WX} {ρ : Rho} {E : XQ} {e elt iter : Expr} {ifs : List Expr} {pos p px py spos : Pos} {x y : Str} {i j : Nat}
/-- the comprehension's own word: what it walks, what it makes -/
abbrev LcW (P : Program) (w : World) (K : PySem.W.Frag) (mg : Str → Option Value) (base : Heap) (sc scope : Scope) (N : List Str) (vb lb : List Bool) (k : Nat) (X : Cx) (W : WX) (tg iter : Expr) (i : Nat) (ifs : List Expr) (elt : Expr) (ρ : Rho) (Q : Rho → List PyData → Prop) (E : XQ) : Prop :=
  IW X W tg iter ρ (fun ρ1 ds => ds.length ≤ 16777216 ∧ NoOwn ρ1 i ∧ ∃ I : Nat → List PyData → Prop, I 0 [] ∧ (∀ n d acc, ds[n]? = some d → I n acc → LcTurn P w K mg base (relS scope sc) N vb lb k ifs elt (ρ1.set i (some (.d d))) (I n) (I (n + 1)) acc) ∧ ∀ acc, I ds.length acc → Q ρ1 acc) E
theorem own1_ok (hx : N[i]? = some x) (hb : blkC N sc scope [(x, i)] = true) : BlkOk N sc scope [(x, i)] := blkOk_by hb
theorem en_lc (C : Cxt P w K mg base sc N vs ls k X W) [sx : Slot N x i] {Q : Rho → List PyData → Prop} (h : LcW P w K mg base sc scope N vb lb k X W (.Name x px) iter i ifs elt ρ Q E) (hv : chkB (visB (relS scope sc)) N vb = true := by decide +kernel) (hl : chkB (locB scope) N lb = true := by decide +kernel)
    (hb : blkC N sc scope [(x, i)] = true := by decide +kernel) (hli : lb[i]? = some true := by with_unfolding_all rfl) (hs : ∀ x, foldedSetIterable iter X.env x = pure x := by intro _; with_unfolding_all rfl) : EN X W (.ListComp elt [⟨.Name x px, iter, ifs, 0⟩] scope pos) ρ Q E := by
  intro F H σ R wd sl kx kk
  have ok : BlkOk X.N X.env.scope scope [(x, i)] := by
    rw [C.eN, C.es]
    exact blkOk_by hb
  refine of_pe (pe_lc (own := [(x, i)]) (g := gName i) C.calm (by rw [C.eN]; exact C.nd) pi_w ok (fun s H A cl fp => ?_) (fun s H A cl fp => ?_) (fun s H A cl fp => ?_) hs) (lc_read C h hv hl wd sl kx kk)
  · have Cb := C.blk (scope := scope) (vb := vb) (lb := lb) hv hl s H A cl fp
    exact pg_name (by rw [Cb.eN]; exact Cb.nd) (by rw [Cb.eN]; exact sx.get) (Cb.lo sx.get hli) (Cb.st sx.get hli)
  · exact ⟨fun pins s' σ' H' Q' I' h' => h' s H A cl fp pins s' I'⟩
  · exact ⟨fun pins s' σ' H' Q' I' h' => h' s H A cl fp pins s' I'⟩
theorem ew_lc (C : Cxt P w K mg base sc N vs ls k X W) [sx : Slot N x i] {Q : Rho → PyData → Prop} (h : LcW P w K mg base sc scope N vb lb k X W (.Name x px) iter i ifs elt ρ (fun ρ1 ds => Q ρ1 (.list ds)) E) (hv : chkB (visB (relS scope sc)) N vb = true := by decide +kernel) (hl : chkB (locB scope) N lb = true := by decide +kernel)
    (hb : blkC N sc scope [(x, i)] = true := by decide +kernel) (hli : lb[i]? = some true := by with_unfolding_all rfl) (hs : ∀ x, foldedSetIterable iter X.env x = pure x := by intro _; with_unfolding_all rfl) : EW X W (.ListComp elt [⟨.Name x px, iter, ifs, 0⟩] scope pos) ρ Q E := ew_en (en_lc C h hv hl hb hli hs)
/-- y = [..] -/
theorem s1_setLc (C : Cxt P w K mg base sc N vs ls k X W) [sx : Slot N x i] [sy : Slot N y j] {Nx : Rho → Prop} {R : Rho → Ret → Prop} (h : LcW P w K mg base sc scope N vb lb k X W (.Name x px) iter i ifs elt ρ (fun ρ1 ds => Nx (ρ1.set j (some (.d (.list ds))))) E) (hv : chkB (visB (relS scope sc)) N vb = true := by decide +kernel) (hl : chkB (locB scope) N lb = true := by decide +kernel)
    (hb : blkC N sc scope [(x, i)] = true := by decide +kernel) (hli : lb[i]? = some true := by with_unfolding_all rfl) (hs : ∀ x, foldedSetIterable iter X.env x = pure x := by intro _; with_unfolding_all rfl)
    (hk : sc.kind = .function := by with_unfolding_all rfl) (hy : sc.names.lookup y = some .local := by decide +kernel) (hln : (py.line == pos.line) = true := by with_unfolding_all rfl) (hany : (scope.names.any fun (n, k) => n == y && (k == .local || k == .cell)) = false := by decide +kernel) :
    S1 X W (.Assign [.Name y py] (.ListComp elt [⟨.Name x px, iter, ifs, 0⟩] scope pos) spos) ρ Nx R E := by
  intro F H σ D wd sl kx kn kr
  have ok : BlkOk X.N X.env.scope scope [(x, i)] := by
    rw [C.eN, C.es]
    exact blkOk_by hb
  have hyl : X.env.scope.names.lookup y = some .local := by
    rw [C.es]
    exact hy
  have hk2 : X.env.scope.kind = .function := by
    rw [C.es]
    exact hk
  refine of_ps (ps_setLc (i := j) (own := [(x, i)]) (g := gName i) C.calm (by rw [C.eN]; exact C.nd) (by rw [C.eN]; exact sy.get) hyl (sw_true hk2 hyl hln hany) pi_w ok (fun s H A cl fp => ?_) (fun s H A cl fp => ?_) (fun s H A cl fp => ?_) hs) (lc_read C h hv hl wd sl kx fun F1 H1 ρ1 p xs ds st1 wd1 sl1 hp fp np hh dd q => ?_)
  · have Cb := C.blk (scope := scope) (vb := vb) (lb := lb) hv hl s H A cl fp
    exact pg_name (by rw [Cb.eN]; exact Cb.nd) (by rw [Cb.eN]; exact sx.get) (Cb.lo sx.get hli) (Cb.st sx.get hli)
  · exact ⟨fun pins s' σ' H' Q' I' h' => h' s H A cl fp pins s' I'⟩
  · exact ⟨fun pins s' σ' H' Q' I' h' => h' s H A cl fp pins s' I'⟩
  · obtain ⟨s2, w2, e2, d2⟩ := frz st1 wd1 (.inl hp) fp np hh dd
    exact kn _ _ _ _ (s2.trans (Stp.set noD)) (w2.set noD) ((sl1.mono e2).set d2) q
end
end Bp

namespace Bp
open PySem PySem.Spec PyProof.Rows L2
/-! ### both ways of a test -/
theorem brT {k : Bool} {A B : Prop} (h : k = true) (a : A) : (k = true → A) ∧ (k = false → B) := ⟨fun _ => a, fun z => by rw [h] at z; cases z⟩
theorem brF {k : Bool} {A B : Prop} (h : k = false) (b : B) : (k = true → A) ∧ (k = false → B) := ⟨fun z => (by rw [h] at z; cases z), fun _ => b⟩
theorem brT' {k : Bool} {A B : Prop} (h : k = true) (a : A) : (k = false → B) ∧ (k = true → A) := ⟨fun z => (by rw [h] at z; cases z), fun _ => a⟩
theorem brF' {k : Bool} {A B : Prop} (h : k = false) (b : B) : (k = false → B) ∧ (k = true → A) := ⟨fun _ => b, fun z => by rw [h] at z; cases z⟩
/-! ### kinds -/
def dInt : PyData → Bool
  | .int _ => true
  | .bool _ => true
  | _ => false
def dBool : PyData → Bool
  | .bool _ => true
  | _ => false
def dStr : PyData → Bool
  | .str _ => true
  | _ => false
def dTup : PyData → Bool
  | .tuple _ => true
  | _ => false
def dLst : PyData → Bool
  | .list _ => true
  | _ => false
def dDic : PyData → Bool
  | .dict _ => true
  | _ => false
theorem kit_int : ∀ d : PyData, kitB (tyD d) "int" = some (dInt d)
  | .none => (by decide +kernel : kitB "NoneType" "int" = some false)
  | .bool _ => (by decide +kernel : kitB "bool" "int" = some true)
  | .int _ => (by decide +kernel : kitB "int" "int" = some true)
  | .str _ => (by decide +kernel : kitB "str" "int" = some false)
  | .list _ => (by decide +kernel : kitB "list" "int" = some false)
  | .tuple _ => (by decide +kernel : kitB "tuple" "int" = some false)
  | .dict _ => (by decide +kernel : kitB "dict" "int" = some false)
theorem kit_bool : ∀ d : PyData, kitB (tyD d) "bool" = some (dBool d)
  | .none => (by decide +kernel : kitB "NoneType" "bool" = some false)
  | .bool _ => (by decide +kernel : kitB "bool" "bool" = some true)
  | .int _ => (by decide +kernel : kitB "int" "bool" = some false)
  | .str _ => (by decide +kernel : kitB "str" "bool" = some false)
  | .list _ => (by decide +kernel : kitB "list" "bool" = some false)
  | .tuple _ => (by decide +kernel : kitB "tuple" "bool" = some false)
  | .dict _ => (by decide +kernel : kitB "dict" "bool" = some false)
theorem kit_str : ∀ d : PyData, kitB (tyD d) "str" = some (dStr d)
  | .none => (by decide +kernel : kitB "NoneType" "str" = some false)
  | .bool _ => (by decide +kernel : kitB "bool" "str" = some false)
  | .int _ => (by decide +kernel : kitB "int" "str" = some false)
  | .str _ => (by decide +kernel : kitB "str" "str" = some true)
  | .list _ => (by decide +kernel : kitB "list" "str" = some false)
  | .tuple _ => (by decide +kernel : kitB "tuple" "str" = some false)
  | .dict _ => (by decide +kernel : kitB "dict" "str" = some false)
theorem kit_tup : ∀ d : PyData, kitB (tyD d) "tuple" = some (dTup d)
  | .none => (by decide +kernel : kitB "NoneType" "tuple" = some false)
  | .bool _ => (by decide +kernel : kitB "bool" "tuple" = some false)
  | .int _ => (by decide +kernel : kitB "int" "tuple" = some false)
  | .str _ => (by decide +kernel : kitB "str" "tuple" = some false)
  | .list _ => (by decide +kernel : kitB "list" "tuple" = some false)
  | .tuple _ => (by decide +kernel : kitB "tuple" "tuple" = some true)
  | .dict _ => (by decide +kernel : kitB "dict" "tuple" = some false)
theorem kit_lst : ∀ d : PyData, kitB (tyD d) "list" = some (dLst d)
  | .none => (by decide +kernel : kitB "NoneType" "list" = some false)
  | .bool _ => (by decide +kernel : kitB "bool" "list" = some false)
  | .int _ => (by decide +kernel : kitB "int" "list" = some false)
  | .str _ => (by decide +kernel : kitB "str" "list" = some false)
  | .list _ => (by decide +kernel : kitB "list" "list" = some true)
  | .tuple _ => (by decide +kernel : kitB "tuple" "list" = some false)
  | .dict _ => (by decide +kernel : kitB "dict" "list" = some false)
theorem kit_dic : ∀ d : PyData, kitB (tyD d) "dict" = some (dDic d)
  | .none => (by decide +kernel : kitB "NoneType" "dict" = some false)
  | .bool _ => (by decide +kernel : kitB "bool" "dict" = some false)
  | .int _ => (by decide +kernel : kitB "int" "dict" = some false)
  | .str _ => (by decide +kernel : kitB "str" "dict" = some false)
  | .list _ => (by decide +kernel : kitB "list" "dict" = some false)
  | .tuple _ => (by decide +kernel : kitB "tuple" "dict" = some false)
  | .dict _ => (by decide +kernel : kitB "dict" "dict" = some true)
/-- the built-in names that the module leaves as they are -/
structure Blt (mg : Str → Option Value) : Prop where
  isinstance : mg "isinstance" = none
  int : mg "int" = none
  bool : mg "bool" = none
  str : mg "str" = none
  tuple : mg "tuple" = none
  list : mg "list" = none
  dict : mg "dict" = none
  set : mg "set" = none
  len : mg "len" = none
  range : mg "range" = none
  enumerate : mg "enumerate" = none
  max : mg "max" = none
  min : mg "min" = none
  sorted : mg "sorted" = none
  all : mg "all" = none
  any : mg "any" = none
  abs : mg "abs" = none
section
variable {P : Program} {w : World} {K : PySem.W.Frag} {mg : Str → Option Value} {base : Heap} {sc : Scope} {N : List Str} {vs ls : List Bool} {k : Nat} {X : Cx} {W : WX} {ρ : Rho} {Q : Rho → PyData → Prop} {E : XQ} {a b c e : Expr} {es : List Expr} {pos p p2 : Pos} {x y : Str} {i : Nat}
theorem ew_isInt (C : Cxt P w K mg base sc N vs ls k X W) (B : Blt mg) (h : EW X W e ρ (fun ρ1 d => Q ρ1 (.bool (dInt d))) E) (hg : sc.names.lookup ("isinstance" : Str) = some .globalImplicit := by decide +kernel) (hg2 : sc.names.lookup ("int" : Str) = some .globalImplicit := by decide +kernel)
    (he : starEach [e, .Name "int" p2] X.env = (false, eval e X.env) :: starEach [.Name "int" p2] X.env := by with_unfolding_all rfl) : EW X W (.Call (.Name "isinstance" p) [e, .Name "int" p2] [] pos) ρ Q E :=
  ew_isi C (T := "int") (by decide +kernel) B.isinstance B.int (fun F H σ R wd sl kx kk => h F H σ R wd sl kx fun F' H' ρ' v d st wd' sl' dd q => kk F' H' ρ' v d st wd' sl' dd ⟨_, kit_int d, q⟩) hg hg2 (by decide) (by decide) he
theorem ew_isBool (C : Cxt P w K mg base sc N vs ls k X W) (B : Blt mg) (h : EW X W e ρ (fun ρ1 d => Q ρ1 (.bool (dBool d))) E) (hg : sc.names.lookup ("isinstance" : Str) = some .globalImplicit := by decide +kernel) (hg2 : sc.names.lookup ("bool" : Str) = some .globalImplicit := by decide +kernel)
    (he : starEach [e, .Name "bool" p2] X.env = (false, eval e X.env) :: starEach [.Name "bool" p2] X.env := by with_unfolding_all rfl) : EW X W (.Call (.Name "isinstance" p) [e, .Name "bool" p2] [] pos) ρ Q E :=
  ew_isi C (T := "bool") (by decide +kernel) B.isinstance B.bool (fun F H σ R wd sl kx kk => h F H σ R wd sl kx fun F' H' ρ' v d st wd' sl' dd q => kk F' H' ρ' v d st wd' sl' dd ⟨_, kit_bool d, q⟩) hg hg2 (by decide) (by decide) he
theorem ew_isStr (C : Cxt P w K mg base sc N vs ls k X W) (B : Blt mg) (h : EW X W e ρ (fun ρ1 d => Q ρ1 (.bool (dStr d))) E) (hg : sc.names.lookup ("isinstance" : Str) = some .globalImplicit := by decide +kernel) (hg2 : sc.names.lookup ("str" : Str) = some .globalImplicit := by decide +kernel)
    (he : starEach [e, .Name "str" p2] X.env = (false, eval e X.env) :: starEach [.Name "str" p2] X.env := by with_unfolding_all rfl) : EW X W (.Call (.Name "isinstance" p) [e, .Name "str" p2] [] pos) ρ Q E :=
  ew_isi C (T := "str") (by decide +kernel) B.isinstance B.str (fun F H σ R wd sl kx kk => h F H σ R wd sl kx fun F' H' ρ' v d st wd' sl' dd q => kk F' H' ρ' v d st wd' sl' dd ⟨_, kit_str d, q⟩) hg hg2 (by decide) (by decide) he
theorem ew_isTup (C : Cxt P w K mg base sc N vs ls k X W) (B : Blt mg) (h : EW X W e ρ (fun ρ1 d => Q ρ1 (.bool (dTup d))) E) (hg : sc.names.lookup ("isinstance" : Str) = some .globalImplicit := by decide +kernel) (hg2 : sc.names.lookup ("tuple" : Str) = some .globalImplicit := by decide +kernel)
    (he : starEach [e, .Name "tuple" p2] X.env = (false, eval e X.env) :: starEach [.Name "tuple" p2] X.env := by with_unfolding_all rfl) : EW X W (.Call (.Name "isinstance" p) [e, .Name "tuple" p2] [] pos) ρ Q E :=
  ew_isi C (T := "tuple") (by decide +kernel) B.isinstance B.tuple (fun F H σ R wd sl kx kk => h F H σ R wd sl kx fun F' H' ρ' v d st wd' sl' dd q => kk F' H' ρ' v d st wd' sl' dd ⟨_, kit_tup d, q⟩) hg hg2 (by decide) (by decide) he
theorem ew_isLst (C : Cxt P w K mg base sc N vs ls k X W) (B : Blt mg) (h : EW X W e ρ (fun ρ1 d => Q ρ1 (.bool (dLst d))) E) (hg : sc.names.lookup ("isinstance" : Str) = some .globalImplicit := by decide +kernel) (hg2 : sc.names.lookup ("list" : Str) = some .globalImplicit := by decide +kernel)
    (he : starEach [e, .Name "list" p2] X.env = (false, eval e X.env) :: starEach [.Name "list" p2] X.env := by with_unfolding_all rfl) : EW X W (.Call (.Name "isinstance" p) [e, .Name "list" p2] [] pos) ρ Q E :=
  ew_isi C (T := "list") (by decide +kernel) B.isinstance B.list (fun F H σ R wd sl kx kk => h F H σ R wd sl kx fun F' H' ρ' v d st wd' sl' dd q => kk F' H' ρ' v d st wd' sl' dd ⟨_, kit_lst d, q⟩) hg hg2 (by decide) (by decide) he
theorem ew_isDic (C : Cxt P w K mg base sc N vs ls k X W) (B : Blt mg) (h : EW X W e ρ (fun ρ1 d => Q ρ1 (.bool (dDic d))) E) (hg : sc.names.lookup ("isinstance" : Str) = some .globalImplicit := by decide +kernel) (hg2 : sc.names.lookup ("dict" : Str) = some .globalImplicit := by decide +kernel)
    (he : starEach [e, .Name "dict" p2] X.env = (false, eval e X.env) :: starEach [.Name "dict" p2] X.env := by with_unfolding_all rfl) : EW X W (.Call (.Name "isinstance" p) [e, .Name "dict" p2] [] pos) ρ Q E :=
  ew_isi C (T := "dict") (by decide +kernel) B.isinstance B.dict (fun F H σ R wd sl kx kk => h F H σ R wd sl kx fun F' H' ρ' v d st wd' sl' dd q => kk F' H' ρ' v d st wd' sl' dd ⟨_, kit_dic d, q⟩) hg hg2 (by decide) (by decide) he
theorem ew_isSeq (C : Cxt P w K mg base sc N vs ls k X W) (B : Blt mg) {j : Nat} {p3 p4 : Pos} (h : EW X W e ρ (fun ρ1 d => Q ρ1 (.bool (dLst d || dTup d))) E) (hg : sc.names.lookup ("isinstance" : Str) = some .globalImplicit := by decide +kernel) (hg2 : sc.names.lookup ("list" : Str) = some .globalImplicit := by decide +kernel) (hg3 : sc.names.lookup ("tuple" : Str) = some .globalImplicit := by decide +kernel)
    (he : starEach [e, .Tuple [.Name "list" p2, .Name "tuple" p3] j p4] X.env = (false, eval e X.env) :: starEach [.Tuple [.Name "list" p2, .Name "tuple" p3] j p4] X.env := by with_unfolding_all rfl) : EW X W (.Call (.Name "isinstance" p) [e, .Tuple [.Name "list" p2, .Name "tuple" p3] j p4] [] pos) ρ Q E :=
  ew_isi2 C (T := "list") (U := "tuple") (by decide +kernel) (by decide +kernel) B.isinstance B.list B.tuple (fun F H σ R wd sl kx kk => h F H σ R wd sl kx fun F' H' ρ' v d st wd' sl' dd q => kk F' H' ρ' v d st wd' sl' dd ⟨_, _, kit_lst d, kit_tup d, q⟩) hg hg2 hg3 (by decide) (by decide) (by decide) (by decide) he
end
end Bp

namespace Bp
open PySem PySem.Spec PyProof.Rows L2
/-! ### raise -/
/-- the module's name x is an own class of errors without an own __init__ -/
structure ExC (K : PySem.W.Frag) (mg : Str → Option Value) (x : Str) (c : Addr) : Prop where
  ex : PySem.W.excIn K c [.type "ValueError", .type "Exception", .type "BaseException", .type "object"] "ValueError.__new__" = true
  gl : mg x = some (.ref c)
  kp : PySem.W.keepIn K (.ref c) = true
  sb : PySem.W.subIn K (.ref c) (.type "BaseException") = some true
  ty : PySem.W.typeIn K (.ref c) = some (.type "type")
theorem pmk_own0 {X : Cx} {C : Addr} {bmB : List Value} {B newId initId : String} {x : Str} {p pos : Pos} (F : ExcBaseFacts B newId initId bmB) (q : PySem.W.excIn X.K C bmB newId = true) (gC : X.mg x = some (.ref C))
    (kC : PySem.W.keepIn X.K (.ref C) = true) (r : Raises X (.ref C)) (hg : Gl X x) (hdb : (x == ("__debug__" : Str)) = false := by decide) :
    PMk X (.Call (.Name x p) [] [] pos) (fun σ H Q => Q (.ref C) none H) := by
  intro pins s σ H Q I h
  refine wpAny_Call_Name_kw (ld_glob I hg gC ?_ hdb)
  refine PySem.W.callWith_K0 I.kIn kC ?_
  obtain ⟨bm, N, nm, qn, bs, hdct, sn, sub, ab, col, dd, k0, k1, k2, k3, k5, mN, hC, hN, hni, T⟩ := exc_obj I.kIn q
  refine wpAny_call_exc_subT F T hC hN hni (fun h' e hm => ?_) (Nat.zero_le _)
  exact mk_of I hm r h (I.hok.gone hm.new)
section
variable {P : Program} {w : World} {K : PySem.W.Frag} {mg : Str → Option Value} {base : Heap} {sc : Scope} {N : List Str} {vs ls : List Bool} {k : Nat} {X : Cx} {W : WX} {ρ : Rho} {Nx : Rho → Prop} {R : Rho → Ret → Prop} {E : XQ} {a b c e : Expr} {es : List Expr} {pos p p2 : Pos} {x y : Str} {i : Nat}
theorem s1_raise0 (C : Cxt P w K mg base sc N vs ls k X W) {A : Addr} (T : ExC K mg x A) (q : E ρ ⟨A, none⟩) (hg : sc.names.lookup x = some .globalImplicit := by decide +kernel) (hdb : (x == ("__debug__" : Str)) = false := by decide) : S1 X W (.Raise (some (.Call (.Name x p) [] [] pos)) none p2) ρ Nx R E := by
  intro F H σ D wd sl kx kn kr
  have hgl := C.gl hg
  obtain ⟨rfl, rfl⟩ : X.K = K ∧ X.mg = mg := ⟨C.eK, C.eg⟩
  refine of_ps (ps_raise C.calm C.tk (pmk_own0 PySem.F.excBase_ValueError T.ex T.gl T.kp (raises_own T.sb T.ty) hgl hdb)) ?_
  exact kx F H σ ρ ⟨A, none⟩ none Stp.refl wd sl rfl q
/-! ### try .. except, clauses without names -/
/-- what an except suite does of an error y that is handled -/
def UW (X : Cx) (suite : List Stmt) (ρ : Rho) (y : Xc) (Nx : Rho → Prop) : Prop := ∀ (a : Addr) (oe : Obj) (pn : List (Addr × Obj)) (d : Option Addr), Zc (.ref y.cls) d oe → (∃ vs, oe.data = .fields vs) → ∀ F H σ (D : Ends), Wd X.K F H ρ → Sl X.K F σ ρ → XcAt X.K F H y d → H a = none →
  (∀ F' H' σ' ρ', Stp ρ ρ' F H F' H' → Wd X.K F' H' ρ' → Sl X.K F' σ' ρ' → Nx ρ' → D.nx σ' H') → WSs (X.suite a ((a, oe) :: pn)) suite D σ H
def HDW (X : Cx) : List (Value × List Stmt) → Rho → Xc → (Rho → Prop) → XQ → Prop
  | [], ρ, y, _, E => E ρ y
  | (c, suite) :: r, ρ, y, Nx, E => ∃ b, PySem.W.exmOne X.K (.ref y.cls) c = some b ∧ (b = true → UW X suite ρ y Nx) ∧ (b = false → HDW X r ρ y Nx E)
/-- the clauses' classes -/
inductive Hds (sc : Scope) (mg : Str → Option Value) : List ExceptHandler → List (Value × List Stmt) → Prop
  | nil : Hds sc mg [] []
  | cons {x : Str} {c : Value} {b₀ : Stmt} {suite : List Stmt} {np pos' : Pos} {hds : List ExceptHandler} {l : List (Value × List Stmt)} (hm : mg x = some c) (hg : sc.names.lookup x = some .globalImplicit) (hd : (x == ("__debug__" : Str)) = false) (r : Hds sc mg hds l) :
      Hds sc mg (.ExceptHandler (some (.Name x np)) none (b₀ :: suite) pos' :: hds) ((c, b₀ :: suite) :: l)
/-- the readings of the suites -/
def tsOf (X : Cx) (l : List (Value × List Stmt)) : List (Value × (Addr → Value → Option Addr → TS)) := l.map fun q => (q.1, fun a cls d D σ H => ∀ (oe : Obj) (pn : List (Addr × Obj)), Zc cls d oe → (∃ vs, oe.data = .fields vs) → WSs (X.suite a ((a, oe) :: pn)) q.2 D σ H)
theorem hds_ok (C : Cxt P w K mg base sc N vs ls k X W) : ∀ {hs : List ExceptHandler} {l : List (Value × List Stmt)}, Hds sc mg hs l → HdsOk X hs (tsOf X l)
  | _, _, .nil => .nil
  | _, _, .cons hm hg hd r => .cons ⟨C.gl hg, hd, .inl (by rw [C.eg]; exact hm)⟩ (fun a oe cls d pn hz hf => ⟨fun pins s σ H D I h => h oe pn hz hf pins s I⟩) (hds_ok C r)
theorem Cxt.tr (C : Cxt P w K mg base sc N vs ls k X W) {W' : WX} {pn : List (Addr × Obj)} {xe : Value → Shared → Prop} (tk : Takes (X.tr pn xe) W') (po : PassesOwn (model X.prog X.w) X.A X.env xe) : Cxt P w K mg base sc N vs ls k (X.tr pn xe) W' :=
  { eP := C.eP, ew := C.ew, eK := C.eK, eg := C.eg, eb := C.eb, eN := C.eN, nd := C.nd, es := C.es, vis := C.vis, loc := C.loc, calm := C.calm, room := C.room, tk := tk, po := po }
theorem s1_try (C : Cxt P w K mg base sc N vs ls k X W) (Fr : Frm X) {body : List Stmt} {h0 : ExceptHandler} {hds : List ExceptHandler} {l : List (Value × List Stmt)} (hh : Hds sc mg (h0 :: hds) l)
    (h : ∀ X' W', Cxt P w K mg base sc N vs ls k X' W' → Frm X' → SW X' W' body ρ Nx R (fun ρ' y => HDW X l ρ' y Nx E)) : S1 X W (.Try body (h0 :: hds) [] [] pos) ρ Nx R E := by
  intro F H σ D wd sl kx kn kr
  refine of_ps (ps_try_many (tb := fun W' => fun D σ H => ∀ pn xe, Takes (X.tr pn xe) W' → PassesOwn (model X.prog X.w) X.A X.env xe → WSs (X.tr pn xe) body D σ H) Fr.stk Fr.fr C.tk (fun W' pn xe tk po => ⟨fun pins s σ H D I hw => hw pn xe tk po pins s I⟩) (hds_ok C hh)) ?_
  intro pn xe tk po
  refine h (X.tr pn xe) _ (C.tr tk po) ⟨Fr.stk, Fr.fr⟩ F H σ D wd sl (fun F1 H1 σ1 ρ1 y xd st1 wd1 sl1 xa q => ?_) kn kr
  -- the clauses, one after another
  have go : ∀ l : List (Value × List Stmt), HDW X l ρ1 y Nx E → wMany X.K W D (tsOf X l) (.ref y.cls) xd σ1 H1 := by
    intro l
    induction l with
    | nil =>
      intro q
      exact kx F1 H1 σ1 ρ1 y xd st1 wd1 sl1 xa q
    | cons q r ih =>
      obtain ⟨cc, suite⟩ := q
      rintro ⟨b, hb, h1, h2⟩
      refine ⟨b, hb, fun eb a ha oe pn' hz hf => ?_, fun eb => ih (h2 eb)⟩
      exact h1 eb a oe pn' xd hz hf F1 H1 σ1 D wd1 sl1 xa ha fun F2 H2 σ2 ρ2 st2 wd2 sl2 n => kn F2 H2 σ2 ρ2 (st1.trans st2) wd2 sl2 n
  exact go l q
/-! suites: x = a constant -/
theorem uw_set (C : Cxt P w K mg base sc N vs ls k X W) [sx : Slot N x i] (hl : ls[i]? = some true) {y : Xc} {px : Pos} {d : PyData} {v : V} {ee : Expr} (he : ∀ X' : Cx, PE X' ee (tC v)) (hd : ∀ (K : PySem.W.Frag) F, DD K F v d) (n : Nx (ρ.set i (some (.d d))))
    (hs : ∀ env, swapsWith ee (some (.Name x px)) pos.line env = pure false := by intro _; with_unfolding_all rfl) : UW X [.Assign [.Name x px] ee pos] ρ y Nx := by
  intro a oe pn xd hz hf F H σ D wd sl xa ha kn
  refine of_pss (pss_one (ps_set (X := X.suite a ((a, oe) :: pn)) (i := i) (show X.N.Nodup by rw [C.eN]; exact C.nd) (show X.N[i]? = some x by rw [C.eN]; exact sx.get) (show Loc X.env.scope x from C.lo sx.get hl) (he _) (hs _) (show X.fn x = true ∨ X.env.scope.names.lookup x = some .local from C.st sx.get hl))) ?_
  exact kn F H _ _ (Stp.set noD) (wd.set noD) (sl.set (hd X.K F)) n
theorem uw_setS (C : Cxt P w K mg base sc N vs ls k X W) [sx : Slot N x i] {y : Xc} {px pc : Pos} {z : Str} {j : Nat} (hl : ls[i]? = some true) (n : Nx (ρ.set i (some (.d (.str z))))) : UW X [.Assign [.Name x px] (.Constant (.str z) j pc) pos] ρ y Nx := uw_set C hl (fun _ => pe_str) (fun _ _ => .str z) n
theorem uw_setB (C : Cxt P w K mg base sc N vs ls k X W) [sx : Slot N x i] {y : Xc} {px pc : Pos} {z : Bool} {j : Nat} (hl : ls[i]? = some true) (n : Nx (ρ.set i (some (.d (.bool z))))) : UW X [.Assign [.Name x px] (.Constant (.bool z) j pc) pos] ρ y Nx := uw_set C hl (fun _ => pe_bl) (fun _ _ => .bl z) n
end
end Bp

namespace Bp
open PySem PySem.Spec PyProof.Rows L2
section
variable {P : Program} {w : World} {K : PySem.W.Frag} {mg : Str → Option Value} {base : Heap} {sc : Scope} {N : List Str} {vs ls : List Bool} {k : Nat} {X : Cx} {W : WX} {ρ : Rho} {Q : Rho → PyData → Prop} {E : XQ} {Nx : Rho → Prop} {R : Rho → Ret → Prop} {a b c e : Expr} {es : List Expr} {pos p p2 p3 p4 px : Pos} {x y : Str} {i : Nat}
/-! ### len(set(e)), e a tuple of ints -/
theorem ew_lenSet (C : Cxt P w K mg base sc N vs ls k X W) (B : Blt mg) (h : EW X W e ρ (fun ρ1 d => ∃ ns : List Int, d = .tuple (ns.map PyData.int) ∧ ns.length ≤ 1000 ∧ ∀ out : List Int, out.Nodup → (∀ z, z ∈ out ↔ z ∈ ns) → Q ρ1 (.int out.length)) E)
    (hg : sc.names.lookup ("len" : Str) = some .globalImplicit := by decide +kernel) (hg2 : sc.names.lookup ("set" : Str) = some .globalImplicit := by decide +kernel) (na : starEach [e] X.env = (false, eval e X.env) :: starEach [] X.env := by with_unfolding_all rfl) :
    EW X W (.Call (.Name "len" p) [.Call (.Name "set" p2) [e] [] p3] [] pos) ρ Q E := by
  intro F H σ R wd sl kx kk pins s I
  refine Call_ (ld_blt I (C.gl hg) (by rw [C.eg]; exact B.len) boot_len ?_)
  refine PyProof.Rows.callWith_builtin1 (PyProof.Rows.args_cons ?_ rfl) rfl rfl
  refine Call_ (ld_blt I (C.gl hg2) (by rw [C.eg]; exact B.set) PyProof.Rows.boot_set ?_)
  refine PyProof.Rows.callWith_type1 (PyProof.Rows.args_cons (thn (h F H σ (fun v H1 => ∃ F1 ρ1 d, Stp ρ ρ1 F H F1 H1 ∧ Wd X.K F1 H1 ρ1 ∧ Sl X.K F1 σ ρ1 ∧ DD X.K F1 v d ∧ ∃ ns : List Int, d = .tuple (ns.map PyData.int) ∧ ns.length ≤ 1000 ∧ ∀ out : List Int, out.Nodup → (∀ z, z ∈ out ↔ z ∈ ns) → Q ρ1 (.int out.length)) wd sl kx (fun F1 H1 ρ1 v d st1 wd1 sl1 dd q => ⟨F1, ρ1, d, st1, wd1, sl1, dd, q⟩) pins s I) fun v s1 ⟨x, H1, I1, r1, q1⟩ => PyProof.Rows.args_nil ?_) na) na rfl
  obtain ⟨F1, ρ1, d, st1, wd1, sl1, dd, ns, rfl, hl, q⟩ := q1
  cases dd with
  | tup hq _ ds =>
    have z := ds.ints
    subst z
    cases r1
    obtain ⟨its, rv, pt, hz⟩ := I1.tuple (wd1.sub.sqt hq)
    refine call_set_tupI ns (I1.ok.hd C.calm) (show s1.heap.IsTuple _ its.toArray from pt) (ints_of_vals rv) (by unfold scanBound; omega) fun h' tk c R1 hcn kp => ?_
    refine PyProof.Rows.args_nil ?_
    obtain ⟨o, es, ep, t, ho, hex, hd, g, nd, hm, hb, hf, hn, _⟩ := R1
    have I2 : Inv X pins σ H1 { s1 with heap := h', toks := tk } := I1.kept fun b o e => kp b o e
    have e1 : es.size = (es.toList.map keyOf).length := by rw [List.length_map, Array.length_toList]
    have q1 := q (es.toList.map keyOf) nd fun z => by
      rw [← hm z]
      exact decide_eq_true_iff
    rw [← e1] at q1
    exact call_len_set ho hex hd hf (by rw [hn]; omega) ⟨.int es.size, H1, I2.tok _, ⟨_, rfl⟩, kk F1 H1 ρ1 _ _ st1 wd1 sl1 (.int _) q1⟩
/-! ### lists that are glued, new -/
theorem en_fin {Q : Rho → List PyData → Prop} {F H F2 H2 : Hp} {ρ2 : Rho} {σ : L2.St} {R : VK} {q : Addr} {xs : List V} {ds : List PyData}
    (kk : ∀ F' H' ρ' p xs ds, Stp ρ ρ' F H F' H' → Wd X.K F' H' ρ' → Sl X.K F' σ ρ' → H p = none → F' p = none → ¬ Owns ρ' p → H' p = some (.lst xs) → DDs X.K F' xs ds → Q ρ' ds → R (.ref p) H')
    (st : Stp ρ ρ2 F H F2 H2) (wd : Wd X.K F2 H2 ρ2) (sl : Sl X.K F2 σ ρ2) (hq : H2 q = none) (dd : DDs X.K F2 xs ds) (h : Q ρ2 ds) : R (.ref q) (upd H2 q (.lst xs)) := by
  have g : Gr F2 H2 F2 (upd H2 q (.lst xs)) := Gr.side wd.sub hq
  refine kk F2 _ ρ2 q xs ds (st.trans g.stp) (wd.gr g) sl (st.all q hq) (wd.sub.none hq) (fun ⟨j, o, z⟩ => ?_) upd_same dd h
  obtain ⟨_, ho, z2, _⟩ := wd.own j q o z
  rw [hq] at z2
  cases z2
theorem en_add {Q : Rho → List PyData → Prop} (h : EW X W a ρ (fun ρ1 x => ∃ xs, x = .list xs ∧ EW X W b ρ1 (fun ρ2 y => ∃ ys, y = .list ys ∧ xs.length + ys.length ≤ 16777216 ∧ Q ρ2 (xs ++ ys)) E) E) : EN X W (.BinOp a .Add b pos) ρ Q E := by
  intro F H σ R wd sl kx kk
  refine of_pe (pe_op op_cat pe_w pe_w) ?_
  refine h F H σ _ wd sl kx fun F1 H1 ρ1 x dx st1 wd1 sl1 dd1 h1 => ?_
  obtain ⟨xs, rfl, h1⟩ := h1
  refine h1 F1 H1 σ _ wd1 sl1 (kx.step st1) fun F2 H2 ρ2 y dy st2 wd2 sl2 dd2 h2 => ?_
  obtain ⟨ys, rfl, hl, q⟩ := h2
  cases dd1 with
  | lst q1 d1 =>
    cases dd2 with
    | lst q2 d2 =>
      refine ⟨_, _, _, _, rfl, rfl, wd2.sub _ _ (st2.ex _ _ q1), wd2.sub _ _ q2, by rw [d1.length, d2.length, sizeLine_eq]; exact hl, fun p hp => ?_⟩
      exact en_fin kk (st1.trans st2) wd2 sl2 hp ((d1.mono st2.ex).append d2) q
theorem s1_retN {Q : Rho → List PyData → Prop} (h : EN X W e ρ (fun ρ1 ds => R ρ1 (.d (.list ds))) E) : S1 X W (.Return (some e) pos) ρ Nx R E := s1_ret (ew_en h)
/-! ### slots that own -/
theorem Wd.own_set {F H : Hp} {q : Addr} {o : O} {ho : HO} (w : Wd K F H ρ) (f : F q = none) (n : ¬ Owns ρ q) (h : H q = some ho) (oo : OO K F ho o) : Wd K F H (ρ.set i (some (.own q o))) where
  sub := w.sub
  own := fun j a o' z => by
    rw [List.getElem?_set] at z
    split at z
    · split at z
      · cases z
        exact ⟨f, ho, h, oo⟩
      · cases z
    · exact w.own j a o' z
  dis := fun j l a o1 o2 z z' => by
    rw [List.getElem?_set] at z z'
    split at z
    · rename_i e
      split at z
      · cases z
        split at z'
        · rename_i e'
          rw [← e, ← e']
        · exact absurd ⟨l, o2, z'⟩ n
      · cases z
    · split at z'
      · rename_i e'
        split at z'
        · cases z'
          exact absurd ⟨j, o1, z⟩ n
        · cases z'
      · exact w.dis j l a o1 o2 z z'
theorem Sl.own_set {F : Hp} {σ : L2.St} {q : Addr} {o : O} (s : Sl K F σ ρ) : Sl K F (σ.set i (some (.ref q))) (ρ.set i (some (.own q o))) where
  len := by rw [List.length_set, List.length_set]; exact s.len
  get := fun j z t => by
    rw [List.getElem?_set] at t ⊢
    split at t
    · rename_i e
      split at t
      · rename_i hl
        cases (Option.some.inj (Option.some.inj t))
        rw [if_pos e, if_pos (by rw [s.len]; exact hl)]
        exact ⟨_, rfl, rfl⟩
      · cases t
    · rename_i e
      rw [if_neg e]
      exact s.get j z t
theorem owns_set {q a : Addr} {o : O} (h : Owns (ρ.set i (some (.own q o))) a) : Owns ρ a ∨ a = q := by
  obtain ⟨j, o', z⟩ := h
  rw [List.getElem?_set] at z
  split at z
  · split at z
    · cases z
      exact .inr rfl
    · cases z
  · exact .inl ⟨j, o', z⟩
/-- x = a new list, that the slot owns -/
theorem s1_own (C : Cxt P w K mg base sc N vs ls k X W) [sl : Slot N x i] (hl : ls[i]? = some true) (h : EN X W e ρ (fun ρ1 ds => ∀ q, Nx (ρ1.set i (some (.own q (.lst ds))))) E) (hs : swapsWith e (some (.Name x px)) pos.line X.env = pure false := by with_unfolding_all rfl) : S1 X W (.Assign [.Name x px] e pos) ρ Nx R E := by
  intro F H σ D wd st kx kn kr
  refine of_ps (ps_set (i := i) (by rw [C.eN]; exact C.nd) (by rw [C.eN]; exact sl.get) (C.lo sl.get hl) pe_w hs (C.st sl.get hl)) ?_
  refine h F H σ _ wd st kx fun F1 H1 ρ1 q xs ds st1 wd1 sl1 hp fp np hh dd n => ?_
  refine kn F1 H1 _ _ ⟨st1.ex, st1.keep, st1.fr, fun a z => ?_, st1.all⟩ (wd1.own_set (o := .lst ds) fp np hh ⟨xs, rfl, dd⟩) sl1.own_set (n q)
  rcases owns_set z with z | z
  · exact st1.own a z
  · rw [z]
    exact .inr hp
/-! ### a def whose first argument is an object of the caller's -/
abbrev PG1 := O → List PyData → (O → PyData → Prop) → (O → Xc → Prop) → Prop
/-- growth, but for the object at q -/
structure GrB (q : Addr) (F H F' H' : Hp) : Prop where
  ex : Ex F F'
  keep : ∀ a o, a ≠ q → H a = some o → H' a = some o
  sub : Ex F' H'
  fr : ∀ a o, a ≠ q → F a = none → H a = some o → F' a = none
  all : ∀ a, H' a = none → H a = none
def spO (K : PySem.W.Frag) (Pg : PG1) : Sp := fun vs H Q E => ∃ F q o vs' ds Qd Ed, vs = .ref q :: vs' ∧ Ex F H ∧ F q = none ∧ (∃ ho, H q = some ho ∧ OO K F ho o) ∧ DDs K F vs' ds ∧ Pg o ds Qd Ed ∧
  (∀ F' H' o' v d, GrB q F H F' H' → F' q = none → (∃ ho, H' q = some ho ∧ OO K F' ho o') → DD K F' v d → Qd o' d → Q v H') ∧
  ∀ F' H' o' x xd, GrB q F H F' H' → F' q = none → (∃ ho, H' q = some ho ∧ OO K F' ho o') → XcAt K F' H' x xd → Ed o' x → E (.ref x.cls) xd H'
def FnO (P : Program) (w : World) (K : PySem.W.Frag) (mg : Str → Option Value) (base : Heap) (j : Nat) (x : Str) (Pg : PG1) : Prop :=
  ∃ f fd ps, FnOk P w K mg base (L2.CX P w) j f fd ps (spO K Pg) ∧ mg x = some (.ref f) ∧ PySem.W.keepIn K (.ref f) = true ∧ Binds K fd ps []
theorem GrB.stp {q : Addr} {o o' : O} {F H F' H' : Hp} (g : GrB q F H F' H') (hq : ρ[i]? = some (some (S.own q o))) (hH : H q ≠ none) : Stp ρ (ρ.set i (some (.own q o'))) F H F' H' where
  ex := g.ex
  keep := fun a u h n => g.keep a u (fun z => n (z ▸ ⟨i, o, hq⟩)) h
  fr := fun a u f h n => g.fr a u (fun z => n (z ▸ ⟨i, o, hq⟩)) f h
  own := fun a z => by
    rcases owns_set z with z | z
    · exact .inl z
    · exact .inl (z ▸ ⟨i, o, hq⟩)
  all := g.all
theorem GrB.wd {q : Addr} {o o' : O} {F H F' H' : Hp} (g : GrB q F H F' H') (w : Wd K F H ρ) (hq : ρ[i]? = some (some (S.own q o))) (f : F' q = none) (oo : ∃ ho, H' q = some ho ∧ OO K F' ho o') : Wd K F' H' (ρ.set i (some (.own q o'))) where
  sub := g.sub
  own := fun j a u z => by
    rw [List.getElem?_set] at z
    split at z
    · split at z
      · cases z
        exact ⟨f, oo⟩
      · cases z
    · rename_i ne
      have na : a ≠ q := fun e => by
        subst e
        exact ne (w.dis i j a o u hq z)
      obtain ⟨h1, ho, h2, h3⟩ := w.own j a u z
      exact ⟨g.fr a ho na h1 h2, ho, g.keep a ho na h2, h3.mono g.ex⟩
  dis := fun j l a o1 o2 z z' => by
    rw [List.getElem?_set] at z z'
    split at z
    · rename_i e
      split at z
      · cases z
        split at z'
        · rename_i e'
          rw [← e, ← e']
        · exact e ▸ w.dis i l q o o2 hq z'
      · cases z
    · split at z'
      · rename_i e'
        split at z'
        · cases z'
          exact e' ▸ w.dis j i q o1 o z hq
        · cases z'
      · exact w.dis j l a o1 o2 z z'
theorem GrB.sl {q : Addr} {o o' : O} {F H F' H' : Hp} {σ : L2.St} (g : GrB q F H F' H') (s : Sl K F σ ρ) (hq : ρ[i]? = some (some (S.own q o))) : Sl K F' σ (ρ.set i (some (.own q o'))) where
  len := by rw [List.length_set]; exact s.len
  get := fun j z t => by
    rw [List.getElem?_set] at t
    split at t
    · rename_i e
      split at t
      · cases (Option.some.inj (Option.some.inj t))
        obtain ⟨v, h1, h2⟩ := s.get i _ hq
        exact ⟨v, e ▸ h1, h2⟩
      · cases t
    · obtain ⟨v, h1, h2⟩ := s.get j z t
      exact ⟨v, h1, h2.mono g.ex⟩
theorem ew_callO (C : Cxt P w K mg base sc N vs ls k X W) {j : Nat} {Pg : PG1} (G : FnO P w K mg base j x Pg) [sy : Slot N y i] {q : Addr} {o : O} (hs : ρ[i]? = some (some (.own q o))) (hv : vs[i]? = some true)
    (h : AW X W es ρ (fun ρ1 ds => ∃ o1, ρ1[i]? = some (some (.own q o1)) ∧ Pg o1 ds (fun o' d => Q (ρ1.set i (some (.own q o'))) d) (fun o' z => E (ρ1.set i (some (.own q o'))) z)) E) (hj : j ≤ k := by decide) (hg : sc.names.lookup x = some .globalImplicit := by decide +kernel)
    (hdb : (x == ("__debug__" : Str)) = false := by decide) (hpl : (backTo pos (starEach es X.env)).any (·.1) = false := by with_unfolding_all rfl) (hd : (y == ("__debug__" : Str)) = false := by decide) (hcd : (y == ("__classdict__" : Str)) = false := by decide) :
    EW X W (.Call (.Name x p) (.Name y p2 :: es) [] pos) ρ Q E := by
  intro F H σ R wd sl kx kk
  obtain ⟨f, fd, ps, ok, hm, kp, bd⟩ := G
  have hgl := C.gl hg
  have hr : Room j X.A := C.room.mono hj
  have pv' : PE X (.Name y p2) (tVar i) := pe_var (i := i) (by rw [C.eN]; exact sy.get) (by rw [C.es]; exact C.vis i y sy.get hv) hd hcd
  obtain ⟨rfl, rfl, rfl, rfl, rfl⟩ : X.prog = P ∧ X.w = w ∧ X.K = K ∧ X.mg = mg ∧ X.base = base := ⟨C.eP, C.ew, C.eK, C.eg, C.eb⟩
  refine of_pe (pe_callS ok hr hgl hm kp bd (fun σ => passAt C.tk σ) (pa_cons pv' pa_w) hdb rfl hpl) ?_
  obtain ⟨v, h1, h2⟩ := sl.get i _ hs
  cases (show v = .ref q from h2)
  refine ⟨_, h1, ?_⟩
  refine h F H σ _ wd sl kx fun F1 H1 ρ1 vs ds st1 wd1 sl1 dd1 q1 => ?_
  obtain ⟨o1, hq1, pg⟩ := q1
  obtain ⟨f1, ho, hh, oo⟩ := wd1.own i q o1 hq1
  refine ⟨F1, q, o1, vs, ds, _, _, rfl, wd1.sub, f1, ⟨ho, hh, oo⟩, dd1, pg, fun F' H' o' v d g fq oq dd qd => ?_, fun F' H' o' z xd g fq oq xa ez => ?_⟩
  · exact kk F' H' _ v d (st1.trans (g.stp hq1 (by rw [hh]; exact fun z => nomatch z))) (g.wd wd1 hq1 fq oq) (g.sl sl1 hq1) dd qd
  · exact kx F' H' σ _ z xd (st1.trans (g.stp hq1 (by rw [hh]; exact fun z => nomatch z))) (g.wd wd1 hq1 fq oq) (g.sl sl1 hq1) xa ez
end
end Bp

namespace Bp
open PySem PySem.Spec PyProof.Rows L2
section
variable {P : Program} {w : World} {K : PySem.W.Frag} {mg : Str → Option Value} {base : Heap} {sc : Scope} {N : List Str} {vs ls : List Bool} {k : Nat} {X : Cx} {W : WX} {ρ : Rho} {Q : Rho → PyData → Prop} {E : XQ} {Nx : Rho → Prop} {R : Rho → Ret → Prop} {a b c e : Expr} {es : List Expr} {pos p p2 p3 p4 px : Pos} {x y : Str} {i : Nat}
theorem OO.l {F : Hp} {xs : List V} {ds : List PyData} (h : DDs K F xs ds) : OO K F (.lst xs) (.lst ds) := ⟨xs, rfl, h⟩
theorem OO.r {F : Hp} {ms : List Int} (h : RS ms) : OO K F (.lst (ms.map V.int)) .rs := ⟨ms, rfl, h⟩
/-! ### new objects -/
def EO (X : Cx) (W : WX) (e : Expr) (ρ : Rho) (Q : Rho → O → Prop) (E : XQ) : Prop := ∀ F H σ (R : VK), Wd X.K F H ρ → Sl X.K F σ ρ → Kx X.K W ρ F H E →
  (∀ F' H' ρ' p ho o, Stp ρ ρ' F H F' H' → Wd X.K F' H' ρ' → Sl X.K F' σ ρ' → H p = none → F' p = none → ¬ Owns ρ' p → H' p = some ho → OO X.K F' ho o → Q ρ' o → R (.ref p) H') → WEx X e σ H R
theorem eo_en {Q : Rho → O → Prop} (h : EN X W e ρ (fun ρ1 ds => Q ρ1 (.lst ds)) E) : EO X W e ρ Q E := fun F H σ R wd sl kx kk => h F H σ R wd sl kx fun F' H' ρ' p xs ds st wd' sl' h0 f n hh dd q => kk F' H' ρ' p _ (.lst ds) st wd' sl' h0 f n hh ⟨xs, rfl, dd⟩ q
theorem eo_dict {Q : Rho → O → Prop} (q : Q ρ (.dic [])) : EO X W (.Dict [] [] pos) ρ Q E := by
  intro F H σ R wd sl kx kk
  refine of_pe pe_dnewK fun p hp => ?_
  have g : Gr F H F (upd H p (.dK [])) := Gr.side wd.sub hp
  refine kk F _ ρ p _ (.dic []) g.stp (wd.gr g) sl hp (wd.sub.none hp) (fun ⟨j, o, z⟩ => ?_) upd_same ⟨[], rfl, rfl, .nil⟩ q
  obtain ⟨_, ho, z2, _⟩ := wd.own j p o z
  rw [hp] at z2
  cases z2
theorem upd_upd {H : Hp} {p : Addr} {o u : HO} : upd (upd H p o) p u = upd H p u := by
  funext b
  by_cases h : b = p
  · rw [h, upd_same, upd_same]
  · rw [upd_ne h, upd_ne h, upd_ne h]
/-- from here on the dict at p is only read -/
theorem wex_frz {σ : L2.St} {H : Hp} {R : VK} (h : WEx X e σ H (fun v H' => ∃ p ws, H' p = some (.dK ws) ∧ ∀ o, R v (upd H' p (.frz o (.dK ws))))) : WEx X e σ H R := fun pins s I => by
  refine wpAny_mono (h pins s I) (fun u s' z => ?_) (fun _ _ z => z)
  obtain ⟨v, H', I', r, p, ws, hp, q⟩ := z
  obtain ⟨o, I2⟩ := I'.lock hp True.intro
  exact ⟨v, _, I2, r, q o⟩
/-- an empty dict that stays as it is -/
theorem ew_dict (q : Q ρ (.dict [])) : EW X W (.Dict [] [] pos) ρ Q E := by
  intro F H σ R wd sl kx kk
  refine wex_frz (of_pe pe_dnewK fun p hp => ⟨p, [], upd_same, fun o => ?_⟩)
  rw [upd_upd]
  have g := Gr.new (o := .frz o (.dK [])) wd.sub hp
  exact kk _ _ ρ _ _ g.stp (wd.gr g) (sl.mono g.ex) (.dct upd_same rfl .nil) q
theorem eo_call (C : Cxt P w K mg base sc N vs ls k X W) {j : Nat} {Pf : PF} {Q : Rho → O → Prop} (G : Fn P w K mg base j x Pf) (h : AW X W (e :: es) ρ (fun ρ1 ds => Pf ds (fun r => ∃ o, r = .new o ∧ Q ρ1 o) (E ρ1)) E) (hj : j ≤ k := by decide) (hg : sc.names.lookup x = some .globalImplicit := by decide +kernel)
    (hdb : (x == ("__debug__" : Str)) = false := by decide) (he : starEach (e :: es) X.env = (false, eval e X.env) :: starEach es X.env := by with_unfolding_all rfl) (hpl : (backTo pos (starEach es X.env)).any (·.1) = false := by with_unfolding_all rfl) :
    EO X W (.Call (.Name x p) (e :: es) [] pos) ρ Q E := by
  intro F H σ R wd sl kx kk
  obtain ⟨f, fd, ps, ok, hm, kp, bd⟩ := G
  have hgl := C.gl hg
  have hr : Room j X.A := C.room.mono hj
  obtain ⟨rfl, rfl, rfl, rfl, rfl⟩ : X.prog = P ∧ X.w = w ∧ X.K = K ∧ X.mg = mg ∧ X.base = base := ⟨C.eP, C.ew, C.eK, C.eg, C.eb⟩
  refine of_pe (pe_callS ok hr hgl hm kp bd (fun σ => passAt C.tk σ) pa_w hdb he hpl) ?_
  refine h F H σ _ wd sl kx fun F1 H1 ρ1 vs ds st1 wd1 sl1 dd1 h1 => ?_
  refine ⟨F1, ds, _, _, wd1.sub, dd1, h1, fun F' H' v r g rt q => ?_, fun F' H' y xd g xa q => kx F' H' σ ρ1 y xd (st1.trans g.stp) (wd1.gr g) (sl1.mono g.ex) xa q⟩
  obtain ⟨o, rfl, q⟩ := q
  obtain ⟨q', ho, rfl, h0, f', _, hh, oo⟩ := rt
  have h0 : H1 q' = none := h0.resolve_right fun ⟨j, o', z⟩ => by simp at z
  refine kk F' H' ρ1 q' ho o (st1.trans g.stp) (wd1.gr g) (sl1.mono g.ex) (st1.all q' h0) f' (fun ⟨j, o', z⟩ => ?_) hh oo q
  obtain ⟨_, _, z2, _⟩ := wd1.own j q' o' z
  rw [h0] at z2
  cases z2
theorem s1_ownO (C : Cxt P w K mg base sc N vs ls k X W) [sl : Slot N x i] (hl : ls[i]? = some true) (h : EO X W e ρ (fun ρ1 o => ∀ q, Nx (ρ1.set i (some (.own q o)))) E) (hs : swapsWith e (some (.Name x px)) pos.line X.env = pure false := by with_unfolding_all rfl) : S1 X W (.Assign [.Name x px] e pos) ρ Nx R E := by
  intro F H σ D wd st kx kn kr
  refine of_ps (ps_set (i := i) (by rw [C.eN]; exact C.nd) (by rw [C.eN]; exact sl.get) (C.lo sl.get hl) pe_w hs (C.st sl.get hl)) ?_
  refine h F H σ _ wd st kx fun F1 H1 ρ1 q ho o st1 wd1 sl1 hp fp np hh oo n => ?_
  refine kn F1 H1 _ _ ⟨st1.ex, st1.keep, st1.fr, fun a z => ?_, st1.all⟩ (wd1.own_set fp np hh oo) sl1.own_set (n q)
  rcases owns_set z with z | z
  · exact st1.own a z
  · rw [z]
    exact .inr hp
theorem s1_retE (h : EO X W e ρ (fun ρ1 o => R ρ1 (.new o)) E) : S1 X W (.Return (some e) pos) ρ Nx R E := fun F H σ D wd sl kx kn kr => of_ps (ps_ret pe_w) (h F H σ _ wd sl kx fun F1 H1 ρ1 q ho o st1 wd1 sl1 hp fp np hh oo r => kr F1 H1 ρ1 _ (.new o) st1 wd1 ⟨q, ho, rfl, .inl hp, fp, np, hh, oo⟩ r)
/-! ### defs whose first argument is an object of the caller's: their bodies -/
theorem fn_okO {f : Addr} {fd : FuncData} {qual : Str} {params : Arguments} {body : List Stmt} {ps : List Str} {Pg : PG1} (F : FunD K x qual params body sc [] [] f fd) (Sc : FnScope N ps sc) (len : ∀ o ds Q E, Pg o ds Q E → ds.length + 1 = ps.length) (hv : chkB (locB sc) N vs = true)
    (hbody : ∀ X W, Cxt P w K mg base sc N vs vs k X W → Frm X → ∀ q o ds Q E, Pg o ds Q E → SW X W body (args (.own q o :: ds.map S.d) N.length) (fun ρ' => ∃ o', ρ'[0]? = some (some (.own q o')) ∧ Q o' .none) (fun ρ' r => ∃ o' d, ρ'[0]? = some (some (.own q o')) ∧ r.toD = some d ∧ Q o' d) (fun ρ' y => ∃ o', ρ'[0]? = some (some (.own q o')) ∧ E o' y)) :
    FnOk P w K mg base (L2.CX P w) (k + 1) f fd ps (spO K Pg) := by
  refine F.ok Sc (fun vs H Q E h => ?_) (fun cdv A outer s H vs Q E hr h => ?_)
  · obtain ⟨F, q, o, vs', ds, Qd, Ed, rfl, _, _, _, dd, pg, _⟩ := h
    rw [List.length_cons, dd.length]
    exact len o ds Qd Ed pg
  · obtain ⟨F0, q, o, vs', ds, Qd, Ed, rfl, ex, fq, ⟨ho, hh, oo⟩, dd, pg, kq, ke⟩ := h
    have C := cxt_of (P := P) (w := w) (K := K) (mg := mg) (base := base) (outer := outer) (s := s) (H := H) (E := E) (cdv := cdv) (f := f) (qual := qual) Sc hv hr
    refine ⟨_, pss_w, ?_⟩
    have hl := len o ds Qd Ed pg
    have at0 : ∀ (i : Nat) (a : Addr) (o' : O), (args (.own q o :: ds.map S.d) N.length)[i]? = some (some (S.own a o')) → i = 0 ∧ a = q ∧ o' = o := fun i a o' z => by
      have z1 := args_get z
      cases i with
      | zero =>
        cases z1
        exact ⟨rfl, rfl, rfl⟩
      | succ i =>
        rw [List.getElem?_cons_succ, List.getElem?_map] at z1
        cases e : ds[i]? with
        | none =>
          rw [e] at z1
          cases z1
        | some y =>
          rw [e] at z1
          cases z1
    have ow : ∀ a, Owns (args (.own q o :: ds.map S.d) N.length) a → a = q := fun a ⟨i, o', z⟩ => (at0 i a o' z).2.1
    have wd : Wd K F0 H (args (.own q o :: ds.map S.d) N.length) := by
      refine ⟨ex, fun i a o' z => ?_, fun i j a o1 o2 z z' => by rw [(at0 i a o1 z).1, (at0 j a o2 z').1]⟩
      obtain ⟨_, rfl, rfl⟩ := at0 i a o' z
      exact ⟨fq, ho, hh, oo⟩
    have sl : Sl K F0 (L2.start N (.ref q :: vs')) (args (.own q o :: ds.map S.d) N.length) := by
      refine ⟨?_, fun i z t => ?_⟩
      · rw [start_len (by rw [List.length_cons, dd.length, hl]; exact ps_le Sc), args_len (by rw [List.length_cons, List.length_map, hl]; exact ps_le Sc)]
      · have z2 := args_get t
        cases i with
        | zero =>
          cases z2
          exact ⟨.ref q, start_get rfl, rfl⟩
        | succ i =>
          rw [List.getElem?_cons_succ, List.getElem?_map] at z2
          cases e : ds[i]? with
          | none =>
            rw [e] at z2
            cases z2
          | some y =>
            rw [e] at z2
            cases z2
            obtain ⟨v, h1, h2⟩ := dd.get e
            exact ⟨v, start_get (by rw [List.getElem?_cons_succ]; exact h1), h2⟩
    have gr : ∀ {F' H' : Hp} {ρ' : Rho}, Stp (args (.own q o :: ds.map S.d) N.length) ρ' F0 H F' H' → Wd K F' H' ρ' → GrB q F0 H F' H' := fun st wd' =>
      ⟨st.ex, fun a u n z => st.keep a u z (fun y => n (ow a y)), wd'.sub, fun a u n z z' => st.fr a u z z' (fun y => n (ow a y)), st.all⟩
    refine hbody _ _ C ⟨rfl, rfl⟩ q o ds Qd Ed pg F0 H _ _ wd sl (fun F' H' σ' ρ' y xd st wd' sl' xa e => ?_) (fun F' H' σ' ρ' st wd' sl' n => ?_) (fun F' H' ρ' v r st wd' rt z => ?_)
    · obtain ⟨o', h0, e⟩ := e
      obtain ⟨f', hw⟩ := wd'.own 0 q o' h0
      exact ke F' H' o' y xd (gr st wd') f' hw xa e
    · obtain ⟨o', h0, n⟩ := n
      obtain ⟨f', hw⟩ := wd'.own 0 q o' h0
      exact kq F' H' o' .non .none (gr st wd') f' hw .non n
    · obtain ⟨o', d, h0, hd, n⟩ := z
      obtain ⟨F2, s2, w2, e2, d2⟩ := frzR st wd' rt hd
      obtain ⟨f', hw⟩ := w2.own 0 q o' h0
      exact kq F2 H' o' v d (gr s2 w2) f' hw d2 n
/-! ### draws: the first argument is the draw's state -/
def pD (Pf : List PyData → (PyData → Prop) → Prop) : PG1 := fun o ds Q _ => o = .rs ∧ Pf ds (fun d => Q .rs d)
abbrev PDr := List PyData → (PyData → Prop) → Prop
theorem set_self {i : Nat} {z : Option S} (h : ρ[i]? = some z) : ρ.set i z = ρ := by
  refine List.ext_getElem? fun j => ?_
  rw [List.getElem?_set]
  split
  · rename_i e
    subst e
    split
    · exact h.symm
    · rename_i n
      rw [List.getElem?_eq_none (by omega)] at h
      cases h
  · rfl
theorem ew_draw (C : Cxt P w K mg base sc N vs ls k X W) {j : Nat} {Pf : PDr} (G : FnO P w K mg base j x (pD Pf)) [sy : Slot N y i] {q : Addr} (hs : ρ[i]? = some (some (.own q .rs))) (hv : vs[i]? = some true)
    (h : AW X W es ρ (fun ρ1 ds => ρ1[i]? = some (some (.own q .rs)) ∧ Pf ds (Q ρ1)) E) (hj : j ≤ k := by decide) (hg : sc.names.lookup x = some .globalImplicit := by decide +kernel)
    (hdb : (x == ("__debug__" : Str)) = false := by decide) (hpl : (backTo pos (starEach es X.env)).any (·.1) = false := by with_unfolding_all rfl) (hd : (y == ("__debug__" : Str)) = false := by decide) (hcd : (y == ("__classdict__" : Str)) = false := by decide) :
    EW X W (.Call (.Name x p) (.Name y p2 :: es) [] pos) ρ Q E := by
  refine ew_callO C G hs hv ?_ hj hg hdb hpl hd hcd
  intro F H σ R wd sl kx kk
  refine h F H σ R wd sl kx fun F' H' ρ' vs' ds st wd' sl' dd q' => kk F' H' ρ' vs' ds st wd' sl' dd ⟨.rs, q'.1, rfl, ?_⟩
  show Pf ds (fun d => Q (ρ'.set i (some (.own q .rs))) d)
  rw [set_self q'.1]
  exact q'.2
theorem fn_okD {f : Addr} {fd : FuncData} {qual : Str} {params : Arguments} {body : List Stmt} {ps : List Str} {Pf : PDr} (F : FunD K x qual params body sc [] [] f fd) (Sc : FnScope N ps sc) (len : ∀ ds Q, Pf ds Q → ds.length + 1 = ps.length) (hv : chkB (locB sc) N vs = true)
    (hbody : ∀ X W, Cxt P w K mg base sc N vs vs k X W → Frm X → ∀ q ds Q, Pf ds Q → SW X W body (args (.own q .rs :: ds.map S.d) N.length) (fun _ => False) (fun ρ' r => ∃ d, ρ'[0]? = some (some (.own q .rs)) ∧ r.toD = some d ∧ Q d) noX) :
    FnOk P w K mg base (L2.CX P w) (k + 1) f fd ps (spO K (pD Pf)) := by
  refine fn_okO F Sc (fun o ds Q E h => len ds _ h.2) hv fun X W C Fr q o ds Q E h => ?_
  obtain ⟨rfl, h⟩ := h
  intro F H σ D wd sl kx kn kr
  refine hbody X W C Fr q ds _ h F H σ D wd sl (fun _ _ _ _ _ _ _ _ _ _ z => z.elim) (fun _ _ _ _ _ _ _ z => z.elim) fun F' H' ρ' v r st wd' rt z => ?_
  obtain ⟨d, h0, hd, z⟩ := z
  exact kr F' H' ρ' v r st wd' rt ⟨.rs, d, h0, hd, z⟩
theorem GrB.refl {q : Addr} {F H : Hp} (e : Ex F H) : GrB q F H F H := ⟨Ex.refl _, fun _ _ _ h => h, e, fun _ _ _ f _ => f, fun _ h => h⟩
/-- the draw's state is opened, and closed behind -/
theorem sw_open {sts : List Stmt} {q : Addr} (hq : ρ[i]? = some (some (.own q .rs))) (h : ∀ ms, RS ms → SW X W sts (ρ.set i (some (.own q (.lst (ms.map PyData.int))))) (fun _ => False) (fun ρ' r => ∃ ms' d, ρ'[i]? = some (some (.own q (.lst (ms'.map PyData.int)))) ∧ RS ms' ∧ r = .d d ∧ R (ρ'.set i (some (.own q .rs))) (.d d)) noX) : SW X W sts ρ Nx R E := by
  intro F H σ D wd sl kx kn kr
  obtain ⟨fq, ho, hh, ms, rfl, rs⟩ := wd.own i q .rs hq
  have oo : OO X.K F (.lst (ms.map V.int)) (.lst (ms.map PyData.int)) := ⟨_, rfl, DDs.ofInts ms⟩
  have g : GrB q F H F H := GrB.refl wd.sub
  have hne : H q ≠ none := by rw [hh]; exact fun z => nomatch z
  have st0 : Stp ρ (ρ.set i (some (.own q (.lst (ms.map PyData.int))))) F H F H := g.stp hq hne
  refine h ms rs F H σ D (g.wd wd hq fq ⟨_, hh, oo⟩) (g.sl sl hq) (fun _ _ _ _ _ _ _ _ _ _ z => z.elim) (fun _ _ _ _ _ _ _ z => z.elim) fun F' H' ρ' v r st wd' rt z => ?_
  obtain ⟨ms', d, h0, rs', rfl, z⟩ := z
  obtain ⟨fq', ho', hh', xs', e', dd'⟩ := wd'.own i q _ h0
  have e2 := dd'.ints
  subst e2
  subst e'
  have g' : GrB q F' H' F' H' := GrB.refl wd'.sub
  have hne' : H' q ≠ none := by rw [hh']; exact fun z => nomatch z
  exact kr F' H' _ v (.d d) ((st0.trans st).trans (g'.stp h0 hne')) (g'.wd (o' := .rs) wd' h0 fq' ⟨_, hh', OO.r rs'⟩) rt z
/-! ### what is done to an owned list -/
/-- a step that changes the object at q alone -/
theorem GrB.put {q : Addr} {F H : Hp} {o : HO} (e : Ex F H) (f : F q = none) (hq : H q ≠ none) : GrB q F H F (upd H q o) where
  ex := Ex.refl _
  keep := fun a u n h => by rw [upd_ne n]; exact h
  sub := fun a u h => by rw [upd_ne (ne_of_none h f)]; exact e a u h
  fr := fun _ _ _ f _ => f
  all := fun a h => by
    by_cases z : a = q
    · subst z
      rw [upd_same] at h
      cases h
    · rw [upd_ne z] at h
      exact h
theorem pv_of (C : Cxt P w K mg base sc N vs ls k X W) [sx : Slot N x i] (hv : vs[i]? = some true) (hd : (x == ("__debug__" : Str)) = false := by decide) (hcd : (x == ("__classdict__" : Str)) = false := by decide) : PE X (.Name x p) (tVar i) :=
  pe_var (i := i) (by rw [C.eN]; exact sx.get) (by rw [C.es]; exact C.vis i x sx.get hv) hd hcd
/-- xs[e] -/
theorem ew_ixO (C : Cxt P w K mg base sc N vs ls k X W) [sx : Slot N x i] {q : Addr} {o : O} (hs : ρ[i]? = some (some (.own q o))) (hv : vs[i]? = some true) (h : EW X W b ρ (fun ρ1 d => ∃ n ds z, d = .int n ∧ ρ1[i]? = some (some (.own q (.lst ds))) ∧ atI ds n = some z ∧ Q ρ1 z) E) (hb : PlainIx b := by with_unfolding_all exact fun _ _ => rfl)
    (hd : (x == ("__debug__" : Str)) = false := by decide) (hcd : (x == ("__classdict__" : Str)) = false := by decide) : EW X W (.Subscript (.Name x p) b pos) ρ Q E := by
  intro F H σ R wd sl kx kk
  refine of_pe (pe_ix ix_list (pv_of C hv hd hcd) pe_w hb) ?_
  obtain ⟨v, h1, h2⟩ := sl.get i _ hs
  cases (show v = .ref q from h2)
  refine ⟨_, h1, ?_⟩
  refine h F H σ _ wd sl kx fun F1 H1 ρ1 v d st1 wd1 sl1 dd1 q1 => ?_
  obtain ⟨n, ds, z, rfl, hq, ha, q1⟩ := q1
  cases dd1
  obtain ⟨f1, ho, hh, xs, rfl, dd⟩ := wd1.own i q _ hq
  obtain ⟨u, a1, a2⟩ := dds_at dd ha
  exact ⟨q, xs, n, u, rfl, rfl, SqL.of hh, a1, kk F1 H1 ρ1 u z st1 wd1 sl1 a2 q1⟩
/-- len(xs) -/
theorem ew_lenO (C : Cxt P w K mg base sc N vs ls k X W) (B : Blt mg) [sx : Slot N x i] {q : Addr} {ds : List PyData} (hs : ρ[i]? = some (some (.own q (.lst ds)))) (hv : vs[i]? = some true) (h : Q ρ (.int ds.length)) (hg : sc.names.lookup ("len" : Str) = some .globalImplicit := by decide +kernel)
    (hd : (x == ("__debug__" : Str)) = false := by decide) (hcd : (x == ("__classdict__" : Str)) = false := by decide) : EW X W (.Call (.Name "len" p2) [.Name x p] [] pos) ρ Q E := by
  intro F H σ R wd sl kx kk
  refine of_pe (pe_callB call_len_seq (C.gl hg) (by rw [C.eg]; exact B.len) boot_len (pa_cons (pv_of C hv hd hcd) pa_nil)) ?_
  obtain ⟨v, h1, h2⟩ := sl.get i _ hs
  cases (show v = .ref q from h2)
  obtain ⟨f1, ho, hh, xs, rfl, dd⟩ := wd.own i q _ hs
  exact ⟨_, h1, q, xs, rfl, .inl (SqL.of hh), by rw [dd.length]; exact kk F H ρ _ _ Stp.refl wd sl (.int _) h⟩
/-- xs[e] = v -/
theorem s1_setIxO (C : Cxt P w K mg base sc N vs ls k X W) [sx : Slot N x i] {q : Addr} {o : O} (hs : ρ[i]? = some (some (.own q o))) (hv : vs[i]? = some true)
    (h : EW X W e ρ (fun ρ1 d => ∃ o1, ρ1[i]? = some (some (.own q o1)) ∧ EW X W b ρ1 (fun ρ2 z => ∃ n ds j, z = .int n ∧ ρ2[i]? = some (some (.own q (.lst ds))) ∧ ixN ds.length n = some j ∧ Nx (ρ2.set i (some (.own q (.lst (ds.set j d)))))) E) E)
    (hs1 : swapsWithSole [.Subscript (.Name x p) b p2] e pos.line X.env = pure false := by with_unfolding_all rfl) (hw : swappedStores [.Subscript (.Name x p) b p2] e X.env = pure none := by with_unfolding_all rfl)
    (hd : (x == ("__debug__" : Str)) = false := by decide) (hcd : (x == ("__classdict__" : Str)) = false := by decide) (ha : ∀ v, assign (.Subscript (.Name x p) b p2) X.env v = (do
      let ov ← holding [v] (eval (.Name x p) X.env)
      let iv ← holding [v, ov] (eval b X.env)
      standAt p2
      holding [v, ov, iv] (setItem ov iv v)
      release [v, ov, iv] []) := by intro _; with_unfolding_all rfl) : S1 X W (.Assign [.Subscript (.Name x p) b p2] e pos) ρ Nx R E := by
  intro F H σ D wd sl kx kn kr
  refine of_ps (ps_asg pe_w (pg_sub (pv_of C hv hd hcd) pe_w set_list ha) hs1 hw) ?_
  refine h F H σ _ wd sl kx fun F1 H1 ρ1 v d st1 wd1 sl1 dd1 q1 => ?_
  obtain ⟨o1, hq1, h1⟩ := q1
  obtain ⟨u, u1, u2⟩ := sl1.get i _ hq1
  cases (show u = .ref q from u2)
  refine ⟨_, u1, ?_⟩
  refine h1 F1 H1 σ _ wd1 sl1 (kx.step st1) fun F2 H2 ρ2 y z st2 wd2 sl2 dd2 q2 => ?_
  obtain ⟨n, ds, j, rfl, hq2, hj, nx⟩ := q2
  cases dd2
  obtain ⟨f2, ho, hh, xs, rfl, dd⟩ := wd2.own i q _ hq2
  refine ⟨q, xs, n, j, rfl, rfl, hh, by rw [dd.length]; exact hj, ?_⟩
  have hne : H2 q ≠ none := by rw [hh]; exact fun z => nomatch z
  have g : GrB q F2 H2 F2 (upd H2 q (.lst (xs.set j v))) := GrB.put wd2.sub f2 hne
  exact kn F2 _ σ _ ((st1.trans st2).trans (g.stp hq2 hne)) (g.wd wd2 hq2 f2 ⟨_, upd_same, OO.l (dd.set (dd1.mono st2.ex) j)⟩) (g.sl sl2 hq2) nx
/-- behind a change of an owned list -/
theorem own_upd {F H : Hp} {σ : L2.St} {q : Addr} {o : O} {xs xs' : List V} {ds' : List PyData} (wd : Wd K F H ρ) (sl : Sl K F σ ρ) (hq : ρ[i]? = some (some (S.own q o))) (f : F q = none) (hh : H q = some (.lst xs)) (dd : DDs K F xs' ds') :
    Stp ρ (ρ.set i (some (.own q (.lst ds')))) F H F (upd H q (.lst xs')) ∧ Wd K F (upd H q (.lst xs')) (ρ.set i (some (.own q (.lst ds')))) ∧ Sl K F σ (ρ.set i (some (.own q (.lst ds')))) := by
  have hne : H q ≠ none := by rw [hh]; exact fun z => nomatch z
  have g : GrB q F H F (upd H q (.lst xs')) := GrB.put wd.sub f hne
  exact ⟨g.stp hq hne, g.wd wd hq f ⟨_, upd_same, OO.l dd⟩, g.sl sl hq⟩
theorem ty_list {F H : Hp} {q : Addr} {ds : List PyData} (wd : Wd K F H ρ) (hq : ρ[i]? = some (some (S.own q (.lst ds)))) : tyV K "list" (.ref q) H := by
  obtain ⟨_, ho, hh, xs, rfl, _⟩ := wd.own i q _ hq
  exact .inl ⟨rfl, xs, SqL.of hh⟩
/-- xs.pop(e) -/
theorem ew_popAtO (C : Cxt P w K mg base sc N vs ls k X W) [sx : Slot N x i] {q : Addr} {d0 : List PyData} (hs : ρ[i]? = some (some (.own q (.lst d0)))) (hv : vs[i]? = some true)
    (h : EW X W b ρ (fun ρ1 l => ∃ n ds j z, l = .int n ∧ ρ1[i]? = some (some (.own q (.lst ds))) ∧ -(2 ^ 63) ≤ n ∧ n < 2 ^ 63 ∧ seqIndex? n ds.length = some j ∧ ds[j]? = some z ∧ Q (ρ1.set i (some (.own q (.lst (ds.eraseIdx j))))) z) E)
    (hd : (x == ("__debug__" : Str)) = false := by decide) (hcd : (x == ("__classdict__" : Str)) = false := by decide)
    (hbm : PE X (.Name x p) (tVar i) → PA X [b] (tCons (WEx X b) tNil) → PE X (.Call (.Attribute (.Name x p) "pop" p2) [b] [] pos) (tBM X.K "list" rPopAt (tVar i) (tCons (WEx X b) tNil)) := by intro h1 h2; exact pe_bm PySem.F.plainAttrs_list PySem.F.slot_list_pop PySem.F.type_list_pop mt_popAt h1 h2 (by with_unfolding_all rfl) (by with_unfolding_all rfl) (by with_unfolding_all rfl))
    (he : starEach [b] X.env = (false, eval b X.env) :: starEach [] X.env := by with_unfolding_all rfl) : EW X W (.Call (.Attribute (.Name x p) "pop" p2) [b] [] pos) ρ Q E := by
  intro F H σ R wd sl kx kk
  refine of_pe (hbm (pv_of C hv hd hcd) (pa_cons pe_w pa_nil he)) ?_
  obtain ⟨v, h1, h2⟩ := sl.get i _ hs
  cases (show v = .ref q from h2)
  refine ⟨_, h1, ty_list wd hs, ?_⟩
  refine h F H σ _ wd sl kx fun F1 H1 ρ1 v l st1 wd1 sl1 dd1 q1 => ?_
  obtain ⟨n, ds, j, z, rfl, hq, n1, n2, hj, hz, q1⟩ := q1
  cases dd1
  obtain ⟨f1, ho, hh, xs, rfl, dd⟩ := wd1.own i q _ hq
  obtain ⟨u, u1, u2⟩ := dd.get hz
  have dd' : DDs X.K F1 (xs.eraseIdx j) (ds.eraseIdx j) := by
    rw [List.eraseIdx_eq_take_drop_succ, List.eraseIdx_eq_take_drop_succ]
    exact (dd.take j).append (dd.drop (j + 1))
  obtain ⟨s2, w2, l2⟩ := own_upd wd1 sl1 hq f1 hh dd'
  exact ⟨q, xs, n, j, u, rfl, rfl, hh, n1, n2, by rw [dd.length]; exact hj, u1, kk F1 _ _ u z (st1.trans s2) w2 l2 u2 q1⟩
/-- xs.append(e) -/
theorem ew_appO (C : Cxt P w K mg base sc N vs ls k X W) [sx : Slot N x i] {q : Addr} {d0 : List PyData} (hs : ρ[i]? = some (some (.own q (.lst d0)))) (hv : vs[i]? = some true)
    (h : EW X W b ρ (fun ρ1 d => ∃ ds, ρ1[i]? = some (some (.own q (.lst ds))) ∧ ds.length < 16777216 ∧ Q (ρ1.set i (some (.own q (.lst (ds ++ [d]))))) .none) E)
    (hd : (x == ("__debug__" : Str)) = false := by decide) (hcd : (x == ("__classdict__" : Str)) = false := by decide)
    (hbm : PE X (.Name x p) (tVar i) → PA X [b] (tCons (WEx X b) tNil) → PE X (.Call (.Attribute (.Name x p) "append" p2) [b] [] pos) (tBM X.K "list" rAppend (tVar i) (tCons (WEx X b) tNil)) := by intro h1 h2; exact pe_bm PySem.F.plainAttrs_list PySem.F.slot_list_append PySem.F.type_list_append mt_append h1 h2 (by with_unfolding_all rfl) (by with_unfolding_all rfl) (by with_unfolding_all rfl))
    (he : starEach [b] X.env = (false, eval b X.env) :: starEach [] X.env := by with_unfolding_all rfl) : EW X W (.Call (.Attribute (.Name x p) "append" p2) [b] [] pos) ρ Q E := by
  intro F H σ R wd sl kx kk
  refine of_pe (hbm (pv_of C hv hd hcd) (pa_cons pe_w pa_nil he)) ?_
  obtain ⟨v, h1, h2⟩ := sl.get i _ hs
  cases (show v = .ref q from h2)
  refine ⟨_, h1, ty_list wd hs, ?_⟩
  refine h F H σ _ wd sl kx fun F1 H1 ρ1 v l st1 wd1 sl1 dd1 q1 => ?_
  obtain ⟨ds, hq, hl, q1⟩ := q1
  obtain ⟨f1, ho, hh, xs, rfl, dd⟩ := wd1.own i q _ hq
  obtain ⟨s2, w2, l2⟩ := own_upd wd1 sl1 hq f1 hh (dd.append (.cons dd1 .nil))
  exact ⟨q, xs, v, rfl, rfl, hh, by rw [dd.length, sizeLine_eq]; exact hl, kk F1 _ _ _ _ (st1.trans s2) w2 l2 .non q1⟩
/-- xs.extend(e), e a list -/
theorem ew_extO (C : Cxt P w K mg base sc N vs ls k X W) [sx : Slot N x i] {q : Addr} {d0 : List PyData} (hs : ρ[i]? = some (some (.own q (.lst d0)))) (hv : vs[i]? = some true)
    (h : EW X W b ρ (fun ρ1 d => ∃ ds es, d = .list es ∧ ρ1[i]? = some (some (.own q (.lst ds))) ∧ ds.length + es.length ≤ 16777216 ∧ Q (ρ1.set i (some (.own q (.lst (ds ++ es))))) .none) E)
    (hd : (x == ("__debug__" : Str)) = false := by decide) (hcd : (x == ("__classdict__" : Str)) = false := by decide)
    (hbm : PE X (.Name x p) (tVar i) → PA X [b] (tCons (WEx X b) tNil) → PE X (.Call (.Attribute (.Name x p) "extend" p2) [b] [] pos) (tBM X.K "list" rExtend (tVar i) (tCons (WEx X b) tNil)) := by intro h1 h2; exact pe_bm PySem.F.plainAttrs_list PySem.F.slot_list_extend PySem.F.type_list_extend mt_extend h1 h2 (by with_unfolding_all rfl) (by with_unfolding_all rfl) (by with_unfolding_all rfl))
    (he : starEach [b] X.env = (false, eval b X.env) :: starEach [] X.env := by with_unfolding_all rfl) : EW X W (.Call (.Attribute (.Name x p) "extend" p2) [b] [] pos) ρ Q E := by
  intro F H σ R wd sl kx kk
  refine of_pe (hbm (pv_of C hv hd hcd) (pa_cons pe_w pa_nil he)) ?_
  obtain ⟨v, h1, h2⟩ := sl.get i _ hs
  cases (show v = .ref q from h2)
  refine ⟨_, h1, ty_list wd hs, ?_⟩
  refine h F H σ _ wd sl kx fun F1 H1 ρ1 v l st1 wd1 sl1 dd1 q1 => ?_
  obtain ⟨ds, es, rfl, hq, hl, q1⟩ := q1
  obtain ⟨f1, ho, hh, xs, rfl, dd⟩ := wd1.own i q _ hq
  cases dd1 with
  | lst hb db =>
    obtain ⟨s2, w2, l2⟩ := own_upd wd1 sl1 hq f1 hh (dd.append db)
    exact ⟨q, _, xs, _, rfl, rfl, hh, wd1.sub _ _ hb, by rw [dd.length, db.length, sizeLine_eq]; exact hl, kk F1 _ _ _ _ (st1.trans s2) w2 l2 .non q1⟩
/-- an owned list, looked at as plain data: from here on it stays as it is -/
theorem ew_varF (C : Cxt P w K mg base sc N vs ls k X W) [sx : Slot N x i] {q : Addr} {ds : List PyData} (hs : ρ[i]? = some (some (.own q (.lst ds)))) (hv : vs[i]? = some true) (h : Q (ρ.set i (some (.d (.list ds)))) (.list ds))
    (hd : (x == ("__debug__" : Str)) = false := by decide) (hcd : (x == ("__classdict__" : Str)) = false := by decide) : EW X W (.Name x pos) ρ Q E := by
  intro F H σ R wd sl kx kk
  refine of_pe (pv_of C hv hd hcd) ?_
  obtain ⟨v, h1, h2⟩ := sl.get i _ hs
  cases (show v = .ref q from h2)
  obtain ⟨f1, ho, hh, xs, rfl, dd⟩ := wd.own i q _ hs
  have ex : Ex F (upd F q (.lst xs)) := Ex.new f1
  have hi : i < ρ.length := by
    cases Nat.lt_or_ge i ρ.length with
    | inl z => exact z
    | inr z =>
      rw [List.getElem?_eq_none z] at hs
      cases hs
  have other : ∀ {j : Nat} {a : Addr} {o : O}, (ρ.set i (some (.d (.list ds))))[j]? = some (some (S.own a o)) → a ≠ q := fun {j a o} z e => by
    subst e
    have z1 := set_own noD z
    have e := wd.dis i j a _ o hs z1
    subst e
    rw [List.getElem?_set, if_pos rfl, if_pos hi] at z
    cases z
  refine ⟨_, h1, kk (upd F q (.lst xs)) H _ _ _ ⟨ex, fun a o z _ => z, fun a o z zz n => ?_, fun a ⟨j, o, z⟩ => .inl ⟨j, o, set_own noD z⟩, fun a z => z⟩ ⟨fun a o z => ?_, fun j a o z => ?_, (wd.set noD).dis⟩ ⟨by rw [List.length_set]; exact sl.len, fun j z t => ?_⟩ (.lst upd_same (dd.mono ex)) h⟩
  · have ne : a ≠ q := fun e => by
      subst e
      exact n ⟨i, _, hs⟩
    rw [upd_ne ne]
    exact z
  · by_cases e : a = q
    · subst e
      rw [upd_same] at z
      rw [hh, z]
    · rw [upd_ne e] at z
      exact wd.sub a o z
  · obtain ⟨z1, ho, z2, z3⟩ := wd.own j a o (set_own noD z)
    exact ⟨by rw [upd_ne (other z)]; exact z1, ho, z2, z3.mono ex⟩
  · rw [List.getElem?_set] at t
    split at t
    · rename_i e
      subst e
      first
        | rw [if_pos hi] at t
        | skip
      cases (Option.some.inj (Option.some.inj t))
      exact ⟨_, h1, .lst upd_same (dd.mono ex)⟩
    · obtain ⟨u, u1, u2⟩ := sl.get j z t
      exact ⟨u, u1, u2.mono ex⟩
/-- return xs, an owned object: it is the caller's -/
theorem s1_retO (C : Cxt P w K mg base sc N vs ls k X W) [sx : Slot N x i] {q : Addr} {o : O} (hs : ρ[i]? = some (some (.own q o))) (hv : vs[i]? = some true) (h : R (ρ.set i none) (.new o))
    (hd : (x == ("__debug__" : Str)) = false := by decide) (hcd : (x == ("__classdict__" : Str)) = false := by decide) : S1 X W (.Return (some (.Name x p)) pos) ρ Nx R E := by
  intro F H σ D wd sl kx kn kr
  refine of_ps (ps_ret (pv_of C hv hd hcd)) ?_
  obtain ⟨v, h1, h2⟩ := sl.get i _ hs
  cases (show v = .ref q from h2)
  obtain ⟨f1, ho, hh, oo⟩ := wd.own i q _ hs
  refine ⟨_, h1, kr F H _ _ (.new o) (Stp.set noN) (wd.set noN) ⟨q, ho, rfl, .inr ⟨i, o, hs⟩, f1, fun ⟨j, o', z⟩ => ?_, hh, oo⟩ h⟩
  have e := wd.dis i j q _ o' hs (set_own noN z)
  subst e
  rw [List.getElem?_set, if_pos rfl] at z
  split at z
  · cases (Option.some.inj z)
  · cases z
end
end Bp

namespace Bp
open PySem PySem.Spec PyProof.Rows L2
section
variable {P : Program} {w : World} {K : PySem.W.Frag} {mg : Str → Option Value} {base : Heap} {sc : Scope} {N : List Str} {vs ls : List Bool} {k : Nat} {X : Cx} {W : WX} {ρ : Rho} {Q : Rho → PyData → Prop} {E : XQ} {Nx : Rho → Prop} {R : Rho → Ret → Prop} {a b c e : Expr} {es : List Expr} {pos p p2 p3 p4 px : Pos} {x y : Str} {i : Nat}
/-! ### the script -/
theorem itd_sql {F : Hp} {a : Addr} {xs : List V} {ds : List PyData} (h : SqL K F a xs) (dd : DDs K F xs ds) : ItD K F (Itl K a) ds where
  go := fun F' H i e s hl => by
    obtain ⟨v, h1, _⟩ := dd.get (List.getElem?_eq_getElem hl)
    exact ⟨xs, v, s.sql (e.sql h), h1⟩
  yld := fun F' H i y H' d e s hd ⟨eH, hy⟩ => by
    subst eH
    have q := hy xs (s.sql (e.sql h))
    obtain ⟨v, h1, h2⟩ := dd.get hd
    rw [h1] at q
    cases q
    exact ⟨F', Gr.refl s, h2.mono e⟩
  stop := fun F' H e s => ⟨xs, s.sql (e.sql h), by rw [dd.length]; exact Nat.le_refl _⟩
theorem iw_scr (C : Cxt P w K mg base sc N vs ls k X W) [sx : Slot N x i] {tg : Expr} {ns : List Int} {Q : Rho → List PyData → Prop} (hs : ρ[i]? = some (some (.scr ns))) (hv : vs[i]? = some true) (h : Q ρ (ns.map PyData.int))
    (hd : (x == ("__debug__" : Str)) = false := by decide) (hcd : (x == ("__classdict__" : Str)) = false := by decide) : IW X W tg (.Name x p) ρ Q E := by
  intro F H σ R wd sl kx kk
  refine of_pi (pi_list (pv_of C hv hd hcd)) ?_
  obtain ⟨v, h1, a, rfl, h2⟩ := sl.get i _ hs
  have eK := C.eK
  exact ⟨_, h1, a, rfl, ⟨_, wd.sub.sql h2⟩, kk F H ρ _ _ Stp.refl wd sl (itd_sql h2 (DDs.ofInts ns)) h⟩
/-! ### _law_random: a new state of draws -/
def spR (K : PySem.W.Frag) : Sp := fun vs H Q _ => ∃ (F : Hp) (a : Addr) (ns : List Int) (salt : Int), vs = [.ref a, .int salt] ∧ Ex F H ∧ SqL K F a (ns.map V.int) ∧ ns.length ≤ 63 ∧ 0 ≤ salt ∧ salt < 2147483647 ∧
  ∀ (F' H' : Hp) (p : Addr) (ms : List Int), Gr F H F' H' → H p = none → F' p = none → H' p = some (.lst (ms.map V.int)) → RS ms → Q (.ref p) H'
def FnR (P : Program) (w : World) (K : PySem.W.Frag) (mg : Str → Option Value) (base : Heap) (j : Nat) (x : Str) : Prop :=
  ∃ f fd ps, FnOk P w K mg base (L2.CX P w) j f fd ps (spR K) ∧ mg x = some (.ref f) ∧ PySem.W.keepIn K (.ref f) = true ∧ Binds K fd ps []
theorem no_own {ss : List S} {n : Nat} (h : ∀ a o, S.own a o ∉ ss) : ∀ a, ¬ Owns (args ss n) a := fun a ⟨j, o, z⟩ => h a o (List.mem_of_getElem? (args_get z))
theorem fn_okR {f : Addr} {fd : FuncData} {qual : Str} {params : Arguments} {body : List Stmt} {p1 p2 : Str} (F : FunD K x qual params body sc [] [] f fd) (Sc : FnScope N [p1, p2] sc) (hv : chkB (locB sc) N vs = true)
    (hbody : ∀ X W, Cxt P w K mg base sc N vs vs k X W → Frm X → ∀ (ns : List Int) (salt : Int), ns.length ≤ 63 → 0 ≤ salt → salt < 2147483647 → SW X W body (args [.scr ns, .d (.int salt)] N.length) (fun _ => False) (fun ρ' r => ∃ ms : List Int, r = .new (.lst (ms.map PyData.int)) ∧ RS ms) noX) :
    FnOk P w K mg base (L2.CX P w) (k + 1) f fd [p1, p2] (spR K) := by
  refine F.ok Sc (fun vs H Q E h => ?_) (fun cdv A outer s H vs Q E hr h => ?_)
  · obtain ⟨F, a, ns, salt, rfl, _⟩ := h
    rfl
  · obtain ⟨F0, a, ns, salt, rfl, ex, sq, hl, s0, s1, kq⟩ := h
    have C := cxt_of (P := P) (w := w) (K := K) (mg := mg) (base := base) (outer := outer) (s := s) (H := H) (E := E) (cdv := cdv) (f := f) (qual := qual) Sc hv hr
    refine ⟨_, pss_w, ?_⟩
    have no : ∀ a, ¬ Owns (args [.scr ns, .d (.int salt)] N.length) a := no_own fun a o h => by simp at h
    have wd : Wd K F0 H (args [.scr ns, .d (.int salt)] N.length) := ⟨ex, fun i a o q => absurd ⟨i, o, q⟩ (no a), fun i _ a o _ q _ => absurd ⟨i, o, q⟩ (no a)⟩
    have sl : Sl K F0 (L2.start N [.ref a, .int salt]) (args [.scr ns, .d (.int salt)] N.length) := by
      have l2 : 2 ≤ N.length := ps_le Sc
      refine ⟨by rw [start_len (vs := [.ref a, .int salt]) l2, args_len (ss := [.scr ns, .d (.int salt)]) l2], fun i z t => ?_⟩
      have z2 := args_get t
      match i with
      | 0 =>
        cases z2
        exact ⟨.ref a, start_get rfl, a, rfl, sq⟩
      | 1 =>
        cases z2
        exact ⟨.int salt, start_get rfl, .int salt⟩
      | i + 2 => cases z2
    refine hbody _ _ C ⟨rfl, rfl⟩ ns salt hl s0 s1 F0 H _ _ wd sl (fun _ _ _ _ _ _ _ _ _ _ z => z.elim) (fun _ _ _ _ _ _ _ z => z.elim) (fun F' H' ρ' v r st wd' rt z => ?_)
    obtain ⟨ms, rfl, rs⟩ := z
    obtain ⟨q, ho, rfl, h0, f', _, hh, xs, rfl, dd⟩ := rt
    have e := dd.ints
    subst e
    exact kq F' H' q ms ⟨st.ex, fun a o z => st.keep a o z (no a), wd'.sub, fun a o z z' => st.fr a o z z' (no a)⟩ (h0.resolve_right (no q)) f' hh rs
theorem s1_random (C : Cxt P w K mg base sc N vs ls k X W) {j n : Nat} (G : FnR P w K mg base j x) {z s : Str} {l : Nat} [sz : Slot N z i] [ss : Slot N s l] {ns : List Int} {salt : Int} (hs : ρ[l]? = some (some (.scr ns))) (hv : vs[l]? = some true) (hl : ls[i]? = some true) (h63 : ns.length ≤ 63)
    (h : ∀ q, Nx (ρ.set i (some (.own q .rs)))) (s0 : 0 ≤ salt := by decide) (s1 : salt < 2147483647 := by decide) (hj : j ≤ k := by decide) (hg : sc.names.lookup x = some .globalImplicit := by decide +kernel)
    (hdb : (x == ("__debug__" : Str)) = false := by decide) (hd : (s == ("__debug__" : Str)) = false := by decide) (hcd : (s == ("__classdict__" : Str)) = false := by decide) :
    S1 X W (.Assign [.Name z px] (.Call (.Name x p) [.Name s p2, .Constant (.int salt) n p3] [] p4) pos) ρ Nx R E := by
  intro F H σ D wd sl kx kn kr
  obtain ⟨f, fd, ps, ok, hm, kp, bd⟩ := G
  have hgl := C.gl hg
  have hr : Room j X.A := C.room.mono hj
  have pv' : PE X (.Name s p2) (tVar l) := pv_of C hv hd hcd
  have hN : X.N.Nodup := by rw [C.eN]; exact C.nd
  have hi : X.N[i]? = some z := by rw [C.eN]; exact sz.get
  have hlo := C.lo sz.get hl
  have hst := C.st sz.get hl
  obtain ⟨rfl, rfl, rfl, rfl, rfl⟩ : X.prog = P ∧ X.w = w ∧ X.K = K ∧ X.mg = mg ∧ X.base = base := ⟨C.eP, C.ew, C.eK, C.eg, C.eb⟩
  refine of_ps (ps_set (i := i) hN hi hlo (pe_callS ok hr hgl hm kp bd (fun σ => passAt C.tk σ) (pa_cons pv' (pa_cons pe_int pa_nil)) hdb rfl rfl) rfl hst) ?_
  obtain ⟨v, h1, a, rfl, h2⟩ := sl.get l _ hs
  refine ⟨_, h1, F, a, ns, salt, rfl, wd.sub, h2, h63, s0, s1, fun F' H' q ms g h0 f' hh rs => ?_⟩
  have nq : ¬ Owns ρ q := fun ⟨j, o, z⟩ => by
    obtain ⟨_, _, z2, _⟩ := wd.own j q o z
    rw [h0] at z2
    cases z2
  have st : Stp ρ ρ F H F' H' := g.stp
  refine kn F' H' _ _ ⟨st.ex, st.keep, st.fr, fun a z => ?_, st.all⟩ ((wd.gr g).own_set f' nq hh (OO.r rs)) (sl.mono g.ex).own_set (h q)
  rcases owns_set z with z | z
  · exact st.own a z
  · rw [z]
    exact .inr h0
/-! ### the law itself -/
def spLaw (K : PySem.W.Frag) : Sp := fun vs H Q _ => ∃ (a : Addr) (ns : List Int), vs = [.ref a] ∧ SqL K H a (ns.map V.int) ∧ ns.length ≤ 63 ∧ ∀ H', Q (.bl true) H'
theorem fn_okL {f : Addr} {fd : FuncData} {qual : Str} {params : Arguments} {body : List Stmt} {p1 : Str} (F : FunD K x qual params body sc [] [] f fd) (Sc : FnScope N [p1] sc) (hv : chkB (locB sc) N vs = true)
    (hbody : ∀ X W, Cxt P w K mg base sc N vs vs k X W → Frm X → ∀ (ns : List Int), ns.length ≤ 63 → SW X W body (args [.scr ns] N.length) (fun _ => False) (fun ρ' r => r = .d (.bool true)) noX) :
    FnOk P w K mg base (L2.CX P w) (k + 1) f fd [p1] (spLaw K) := by
  refine F.ok Sc (fun vs H Q E h => ?_) (fun cdv A outer s H vs Q E hr h => ?_)
  · obtain ⟨a, ns, rfl, _⟩ := h
    rfl
  · obtain ⟨a, ns, rfl, sq, hl, kq⟩ := h
    have C := cxt_of (P := P) (w := w) (K := K) (mg := mg) (base := base) (outer := outer) (s := s) (H := H) (E := E) (cdv := cdv) (f := f) (qual := qual) Sc hv hr
    refine ⟨_, pss_w, ?_⟩
    have no : ∀ a, ¬ Owns (args [.scr ns] N.length) a := no_own fun a o h => by simp at h
    have wd : Wd K H H (args [.scr ns] N.length) := ⟨Ex.refl _, fun i a o q => absurd ⟨i, o, q⟩ (no a), fun i _ a o _ q _ => absurd ⟨i, o, q⟩ (no a)⟩
    have sl : Sl K H (L2.start N [.ref a]) (args [.scr ns] N.length) := by
      have l2 : 1 ≤ N.length := ps_le Sc
      refine ⟨by rw [start_len (vs := [.ref a]) l2, args_len (ss := [.scr ns]) l2], fun i z t => ?_⟩
      have z2 := args_get t
      match i with
      | 0 =>
        cases z2
        exact ⟨.ref a, start_get rfl, a, rfl, sq⟩
      | i + 1 => cases z2
    refine hbody _ _ C ⟨rfl, rfl⟩ ns hl H H _ _ wd sl (fun _ _ _ _ _ _ _ _ _ _ z => z.elim) (fun _ _ _ _ _ _ _ z => z.elim) (fun F' H' ρ' v r st wd' rt z => ?_)
    subst z
    cases rt
    exact kq H'
end
end Bp

namespace Bp
open PySem PySem.Spec PyProof.Rows L2
/-! ### defs of the module, by their names -/
abbrev FD (K : PySem.W.Frag) (x : Str) (st : Stmt) (f : Addr) (fd : FuncData) : Prop := FunD K x x (defArgs st) (defBody st) (defScope st) [] [] f fd
/-- the def st stands at the module's name x -/
def At (K : PySem.W.Frag) (mg : Str → Option Value) (x : Str) (st : Stmt) : Prop := ∃ f fd, FD K x st f fd ∧ mg x = some (.ref f)
/-- how the arguments come to the parameters -/
def Bd (x : Str) (st : Stmt) (ps : List Str) : Prop := ∀ (dV kV doc pm : Value) (an : Option Addr) (cdv ct : Value) (us : List Value), dV = .none → us.length = ps.length → bindArgs (PySem.W.fnOf x x (defArgs st) (defBody st) (defScope st) dV kV doc pm an cdv ct) ⟨us, []⟩ = pure (ps.zip us)
theorem bd_of {x : Str} {st : Stmt} {ps : List Str} (h : ∀ (kV doc pm : Value) (an : Option Addr) (cdv ct : Value) (us : List Value), us.length = ps.length → bindArgs (PySem.W.fnOf x x (defArgs st) (defBody st) (defScope st) .none kV doc pm an cdv ct) ⟨us, []⟩ = pure (ps.zip us)) : Bd x st ps :=
  fun dV kV doc pm an cdv ct us e hl => by
    subst e
    exact h kV doc pm an cdv ct us hl
theorem bd_binds {K : PySem.W.Frag} {x : Str} {st : Stmt} {ps : List Str} {f : Addr} {fd : FuncData} (F : FD K x st f fd) (b : Bd x st ps) : Binds K fd ps [] := F.bindsN fun kV doc pm an cdv ct us hl => b .none kV doc pm an cdv ct us rfl hl
section
variable {P : Program} {w : World} {K : PySem.W.Frag} {mg : Str → Option Value} {base : Heap} {N ps : List Str} {vs : List Bool} {k : Nat} {x : Str} {st : Stmt}
theorem fn_def {Pf : PF} (A : At K mg x st) (Sc : FnScope N ps (defScope st)) (bd : Bd x st ps) (len : ∀ ds Q E, Pf ds Q E → ds.length = ps.length) (hv : chkB (locB (defScope st)) N vs = true)
    (hbody : ∀ X W, Cxt P w K mg base (defScope st) N vs vs k X W → Frm X → ∀ ds Q E, Pf ds Q E → SW X W (defBody st) (args (ds.map S.d) N.length) (fun _ => Q (.d .none)) (fun _ r => Q r) (fun _ y => E y)) : Fn P w K mg base (k + 1) x Pf := by
  obtain ⟨f, fd, F, hm⟩ := A
  exact ⟨f, fd, ps, fn_ok F Sc len hv hbody, hm, F.kp, bd_binds F bd⟩
theorem fn_draw {Pf : PDr} (A : At K mg x st) (Sc : FnScope N ps (defScope st)) (bd : Bd x st ps) (len : ∀ ds Q, Pf ds Q → ds.length + 1 = ps.length) (hv : chkB (locB (defScope st)) N vs = true)
    (hbody : ∀ X W, Cxt P w K mg base (defScope st) N vs vs k X W → Frm X → ∀ q ds Q, Pf ds Q → SW X W (defBody st) (args (.own q .rs :: ds.map S.d) N.length) (fun _ => False) (fun ρ' r => ∃ d, ρ'[0]? = some (some (.own q .rs)) ∧ r.toD = some d ∧ Q d) noX) : FnO P w K mg base (k + 1) x (pD Pf) := by
  obtain ⟨f, fd, F, hm⟩ := A
  exact ⟨f, fd, ps, fn_okD F Sc len hv hbody, hm, F.kp, bd_binds F bd⟩
theorem fn_obj {Pg : PG1} (A : At K mg x st) (Sc : FnScope N ps (defScope st)) (bd : Bd x st ps) (len : ∀ o ds Q E, Pg o ds Q E → ds.length + 1 = ps.length) (hv : chkB (locB (defScope st)) N vs = true)
    (hbody : ∀ X W, Cxt P w K mg base (defScope st) N vs vs k X W → Frm X → ∀ q o ds Q E, Pg o ds Q E → SW X W (defBody st) (args (.own q o :: ds.map S.d) N.length) (fun ρ' => ∃ o', ρ'[0]? = some (some (.own q o')) ∧ Q o' .none) (fun ρ' r => ∃ o' d, ρ'[0]? = some (some (.own q o')) ∧ r.toD = some d ∧ Q o' d) (fun ρ' y => ∃ o', ρ'[0]? = some (some (.own q o')) ∧ E o' y)) : FnO P w K mg base (k + 1) x Pg := by
  obtain ⟨f, fd, F, hm⟩ := A
  exact ⟨f, fd, ps, fn_okO F Sc len hv hbody, hm, F.kp, bd_binds F bd⟩
theorem fn_random {p1 p2 : Str} (A : At K mg x st) (Sc : FnScope N [p1, p2] (defScope st)) (bd : Bd x st [p1, p2]) (hv : chkB (locB (defScope st)) N vs = true)
    (hbody : ∀ X W, Cxt P w K mg base (defScope st) N vs vs k X W → Frm X → ∀ (ns : List Int) (salt : Int), ns.length ≤ 63 → 0 ≤ salt → salt < 2147483647 → SW X W (defBody st) (args [.scr ns, .d (.int salt)] N.length) (fun _ => False) (fun ρ' r => ∃ ms : List Int, r = .new (.lst (ms.map PyData.int)) ∧ RS ms) noX) : FnR P w K mg base (k + 1) x := by
  obtain ⟨f, fd, F, hm⟩ := A
  exact ⟨f, fd, _, fn_okR F Sc hv hbody, hm, F.kp, bd_binds F bd⟩
end
/-- the address of a module's class -/
abbrev cA (K : PySem.W.Frag) (x : Str) : Addr := He.ga K x
/-- a number of the module -/
abbrev GI (mg : Str → Option Value) (x : Str) (n : Int) : Prop := ∃ t, mg x = some (.int n t)
end Bp

namespace Bp
open PySem PySem.Spec PyProof.Rows L2
def noOwnB (ρ : Rho) (i : Nat) : Bool := match ρ[i]? with
  | some (some (.own _ _)) => false
  | _ => true
theorem noOwn_of {ρ : Rho} {i : Nat} (h : noOwnB ρ i = true) : NoOwn ρ i := fun a o e => by
  unfold noOwnB at h
  rw [e] at h
  cases h
theorem take_more {α : Type} {l : List α} {i : Nat} {x : α} (h : l[i]? = some x) : l.take (i + 1) = l.take i ++ [x] := by
  rw [List.take_add_one, h]
  rfl
section
variable {P : Program} {w : World} {K : PySem.W.Frag} {mg : Str → Option Value} {base : Heap} {sc' : Scope} {N : List Str} {vb lb : List Bool} {k : Nat} {ρ : Rho} {elt c : Expr} {i : Nat}
/-- a comprehension without tests, item by item -/
theorem lc_map {α : Type} {ds : List PyData} {xs : List α} {enc f : α → PyData} {Q : List PyData → Prop} (ed : ds = xs.map enc) (h : ∀ a ∈ xs, ∀ Xe, Cxt P w K mg base sc' N vb lb k Xe W0 → EW Xe W0 elt (ρ.set i (some (.d (enc a)))) (fun ρ4 z => ρ4 = ρ.set i (some (.d (enc a))) ∧ z = f a) noX) (q : Q (xs.map f)) :
    ∃ I : Nat → List PyData → Prop, I 0 [] ∧ (∀ n d acc, ds[n]? = some d → I n acc → LcTurn P w K mg base sc' N vb lb k [] elt (ρ.set i (some (.d d))) (I n) (I (n + 1)) acc) ∧ ∀ acc, I ds.length acc → Q acc := by
  subst ed
  refine ⟨fun n acc => acc = (xs.take n).map f, rfl, fun n d acc hd hi => ?_, fun acc ha => ?_⟩
  · rw [List.getElem?_map] at hd
    cases e : xs[n]? with
    | none =>
      rw [e] at hd
      cases hd
    | some a =>
      rw [e] at hd
      cases hd
      intro Xb Cb
      refine ⟨fun _ Xe Ce => ?_, fun z => by cases z⟩
      intro F H σ R wd sl kx kk
      refine h a (List.mem_of_getElem? e) Xe Ce F H σ R wd sl kx fun F' H' ρ' v d st wd' sl' dd z => kk F' H' ρ' v d st wd' sl' dd ⟨z.1, ?_⟩
      show acc ++ [d] = (xs.take (n + 1)).map f
      rw [hi, z.2, take_more e, List.map_append]
      rfl
  · rw [ha, List.length_map, List.take_length]
    exact q
/-- a comprehension with one test -/
theorem lc_fil {α : Type} {ds : List PyData} {xs : List α} {enc f : α → PyData} {pr : α → Bool} {Q : List PyData → Prop} (ed : ds = xs.map enc) (ht : ∀ a ∈ xs, ∀ Xe, Cxt P w K mg base sc' N vb lb k Xe W0 → TW Xe W0 c (ρ.set i (some (.d (enc a)))) (fun ρ4 z => ρ4 = ρ.set i (some (.d (enc a))) ∧ z = pr a) noX)
    (h : ∀ a ∈ xs, pr a = true → ∀ Xe, Cxt P w K mg base sc' N vb lb k Xe W0 → EW Xe W0 elt (ρ.set i (some (.d (enc a)))) (fun ρ4 z => ρ4 = ρ.set i (some (.d (enc a))) ∧ z = f a) noX) (q : Q ((xs.filter pr).map f)) :
    ∃ I : Nat → List PyData → Prop, I 0 [] ∧ (∀ n d acc, ds[n]? = some d → I n acc → LcTurn P w K mg base sc' N vb lb k [c] elt (ρ.set i (some (.d d))) (I n) (I (n + 1)) acc) ∧ ∀ acc, I ds.length acc → Q acc := by
  subst ed
  refine ⟨fun n acc => acc = ((xs.take n).filter pr).map f, rfl, fun n d acc hd hi => ?_, fun acc ha => ?_⟩
  · rw [List.getElem?_map] at hd
    cases e : xs[n]? with
    | none =>
      rw [e] at hd
      cases hd
    | some a =>
      rw [e] at hd
      cases hd
      have ha := List.mem_of_getElem? e
      intro Xb Cb
      intro F H σ R wd sl kx kk
      refine ht a ha Xb Cb F H σ R wd sl kx fun F' H' ρ' b st wd' sl' z => kk F' H' ρ' b st wd' sl' ⟨z.1, fun hb Xe Ce => ?_, fun hb => ?_⟩
      · have hp : pr a = true := z.2.symm.trans hb
        intro F H σ R wd sl kx kk
        refine h a ha hp Xe Ce F H σ R wd sl kx fun F' H' ρ' v d st wd' sl' dd z => kk F' H' ρ' v d st wd' sl' dd ⟨z.1, ?_⟩
        show acc ++ [d] = ((xs.take (n + 1)).filter pr).map f
        rw [hi, z.2, take_more e, List.filter_append, List.map_append]
        congr 1
        rw [List.filter_cons_of_pos hp]
        rfl
      · have hp : pr a = false := z.2.symm.trans hb
        show acc = ((xs.take (n + 1)).filter pr).map f
        rw [hi, take_more e, List.filter_append, List.filter_cons_of_neg (by rw [hp]; decide)]
        simp
  · rw [ha, List.length_map, List.take_length]
    exact q
end
end Bp

namespace Bp
open PySem PySem.Spec PyProof.Rows L2
/-! ### instances of own classes -/
theorem run_makeS {X : Cx} {CX : CXT} {k : Nat} {f C : Addr} {fd : FuncData} {ps : List Str} {sp : Sp} {E : XK} {pins : List (Addr × Obj)} {σ : L2.St} {H : Hp} {s : Shared} {Q : VK} {us : List Value} {vs : List V} (M : Mk X.K C f) (F : FnOk X.prog X.w X.K X.mg X.base CX k f fd ps sp) (hr : Room (k + 1) X.A) (hb : Binds X.K fd ps [])
    (hx : PassesAt CX X σ E) (I : Inv X pins σ H s) (r : Vals vs us)
    (h : ∀ x dx, H x = none → H dx = none → dx ≠ x → sp (.ref x :: vs) (upd (upd H dx (.own x)) x (.ins C dx [])) (fun v H2 => v = .non ∧ Q (.ref x) H2) E) :
    wpAny (model X.prog X.w) X.A (call (.ref C) us) (EP X pins σ Q) X.xe s := by
  have hq := h (s.heap.objs.size + 1) s.heap.objs.size (I.hok.fresh (Nat.le_succ _)) (I.hok.fresh (Nat.le_refl _)) (Nat.ne_of_lt (Nat.lt_succ_self _))
  have I2 := Inv.made (C := C) I
  have r2 : Vals (V.ref (s.heap.objs.size + 1) :: vs) (Value.ref (s.heap.objs.size + 1) :: us) := .cons rfl r
  have hl : (Value.ref (s.heap.objs.size + 1) :: us ++ []).length = ps.length := by
    have e := r2.length
    rw [F.len _ _ _ _ hq] at e
    rw [List.append_nil]
    exact e.symm
  have bb := hb _ (Value.ref (s.heap.objs.size + 1) :: us) I2.kIn hl
  rw [List.append_nil] at bb
  refine wpAny_call (make_map (f := f) I.kIn M.makes M.init (beq_iff_eq.mp M.fn) (codeAny_mono (F.run _ X.stack _ _ ⟨Value.ref (s.heap.objs.size + 1) :: us, []⟩ (Value.ref (s.heap.objs.size + 1) :: us) _ _ E (hr.make C us [])
    (I2.env0.make C us []) bb r2 hq) fun r s' hq' => ?_))
  cases r with
  | error e => exact hx pins _ _ e s' I2 hq'
  | ok fl =>
    cases fl with
    | ret u =>
      obtain ⟨v, H', I3, rv, ev, q3⟩ := I2.after hq'
      subst ev
      exact ⟨rv, ⟨V.ref (s.heap.objs.size + 1), H', I3, rfl, q3⟩⟩
    | next => exact False.elim hq'
    | brk => exact False.elim hq'
    | cont => exact False.elim hq'
/-- the module's name x is a class whose __init__ keeps Pg -/
def MkO (P : Program) (w : World) (K : PySem.W.Frag) (mg : Str → Option Value) (base : Heap) (j : Nat) (x : Str) (C : Addr) (Pg : PG1) : Prop :=
  ∃ f fd ps, FnOk P w K mg base (L2.CX P w) j f fd ps (spO K Pg) ∧ mg x = some (.ref C) ∧ Mk K C f ∧ Binds K fd ps []
section
variable {P : Program} {w : World} {K : PySem.W.Frag} {mg : Str → Option Value} {base : Heap} {sc : Scope} {N : List Str} {vs ls : List Bool} {k : Nat} {X : Cx} {W : WX} {ρ : Rho} {E : XQ} {e : Expr} {es : List Expr} {pos p p2 : Pos} {x y : Str} {i : Nat}
theorem eo_make (Cx1 : Cxt P w K mg base sc N vs ls k X W) {j : Nat} {C : Addr} {Pg : PG1} {Q : Rho → O → Prop} (G : MkO P w K mg base j x C Pg) (h : AW X W (e :: es) ρ (fun ρ1 ds => ∀ dx, Pg (.ins C dx []) ds (fun o' d => d = .none ∧ Q ρ1 o') (fun _ z => E ρ1 z)) E) (hj : j + 1 ≤ k := by decide) (hg : sc.names.lookup x = some .globalImplicit := by decide +kernel)
    (hdb : (x == ("__debug__" : Str)) = false := by decide) (he : starEach (e :: es) X.env = (false, eval e X.env) :: starEach es X.env := by with_unfolding_all rfl) (hpl : (backTo pos (starEach es X.env)).any (·.1) = false := by with_unfolding_all rfl) :
    EO X W (.Call (.Name x p) (e :: es) [] pos) ρ Q E := by
  intro F H σ R wd sl kx kk pins s I
  obtain ⟨f, fd, ps, ok, hm, mk, bd⟩ := G
  have hgl := Cx1.gl hg
  have hr : Room (j + 1) X.A := Cx1.room.mono hj
  obtain ⟨rfl, rfl, rfl, rfl, rfl⟩ : X.prog = P ∧ X.w = w ∧ X.K = K ∧ X.mg = mg ∧ X.base = base := ⟨Cx1.eP, Cx1.ew, Cx1.eK, Cx1.eg, Cx1.eb⟩
  refine wpAny_Call_Name_kw (ld_glob I hgl hm ?_ hdb)
  refine PySem.W.callWith_K (h₀ := X.base) I.ok.mod.kin mk.kp (thn (h F H σ (fun vs' H1 => ∃ F1 ρ1 ds, Stp ρ ρ1 F H F1 H1 ∧ Wd X.K F1 H1 ρ1 ∧ Sl X.K F1 σ ρ1 ∧ DDs X.K F1 vs' ds ∧ ∀ dx, Pg (.ins C dx []) ds (fun o' d => d = .none ∧ Q ρ1 o') (fun _ z => E ρ1 z)) wd sl kx (fun F1 H1 ρ1 vs' ds st1 wd1 sl1 dd1 q => ⟨F1, ρ1, ds, st1, wd1, sl1, dd1, q⟩) pos pins s I) fun us s1 ⟨vs', H1, I1, r, F1, ρ1, ds, st1, wd1, sl1, dd1, q⟩ => ⟨I1.kIn, ?_⟩) he hpl
  refine run_makeS mk ok hr bd (passAt Cx1.tk σ) I1 r fun z dx hz hdx hne => ?_
  have hnz : F1 z = none := wd1.sub.none hz
  have own1 : ∀ a, Owns ρ1 a → H1 a ≠ none := fun a ⟨j, o, t⟩ e => by
    obtain ⟨_, _, t2, _⟩ := wd1.own j a o t
    rw [e] at t2
    cases t2
  have up : ∀ a o, H1 a = some o → upd (upd H1 dx (.own z)) z (.ins C dx []) a = some o := fun a o t => by
    rw [upd_ne (ne_of_none t hz), upd_ne (ne_of_none t hdx)]
    exact t
  have gr0 : ∀ {F' H' : Hp}, GrB z F1 (upd (upd H1 dx (.own z)) z (.ins C dx [])) F' H' → F' z = none → Gr F1 H1 F' H' := fun {F' H'} g fz =>
    ⟨g.ex, fun a o t => g.keep a o (ne_of_none t hz) (up a o t), g.sub, fun a o f1 t => g.fr a o (ne_of_none t hz) f1 (up a o t)⟩
  refine ⟨F1, z, .ins C dx [], vs', ds, _, _, rfl, fun a o t => up a o (wd1.sub a o t), hnz, ⟨_, upd_same, [], rfl, rfl, .nil⟩, dd1, q dx, fun F' H' o' v d g fz oz dd qd => ?_, fun F' H' o' yx xd g fz oz xa ez => ?_⟩
  · obtain ⟨rfl, qd⟩ := qd
    cases dd
    obtain ⟨ho, hh, oo⟩ := oz
    have g' := gr0 g fz
    exact ⟨rfl, kk F' H' ρ1 z ho o' (st1.trans g'.stp) (wd1.gr g') (sl1.mono g'.ex) (st1.all z hz) fz (fun t => own1 z t hz) hh oo qd⟩
  · have g' := gr0 g fz
    exact kx F' H' σ ρ1 yx xd (st1.trans g'.stp) (wd1.gr g') (sl1.mono g'.ex) xa ez
end
end Bp
namespace Bp
open PySem PySem.Spec PyProof.Rows L2
theorem s1_exprO {X : Cx} {W : WX} {ρ : Rho} {E : XQ} {e : Expr} {pos : Pos} {Nx : Rho → Prop} {R : Rho → Ret → Prop} (h : EO X W e ρ (fun ρ1 _ => Nx ρ1) E) (hs : swapsWith e none pos.line X.env = pure false := by with_unfolding_all rfl) : S1 X W (.Expr e pos) ρ Nx R E :=
  fun F H σ D wd sl kx kn kr => of_ps (ps_expr pe_w hs) (h F H σ _ wd sl kx fun F1 H1 ρ1 q ho o st1 wd1 sl1 _ _ _ _ _ r => kn F1 H1 σ ρ1 st1 wd1 sl1 r)
end Bp

namespace Bp
open PySem PySem.Spec PyProof.Rows L2
section
variable {P : Program} {w : World} {K : PySem.W.Frag} {mg : Str → Option Value} {base : Heap} {sc : Scope} {N : List Str} {vs ls : List Bool} {k : Nat} {X : Cx} {W : WX} {ρ : Rho} {Q : Rho → PyData → Prop} {E : XQ} {Nx : Rho → Prop} {R : Rho → Ret → Prop} {a b c e : Expr} {es : List Expr} {pos p p2 p3 p4 px : Pos} {x y : Str} {i : Nat}
/-- the ints lo .. hi - 1 as data -/
def rgD (lo hi : Int) : List PyData := (List.range (hi - lo).toNat).map fun (i : Nat) => PyData.int (lo + (i : Int))
theorem dds_rg {F : Hp} {lo hi : Int} : DDs K F (rgV lo hi) (rgD lo hi) := by
  have h := DDs.ofInts (K := K) (F := F) ((List.range (hi - lo).toNat).map fun (i : Nat) => lo + (i : Int))
  rw [List.map_map, List.map_map] at h
  exact h
theorem ew_listRg1 (C : Cxt P w K mg base sc N vs ls k X W) (B : Blt mg) (h : EW X W a ρ (fun ρ1 d => ∃ n, d = .int n ∧ RgOk 0 n ∧ Q ρ1 (.list (rgD 0 n))) E) (hg : sc.names.lookup ("list" : Str) = some .globalImplicit := by decide +kernel) (hg2 : sc.names.lookup ("range" : Str) = some .globalImplicit := by decide +kernel)
    (na : starEach [a] X.env = (false, eval a X.env) :: starEach [] X.env := by with_unfolding_all rfl) (nb : starEach [.Call (.Name "range" p2) [a] [] p3] X.env = (false, eval (.Call (.Name "range" p2) [a] [] p3) X.env) :: starEach [] X.env := by with_unfolding_all rfl) :
    EW X W (.Call (.Name "list" p) [.Call (.Name "range" p2) [a] [] p3] [] pos) ρ Q E := by
  intro F H σ R wd sl kx kk
  refine of_pe (pe_listRg C.calm (C.gl hg) (by rw [C.eg]; exact B.list) (prg_1 (C.gl hg2) (by rw [C.eg]; exact B.range) pe_w na) nb) ?_
  refine h F H σ _ wd sl kx fun F1 H1 ρ1 v d st1 wd1 sl1 dd1 q1 => ?_
  obtain ⟨n, rfl, ok, q⟩ := q1
  cases dd1
  refine ⟨n, rfl, ok, fun p hp => ?_⟩
  have g := Gr.new (o := .lst (rgV 0 n)) wd1.sub hp
  exact kk _ _ ρ1 _ _ (st1.trans g.stp) (wd1.gr g) (sl1.mono g.ex) (.lst upd_same dds_rg) q
theorem ew_listRg2 (C : Cxt P w K mg base sc N vs ls k X W) (B : Blt mg) (h : EW X W a ρ (fun ρ1 d => EW X W b ρ1 (fun ρ2 d2 => ∃ m n, d = .int m ∧ d2 = .int n ∧ RgOk m n ∧ Q ρ2 (.list (rgD m n))) E) E) (hg : sc.names.lookup ("list" : Str) = some .globalImplicit := by decide +kernel) (hg2 : sc.names.lookup ("range" : Str) = some .globalImplicit := by decide +kernel)
    (na : starEach [a, b] X.env = (false, eval a X.env) :: starEach [b] X.env := by with_unfolding_all rfl) (na2 : starEach [b] X.env = (false, eval b X.env) :: starEach [] X.env := by with_unfolding_all rfl) (hp : (backTo p3 (starEach [b] X.env)).any (·.1) = false := by with_unfolding_all rfl)
    (nb : starEach [.Call (.Name "range" p2) [a, b] [] p3] X.env = (false, eval (.Call (.Name "range" p2) [a, b] [] p3) X.env) :: starEach [] X.env := by with_unfolding_all rfl) :
    EW X W (.Call (.Name "list" p) [.Call (.Name "range" p2) [a, b] [] p3] [] pos) ρ Q E := by
  intro F H σ R wd sl kx kk
  refine of_pe (pe_listRg C.calm (C.gl hg) (by rw [C.eg]; exact B.list) (prg_2 (C.gl hg2) (by rw [C.eg]; exact B.range) pe_w pe_w na na2 hp) nb) ?_
  refine h F H σ _ wd sl kx fun F1 H1 ρ1 v d st1 wd1 sl1 dd1 q1 => ?_
  refine q1 F1 H1 σ _ wd1 sl1 (kx.step st1) fun F2 H2 ρ2 v2 d2 st2 wd2 sl2 dd2 q2 => ?_
  obtain ⟨m, n, rfl, rfl, ok, q⟩ := q2
  cases dd1
  cases dd2
  refine ⟨m, n, rfl, rfl, ok, fun p hp => ?_⟩
  have g := Gr.new (o := .lst (rgV m n)) wd2.sub hp
  exact kk _ _ ρ2 _ _ ((st1.trans st2).trans g.stp) (wd2.gr g) (sl2.mono g.ex) (.lst upd_same dds_rg) q
end
end Bp

namespace Bp
open PySem PySem.Spec PyProof.Rows L2
theorem at_of {fa : List He.Fa} {fn : List He.DefD} {K : PySem.W.Frag} {h : Heap} {mg : Str → Option Value} (X : K.In h) (G : h.Ns mainGlobals mg) (c : He.SaysD fa fn K) {x : Str} {st : Stmt} (i j : Nat) (hi : fn[i]? = some ⟨(x, none), x, x, defArgs st, defBody st, defScope st, [], []⟩) (hj : fa[j]? = some (.glo x)) : At K mg x st := by
  obtain ⟨fd, F⟩ := c.def_ i hi
  exact ⟨_, fd, F, He.glo_ok X G (c.fact j hj)⟩
theorem ex_of {fa : List He.Fa} {fn : List He.DefD} {K : PySem.W.Frag} {h : Heap} {mg : Str → Option Value} (X : K.In h) (G : h.Ns mainGlobals mg) (c : He.SaysD fa fn K) {x : Str} (i j : Nat) (hi : fa[i]? = some (.exc x)) (hj : fa[j]? = some (.glo x)) : ExC K mg x (cA K x) := by
  obtain ⟨h1, h2, h3, h4⟩ := He.exc_ok (c.fact i hi)
  exact ⟨h1, He.glo_ok X G (c.fact j hj), h2, h3, h4⟩
theorem gi_of {fa : List He.Fa} {fn : List He.DefD} {K : PySem.W.Frag} {h : Heap} {mg : Str → Option Value} (X : K.In h) (G : h.Ns mainGlobals mg) (c : He.SaysD fa fn K) {x : Str} {n : Int} (i : Nat) (hi : fa[i]? = some (.int x n)) : GI mg x n := He.int_ok X G (c.fact i hi)
/-- a law's end: the promise is over the world at hand -/
theorem walk_at_world {l : PySem.W.OpenLaw} {n k : Nat} {q : Program} {loose : List Str} {XP : (Str → Option Value) → Heap → Prop} {YP : World → Heap → Prop} {d : DefRec} {x : Str}
    (hn : l.most = some n) (hn2 : n ≤ sizeLine) (hdf : d.params.defaults = []) (hr : Room k callerA)
    (F : ∀ (w : World) (mg : Str → Option Value) (fa : Addr) (h : Heap), YP w h → h.Ns mainGlobals mg → mg d.name = some (.ref fa) →
      ∃ (K : PySem.W.Frag) (fd : FuncData) (sp : Sp), K.In h ∧ (∀ (s : Shared) (u : Value), BindsTo s fd ⟨[u], []⟩ [(x, u)]) ∧
        (∀ (H : Hp) (a : Addr) (ns : List Int), ns.length ≤ n → Only H → SqL K H a (ns.map V.int) → sp [.ref a] H (fun v _ => v = .bl true) fun _ _ _ => False) ∧
        ∀ base : Heap, K.In base → base.Ns mainGlobals mg → FnOk l.prog w K mg base (L2.CX l.prog w) k fa fd [x] sp) :
    PySem.W.WalkO q loose XP YP l.row.toRowW d [] (fun f vs => PySem.call f vs) := by
  refine Att.attach_call hn hdf fun w s₀ s₁ mg mb fa o pm cd doc a vs ns G Y ho hd hcd hmg hobj hints hlen hg => ?_
  obtain ⟨K, fd, sp, KX, hb, hsp, hF⟩ := F w mg fa _ Y G.T.g hmg
  refine law_call KX G.T.g G.T.b G.T.builtins G.T.nolimit hg hobj hints (Nat.le_trans hlen hn2) hr hF hb (fun H hO hS => hsp H a ns hlen hO hS) fun H e s' z => ?_
  obtain ⟨_, _, _, _, _, _, _, _, _, _, _, _, z⟩ := z
  exact z
end Bp

namespace Bp
open PySem PySem.Spec PyProof.Rows L2
section
variable {P : Program} {w : World} {K : PySem.W.Frag} {mg : Str → Option Value} {base : Heap} {sc : Scope} {N : List Str} {vs ls : List Bool} {k : Nat} {X : Cx} {W : WX} {ρ : Rho} {Q : Rho → PyData → Prop} {E : XQ} {Nx : Rho → Prop} {R : Rho → Ret → Prop} {a b c e : Expr} {es : List Expr} {pos p p2 p3 p4 px py pz pt pt2 : Pos} {x y z : Str} {i j l kt k2 : Nat}
theorem ew_mono {Q' : Rho → PyData → Prop} (h : EW X W e ρ Q E) (m : ∀ ρ d, Q ρ d → Q' ρ d) : EW X W e ρ Q' E := fun F H σ R wd sl kx kk => h F H σ R wd sl kx fun F' H' ρ' v d st wd' sl' dd q => kk F' H' ρ' v d st wd' sl' dd (m ρ' d q)
theorem s1_mono {st : Stmt} {Nx' : Rho → Prop} (h : S1 X W st ρ Nx' R E) (m : ∀ ρ', Nx' ρ' → Nx ρ') : S1 X W st ρ Nx R E := fun F H σ D wd sl kx kn kr => h F H σ D wd sl kx (fun F' H' σ' ρ' s1 w1 l1 n => kn F' H' σ' ρ' s1 w1 l1 (m ρ' n)) kr
/-- a statement that leaves the slots as they are -/
theorem sw_same {st : Stmt} {sts : List Stmt} (h : S1 X W st ρ (fun ρ' => ρ' = ρ) R E) (kk : SW X W sts ρ Nx R E) : SW X W (st :: sts) ρ Nx R E := sw_cons (s1_mono h fun ρ' e => by subst e; exact kk)
theorem sw_via {st : Stmt} {sts : List Stmt} (I : Rho → Prop) (h : S1 X W st ρ I R E) (kk : ∀ ρ', I ρ' → SW X W sts ρ' Nx R E) : SW X W (st :: sts) ρ Nx R E := sw_cons (s1_mono h kk)
/-! ### several names at once -/
def envOf (sc : Scope) : Env := { scope := sc, locals := 0, globals := 0, cells := [] }
theorem swapped_eq (C : Cxt P w K mg base sc N vs ls k X W) {ts : List Expr} {v : Expr} : swappedStores ts v X.env = swappedStores ts v (envOf sc) := by
  have e : X.env.scope = (envOf sc).scope := C.es
  unfold swappedStores Env.blockKind Env.kindOf
  rw [e]
theorem s1_par2 (C : Cxt P w K mg base sc N vs ls k X W) [sx : Slot N x i] [sy : Slot N y j] (h : EW X W a ρ (fun ρ1 d1 => EW X W b ρ1 (fun ρ2 d2 => Nx ((ρ2.set i (some (.d d1))).set j (some (.d d2)))) E) E)
    (hij : i ≠ j := by decide) (hx : sc.names.lookup x = some .local := by decide +kernel) (hy : sc.names.lookup y = some .local := by decide +kernel) (na : starEach [a, b] X.env = (false, eval a X.env) :: starEach [b] X.env := by with_unfolding_all rfl) (nb : starEach [b] X.env = (false, eval b X.env) :: starEach [] X.env := by with_unfolding_all rfl)
    (hw : swappedStores [.Tuple [.Name x px, .Name y py] kt pt] (.Tuple [a, b] k2 pt2) (envOf sc) = pure (some [x, y]) := by with_unfolding_all rfl)
    (hs : swapsWithSole [.Tuple [.Name x px, .Name y py] kt pt] (.Tuple [a, b] k2 pt2) pos.line X.env = pure false := by with_unfolding_all rfl) :
    S1 X W (.Assign [.Tuple [.Name x px, .Name y py] kt pt] (.Tuple [a, b] k2 pt2) pos) ρ Nx R E := by
  intro F H σ D wd sl kx kn kr
  refine of_ps (ps_par (i := i) (j := j) C.calm (by rw [C.eN]; exact C.nd) (by rw [C.eN]; exact sx.get) (by rw [C.eN]; exact sy.get) hij (by rw [C.es]; exact hx) (by rw [C.es]; exact hy) (pa_cons pe_w (pa_cons pe_w pa_nil nb) na) (by rw [swapped_eq C]; exact hw) hs) ?_
  refine h F H σ _ wd sl kx fun F1 H1 ρ1 v1 d1 st1 wd1 sl1 dd1 q1 => ?_
  refine q1 F1 H1 σ _ wd1 sl1 (kx.step st1) fun F2 H2 ρ2 v2 d2 st2 wd2 sl2 dd2 q2 => ?_
  refine ⟨v1, v2, rfl, ?_⟩
  exact kn F2 H2 _ _ (((st1.trans st2).trans (Stp.set noD)).trans (Stp.set noD)) ((wd2.set noD).set noD) ((sl2.set (dd1.mono st2.ex)).set dd2) q2
theorem s1_par3 (C : Cxt P w K mg base sc N vs ls k X W) [sx : Slot N x i] [sy : Slot N y j] [sz : Slot N z l] (h : EW X W a ρ (fun ρ1 d1 => EW X W b ρ1 (fun ρ2 d2 => EW X W c ρ2 (fun ρ3 d3 => Nx (((ρ3.set i (some (.d d1))).set j (some (.d d2))).set l (some (.d d3)))) E) E) E)
    (hij : i ≠ j := by decide) (hil : i ≠ l := by decide) (hjl : j ≠ l := by decide) (hx : sc.names.lookup x = some .local := by decide +kernel) (hy : sc.names.lookup y = some .local := by decide +kernel) (hz : sc.names.lookup z = some .local := by decide +kernel)
    (na : starEach [a, b, c] X.env = (false, eval a X.env) :: starEach [b, c] X.env := by with_unfolding_all rfl) (nb : starEach [b, c] X.env = (false, eval b X.env) :: starEach [c] X.env := by with_unfolding_all rfl) (nc : starEach [c] X.env = (false, eval c X.env) :: starEach [] X.env := by with_unfolding_all rfl)
    (hw : swappedStores [.Tuple [.Name x px, .Name y py, .Name z pz] kt pt] (.Tuple [a, b, c] k2 pt2) (envOf sc) = pure (some [x, y, z]) := by with_unfolding_all rfl)
    (hs : swapsWithSole [.Tuple [.Name x px, .Name y py, .Name z pz] kt pt] (.Tuple [a, b, c] k2 pt2) pos.line X.env = pure false := by with_unfolding_all rfl) :
    S1 X W (.Assign [.Tuple [.Name x px, .Name y py, .Name z pz] kt pt] (.Tuple [a, b, c] k2 pt2) pos) ρ Nx R E := by
  intro F H σ D wd sl kx kn kr
  refine of_ps (ps_par3 (i := i) (j := j) (l := l) C.calm (by rw [C.eN]; exact C.nd) (by rw [C.eN]; exact sx.get) (by rw [C.eN]; exact sy.get) (by rw [C.eN]; exact sz.get) hij hil hjl (by rw [C.es]; exact hx) (by rw [C.es]; exact hy) (by rw [C.es]; exact hz) (pa_cons pe_w (pa_cons pe_w (pa_cons pe_w pa_nil nc) nb) na) (by rw [swapped_eq C]; exact hw) hs) ?_
  refine h F H σ _ wd sl kx fun F1 H1 ρ1 v1 d1 st1 wd1 sl1 dd1 q1 => ?_
  refine q1 F1 H1 σ _ wd1 sl1 (kx.step st1) fun F2 H2 ρ2 v2 d2 st2 wd2 sl2 dd2 q2 => ?_
  refine q2 F2 H2 σ _ wd2 sl2 (kx.step (st1.trans st2)) fun F3 H3 ρ3 v3 d3 st3 wd3 sl3 dd3 q3 => ?_
  refine ⟨v1, v2, v3, rfl, ?_⟩
  exact kn F3 H3 _ _ (((((st1.trans st2).trans st3).trans (Stp.set noD)).trans (Stp.set noD)).trans (Stp.set noD)) (((wd3.set noD).set noD).set noD) (((sl3.set ((dd1.mono st2.ex).mono st3.ex)).set (dd2.mono st3.ex)).set dd3) q3
/-- a pair of names: a plain value, a new object -/
theorem s1_par2O (C : Cxt P w K mg base sc N vs ls k X W) [sx : Slot N x i] [sy : Slot N y j] (h : EW X W a ρ (fun ρ1 d1 => EO X W b ρ1 (fun ρ2 o => ∀ q, Nx ((ρ2.set i (some (.d d1))).set j (some (.own q o)))) E) E)
    (hij : i ≠ j := by decide) (hx : sc.names.lookup x = some .local := by decide +kernel) (hy : sc.names.lookup y = some .local := by decide +kernel) (na : starEach [a, b] X.env = (false, eval a X.env) :: starEach [b] X.env := by with_unfolding_all rfl) (nb : starEach [b] X.env = (false, eval b X.env) :: starEach [] X.env := by with_unfolding_all rfl)
    (hw : swappedStores [.Tuple [.Name x px, .Name y py] kt pt] (.Tuple [a, b] k2 pt2) (envOf sc) = pure (some [x, y]) := by with_unfolding_all rfl)
    (hs : swapsWithSole [.Tuple [.Name x px, .Name y py] kt pt] (.Tuple [a, b] k2 pt2) pos.line X.env = pure false := by with_unfolding_all rfl) :
    S1 X W (.Assign [.Tuple [.Name x px, .Name y py] kt pt] (.Tuple [a, b] k2 pt2) pos) ρ Nx R E := by
  intro F H σ D wd sl kx kn kr
  refine of_ps (ps_par (i := i) (j := j) C.calm (by rw [C.eN]; exact C.nd) (by rw [C.eN]; exact sx.get) (by rw [C.eN]; exact sy.get) hij (by rw [C.es]; exact hx) (by rw [C.es]; exact hy) (pa_cons pe_w (pa_cons pe_w pa_nil nb) na) (by rw [swapped_eq C]; exact hw) hs) ?_
  refine h F H σ _ wd sl kx fun F1 H1 ρ1 v1 d1 st1 wd1 sl1 dd1 q1 => ?_
  refine q1 F1 H1 σ _ wd1 sl1 (kx.step st1) fun F2 H2 ρ2 q ho o st2 wd2 sl2 hp fp np hh oo n => ?_
  refine ⟨v1, .ref q, rfl, ?_⟩
  have np' : ¬ Owns (ρ2.set i (some (.d d1))) q := fun t => by
    rcases (Stp.set (F := F2) (H := H2) (i := i) (ρ := ρ2) (z := some (.d d1)) noD).own q t with t | t
    · exact np t
    · rw [hh] at t
      cases t
  have st' : Stp ρ (ρ2.set i (some (.d d1))) F H F2 H2 := (st1.trans st2).trans (Stp.set noD)
  refine kn F2 H2 _ _ ⟨st'.ex, st'.keep, st'.fr, fun t z => ?_, st'.all⟩ ((wd2.set noD).own_set fp np' hh oo) (sl2.set (dd1.mono st2.ex)).own_set (n q)
  rcases owns_set z with z | z
  · exact st'.own t z
  · rw [z]
    exact .inr (st1.all q hp)
/-- a target of any kind -/
theorem s1_asgG (C : Cxt P w K mg base sc N vs ls k X W) {tg : Expr} (h : EW X W e ρ (fun ρ1 d => GW X tg d ρ1 Nx) E) (hs : swapsWithSole [tg] e pos.line X.env = pure false := by with_unfolding_all rfl) (hw : swappedStores [tg] e (envOf sc) = pure none := by with_unfolding_all rfl) (h1 : (assignEach [tg] X.env).map (·.2) = [assign tg X.env] := by with_unfolding_all rfl) : S1 X W (.Assign [tg] e pos) ρ Nx R E := by
  intro F H σ D wd sl kx kn kr
  refine of_ps (ps_asg pe_w pg_w hs (by rw [swapped_eq C]; exact hw) h1) ?_
  refine h F H σ _ wd sl kx fun F1 H1 ρ1 v d st1 wd1 sl1 dd q => ?_
  exact q F1 H1 σ v _ wd1 sl1 dd fun σ' ρ' st' wd' sl' n => kn F1 H1 σ' ρ' (st1.trans st') wd' sl' n
/-- x += e, ints -/
theorem s1_augAdd (C : Cxt P w K mg base sc N vs ls k X W) [sx : Slot N x i] (hl : ls[i]? = some true) {m : Int} (hr : ρ[i]? = some (some (.d (.int m)))) (h : EW X W e ρ (fun ρ1 d => ∃ n, d = .int n ∧ Nx (ρ1.set i (some (.d (.int (m + n)))))) E) : S1 X W (.AugAssign (.Name x px) .Add e pos) ρ Nx R E := by
  intro F H σ D wd sl kx kn kr
  refine of_ps (ps_aug (i := i) (by rw [C.eN]; exact C.nd) (by rw [C.eN]; exact sx.get) (C.lo sx.get hl) pe_w ip_add (C.st sx.get hl)) ?_
  obtain ⟨v, hv, dv⟩ := sl.get i _ hr
  cases dv
  refine ⟨_, hv, ?_⟩
  refine h F H σ _ wd sl kx fun F1 H1 ρ1 v1 d1 st1 wd1 sl1 dd1 q1 => ?_
  obtain ⟨n, rfl, q1⟩ := q1
  cases dd1
  refine ⟨m, n, rfl, rfl, ?_⟩
  exact kn F1 H1 _ _ (st1.trans (Stp.set noD)) (wd1.set noD) (sl1.set (.int _)) q1
end
/-! ### max, min, sorted -/
def maxI : List Int → Int
  | [] => 0
  | [x] => x
  | x :: y :: r => if maxI (y :: r) ≤ x then x else maxI (y :: r)
def minI : List Int → Int
  | [] => 0
  | [x] => x
  | x :: y :: r => if x ≤ minI (y :: r) then x else minI (y :: r)
theorem maxI_mem : ∀ {l : List Int}, 0 < l.length → maxI l ∈ l
  | [], h => absurd h (by decide)
  | [x], _ => List.mem_cons_self
  | x :: y :: r, _ => by
    unfold maxI
    split
    · exact List.mem_cons_self
    · exact List.mem_cons_of_mem _ (maxI_mem (by simp))
theorem le_maxI : ∀ {l : List Int} {y : Int}, y ∈ l → y ≤ maxI l
  | [], _, h => nomatch h
  | [x], y, h => by
    rcases List.mem_cons.mp h with rfl | h
    · exact Int.le_refl _
    · exact nomatch h
  | x :: z :: r, y, h => by
    unfold maxI
    rcases List.mem_cons.mp h with rfl | h
    · split <;> omega
    · have := le_maxI h
      split <;> omega
theorem minI_mem : ∀ {l : List Int}, 0 < l.length → minI l ∈ l
  | [], h => absurd h (by decide)
  | [x], _ => List.mem_cons_self
  | x :: y :: r, _ => by
    unfold minI
    split
    · exact List.mem_cons_self
    · exact List.mem_cons_of_mem _ (minI_mem (by simp))
theorem minI_le : ∀ {l : List Int} {y : Int}, y ∈ l → minI l ≤ y
  | [], _, h => nomatch h
  | [x], y, h => by
    rcases List.mem_cons.mp h with rfl | h
    · exact Int.le_refl _
    · exact nomatch h
  | x :: z :: r, y, h => by
    unfold minI
    rcases List.mem_cons.mp h with rfl | h
    · split <;> omega
    · have := minI_le h
      split <;> omega
/-- ints in rising order -/
def insI (x : Int) : List Int → List Int
  | [] => [x]
  | y :: r => if x ≤ y then x :: y :: r else y :: insI x r
def srtI : List Int → List Int
  | [] => []
  | x :: r => insI x (srtI r)
theorem insI_perm (x : Int) : ∀ l : List Int, (insI x l).Perm (x :: l)
  | [] => .refl _
  | y :: r => by
    unfold insI
    split
    · exact .refl _
    · exact ((insI_perm x r).cons y).trans (.swap x y r)
theorem srtI_perm : ∀ l : List Int, (srtI l).Perm l
  | [] => .refl _
  | x :: r => (insI_perm x (srtI r)).trans ((srtI_perm r).cons x)
theorem insI_sorted (x : Int) : ∀ {l : List Int}, l.Pairwise (· ≤ ·) → (insI x l).Pairwise (· ≤ ·)
  | [], _ => List.pairwise_singleton _ _
  | y :: r, h => by
    unfold insI
    have h1 := List.pairwise_cons.mp h
    split
    · rename_i hx
      refine List.pairwise_cons.mpr ⟨fun z hz => ?_, h⟩
      rcases List.mem_cons.mp hz with rfl | hz
      · exact hx
      · exact Int.le_trans hx (h1.1 z hz)
    · rename_i hx
      refine List.pairwise_cons.mpr ⟨fun z hz => ?_, insI_sorted x h1.2⟩
      rcases List.mem_cons.mp ((insI_perm x r).mem_iff.mp hz) with rfl | hz
      · omega
      · exact h1.1 z hz
theorem srtI_sorted : ∀ l : List Int, (srtI l).Pairwise (· ≤ ·)
  | [] => .nil
  | x :: r => insI_sorted x (srtI_sorted r)
theorem sorted_uniq : ∀ {l m : List Int}, l.Perm m → l.Pairwise (· ≤ ·) → m.Pairwise (· ≤ ·) → l = m
  | [], m, h, _, _ => by rw [List.nil_perm.mp h]
  | x :: l, [], h, _, _ => by simp at h
  | x :: l, y :: m, h, h1, h2 => by
    have a1 := List.pairwise_cons.mp h1
    have a2 := List.pairwise_cons.mp h2
    have e : x = y := by
      have b1 : x ≤ y := by
        rcases List.mem_cons.mp (h.mem_iff.mpr List.mem_cons_self) with z | z
        · omega
        · exact a1.1 y z
      have b2 : y ≤ x := by
        rcases List.mem_cons.mp (h.mem_iff.mp List.mem_cons_self) with z | z
        · omega
        · exact a2.1 x z
      omega
    subst e
    rw [sorted_uniq h.cons_inv a1.2 a2.2]
section
variable {X : Cx} {Q : PyData → Prop}
theorem bc_max (hc : X.calm = true) {ns : List Int} (hn : 0 < ns.length) (q : Q (.int (maxI ns))) : BC X (.builtin "max") [.list (ns.map PyData.int)] Q := by
  intro F H vs R e hx k
  cases hx with
  | cons h hs =>
    cases hs
    cases h with
    | lst hh dd =>
      have e1 := dd.ints
      subst e1
      refine wca_of (cr_max hc) ⟨_, ns, rfl, SqL.of (e _ _ hh), hn, fun m h1 h2 => ?_⟩
      have em : m = maxI ns := Int.le_antisymm (le_maxI h1) (h2 _ (maxI_mem hn))
      subst em
      exact k F H _ _ (Gr.refl e) (.int _) q
theorem bc_min (hc : X.calm = true) {ns : List Int} (hn : 0 < ns.length) (q : Q (.int (minI ns))) : BC X (.builtin "min") [.list (ns.map PyData.int)] Q := by
  intro F H vs R e hx k
  cases hx with
  | cons h hs =>
    cases hs
    cases h with
    | lst hh dd =>
      have e1 := dd.ints
      subst e1
      refine wca_of (cr_min hc) ⟨_, ns, rfl, SqL.of (e _ _ hh), hn, fun m h1 h2 => ?_⟩
      have em : m = minI ns := Int.le_antisymm (h2 _ (minI_mem hn)) (minI_le h1)
      subst em
      exact k F H _ _ (Gr.refl e) (.int _) q
theorem bc_max2 (hc : X.calm = true) {m n : Int} (q : Q (.int (max m n))) : BC X (.builtin "max") [.int m, .int n] Q := by
  intro F H vs R e hx k
  cases hx with
  | cons h hs =>
    cases hs with
    | cons h2 hs =>
      cases hs
      cases h
      cases h2
      refine wca_of (call_max2 hc) ⟨m, n, rfl, ?_⟩
      have em : (if n > m then n else m) = max m n := by split <;> omega
      rw [em]
      exact k F H _ _ (Gr.refl e) (.int _) q
theorem bc_min2 (hc : X.calm = true) {m n : Int} (q : Q (.int (min m n))) : BC X (.builtin "min") [.int m, .int n] Q := by
  intro F H vs R e hx k
  cases hx with
  | cons h hs =>
    cases hs with
    | cons h2 hs =>
      cases hs
      cases h
      cases h2
      refine wca_of (call_min2 hc) ⟨m, n, rfl, ?_⟩
      have em : (if n < m then n else m) = min m n := by split <;> omega
      rw [em]
      exact k F H _ _ (Gr.refl e) (.int _) q
theorem bc_sorted {ns : List Int} (q : Q (.list ((srtI ns).map PyData.int))) : BC X (.builtin "sorted") [.list (ns.map PyData.int)] Q := by
  intro F H vs R e hx k
  cases hx with
  | cons h hs =>
    cases hs
    cases h with
    | lst hh dd =>
      have e1 := dd.ints
      subst e1
      refine wca_of cr_sortedI ⟨_, ns, rfl, SqL.of (e _ _ hh), fun ns' p h1 h2 hp => ?_⟩
      have em : ns' = srtI ns := sorted_uniq (h1.trans (srtI_perm ns).symm) h2 (srtI_sorted ns)
      subst em
      exact fin_lst e hp (DDs.ofInts _) k q
end
end Bp
namespace Bp
open PySem PySem.Spec PyProof.Rows L2
section
variable {P : Program} {w : World} {K : PySem.W.Frag} {mg : Str → Option Value} {base : Heap} {sc : Scope} {N : List Str} {vs ls : List Bool} {k : Nat} {X : Cx} {W : WX} {Q : PyData → Prop}
theorem bw_eqB (C : Cxt P w K mg base sc N vs ls k X W) {a b : Bool} (q : Q (.bool (a == b))) : BW X (compareOp .Eq) (.bool a) (.bool b) Q := bw_eqD C.room rfl rfl (by cases a <;> cases b <;> exact q)
theorem bw_neB (C : Cxt P w K mg base sc N vs ls k X W) {a b : Bool} (q : Q (.bool (a != b))) : BW X (compareOp .NotEq) (.bool a) (.bool b) Q := bw_neD C.room rfl rfl (by cases a <;> cases b <;> exact q)
end
end Bp
namespace Bp
open PySem PySem.Spec PyProof.Rows L2
theorem bw_powE {X : Cx} {Q : PyData → Prop} {i j r : Int} (hc : CPow i j) (e : i ^ j.toNat = r) (q : Q (.int r)) : BW X (binaryOp .Pow) (.int i) (.int j) Q := bw_pow hc (by rw [e]; exact q)
end Bp

namespace Bp
open PySem PySem.Spec PyProof.Rows L2
theorem rangeD_zero (n : Nat) : rangeD 0 n = (List.range n).map fun (i : Nat) => PyData.int (i : Int) := by
  unfold rangeD
  simp only [Int.zero_add]
theorem rgD_zero (n : Int) : rgD 0 n = ((List.range n.toNat).map fun (i : Nat) => (i : Int)).map PyData.int := by
  unfold rgD
  rw [List.map_map]
  simp only [Int.zero_add, Int.sub_zero]
  rfl
/-- items of a concrete list -/
theorem mem_all {α : Type} {l : List α} {p : α → Bool} (h : l.all p = true) {x : α} (hx : x ∈ l) : p x = true := List.all_eq_true.mp h x hx
section
variable {X : Cx} {Q : PyData → Prop}
theorem bc_maxE (hc : X.calm = true) {ds : List PyData} {ns : List Int} (e : ds = ns.map PyData.int) (hn : 0 < ns.length) (q : Q (.int (maxI ns))) : BC X (.builtin "max") [.list ds] Q := by
  subst e
  exact bc_max hc hn q
theorem bc_minE (hc : X.calm = true) {ds : List PyData} {ns : List Int} (e : ds = ns.map PyData.int) (hn : 0 < ns.length) (q : Q (.int (minI ns))) : BC X (.builtin "min") [.list ds] Q := by
  subst e
  exact bc_min hc hn q
theorem bc_sortedE {ds : List PyData} {ns : List Int} (e : ds = ns.map PyData.int) (q : Q (.list ((srtI ns).map PyData.int))) : BC X (.builtin "sorted") [.list ds] Q := by
  subst e
  exact bc_sorted q
end
section
variable {P : Program} {w : World} {K : PySem.W.Frag} {mg : Str → Option Value} {base : Heap} {sc : Scope} {N : List Str} {vs ls : List Bool} {k : Nat} {X : Cx} {W : WX} {ρ : Rho} {Q : Rho → PyData → Prop} {E : XQ} {a b c e o : Expr} {es : List Expr} {pos p apos cpos : Pos} {x y z : Str} {i j l : Nat}
/-- t.index(k), t a tuple of ints -/
theorem ew_idxT (h : EW X W o ρ (fun ρ1 d => ∃ ns : List Int, d = .tuple (ns.map PyData.int) ∧ EW X W e ρ1 (fun ρ2 d2 => ∃ k : Int, d2 = .int k ∧ k ∈ ns ∧ Q ρ2 (.int (ns.idxOf k))) E) E)
    (hbase : attributeBase o "index" X.env (eval o X.env) = eval o X.env := by with_unfolding_all rfl)
    (hfew : ((backTo cpos (starEach [e] X.env)).all (fun x => !x.1) && (backToKw cpos (keywordEach [] X.env)).all (fun x => x.1.isSome)
      && decide ([e].length + ([] : List Keyword).length + (if ([] : List Keyword).isEmpty then 0 else 1) < 30)) = true := by with_unfolding_all rfl)
    (hline : (apos.endLine == cpos.line) = true := by with_unfolding_all rfl) (hs : starEach [e] X.env = (false, eval e X.env) :: starEach [] X.env := by with_unfolding_all rfl) :
    EW X W (.Call (.Attribute o "index" apos) [e] [] cpos) ρ Q E := by
  intro F H σ R wd sl kx kk pins s I
  refine wpAny_Call_method_late hbase hfew hline rfl (thn (h F H σ (fun v H1 => ∃ F1 ρ1 d, Stp ρ ρ1 F H F1 H1 ∧ Wd X.K F1 H1 ρ1 ∧ Sl X.K F1 σ ρ1 ∧ DD X.K F1 v d ∧ ∃ ns : List Int, d = .tuple (ns.map PyData.int) ∧ EW X W e ρ1 (fun ρ2 d2 => ∃ k : Int, d2 = .int k ∧ k ∈ ns ∧ Q ρ2 (.int (ns.idxOf k))) E) wd sl kx (fun F1 H1 ρ1 v d st1 wd1 sl1 dd q => ⟨F1, ρ1, d, st1, wd1, sl1, dd, q⟩) pins s I) fun v s1 ⟨x, H1, I1, r1, F1, ρ1, d, st1, wd1, sl1, dd, ns, ed, h1⟩ => ?_)
  subst ed
  cases dd with
  | @tup a xs _ sq nd ds =>
    have z := ds.ints
    subst z
    cases r1
    obtain ⟨ob, u, hf, hd⟩ := nd
    have hob : s1.heap.get? a = some ob := (I1.hok a _ (wd1.sub _ _ hf)).1
    obtain ⟨its, rv, pt, hz⟩ := I1.tuple (wd1.sub.sqt sq)
    have hty : s1.TypeIs (.ref a) "tuple" := by
      obtain ⟨o', ho', hc', _⟩ := pt
      exact ⟨o', ho', hc'⟩
    refine ⟨"tuple", "tuple.index", PySem.F.plainAttrs_tuple, PySem.F.slot_tuple_index, PySem.F.type_tuple_index, hty, fun a' e' => ?_, ?_⟩
    · cases e'
      exact ⟨ob, hob, hd⟩
    have hA := (pa_cons (X := X) pe_w pa_nil hs).run cpos pins s1 σ H1 (fun vs H2 => ∃ F2 ρ2 k, vs = [V.int k] ∧ Stp ρ1 ρ2 F1 H1 F2 H2 ∧ Wd X.K F2 H2 ρ2 ∧ Sl X.K F2 σ ρ2 ∧ k ∈ ns ∧ Q ρ2 (.int (ns.idxOf k))) I1
      (h1 F1 H1 σ _ wd1 sl1 (kx.step st1) fun F2 H2 ρ2 v2 d2 st2 wd2 sl2 dd2 q2 => by
        obtain ⟨k, rfl, hk, q2⟩ := q2
        cases dd2
        exact ⟨F2, ρ2, k, rfl, st2, wd2, sl2, hk, q2⟩)
    rw [hs] at hA ⊢
    refine Calls.callWith_builtin rfl (Calls.evalArgs_plain ?_)
    refine thn hA fun us s2 ⟨vs, H2, I2, r2, F2, ρ2, k, ev, st2, wd2, sl2, hk, q2⟩ => ?_
    subst ev
    obtain ⟨u1, rfl, ru⟩ := vals1 r2
    obtain ⟨t, rfl⟩ := ru
    obtain ⟨its2, rv2, pt2, hz2⟩ := I2.tuple (wd2.sub.sqt (st2.ex.sqt sq))
    exact PySem.SeqAt.tuple_index_ints (show s2.heap.IsTuple _ its2.toArray from pt2) (ints_of_vals rv2) hk ⟨.int (ns.idxOf k), H2, I2.tok _, ⟨_, rfl⟩, kk F2 H2 ρ2 _ _ (st1.trans st2) wd2 sl2 (.int _) q2⟩
end
end Bp

namespace Bp
open PySem PySem.Spec PyProof.Rows L2
/-! ### comprehensions with two sources -/
def SameOwn (ρ ρ' : Rho) : Prop := ∀ (j : Nat) a o, ρ[j]? = some (some (S.own a o)) ↔ ρ'[j]? = some (some (S.own a o))
theorem SameOwn.owns {ρ ρ' : Rho} (h : SameOwn ρ ρ') (a : Addr) : Owns ρ a ↔ Owns ρ' a := ⟨fun ⟨j, o, q⟩ => ⟨j, o, (h j a o).mp q⟩, fun ⟨j, o, q⟩ => ⟨j, o, (h j a o).mpr q⟩⟩
theorem SameOwn.symm {ρ ρ' : Rho} (h : SameOwn ρ ρ') : SameOwn ρ' ρ := fun j a o => (h j a o).symm
theorem SameOwn.trans {ρ ρ' ρ'' : Rho} (h : SameOwn ρ ρ') (h' : SameOwn ρ' ρ'') : SameOwn ρ ρ'' := fun j a o => (h j a o).trans (h' j a o)
theorem SameOwn.set {ρ : Rho} {i : Nat} {z : Option S} (h : NoOwn ρ i) (hz : ∀ a o, z ≠ some (.own a o)) : SameOwn ρ (ρ.set i z) := fun j a o => ⟨fun q => by
  rw [List.getElem?_set]
  split
  · rename_i e
    subst e
    exact absurd q (h a o)
  · exact q, set_own hz⟩
theorem SameOwn.stp {ρ ρ' : Rho} {F H F' H' : Hp} (h : SameOwn ρ ρ') (s : Stp ρ ρ F H F' H') : Stp ρ' ρ' F H F' H' :=
  ⟨s.ex, fun a o q n => s.keep a o q fun z => n ((h.owns a).mp z), fun a o f q n => s.fr a o f q fun z => n ((h.owns a).mp z), fun a q => .inl q, s.all⟩
theorem SameOwn.wd {K : PySem.W.Frag} {ρ ρ' : Rho} {F H : Hp} (h : SameOwn ρ ρ') (w : Wd K F H ρ) : Wd K F H ρ' :=
  ⟨w.sub, fun j a o q => w.own j a o ((h j a o).mpr q), fun i j a o o' q q' => w.dis i j a o o' ((h i a o).mpr q) ((h j a o').mpr q')⟩
section
variable {P : Program} {w : World} {K : PySem.W.Frag} {mg : Str → Option Value} {base : Heap} {sc scope : Scope} {N : List Str} {vs ls vb lb : List Bool} {k : Nat} {X : Cx} {W : WX} {ρ : Rho} {E : XQ} {e elt iter iter1 : Expr} {pos p px py spos : Pos} {x y : Str} {i j : Nat}
theorem wipe2 {σ : L2.St} {v : Option V} (hij : i ≠ j) : wipe ((wipe σ [i, j]).set i v) [i, j] = wipe σ [i, j] := by
  show ((((σ.set j none).set i none).set i v).set j none).set i none = (σ.set j none).set i none
  rw [List.set_set, List.set_comm (i := i) (j := j) v none hij, List.set_set, List.set_set]
/-- what holds of the list that grows -/
def Grown (K : PySem.W.Frag) (ρ1 : Rho) (F1 H1 : Hp) (D : Addr) (F : Hp) (H : Hp) (acc : List PyData) : Prop := ∃ xs, Stp ρ1 ρ1 F1 H1 F H ∧ Wd K F H ρ1 ∧ F D = none ∧ H D = some (.lst xs) ∧ DDs K F xs acc
abbrev Lc2W (P : Program) (w : World) (K : PySem.W.Frag) (mg : Str → Option Value) (base : Heap) (sc scope : Scope) (N : List Str) (vb lb : List Bool) (k : Nat) (X : Cx) (W : WX) (tg iter tg1 iter1 : Expr) (i j : Nat) (elt : Expr) (ρ : Rho) (Q : Rho → List PyData → Prop) (E : XQ) : Prop :=
  IW X W tg iter ρ (fun ρ1 ds => NoOwn ρ1 i ∧ NoOwn ρ1 j ∧ ∃ I : Nat → List PyData → Prop, I 0 [] ∧ (∀ n d acc, ds[n]? = some d → I n acc → ∀ Xb, Cxt P w K mg base (relS scope sc) N vb lb k Xb W0 →
      IW Xb W0 tg1 iter1 ((ρ1.set j none).set i (some (.d d))) (fun ρ2 es => ρ2 = (ρ1.set j none).set i (some (.d d)) ∧ ∃ J : Nat → List PyData → Prop, J 0 acc ∧ (∀ m e acc', es[m]? = some e → J m acc' → acc'.length < 16777216 ∧ ∀ Xe, Cxt P w K mg base (relS scope sc) N vb lb k Xe W0 →
        EW Xe W0 elt (((ρ1.set j none).set i (some (.d d))).set j (some (.d e))) (fun ρ4 z => ρ4 = ((ρ1.set j none).set i (some (.d d))).set j (some (.d e)) ∧ J (m + 1) (acc' ++ [z])) noX) ∧ ∀ acc', J es.length acc' → I (n + 1) acc') noX) ∧ ∀ acc, I ds.length acc → Q ρ1 acc) E
theorem lc2_read (C : Cxt P w K mg base sc N vs ls k X W) [sx : Slot N x i] [sy : Slot N y j] (hij : i ≠ j) {Q : Rho → List PyData → Prop} (h : Lc2W P w K mg base sc scope N vb lb k X W (.Name x px) iter (.Name y py) iter1 i j elt ρ Q E)
    (hv : chkB (visB (relS scope sc)) N vb = true) (hl : chkB (locB scope) N lb = true) {F H : Hp} {σ : L2.St} {R : VK} (wd : Wd X.K F H ρ) (sl : Sl X.K F σ ρ) (kx : Kx X.K W ρ F H E)
    (kk : ∀ F' H' ρ' p xs ds, Stp ρ ρ' F H F' H' → Wd X.K F' H' ρ' → Sl X.K F' σ ρ' → H p = none → F' p = none → ¬ Owns ρ' p → H' p = some (.lst xs) → DDs X.K F' xs ds → Q ρ' ds → R (.ref p) H') :
    tLc2 (WIx X (.Name x px) iter) (gName i) (fun σ H Q => anyB X scope (fun Xb (_ : Unit) => WTs Xb [] σ H Q) ()) (fun σ H Q => anyB X scope (fun Xb (_ : Unit) => WIx Xb (.Name y py) iter1 σ H Q) ()) (gName j) (fun σ H Q => anyB X scope (fun Xb (_ : Unit) => WTs Xb [] σ H Q) ()) (fun σ H Q => anyB X scope (fun Xb (_ : Unit) => WEx Xb elt σ H Q) ()) [i, j] [j] σ H R := by
  refine h F H σ _ wd sl kx fun F1 H1 ρ1 Jt ds st1 wd1 sl1 it q => ?_
  obtain ⟨hni, hnj, I, i0, turn, fin⟩ := q
  intro D hD
  have hF1 : F1 D = none := wd1.sub.none hD
  have hnD : ¬ Owns ρ1 D := fun ⟨j, o, q⟩ => by
    obtain ⟨_, ho, h2, _⟩ := wd1.own j D o q
    rw [hD] at h2
    cases h2
  -- one more item of the list
  have more : ∀ {F H : Hp} {acc : List PyData} {z : V} {dz : PyData} {xs : List V}, Stp ρ1 ρ1 F1 H1 F H → Wd X.K F H ρ1 → F D = none → H D = some (.lst xs) → DDs X.K F xs acc → DD X.K F z dz → Grown X.K ρ1 F1 H1 D F (upd H D (.lst (xs ++ [z]))) (acc ++ [dz]) := by
    intro F H acc z dz xs s w f h dd dz'
    refine ⟨xs ++ [z], ⟨s.ex, fun a o q n => ?_, s.fr, s.own, fun a q => ?_⟩, w.side f hnD, f, upd_same, dd.append (.cons dz' .nil)⟩
    · have ne : a ≠ D := ne_of_none q hD
      rw [upd_ne ne]
      exact s.keep a o q n
    · by_cases z : a = D
      · rw [z]
        exact hD
      · rw [upd_ne z] at q
        exact s.all a q
  refine ⟨fun n m H2 => m = ds.length - n ∧ n ≤ ds.length ∧ ∃ F2 acc, Grown X.K ρ1 F1 H1 D F2 H2 acc ∧ I n acc, ⟨_, rfl, Nat.zero_le _, F1, [], ⟨[], ⟨Ex.refl _, fun a o q _ => ?_, fun _ _ f _ _ => f, fun _ q => .inl q, fun a q => ?_⟩, wd1.side hF1 hnD, hF1, upd_same, .nil⟩, i0⟩, ?_⟩
  · rw [upd_ne (ne_of_none q hD)]
    exact q
  · by_cases z : a = D
    · rw [z]
      exact hD
    · rw [upd_ne z] at q
      exact q
  rintro n m H2 ⟨rfl, hn, F2, acc, ⟨xs, st2, wd2, f2, h2, dd2⟩, i2⟩
  have sl2 : Sl X.K F2 σ ρ1 := sl1.mono st2.ex
  by_cases hlt : n < ds.length
  · refine .inr ⟨it.go F2 H2 n st2.ex wd2.sub hlt, fun H3 => ∃ F3 acc, Grown X.K ρ1 F1 H1 D F3 H3 acc ∧ I (n + 1) acc, fun H3 hh => ⟨_, by omega, rfl, hlt, hh⟩, fun y H3 hy => ?_⟩
    have hd : ds[n]? = some ds[n] := List.getElem?_eq_getElem hlt
    obtain ⟨F3, g, dd3⟩ := it.yld F2 H2 n y H3 _ st2.ex wd2.sub hd hy
    have f3 : F3 D = none := g.fr D _ f2 h2
    have h3 : H3 D = some (.lst xs) := g.exH D _ h2
    have wd3 := wd2.gr g
    have sl3 : Sl X.K F3 σ ρ1 := sl2.mono g.ex
    have so : SameOwn ρ1 ((ρ1.set j none).set i (some (.d ds[n]))) := (SameOwn.set hnj noN).trans (SameOwn.set (fun a o q => hni a o (by rw [List.getElem?_set_ne hij.symm] at q; exact q)) noD)
    have sla : Sl X.K F3 ((wipe σ [i, j]).set i (some y)) ((ρ1.set j none).set i (some (.d ds[n]))) := by
      have e : (wipe σ [i, j]).set i (some y) = (σ.set j none).set i (some y) := by
        show ((σ.set j none).set i none).set i (some y) = _
        rw [List.set_set]
      rw [e]
      refine Sl.set ⟨by rw [List.length_set, List.length_set]; exact sl3.len, fun l z q => ?_⟩ dd3
      rw [List.getElem?_set] at q ⊢
      split at q
      · split at q
        · cases q
        · cases q
      · rename_i ne
        rw [if_neg ne]
        exact sl3.get l z q
    refine ⟨wipe2 hij, fun s0 Hs A cl fp => of_pts pts_nil ?_⟩
    unfold tYes
    dsimp only
    rw [if_pos rfl]
    intro s0 Hs A cl fp
    have Cb := C.blk (scope := scope) (vb := vb) (lb := lb) hv hl s0 Hs A cl fp
    refine turn n _ acc hd i2 _ Cb F3 H3 _ _ (so.wd wd3) sla kx0 fun F4 H4 ρ4 Jt1 es st4 wd4 sl4 it1 q4 => ?_
    obtain ⟨e4, J, j0, turn1, fin1⟩ := q4
    subst e4
    have s4 : Stp ρ1 ρ1 F1 H1 F4 H4 := (st2.trans g.stp).trans (so.symm.stp st4)
    have w4 : Wd X.K F4 H4 ρ1 := so.symm.wd wd4
    have nD' : ¬ Owns ((ρ1.set j none).set i (some (.d ds[n]))) D := fun z => hnD ((so.owns D).mpr z)
    have f4 : F4 D = none := st4.fr D _ f3 h3 nD'
    have h4 : H4 D = some (.lst xs) := st4.keep D _ h3 nD'
    refine ⟨fun m k H5 => k = es.length - m ∧ m ≤ es.length ∧ ∃ F5 acc', Ex F4 F5 ∧ Grown X.K ρ1 F1 H1 D F5 H5 acc' ∧ J m acc', ⟨_, rfl, Nat.zero_le _, F4, acc, Ex.refl _, ⟨xs, s4, w4, f4, h4, dd2.mono (g.ex.trans st4.ex)⟩, j0⟩, ?_⟩
    rintro m k H5 ⟨rfl, hm, F5, acc', e5, ⟨xs5, st5, wd5, f5, h5, dd5⟩, j5⟩
    by_cases hlt1 : m < es.length
    · refine .inr ⟨it1.go F5 H5 m e5 wd5.sub hlt1, fun H6 => ∃ F6 acc', Ex F4 F6 ∧ Grown X.K ρ1 F1 H1 D F6 H6 acc' ∧ J (m + 1) acc', fun H6 hh => ⟨_, by omega, rfl, hlt1, hh⟩, fun y1 H6 hy1 => ?_⟩
      have he : es[m]? = some es[m] := List.getElem?_eq_getElem hlt1
      obtain ⟨F6, g6, dd6⟩ := it1.yld F5 H5 m y1 H6 _ e5 wd5.sub he hy1
      have f6 : F6 D = none := g6.fr D _ f5 h5
      have h6 : H6 D = some (.lst xs5) := g6.exH D _ h5
      have so2 : SameOwn ((ρ1.set j none).set i (some (.d ds[n]))) (((ρ1.set j none).set i (some (.d ds[n]))).set j (some (.d es[m]))) := SameOwn.set (fun a o q => hnj a o ((so j a o).mpr q)) noD
      have so3 := so.trans so2
      have slb : Sl X.K F6 ((wipe ((wipe σ [i, j]).set i (some y)) [j]).set j (some y1)) (((ρ1.set j none).set i (some (.d ds[n]))).set j (some (.d es[m]))) := sl_in ((sl4.mono e5).mono g6.ex) dd6
      obtain ⟨hacc, ev⟩ := turn1 m _ acc' he j5
      refine ⟨wipe1, fun s0 Hs A cl fp => of_pts pts_nil ?_⟩
      unfold tYes
      dsimp only
      rw [if_pos rfl]
      intro s0 Hs A cl fp
      have Cb := C.blk (scope := scope) (vb := vb) (lb := lb) hv hl s0 Hs A cl fp
      refine ev _ Cb F6 H6 _ _ (so3.wd (wd5.gr g6)) slb kx0 fun F7 H7 ρ7 z dz st7 wd7 sl7 dd7 q7 => ?_
      obtain ⟨e7, q7⟩ := q7
      subst e7
      have nD7 : ¬ Owns (((ρ1.set j none).set i (some (.d ds[n]))).set j (some (.d es[m]))) D := fun z => hnD ((so3.owns D).mpr z)
      have s7 : Stp ρ1 ρ1 F1 H1 F7 H7 := (st5.trans g6.stp).trans (so3.symm.stp st7)
      have f7 : F7 D = none := st7.fr D _ f6 h6 nD7
      have h7 : H7 D = some (.lst xs5) := st7.keep D _ h6 nD7
      refine ⟨xs5, h7, by rw [dd5.length, sizeLine_eq]; exact hacc, F7, acc' ++ [dz], e5.trans (g6.ex.trans st7.ex), more s7 (so3.symm.wd wd7) f7 h7 (dd5.mono (g6.ex.trans st7.ex)) dd7, q7⟩
    · have e : m = es.length := by omega
      subst e
      exact .inl ⟨it1.stop F5 H5 e5 wd5.sub, F5, acc', ⟨xs5, st5, wd5, f5, h5, dd5⟩, fin1 acc' j5⟩
  · have e : n = ds.length := by omega
    subst e
    refine .inl ⟨it.stop F2 H2 st2.ex wd2.sub, ?_⟩
    exact kk F2 H2 ρ1 D xs acc (st1.trans st2) wd2 sl2 (st1.all D hD) f2 hnD h2 dd2 (fin acc i2)
theorem en_lc2 (C : Cxt P w K mg base sc N vs ls k X W) [sx : Slot N x i] [sy : Slot N y j] {Q : Rho → List PyData → Prop} (h : Lc2W P w K mg base sc scope N vb lb k X W (.Name x px) iter (.Name y py) iter1 i j elt ρ Q E) (hij : i ≠ j := by decide) (hv : chkB (visB (relS scope sc)) N vb = true := by decide +kernel) (hl : chkB (locB scope) N lb = true := by decide +kernel)
    (hb : blkC N sc scope [(x, i), (y, j)] = true := by decide +kernel) (hli : lb[i]? = some true := by with_unfolding_all rfl) (hlj : lb[j]? = some true := by with_unfolding_all rfl) (hs : ∀ x, foldedSetIterable iter X.env x = pure x := by intro _; with_unfolding_all rfl) (hs1 : ∀ env x, foldedSetIterable iter1 env x = pure x := by intro _ _; with_unfolding_all rfl) :
    EN X W (.ListComp elt [⟨.Name x px, iter, [], 0⟩, ⟨.Name y py, iter1, [], 0⟩] scope pos) ρ Q E := by
  intro F H σ R wd sl kx kk
  have ok : BlkOk X.N X.env.scope scope [(x, i), (y, j)] := by
    rw [C.eN, C.es]
    exact blkOk_by hb
  refine of_pe (pe_lc2 (own := [(x, i), (y, j)]) (vs1 := [j]) (g := gName i) (g1 := gName j) C.calm (by rw [C.eN]; exact C.nd) pi_w ok (fun l hl => by simp at hl; subst hl; simp) (fun s H A cl fp => ?_) (fun s H A cl fp => ?_) (fun s H A cl fp => ?_) (fun s H A cl fp => ?_) (fun s H A cl fp => ?_) (fun s H A cl fp => ?_) hs hs1) (lc2_read C hij h hv hl wd sl kx kk)
  · have Cb := C.blk (scope := scope) (vb := vb) (lb := lb) hv hl s H A cl fp
    exact pg_name (by rw [Cb.eN]; exact Cb.nd) (by rw [Cb.eN]; exact sx.get) (Cb.lo sx.get hli) (Cb.st sx.get hli)
  · exact ⟨fun pins s' σ' H' Q' I' h' => h' s H A cl fp pins s' I'⟩
  · exact ⟨fun pins s' σ' H' Q' I' h' => h' s H A cl fp pins s' I'⟩
  · have Cb := C.blk (scope := scope) (vb := vb) (lb := lb) hv hl s H A cl fp
    exact pg_name (by rw [Cb.eN]; exact Cb.nd) (by rw [Cb.eN]; exact sy.get) (Cb.lo sy.get hlj) (Cb.st sy.get hlj)
  · exact ⟨fun pins s' σ' H' Q' I' h' => h' s H A cl fp pins s' I'⟩
  · exact ⟨fun pins s' σ' H' Q' I' h' => h' s H A cl fp pins s' I'⟩
theorem ew_lc2 (C : Cxt P w K mg base sc N vs ls k X W) [sx : Slot N x i] [sy : Slot N y j] {Q : Rho → PyData → Prop} (h : Lc2W P w K mg base sc scope N vb lb k X W (.Name x px) iter (.Name y py) iter1 i j elt ρ (fun ρ1 ds => Q ρ1 (.list ds)) E) (hij : i ≠ j := by decide) (hv : chkB (visB (relS scope sc)) N vb = true := by decide +kernel) (hl : chkB (locB scope) N lb = true := by decide +kernel)
    (hb : blkC N sc scope [(x, i), (y, j)] = true := by decide +kernel) (hli : lb[i]? = some true := by with_unfolding_all rfl) (hlj : lb[j]? = some true := by with_unfolding_all rfl) (hs : ∀ x, foldedSetIterable iter X.env x = pure x := by intro _; with_unfolding_all rfl) (hs1 : ∀ env x, foldedSetIterable iter1 env x = pure x := by intro _ _; with_unfolding_all rfl) :
    EW X W (.ListComp elt [⟨.Name x px, iter, [], 0⟩, ⟨.Name y py, iter1, [], 0⟩] scope pos) ρ Q E := ew_en (en_lc2 C h hij hv hl hb hli hlj hs hs1)
end
end Bp

namespace Bp
open PySem PySem.Spec PyProof.Rows L2
/-! ### data that can be compared -/
def shp : Nat → PyData → Bool
  | _, .none => true
  | _, .bool _ => true
  | _, .int _ => true
  | _, .str x => PyData.strOk x
  | 0, .list _ => false
  | 0, .tuple _ => false
  | n + 1, .list xs => xs.all (shp n)
  | n + 1, .tuple xs => xs.all (shp n)
  | _, .dict _ => false
theorem shp_all {n : Nat} (ih : ∀ d, shp n d = true → d.canLay0 = true ∧ d.depth ≤ n) : ∀ {xs : List PyData}, xs.all (shp n) = true → PyData.canLayAll0 xs = true ∧ PyData.depthAll xs ≤ n
  | [], _ => ⟨by simp only [PyData.canLayAll0], by simp only [PyData.depthAll]; omega⟩
  | x :: xs, h => by
    rw [List.all_cons] at h
    have h2 := Bool.and_eq_true_iff.mp h
    have a := ih x h2.1
    have b := shp_all ih h2.2
    simp only [PyData.canLayAll0, PyData.depthAll, a.1, b.1, Bool.and_self, true_and]
    omega
theorem shp_ok : ∀ (n : Nat) (d : PyData), shp n d = true → d.canLay0 = true ∧ d.depth ≤ n
  | n, .none, _ => ⟨by simp only [PyData.canLay0], by simp only [PyData.depth]; omega⟩
  | n, .bool _, _ => ⟨by simp only [PyData.canLay0], by simp only [PyData.depth]; omega⟩
  | n, .int _, _ => ⟨by simp only [PyData.canLay0], by simp only [PyData.depth]; omega⟩
  | n, .str x, h => ⟨by simp only [PyData.canLay0]; cases n <;> exact h, by simp only [PyData.depth]; omega⟩
  | 0, .list _, h => by cases h
  | 0, .tuple _, h => by cases h
  | n + 1, .list xs, h => by
    have := shp_all (shp_ok n) (show xs.all (shp n) = true from h)
    simp only [PyData.canLay0, PyData.depth]
    exact ⟨this.1, by omega⟩
  | n + 1, .tuple xs, h => by
    have := shp_all (shp_ok n) (show xs.all (shp n) = true from h)
    simp only [PyData.canLay0, PyData.depth]
    exact ⟨this.1, by omega⟩
  | n, .dict _, h => by cases n <;> cases h
theorem shaped_of (n : Nat) {d : PyData} (h : shp n d = true) (hn : n ≤ 64 := by decide) : SeqAt.shaped d = true := by
  have := shp_ok n d h
  unfold SeqAt.shaped
  rw [this.1, decide_eq_true (by omega)]
  rfl
theorem shp_ints (n : Nat) : ∀ ns : List Int, (ns.map PyData.int).all (shp n) = true
  | [] => rfl
  | i :: r => by
    rw [List.map_cons, List.all_cons, shp_ints n r]
    cases n <;> rfl
theorem eqv_all {n : Nat} (ih : ∀ d, shp n d = true → PyData.eqv d d = true) : ∀ {xs : List PyData}, xs.all (shp n) = true → PyData.eqvAll xs xs = true
  | [], _ => by simp only [PyData.eqvAll]
  | x :: xs, h => by
    rw [List.all_cons] at h
    have h2 := Bool.and_eq_true_iff.mp h
    simp only [PyData.eqvAll, ih x h2.1, eqv_all ih h2.2, Bool.and_self]
theorem eqv_self : ∀ (n : Nat) (d : PyData), shp n d = true → PyData.eqv d d = true
  | n, .none, _ => by simp only [PyData.eqv]
  | n, .bool b, _ => by simp only [PyData.eqv, BEq.rfl]
  | n, .int i, _ => by simp only [PyData.eqv, BEq.rfl]
  | n, .str x, _ => by simp only [PyData.eqv, BEq.rfl]
  | 0, .list _, h => by cases h
  | 0, .tuple _, h => by cases h
  | n + 1, .list xs, h => by
    simp only [PyData.eqv]
    exact eqv_all (eqv_self n) (show xs.all (shp n) = true from h)
  | n + 1, .tuple xs, h => by
    simp only [PyData.eqv]
    exact eqv_all (eqv_self n) (show xs.all (shp n) = true from h)
  | n, .dict _, h => by cases n <;> cases h
section
variable {P : Program} {w : World} {K : PySem.W.Frag} {mg : Str → Option Value} {base : Heap} {sc : Scope} {N : List Str} {vs ls : List Bool} {k : Nat} {X : Cx} {W : WX} {ρ : Rho} {Q : Rho → PyData → Prop} {E : XQ} {a b c e o : Expr} {es : List Expr} {pos p apos cpos px : Pos} {x y z : Str} {i j l : Nat}
theorem gw_trip (C : Cxt P w K mg base sc N vs ls k X W) {l : Nat} [sx : Slot N x i] [sy : Slot N y j] [sz : Slot N z l] {py pz pt : Pos} {kt : Nat} (hl : ls[i]? = some true) (hl2 : ls[j]? = some true) (hl3 : ls[l]? = some true) {d1 d2 d3 : PyData} {Q : Rho → Prop} (q : Q (((ρ.set i (some (.d d1))).set j (some (.d d2))).set l (some (.d d3)))) :
    GW X (.Tuple [.Name x px, .Name y py, .Name z pz] kt pt) (.tuple [d1, d2, d3]) ρ Q := by
  intro F H σ v R wd st dd kk
  have nd : X.N.Nodup := by rw [C.eN]; exact C.nd
  refine of_pg (pg_tup C.calm (pgs_cons (pg_name (i := i) nd (by rw [C.eN]; exact sx.get) (C.lo sx.get hl) (C.st sx.get hl)) (pgs_cons (pg_name (i := j) nd (by rw [C.eN]; exact sy.get) (C.lo sy.get hl2) (C.st sy.get hl2)) (pgs_cons (pg_name (i := l) nd (by rw [C.eN]; exact sz.get) (C.lo sz.get hl3) (C.st sz.get hl3)) pgs_nil)))) ?_
  cases dd with
  | tup h _ hs =>
    cases hs with
    | cons h1 hs =>
      cases hs with
      | cons h2 hs =>
        cases hs with
        | cons h3 hs =>
          cases hs
          refine ⟨_, _, rfl, wd.sub.sqt h, rfl, _, _, rfl, _, _, rfl, _, _, rfl, rfl, ?_⟩
          exact kk _ _ (((Stp.set noD).trans (Stp.set noD)).trans (Stp.set noD)) (((wd.set noD).set noD).set noD) (((st.set h1).set h2).set h3) q
end
end Bp

namespace Bp
open PySem PySem.Spec PyProof.Rows L2
/-! ### enumerate of a list or a tuple -/
theorem meets_enum1 {v : Value} {ob : Obj} {Hh : Heap → Prop} (Bg : Begins v ob Hh) :
    Meets (Builtin.«enumerate.__new__» ⟨[.type "enumerate", v], []⟩) (fun _ R s => Hh s.heap ∧ R (.ok (.ret (.ref (s.heap.push ob).objs.size))) { s with heap := (s.heap.push ob).push { cls := .type "enumerate", data := .fields #[.none, .bool false, .ref s.heap.objs.size, rawInt 0, .none, .none] } }) :=
  .of_wp fun prog w A R s h => by
    obtain ⟨hp, g, d, tk, os⟩ := s
    obtain ⟨h1, h⟩ := h
    have hsub := sub_enumerate
    have q1 : ∀ {A1 : Around} {E1 : Value → Shared → Prop} {Q1 : Value → Shared → Prop}, Q1 (.ref hp.objs.size) ⟨hp.push ob, g, d, tk, os⟩ → wpAny (model prog w) A1 (pyIter v) Q1 E1 ⟨hp, g, d, tk, os⟩ := fun z => Bg.iter prog w _ _ ⟨hp, g, d, tk, os⟩ _ h1 z
    wp_walk using q1
    refine wpAny_stack_any fun stk => wpAny_pure ?_
    split
    · rename_i cc _ _ _ _ _
      cases (cc == Value.type "enumerate") <;> (wp_walk using q1; exact ⟨_, rfl, h⟩)
    · wp_walk using q1
      exact ⟨_, rfl, h⟩
theorem call_enum1 {prog : Program} {w : World} {A : Around} {E : Value → Shared → Prop} {s : Shared} {v : Value} {ob : Obj} {Hh : Heap → Prop} {Q : Value → Shared → Prop} (Bg : Begins v ob Hh) (h1 : Hh s.heap)
    (h : ∀ h', IsEnum h' (s.heap.objs.size + 1) s.heap.objs.size 0 .none → h'.get? s.heap.objs.size = some ob → (∀ b o, s.heap.get? b = some o → h'.get? b = some o) → Q (.ref (s.heap.objs.size + 1)) { s with heap := h' }) : wpAny (model prog w) A (call (.type "enumerate") [v]) Q E s := by
  refine callType_new F.called_enumerate (by decide) (F.typeCall_enumerate_1 _) (F.newCall_enumerate_1 _) (fun o1 => F.args_object_init_2 o1 _) F.entry_enumerate_new (meets_enum1 Bg) ⟨h1, ?_⟩
  have hz : (s.heap.push ob).objs.size = s.heap.objs.size + 1 := Heap.size_push ..
  have he := Heap.get?_push_size (s.heap.push ob) (o := { cls := .type "enumerate", data := .fields #[.none, .bool false, .ref s.heap.objs.size, rawInt 0, .none, .none] }) rfl
  show _ ∧ _
  rw [hz] at he ⊢
  exact ⟨⟨_, he, rfl⟩, h _ he (Heap.get?_push_of_some _ (Heap.get?_push_size _ Bg.free)) fun b o x => Heap.get?_push_of_some _ (Heap.get?_push_of_some _ x)⟩
/-- the tuple at a, each item in a new pair -/
def IteT (K : PySem.W.Frag) (a : Addr) : It :=
  ⟨fun i H => ∃ (xs : List V) (x : V), SqT K H a xs ∧ xs[i]? = some x, fun i H v H' => ∃ T x, v = .ref T ∧ H T = none ∧ H' = upd H T (.tup [.int (i : Nat), x]) ∧ ∀ ys, SqT K H a ys → ys[i]? = some x, fun i H => ∃ xs : List V, SqT K H a xs ∧ xs.length ≤ i⟩
theorem tup_apart {h : Heap} {a it : Addr} {i : Nat} {its : Array Value} (h1 : h.IsTupleIter it a i) (h2 : h.IsTuple a its) : a ≠ it := fun z => by
  subst z
  obtain ⟨o1, g1, c1, _⟩ := h1
  obtain ⟨o2, g2, c2, _⟩ := h2
  rw [g1] at g2
  cases g2
  rw [c1] at c2
  exact absurd c2 (by decide)
theorem tup_apart2 {h : Heap} {a e it : Addr} {i : Int} {old : Value} {its : Array Value} (h1 : IsEnum h e it i old) (h2 : h.IsTuple a its) : e ≠ a := fun z => by
  subst z
  obtain ⟨o2, g2, c2, _⟩ := h2
  have g1 : h.get? e = some _ := h1
  rw [g1] at g2
  cases g2
  exact absurd (show Value.type "enumerate" = Value.type "tuple" from c2) (by decide)
theorem wpAny_pyNext_enum_endT {prog : Program} {w : World} {A : Around} {E : Value → Shared → Prop} {s : Shared} {e it l : Addr} {c : Int} {n : Nat} {its : Array Value} {old : Value} {Q : Option Value → Shared → Prop} (hh : A.handled = none) (he : IsEnum s.heap e it c old) (hit : s.heap.IsTupleIter it l n) (hl : s.heap.IsTuple l its) (hx : its[n]? = none)
    (hQ : ∀ h1, Heap.ExtBut it s.heap h1 → Q none { s with heap := h1 }) : wpAny (model prog w) A (pyNext (.ref e)) Q E s := by
  have hT : s.TypeIs (.ref e) "enumerate" := ⟨_, he, rfl⟩
  unfold pyNext
  refine wpAny_bind (wpAny_attempt (wpAny_callSpecial?_slot (name := Str.ofString "__next__") hT F.slot_enumerate_next (wpAny_call_entry F.slot_enumerate_next hT F.entry_enumerate_next ?_ (F.args_enumerate_next_1 _))))
  show wpAny (model prog w) _ (field (.ref e) 2 >>= _) _ _ s
  refine wpAny_bind (wpAny_field he rfl (x := .ref it) rfl (wpAny_bind (wpAny_nextOf_tuple_end hh hit hl hx fun h1 x k1 k2 => ?_)))
  obtain ⟨o1, ho1, hc1⟩ := k2
  exact wpAny_bind (wpAny_isInstance (T := "StopIteration") (b := true) ⟨o1, ho1, hc1⟩ isSubtype_stop (wpAny_pure (hQ _ k1)))
theorem turn_enumT {P : Program} {w : World} {K : PySem.W.Frag} {elts : List Expr} {kk : Nat} {tpos : Pos} (a e it : Addr) :
    Turn P w K (.Tuple elts kk tpos) (IteT K a) [e, it] e (fun i h => (∃ old, IsEnum h e it ((i : Nat) : Int) old) ∧ h.IsTupleIter it a i ∧ e ≠ it) where
  mem := List.mem_cons_self
  obj := fun i h st b hb => by
    obtain ⟨⟨old, he⟩, ⟨o, ho, hc, hd⟩, _⟩ := st
    rcases List.mem_cons.mp hb with z | z
    · rw [z]
      exact ⟨_, he, fun v q => nomatch q⟩
    · exact ⟨o, by rw [List.mem_singleton.mp z]; exact ho, fun v q => by rw [hd] at q; cases q⟩
  keep := fun i h h' st kp => by
    obtain ⟨⟨old, he⟩, hi, hne⟩ := st
    exact ⟨⟨old, kp e List.mem_cons_self _ he⟩, hi.at fun o q => kp it (List.mem_cons_of_mem _ List.mem_cons_self) o q, hne⟩
  item := by
    intro X hP hw hK hc i pins s σ H E I hf st hg
    subst hP hw hK
    obtain ⟨⟨old, he⟩, hit, hne⟩ := st
    obtain ⟨xs, x, hq, hx⟩ := hg
    obtain ⟨its, rv, pt, hz⟩ := I.tuple hq
    obtain ⟨u, hu, ru⟩ := rv.get hx
    have pt' : s.heap.IsTuple a its.toArray := pt
    have hel : e < s.heap.objs.size := Heap.lt_size he
    have hil : it < s.heap.objs.size := by
      obtain ⟨_, q, _⟩ := hit
      exact Heap.lt_size q
    have hai := tup_apart hit pt'
    have hea := tup_apart2 he pt'
    have hlt : i < its.toArray.size := by
      rw [List.size_toArray]
      exact (List.getElem?_eq_some_iff.mp hu).1
    refine wpAny_pyNext_enum_itemD (Draws.tuple (A := X.A.in1) (show X.A.in1.handled = none from I.ok.hd hc) it a hai its.toArray) he ⟨hit, pt'⟩ hlt hne (fun z => ?_) fun y h' tk hP ho hst' hT hsz hk => ?_
    · rcases List.mem_cons.mp z with z | z
      · exact hne z
      · exact hea (List.mem_singleton.mp z)
    have hyu : y = u := by
      have hP : its.toArray[i]? = some y := hP
      rw [List.getElem?_toArray, hu] at hP
      exact (Option.some.inj hP).symm
    subst hyu
    refine ⟨_, rfl, wpAny_letOwnedTupleGo_enum (s := { s with heap := h', toks := tk + 1 }) ho fun h2 he' sb => ?_⟩
    have hT2 : h2.get? s.heap.objs.size = some { cls := .type "tuple", data := .seq #[.int i tk, y] } := (sb.2 _ (Nat.ne_of_gt hel)).trans hT
    have new : ObjOk X.prog X.w (upd H s.heap.objs.size (.tup [.int (i : Nat), x])) h2 s.heap.objs.size (.tup [.int (i : Nat), x]) := ⟨by show 2 ≤ sizeLine; decide, [.int i tk, y], .cons ⟨_, rfl⟩ (.cons ru .nil), ⟨_, hT2, rfl, _, rfl⟩⟩
    have I1 : Inv X pins σ (upd H s.heap.objs.size (.tup [.int (i : Nat), x])) { s with heap := h2, toks := tk + 1 } := I.turnedNew (ch := [e, it]) (fun b ob hb q => (sb.2 b (fun z => hb (by simp [z]))).trans (hk b ob (fun z => hb (by simp [z])) (fun z => hb (by simp [z])) q)) hf (Nat.le_refl _) new
    refine ⟨.ref s.heap.objs.size, _, I1, rfl, ⟨_, x, rfl, I.hok.fresh (Nat.le_refl _), rfl, fun ys hy => by rw [I.tuple_inj hy hq]; exact hx⟩, ⟨⟨y, ?_⟩, hst'.1.at fun o q => (sb.2 it (Ne.symm hne)).trans q, hne⟩, fun b hb => ?_⟩
    · rw [show ((i + 1 : Nat) : Int) = (i : Int) + 1 by omega]
      exact he'
    · have hb' : b < s.heap.objs.size := by
        rcases List.mem_cons.mp hb with z | z
        · rw [z]; exact hel
        · rw [List.mem_singleton.mp z]; exact hil
      rw [upd_ne (Nat.ne_of_lt hb')]
      exact (hf b hb).1
  done := by
    intro X hP hw hK hc i pins s σ H E I hf st hg
    subst hP hw hK
    obtain ⟨⟨old, he⟩, hit, hne⟩ := st
    obtain ⟨xs, hq, hx⟩ := hg
    obtain ⟨its, rv, pt, hz⟩ := I.tuple hq
    have pt' : s.heap.IsTuple a its.toArray := pt
    obtain ⟨f0, f1, f2, f3, f4, f5⟩ := hf it (by simp)
    have hl := rv.length
    have hai := tup_apart hit pt'
    -- at the end the tuple has no item of this index
    exact wpAny_pyNext_enum_endT (I.ok.hd hc) he hit pt' (by rw [List.getElem?_toArray]; exact List.getElem?_eq_none (by omega)) fun h' eb => ⟨rfl, I.turned (t' := s.toks) (fun b o hb q => eb b o hb q) f0 f1 f3 f4 f5⟩
  self := fun A i s Q E st h => by
    obtain ⟨⟨_, he⟩, _⟩ := st
    exact wpAny_pyIter_enum he h
/-- the turns give these pairs -/
structure ItD2 (K : PySem.W.Frag) (F1 : Hp) (J : It) (ds : List (PyData × PyData)) : Prop where
  go : ∀ F H i, Ex F1 F → Ex F H → i < ds.length → J.go i H
  yld : ∀ F H i y H' d, Ex F1 F → Ex F H → ds[i]? = some d → J.yld i H y H' → ∃ F' p a b, Gr F H F' H' ∧ y = .ref p ∧ SqT K H' p [a, b] ∧ DD K F' a d.1 ∧ DD K F' b d.2
  stop : ∀ F H, Ex F1 F → Ex F H → J.stop ds.length H
def enumD (ds : List PyData) : List (PyData × PyData) := ds.zipIdx.map fun p => (PyData.int (p.2 : Nat), p.1)
theorem enumD_len (ds : List PyData) : (enumD ds).length = ds.length := by
  unfold enumD
  rw [List.length_map, List.length_zipIdx]
theorem enumD_get {ds : List PyData} {i : Nat} {d : PyData × PyData} (h : (enumD ds)[i]? = some d) : d.1 = .int (i : Nat) ∧ ds[i]? = some d.2 := by
  unfold enumD at h
  rw [List.getElem?_map, List.getElem?_zipIdx] at h
  cases e : ds[i]? with
  | none =>
    rw [e] at h
    cases h
  | some x =>
    rw [e] at h
    cases h
    exact ⟨by simp, rfl⟩
section
variable {P : Program} {w : World} {K : PySem.W.Frag} {mg : Str → Option Value} {base : Heap} {sc scope : Scope} {N : List Str} {vs ls vb lb : List Bool} {k : Nat} {X : Cx} {W : WX} {ρ : Rho} {E : XQ} {Nx : Rho → Prop} {R : Rho → Ret → Prop} {e elt iter : Expr} {ifs : List Expr} {pos p px py pt spos : Pos} {x y : Str} {i j kt : Nat}
def IW2 (X : Cx) (W : WX) (tg iter : Expr) (ρ : Rho) (Q : Rho → List (PyData × PyData) → Prop) (E : XQ) : Prop := ∀ F H σ (R : It → Hp → Prop), Wd X.K F H ρ → Sl X.K F σ ρ → Kx X.K W ρ F H E →
  (∀ F' H' ρ' J ds, Stp ρ ρ' F H F' H' → Wd X.K F' H' ρ' → Sl X.K F' σ ρ' → ItD2 X.K F' J ds → Q ρ' ds → R J H') → WIx X tg iter σ H R
theorem itd2_enumL {F : Hp} {a : Addr} {xs : List V} {ds : List PyData} (h : F a = some (.lst xs)) (dd : DDs K F xs ds) : ItD2 K F (Ite K a) (enumD ds) where
  go := fun F' H i e s hl => by
    rw [enumD_len] at hl
    obtain ⟨v, h1, _⟩ := dd.get (List.getElem?_eq_getElem hl)
    exact ⟨xs, v, SqL.of (s _ _ (e _ _ h)), h1⟩
  yld := fun F' H i y H' d e s hd ⟨T, x, ey, hT, eH, hx⟩ => by
    obtain ⟨d1, d2⟩ := enumD_get hd
    have q := hx xs (SqL.of (s _ _ (e _ _ h)))
    obtain ⟨v, h1, h2⟩ := dd.get d2
    rw [h1] at q
    cases q
    subst eH
    exact ⟨F', T, .int (i : Nat), x, Gr.side s hT, ey, .inl (.inl upd_same), by rw [d1]; exact .int _, h2.mono e⟩
  stop := fun F' H e s => ⟨xs, SqL.of (s _ _ (e _ _ h)), by rw [enumD_len, dd.length]; exact Nat.le_refl _⟩
theorem itd2_enumT {F : Hp} {a : Addr} {xs : List V} {ds : List PyData} (h : SqT K F a xs) (dd : DDs K F xs ds) : ItD2 K F (IteT K a) (enumD ds) where
  go := fun F' H i e s hl => by
    rw [enumD_len] at hl
    obtain ⟨v, h1, _⟩ := dd.get (List.getElem?_eq_getElem hl)
    exact ⟨xs, v, s.sqt (e.sqt h), h1⟩
  yld := fun F' H i y H' d e s hd ⟨T, x, ey, hT, eH, hx⟩ => by
    obtain ⟨d1, d2⟩ := enumD_get hd
    have q := hx xs (s.sqt (e.sqt h))
    obtain ⟨v, h1, h2⟩ := dd.get d2
    rw [h1] at q
    cases q
    subst eH
    exact ⟨F', T, .int (i : Nat), x, Gr.side s hT, ey, .inl (.inl upd_same), by rw [d1]; exact .int _, h2.mono e⟩
  stop := fun F' H e s => ⟨xs, s.sqt (e.sqt h), by rw [enumD_len, dd.length]; exact Nat.le_refl _⟩
/-- enumerate(e), e a list or a tuple -/
def iEnum2 (K : PySem.W.Frag) (te : TE) : TI := fun σ H R => te σ H fun x H1 => ∃ a, x = .ref a ∧ (((∃ xs, SqL K H1 a xs) ∧ R (Ite K a) H1) ∨ ((∃ xs, SqT K H1 a xs) ∧ R (IteT K a) H1))
theorem pi_enum2 {te : TE} {elts : List Expr} {kk : Nat} {tpos : Pos} (hg : Gl X "enumerate") (hm : X.mg "enumerate" = none) (he : PE X e te) (hs : starEach [e] X.env = (false, eval e X.env) :: starEach [] X.env) : PI X (.Tuple elts kk tpos) (.Call (.Name "enumerate" p) [e] [] pos) (iEnum2 X.K te) := by
  refine ⟨fun pins s σ H R I h => ?_⟩
  have hA := (pa_cons (X := X) he pa_nil hs).run pos pins s σ H (fun vs H1 => ∃ a, vs = [V.ref a] ∧ (((∃ xs, SqL X.K H1 a xs) ∧ R (Ite X.K a) H1) ∨ ((∃ xs, SqT X.K H1 a xs) ∧ R (IteT X.K a) H1))) I (show te σ H (fun x H1 => ∃ a, [x] = [V.ref a] ∧ _) from by
    have e1 : (fun (x : V) (H1 : Hp) => ∃ a, [x] = [V.ref a] ∧ (((∃ xs, SqL X.K H1 a xs) ∧ R (Ite X.K a) H1) ∨ ((∃ xs, SqT X.K H1 a xs) ∧ R (IteT X.K a) H1))) = fun (x : V) (H1 : Hp) => ∃ a, x = V.ref a ∧ (((∃ xs, SqL X.K H1 a xs) ∧ R (Ite X.K a) H1) ∨ ((∃ xs, SqT X.K H1 a xs) ∧ R (IteT X.K a) H1)) := by
      funext x H1
      simp
    rw [e1]
    exact h)
  refine Call_ (ld_blt I hg hm boot_enumerate (PyProof.Rows.callWith_type1 (thn hA fun us s1 ⟨vs, H1, I1, r1, q1⟩ => ?_) hs rfl))
  obtain ⟨a, ev, q⟩ := q1
  subst ev
  obtain ⟨u1, rfl, ru⟩ := vals1 r1
  cases ru
  rcases q with ⟨⟨xs, hq⟩, q⟩ | ⟨⟨xs, hq⟩, q⟩
  · obtain ⟨its, rv, pl, hz⟩ := I1.list hq
    refine call_enum1 (begins_list a its.toArray) pl.isList fun h' hen hit hk => wpAny_pyIter_enum hen ?_
    have I2 : Inv X pins σ H1 { s1 with heap := h' } := I1.kept (t' := s1.toks) hk
    refine ⟨s1.heap.objs.size + 1, [s1.heap.objs.size + 1, s1.heap.objs.size], _, _, H1, rfl, I2, turn_enum a (s1.heap.objs.size + 1) s1.heap.objs.size, ⟨⟨.none, hen⟩, ⟨_, hit, rfl, rfl⟩, Nat.succ_ne_self _⟩, fun b hb => ?_, q⟩
    have hle : s1.heap.objs.size ≤ b := by
      rcases List.mem_cons.mp hb with z | z
      · rw [z]; exact Nat.le_succ _
      · rw [List.mem_singleton.mp z]; exact Nat.le_refl _
    exact I1.fpOk hle (I1.hok.fresh hle)
  · obtain ⟨its, rv, pl, hz⟩ := I1.tuple hq
    refine call_enum1 (begins_tuple a its.toArray) (show s1.heap.IsTuple a its.toArray from pl) fun h' hen hit hk => wpAny_pyIter_enum hen ?_
    have I2 : Inv X pins σ H1 { s1 with heap := h' } := I1.kept (t' := s1.toks) hk
    refine ⟨s1.heap.objs.size + 1, [s1.heap.objs.size + 1, s1.heap.objs.size], _, _, H1, rfl, I2, turn_enumT a (s1.heap.objs.size + 1) s1.heap.objs.size, ⟨⟨.none, hen⟩, ⟨_, hit, rfl, rfl⟩, Nat.succ_ne_self _⟩, fun b hb => ?_, q⟩
    have hle : s1.heap.objs.size ≤ b := by
      rcases List.mem_cons.mp hb with z | z
      · rw [z]; exact Nat.le_succ _
      · rw [List.mem_singleton.mp z]; exact Nat.le_refl _
    exact I1.fpOk hle (I1.hok.fresh hle)
theorem iw2_enum (C : Cxt P w K mg base sc N vs ls k X W) (B : Blt mg) {elts : List Expr} {Q : Rho → List (PyData × PyData) → Prop} (h : EW X W e ρ (fun ρ1 d => ∃ ds, (d = .list ds ∨ d = .tuple ds) ∧ Q ρ1 (enumD ds)) E) (hg : sc.names.lookup ("enumerate" : Str) = some .globalImplicit := by decide +kernel)
    (hs : starEach [e] X.env = (false, eval e X.env) :: starEach [] X.env := by with_unfolding_all rfl) : IW2 X W (.Tuple elts kt pt) (.Call (.Name "enumerate" p) [e] [] pos) ρ Q E := by
  intro F H σ R wd sl kx kk
  refine of_pi (pi_enum2 (C.gl hg) (by rw [C.eg]; exact B.enumerate) pe_w hs) ?_
  refine h F H σ _ wd sl kx fun F1 H1 ρ1 v d st1 wd1 sl1 dd q => ?_
  obtain ⟨ds, hd, q⟩ := q
  rcases hd with rfl | rfl
  · cases dd with
    | lst hh hs => exact ⟨_, rfl, .inl ⟨⟨_, SqL.of (wd1.sub _ _ hh)⟩, kk F1 H1 ρ1 _ _ st1 wd1 sl1 (itd2_enumL hh hs) q⟩⟩
  · cases dd with
    | tup hh _ hs => exact ⟨_, rfl, .inr ⟨⟨_, wd1.sub.sqt hh⟩, kk F1 H1 ρ1 _ _ st1 wd1 sl1 (itd2_enumT hh hs) q⟩⟩
/-- a list or a tuple of pairs -/
theorem iw2_of {tg : Expr} {Q : Rho → List (PyData × PyData) → Prop} (h : IW X W tg iter ρ (fun ρ1 ds => ∃ es : List (PyData × PyData), ds = (es.map fun q => PyData.tuple [q.1, q.2]) ∧ Q ρ1 es) E) : IW2 X W tg iter ρ Q E := by
  intro F H σ R wd sl kx kk
  refine h F H σ R wd sl kx fun F' H' ρ' J ds st wd' sl' it q => ?_
  obtain ⟨es, rfl, q⟩ := q
  refine kk F' H' ρ' J es st wd' sl' ⟨fun F H i e1 e2 hl => it.go F H i e1 e2 (by rw [List.length_map]; exact hl), fun F H i y H' d e1 e2 hd hy => ?_, fun F H e1 e2 => ?_⟩ q
  · obtain ⟨F2, g, dd⟩ := it.yld F H i y H' (.tuple [d.1, d.2]) e1 e2 (by rw [List.getElem?_map, hd]; rfl) hy
    cases dd with
    | tup hq _ hs =>
      cases hs with
      | cons h1 hs =>
        cases hs with
        | cons h2 hs =>
          cases hs
          exact ⟨F2, _, _, _, g, rfl, g.sub.sqt hq, h1, h2⟩
  · have := it.stop F H e1 e2
    rw [List.length_map] at this
    exact this
theorem pg_pair (C : Cxt P w K mg base sc N vs ls k X W) [sx : Slot N x i] [sy : Slot N y j] (hl : ls[i]? = some true) (hl2 : ls[j]? = some true) : PG X (.Tuple [.Name x px, .Name y py] kt pt) (fun v σ H Q => ∃ p a b, v = .ref p ∧ SqT X.K H p [a, b] ∧ Q ((σ.set i (some a)).set j (some b)) H) := by
  have nd : X.N.Nodup := by rw [C.eN]; exact C.nd
  have pg := pg_tup (pos := pt) (k := kt) C.calm (pgs_cons (pg_name (pos := px) (i := i) nd (by rw [C.eN]; exact sx.get) (C.lo sx.get hl) (C.st sx.get hl)) (pgs_cons (pg_name (pos := py) (i := j) nd (by rw [C.eN]; exact sy.get) (C.lo sy.get hl2) (C.st sy.get hl2)) pgs_nil))
  refine ⟨fun pins s σ H v u Q I r h => pg.run pins s σ H v u Q I r ?_⟩
  obtain ⟨q, a, b, rfl, hq, h⟩ := h
  exact ⟨_, _, rfl, hq, rfl, _, _, rfl, _, _, rfl, rfl, h⟩
theorem s1_for2 (C : Cxt P w K mg base sc N vs ls k X W) [sx : Slot N x i] [sy : Slot N y j] {body : List Stmt} (hl : ls[i]? = some true) (hl2 : ls[j]? = some true)
    (h : IW2 X W (.Tuple [.Name x px, .Name y py] kt pt) iter ρ (fun ρ1 ds => ∃ I : Nat → Rho → Prop, I 0 ρ1 ∧ (∀ n d ρ2, ds[n]? = some d → I n ρ2 → SW X W body ((ρ2.set i (some (.d d.1))).set j (some (.d d.2))) (I (n + 1)) R E) ∧ ∀ ρ2, I ds.length ρ2 → Nx ρ2) E)
    (hs : ∀ x, foldedSetIterable iter X.env x = pure x := by intro _; with_unfolding_all rfl) : S1 X W (.For (.Tuple [.Name x px, .Name y py] kt pt) iter body [] pos) ρ Nx R E := by
  intro F H σ D wd sl kx kn kr
  refine of_ps (ps_for C.po C.calm pi_w (pg_pair C hl hl2) pss_w hs) ?_
  refine h F H σ _ wd sl kx fun F1 H1 ρ1 J ds st1 wd1 sl1 it q => ?_
  obtain ⟨I, i0, turn, fin⟩ := q
  refine ⟨fun n m σ2 H2 => m = ds.length - n ∧ n ≤ ds.length ∧ ∃ F2 ρ2, Stp ρ1 ρ2 F1 H1 F2 H2 ∧ Wd X.K F2 H2 ρ2 ∧ Sl X.K F2 σ2 ρ2 ∧ I n ρ2, ⟨_, rfl, Nat.zero_le _, F1, ρ1, Stp.refl, wd1, sl1, i0⟩, ?_⟩
  rintro n m σ2 H2 ⟨rfl, hn, F2, ρ2, st2, wd2, sl2, i2⟩
  have st12 := st1.trans st2
  by_cases hlt : n < ds.length
  · refine .inr ⟨it.go F2 H2 n st2.ex wd2.sub hlt, fun σ3 H3 => ∃ F3 ρ3, Stp ρ1 ρ3 F1 H1 F3 H3 ∧ Wd X.K F3 H3 ρ3 ∧ Sl X.K F3 σ3 ρ3 ∧ I (n + 1) ρ3, fun σ3 H3 hh => ⟨_, by omega, rfl, hlt, hh⟩, fun y H3 hy => ?_⟩
    have hd : ds[n]? = some ds[n] := List.getElem?_eq_getElem hlt
    obtain ⟨F3, q, a, b, g, rfl, hq, dd1, dd2⟩ := it.yld F2 H2 n y H3 _ st2.ex wd2.sub hd hy
    have wd3 := wd2.gr g
    have sl3 := sl2.mono g.ex
    have s4 : Stp ρ2 ((ρ2.set i (some (.d ds[n].1))).set j (some (.d ds[n].2))) F2 H2 F3 H3 := (g.stp.trans (Stp.set noD)).trans (Stp.set noD)
    refine ⟨q, a, b, rfl, hq, ?_⟩
    exact turn n _ ρ2 hd i2 F3 H3 _ _ ((wd3.set noD).set noD) ((sl3.set dd1).set dd2) (kx.step (st12.trans s4)) (fun F5 H5 σ5 ρ5 st5 wd5 sl5 i5 => ⟨F5, ρ5, (st2.trans s4).trans st5, wd5, sl5, i5⟩) (fun F5 H5 ρ5 v d st5 wd5 dd5 r => kr F5 H5 ρ5 v d ((st12.trans s4).trans st5) wd5 (dd5.back (st12.trans s4)) r)
  · have e : n = ds.length := by omega
    subst e
    exact .inl ⟨it.stop F2 H2 st2.ex wd2.sub, kn F2 H2 σ2 ρ2 st12 wd2 sl2 (fin ρ2 i2)⟩
end
end Bp

namespace Bp
open PySem PySem.Spec PyProof.Rows L2
/-! ### comprehensions over pairs -/
section
variable {P : Program} {w : World} {K : PySem.W.Frag} {mg : Str → Option Value} {base : Heap} {sc scope : Scope} {N : List Str} {vs ls vb lb : List Bool} {k : Nat} {X : Cx} {W : WX} {ρ : Rho} {E : XQ} {e elt iter : Expr} {ifs : List Expr} {pos p px py pt spos : Pos} {x y z : Str} {i j l kt : Nat}
abbrev gPair (K : PySem.W.Frag) (i j : Nat) : TG := fun v σ H Q => ∃ p a b, v = .ref p ∧ SqT K H p [a, b] ∧ Q ((σ.set i (some a)).set j (some b)) H
theorem wipeP {σ : L2.St} {a b : Option V} (hij : i ≠ j) : wipe (((wipe σ [i, j]).set i a).set j b) [i, j] = wipe σ [i, j] := by
  show (((((σ.set j none).set i none).set i a).set j b).set j none).set i none = (σ.set j none).set i none
  rw [List.set_set, List.set_set, List.set_comm (i := i) (j := j) a none hij, List.set_set, List.set_set]
theorem setP {σ : L2.St} {a b : Option V} (hij : i ≠ j) : ((wipe σ [i, j]).set i a).set j b = (σ.set i a).set j b := by
  show (((σ.set j none).set i none).set i a).set j b = (σ.set i a).set j b
  rw [List.set_set, List.set_comm (i := j) (j := i) none a hij.symm, List.set_set]
abbrev LcPW (P : Program) (w : World) (K : PySem.W.Frag) (mg : Str → Option Value) (base : Heap) (sc scope : Scope) (N : List Str) (vb lb : List Bool) (k : Nat) (X : Cx) (W : WX) (tg iter : Expr) (i j : Nat) (ifs : List Expr) (elt : Expr) (ρ : Rho) (Q : Rho → List PyData → Prop) (E : XQ) : Prop :=
  IW2 X W tg iter ρ (fun ρ1 ds => ds.length ≤ 16777216 ∧ NoOwn ρ1 i ∧ NoOwn ρ1 j ∧ ∃ I : Nat → List PyData → Prop, I 0 [] ∧ (∀ n d acc, ds[n]? = some d → I n acc → LcTurn P w K mg base (relS scope sc) N vb lb k ifs elt ((ρ1.set i (some (.d d.1))).set j (some (.d d.2))) (I n) (I (n + 1)) acc) ∧ ∀ acc, I ds.length acc → Q ρ1 acc) E
theorem lcP_read (C : Cxt P w K mg base sc N vs ls k X W) [sx : Slot N x i] [sy : Slot N y j] (hij : i ≠ j) {Q : Rho → List PyData → Prop} (h : LcPW P w K mg base sc scope N vb lb k X W (.Tuple [.Name x px, .Name y py] kt pt) iter i j ifs elt ρ Q E)
    (hv : chkB (visB (relS scope sc)) N vb = true) (hl : chkB (locB scope) N lb = true) {F H : Hp} {σ : L2.St} {R : VK} (wd : Wd X.K F H ρ) (sl : Sl X.K F σ ρ) (kx : Kx X.K W ρ F H E)
    (kk : ∀ F' H' ρ' p xs ds, Stp ρ ρ' F H F' H' → Wd X.K F' H' ρ' → Sl X.K F' σ ρ' → H p = none → F' p = none → ¬ Owns ρ' p → H' p = some (.lst xs) → DDs X.K F' xs ds → Q ρ' ds → R (.ref p) H') :
    tLc (WIx X (.Tuple [.Name x px, .Name y py] kt pt) iter) (gPair X.K i j) (fun σ H Q => anyB X scope (fun Xb (_ : Unit) => WTs Xb ifs σ H Q) ()) (fun σ H Q => anyB X scope (fun Xb (_ : Unit) => WEx Xb elt σ H Q) ()) [i, j] σ H R := by
  refine h F H σ _ wd sl kx fun F1 H1 ρ1 J ds st1 wd1 sl1 it q => ?_
  obtain ⟨hlen, hni, hnj, I, i0, turn, fin⟩ := q
  intro D hD
  have hF1 : F1 D = none := wd1.sub.none hD
  have hnD : ¬ Owns ρ1 D := fun ⟨j, o, q⟩ => by
    obtain ⟨_, ho, h2, _⟩ := wd1.own j D o q
    rw [hD] at h2
    cases h2
  refine ⟨fun n m H2 => m = ds.length - n ∧ n ≤ ds.length ∧ ∃ F2 acc, Grown X.K ρ1 F1 H1 D F2 H2 acc ∧ acc.length ≤ n ∧ I n acc, ⟨_, rfl, Nat.zero_le _, F1, [], ⟨[], ⟨Ex.refl _, fun a o q _ => ?_, fun _ _ f _ _ => f, fun _ q => .inl q, fun a q => ?_⟩, wd1.side hF1 hnD, hF1, upd_same, .nil⟩, Nat.le_refl _, i0⟩, ?_⟩
  · rw [upd_ne (ne_of_none q hD)]
    exact q
  · by_cases z : a = D
    · rw [z]
      exact hD
    · rw [upd_ne z] at q
      exact q
  rintro n m H2 ⟨rfl, hn, F2, acc, ⟨xs, st2, wd2, f2, h2, dd2⟩, hacc, i2⟩
  have sl2 : Sl X.K F2 σ ρ1 := sl1.mono st2.ex
  by_cases hlt : n < ds.length
  · refine .inr ⟨it.go F2 H2 n st2.ex wd2.sub hlt, fun H3 => ∃ F3 acc, Grown X.K ρ1 F1 H1 D F3 H3 acc ∧ acc.length ≤ n + 1 ∧ I (n + 1) acc, fun H3 hh => ⟨_, by omega, rfl, hlt, hh⟩, fun y H3 hy => ?_⟩
    have hd : ds[n]? = some ds[n] := List.getElem?_eq_getElem hlt
    obtain ⟨F3, q, va, vb', g, rfl, hq, dda, ddb⟩ := it.yld F2 H2 n y H3 _ st2.ex wd2.sub hd hy
    have f3 : F3 D = none := g.fr D _ f2 h2
    have h3 : H3 D = some (.lst xs) := g.exH D _ h2
    have wd3 := wd2.gr g
    have sl3 : Sl X.K F3 σ ρ1 := sl2.mono g.ex
    have so1 : SameOwn ρ1 (ρ1.set i (some (.d ds[n].1))) := SameOwn.set hni noD
    have so : SameOwn ρ1 ((ρ1.set i (some (.d ds[n].1))).set j (some (.d ds[n].2))) := so1.trans (SameOwn.set (fun a o q => hnj a o ((so1 j a o).mpr q)) noD)
    have slb : Sl X.K F3 (((wipe σ [i, j]).set i (some va)).set j (some vb')) ((ρ1.set i (some (.d ds[n].1))).set j (some (.d ds[n].2))) := by
      rw [setP hij]
      exact (sl3.set dda).set ddb
    have nD' : ¬ Owns ((ρ1.set i (some (.d ds[n].1))).set j (some (.d ds[n].2))) D := fun z => hnD ((so.owns D).mpr z)
    refine ⟨q, va, vb', rfl, hq, wipeP hij, fun s0 Hs A cl fp => ?_⟩
    have Cb := C.blk (scope := scope) (vb := vb) (lb := lb) hv hl s0 Hs A cl fp
    refine tsw_ok (turn n _ acc hd i2 _ Cb) (so.wd wd3) slb fun F4 H4 b st4 wd4 sl4 q4 => ?_
    have s4 : Stp ρ1 ρ1 F1 H1 F4 H4 := (st2.trans g.stp).trans (so.symm.stp st4)
    have f4 : F4 D = none := st4.fr D _ f3 h3 nD'
    have h4 : H4 D = some (.lst xs) := st4.keep D _ h3 nD'
    cases b with
    | true =>
      rw [if_pos rfl]
      intro s0 Hs A cl fp
      have Cb := C.blk (scope := scope) (vb := vb) (lb := lb) hv hl s0 Hs A cl fp
      refine q4.1 rfl _ Cb F4 H4 _ _ wd4 sl4 kx0 fun F5 H5 ρ5 z dz st5 wd5 sl5 dd5 q5 => ?_
      obtain ⟨rfl, q5⟩ := q5
      have s5 : Stp ρ1 ρ1 F1 H1 F5 H5 := s4.trans (so.symm.stp st5)
      have f5 : F5 D = none := st5.fr D _ f4 h4 nD'
      have h5 : H5 D = some (.lst xs) := st5.keep D _ h4 nD'
      refine ⟨xs, h5, by rw [dd2.length, sizeLine_eq]; omega, F5, acc ++ [dz], ⟨xs ++ [z], ⟨s5.ex, fun a o q n => ?_, s5.fr, s5.own, fun a q => ?_⟩, (so.symm.wd wd5).side f5 hnD, f5, upd_same, (dd2.mono (g.ex.trans (st4.ex.trans st5.ex))).append (.cons dd5 .nil)⟩, by rw [List.length_append]; show acc.length + 1 ≤ n + 1; omega, q5⟩
      · have ne : a ≠ D := ne_of_none q hD
        rw [upd_ne ne]
        exact s5.keep a o q n
      · by_cases z : a = D
        · rw [z]
          exact hD
        · rw [upd_ne z] at q
          exact s5.all a q
    | false =>
      rw [if_neg Bool.false_ne_true]
      exact ⟨F4, acc, ⟨xs, s4, so.symm.wd wd4, f4, h4, dd2.mono (g.ex.trans st4.ex)⟩, by omega, q4.2 rfl⟩
  · have e : n = ds.length := by omega
    subst e
    refine .inl ⟨it.stop F2 H2 st2.ex wd2.sub, ?_⟩
    exact kk F2 H2 ρ1 D xs acc (st1.trans st2) wd2 sl2 (st1.all D hD) f2 hnD h2 dd2 (fin acc i2)
theorem en_lcP (C : Cxt P w K mg base sc N vs ls k X W) [sx : Slot N x i] [sy : Slot N y j] {Q : Rho → List PyData → Prop} (h : LcPW P w K mg base sc scope N vb lb k X W (.Tuple [.Name x px, .Name y py] kt pt) iter i j ifs elt ρ Q E) (hij : i ≠ j := by decide) (hv : chkB (visB (relS scope sc)) N vb = true := by decide +kernel) (hl : chkB (locB scope) N lb = true := by decide +kernel)
    (hb : blkC N sc scope [(x, i), (y, j)] = true := by decide +kernel) (hli : lb[i]? = some true := by with_unfolding_all rfl) (hlj : lb[j]? = some true := by with_unfolding_all rfl) (hs : ∀ x, foldedSetIterable iter X.env x = pure x := by intro _; with_unfolding_all rfl) : EN X W (.ListComp elt [⟨.Tuple [.Name x px, .Name y py] kt pt, iter, ifs, 0⟩] scope pos) ρ Q E := by
  intro F H σ R wd sl kx kk
  have ok : BlkOk X.N X.env.scope scope [(x, i), (y, j)] := by
    rw [C.eN, C.es]
    exact blkOk_by hb
  refine of_pe (pe_lc (own := [(x, i), (y, j)]) (g := gPair X.K i j) C.calm (by rw [C.eN]; exact C.nd) pi_w ok (fun s H A cl fp => ?_) (fun s H A cl fp => ?_) (fun s H A cl fp => ?_) hs) (lcP_read C hij h hv hl wd sl kx kk)
  · have Cb := C.blk (scope := scope) (vb := vb) (lb := lb) hv hl s H A cl fp
    exact pg_pair Cb hli hlj
  · exact ⟨fun pins s' σ' H' Q' I' h' => h' s H A cl fp pins s' I'⟩
  · exact ⟨fun pins s' σ' H' Q' I' h' => h' s H A cl fp pins s' I'⟩
theorem ew_lcP (C : Cxt P w K mg base sc N vs ls k X W) [sx : Slot N x i] [sy : Slot N y j] {Q : Rho → PyData → Prop} (h : LcPW P w K mg base sc scope N vb lb k X W (.Tuple [.Name x px, .Name y py] kt pt) iter i j ifs elt ρ (fun ρ1 ds => Q ρ1 (.list ds)) E) (hij : i ≠ j := by decide) (hv : chkB (visB (relS scope sc)) N vb = true := by decide +kernel) (hl : chkB (locB scope) N lb = true := by decide +kernel)
    (hb : blkC N sc scope [(x, i), (y, j)] = true := by decide +kernel) (hli : lb[i]? = some true := by with_unfolding_all rfl) (hlj : lb[j]? = some true := by with_unfolding_all rfl) (hs : ∀ x, foldedSetIterable iter X.env x = pure x := by intro _; with_unfolding_all rfl) : EW X W (.ListComp elt [⟨.Tuple [.Name x px, .Name y py] kt pt, iter, ifs, 0⟩] scope pos) ρ Q E := ew_en (en_lcP C h hij hv hl hb hli hlj hs)
/-- over pairs, item by item -/
theorem lcP_map {α : Type} {sc' : Scope} {ds : List (PyData × PyData)} {xs : List α} {enc : α → PyData × PyData} {f : α → PyData} {Q : List PyData → Prop} (ed : ds = xs.map enc) (h : ∀ a ∈ xs, ∀ Xe, Cxt P w K mg base sc' N vb lb k Xe W0 → EW Xe W0 elt ((ρ.set i (some (.d (enc a).1))).set j (some (.d (enc a).2))) (fun ρ4 z => ρ4 = (ρ.set i (some (.d (enc a).1))).set j (some (.d (enc a).2)) ∧ z = f a) noX) (q : Q (xs.map f)) :
    ∃ I : Nat → List PyData → Prop, I 0 [] ∧ (∀ n d acc, ds[n]? = some d → I n acc → LcTurn P w K mg base sc' N vb lb k [] elt ((ρ.set i (some (.d d.1))).set j (some (.d d.2))) (I n) (I (n + 1)) acc) ∧ ∀ acc, I ds.length acc → Q acc := by
  subst ed
  refine ⟨fun n acc => acc = (xs.take n).map f, rfl, fun n d acc hd hi => ?_, fun acc ha => ?_⟩
  · rw [List.getElem?_map] at hd
    cases e : xs[n]? with
    | none =>
      rw [e] at hd
      cases hd
    | some a =>
      rw [e] at hd
      cases hd
      intro Xb Cb
      refine ⟨fun _ Xe Ce => ?_, fun z => by cases z⟩
      intro F H σ R wd sl kx kk
      refine h a (List.mem_of_getElem? e) Xe Ce F H σ R wd sl kx fun F' H' ρ' v d st wd' sl' dd z => kk F' H' ρ' v d st wd' sl' dd ⟨z.1, ?_⟩
      show acc ++ [d] = (xs.take (n + 1)).map f
      rw [hi, z.2, take_more e, List.map_append]
      rfl
  · rw [ha, List.length_map, List.take_length]
    exact q
theorem lcP_fil {α : Type} {sc' : Scope} {c : Expr} {ds : List (PyData × PyData)} {xs : List α} {enc : α → PyData × PyData} {f : α → PyData} {pr : α → Bool} {Q : List PyData → Prop} (ed : ds = xs.map enc) (ht : ∀ a ∈ xs, ∀ Xe, Cxt P w K mg base sc' N vb lb k Xe W0 → TW Xe W0 c ((ρ.set i (some (.d (enc a).1))).set j (some (.d (enc a).2))) (fun ρ4 z => ρ4 = (ρ.set i (some (.d (enc a).1))).set j (some (.d (enc a).2)) ∧ z = pr a) noX)
    (h : ∀ a ∈ xs, pr a = true → ∀ Xe, Cxt P w K mg base sc' N vb lb k Xe W0 → EW Xe W0 elt ((ρ.set i (some (.d (enc a).1))).set j (some (.d (enc a).2))) (fun ρ4 z => ρ4 = (ρ.set i (some (.d (enc a).1))).set j (some (.d (enc a).2)) ∧ z = f a) noX) (q : Q ((xs.filter pr).map f)) :
    ∃ I : Nat → List PyData → Prop, I 0 [] ∧ (∀ n d acc, ds[n]? = some d → I n acc → LcTurn P w K mg base sc' N vb lb k [c] elt ((ρ.set i (some (.d d.1))).set j (some (.d d.2))) (I n) (I (n + 1)) acc) ∧ ∀ acc, I ds.length acc → Q acc := by
  subst ed
  refine ⟨fun n acc => acc = ((xs.take n).filter pr).map f, rfl, fun n d acc hd hi => ?_, fun acc ha => ?_⟩
  · rw [List.getElem?_map] at hd
    cases e : xs[n]? with
    | none =>
      rw [e] at hd
      cases hd
    | some a =>
      rw [e] at hd
      cases hd
      have ha := List.mem_of_getElem? e
      intro Xb Cb
      intro F H σ R wd sl kx kk
      refine ht a ha Xb Cb F H σ R wd sl kx fun F' H' ρ' b st wd' sl' z => kk F' H' ρ' b st wd' sl' ⟨z.1, fun hb Xe Ce => ?_, fun hb => ?_⟩
      · have hp : pr a = true := z.2.symm.trans hb
        intro F H σ R wd sl kx kk
        refine h a ha hp Xe Ce F H σ R wd sl kx fun F' H' ρ' v d st wd' sl' dd z => kk F' H' ρ' v d st wd' sl' dd ⟨z.1, ?_⟩
        show acc ++ [d] = ((xs.take (n + 1)).filter pr).map f
        rw [hi, z.2, take_more e, List.filter_append, List.map_append]
        congr 1
        rw [List.filter_cons_of_pos hp]
        rfl
      · have hp : pr a = false := z.2.symm.trans hb
        show acc = ((xs.take (n + 1)).filter pr).map f
        rw [hi, take_more e, List.filter_append, List.filter_cons_of_neg (by rw [hp]; decide)]
        simp
  · rw [ha, List.length_map, List.take_length]
    exact q
end
end Bp

namespace Bp
open PySem PySem.Spec PyProof.Rows L2
section
variable {P : Program} {w : World} {K : PySem.W.Frag} {mg : Str → Option Value} {base : Heap} {sc scope : Scope} {N : List Str} {vs ls vb lb : List Bool} {k : Nat} {X : Cx} {W : WX} {ρ : Rho} {E : XQ} {Nx : Rho → Prop} {R : Rho → Ret → Prop} {e elt iter : Expr} {gs : List Comprehension} {pos p px py pt spos : Pos} {x y z : Str} {i j l kt : Nat}
theorem sw_cell (C : Cxt P w K mg base sc N vs ls k X W) (hy : sc.names.lookup x = some .cell) : swapsWith (.ListComp elt gs scope p) (some (.Name x px)) l X.env = pure false := by
  have ky : X.env.kindOf x = some .cell := by
    unfold Env.kindOf
    rw [C.es]
    exact hy
  unfold swapsWith
  simp only [ky]
  rw [show ((some NameKind.cell == some NameKind.local) = false) from rfl, Bool.and_false, Bool.false_and, Bool.false_and]
/-- x = [..], x captured -/
theorem s1_setC (C : Cxt P w K mg base sc N vs ls k X W) [sl : Slot N x i] (hl : ls[i]? = some true) (h : EW X W (.ListComp elt gs scope p) ρ (fun ρ1 d => Nx (ρ1.set i (some (.d d)))) E) (hy : sc.names.lookup x = some .cell := by decide +kernel) : S1 X W (.Assign [.Name x px] (.ListComp elt gs scope p) pos) ρ Nx R E := s1_set C hl h (sw_cell C hy)
/-- an owned list becomes plain data -/
theorem frz_slot {F H : Hp} {σ : L2.St} {q : Addr} {ds : List PyData} (wd : Wd K F H ρ) (sl : Sl K F σ ρ) (hs : ρ[i]? = some (some (S.own q (.lst ds)))) : ∃ F', Stp ρ (ρ.set i (some (.d (.list ds)))) F H F' H ∧ Wd K F' H (ρ.set i (some (.d (.list ds)))) ∧ Sl K F' σ (ρ.set i (some (.d (.list ds)))) := by
  obtain ⟨v, h1, h2⟩ := sl.get i _ hs
  cases (show v = .ref q from h2)
  obtain ⟨f1, ho, hh, xs, rfl, dd⟩ := wd.own i q _ hs
  have ex : Ex F (upd F q (.lst xs)) := Ex.new f1
  have hi : i < ρ.length := by
    cases Nat.lt_or_ge i ρ.length with
    | inl z => exact z
    | inr z =>
      rw [List.getElem?_eq_none z] at hs
      cases hs
  have other : ∀ {j : Nat} {a : Addr} {o : O}, (ρ.set i (some (.d (.list ds))))[j]? = some (some (S.own a o)) → a ≠ q := fun {j a o} z e => by
    subst e
    have z1 := set_own noD z
    have e := wd.dis i j a _ o hs z1
    subst e
    rw [List.getElem?_set, if_pos rfl, if_pos hi] at z
    cases z
  refine ⟨upd F q (.lst xs), ⟨ex, fun a o z _ => z, fun a o z zz n => ?_, fun a ⟨j, o, z⟩ => .inl ⟨j, o, set_own noD z⟩, fun a z => z⟩, ⟨fun a o z => ?_, fun j a o z => ?_, (wd.set noD).dis⟩, ⟨by rw [List.length_set]; exact sl.len, fun j z t => ?_⟩⟩
  · have ne : a ≠ q := fun e => by
      subst e
      exact n ⟨i, _, hs⟩
    rw [upd_ne ne]
    exact z
  · by_cases e : a = q
    · subst e
      rw [upd_same] at z
      rw [hh, z]
    · rw [upd_ne e] at z
      exact wd.sub a o z
  · obtain ⟨z1, ho, z2, z3⟩ := wd.own j a o (set_own noD z)
    exact ⟨by rw [upd_ne (other z)]; exact z1, ho, z2, z3.mono ex⟩
  · rw [List.getElem?_set] at t
    split at t
    · rename_i e
      subst e
      first
        | rw [if_pos hi] at t
        | skip
      cases (Option.some.inj (Option.some.inj t))
      exact ⟨_, h1, .lst upd_same (dd.mono ex)⟩
    · obtain ⟨u, u1, u2⟩ := sl.get j z t
      exact ⟨u, u1, u2.mono ex⟩
theorem sw_frz {sts : List Stmt} {q : Addr} {ds : List PyData} (hs : ρ[i]? = some (some (S.own q (.lst ds)))) (h : SW X W sts (ρ.set i (some (.d (.list ds)))) Nx R E) : SW X W sts ρ Nx R E := by
  intro F H σ D wd sl kx kn kr
  obtain ⟨F', s1, w1, l1⟩ := frz_slot wd sl hs
  exact h F' H σ D w1 l1 (kx.step s1) (fun F2 H2 σ2 ρ2 st2 wd2 sl2 n => kn F2 H2 σ2 ρ2 (s1.trans st2) wd2 sl2 n) (fun F2 H2 ρ2 v d st2 wd2 dd r => kr F2 H2 ρ2 v d (s1.trans st2) wd2 (dd.back s1) r)
end
end Bp

namespace Bp
open PySem PySem.Spec PyProof.Rows L2
section
variable {P : Program} {w : World} {K : PySem.W.Frag} {mg : Str → Option Value} {base : Heap} {sc scope : Scope} {N : List Str} {vs ls vb lb : List Bool} {k : Nat} {X : Cx} {W : WX} {ρ : Rho} {Q : Rho → PyData → Prop} {E : XQ} {Nx : Rho → Prop} {R : Rho → Ret → Prop} {a b c e elt iter : Expr} {ifs : List Expr} {pos p p2 p3 px py pt spos : Pos} {x y z : Str} {i j l kt : Nat}
/-- y = [..], the slot owns the list -/
theorem s1_ownLc (C : Cxt P w K mg base sc N vs ls k X W) [sx : Slot N x i] [sy : Slot N y j] (h : LcW P w K mg base sc scope N vb lb k X W (.Name x px) iter i ifs elt ρ (fun ρ1 ds => ∀ q, Nx (ρ1.set j (some (.own q (.lst ds))))) E) (hv : chkB (visB (relS scope sc)) N vb = true := by decide +kernel) (hl : chkB (locB scope) N lb = true := by decide +kernel)
    (hb : blkC N sc scope [(x, i)] = true := by decide +kernel) (hli : lb[i]? = some true := by with_unfolding_all rfl) (hs : ∀ x, foldedSetIterable iter X.env x = pure x := by intro _; with_unfolding_all rfl)
    (hk : sc.kind = .function := by with_unfolding_all rfl) (hy : sc.names.lookup y = some .local := by decide +kernel) (hln : (py.line == pos.line) = true := by with_unfolding_all rfl) (hany : (scope.names.any fun (n, k) => n == y && (k == .local || k == .cell)) = false := by decide +kernel) :
    S1 X W (.Assign [.Name y py] (.ListComp elt [⟨.Name x px, iter, ifs, 0⟩] scope pos) spos) ρ Nx R E := by
  intro F H σ D wd sl kx kn kr
  have ok : BlkOk X.N X.env.scope scope [(x, i)] := by
    rw [C.eN, C.es]
    exact blkOk_by hb
  have hyl : X.env.scope.names.lookup y = some .local := by
    rw [C.es]
    exact hy
  have hk2 : X.env.scope.kind = .function := by
    rw [C.es]
    exact hk
  refine of_ps (ps_setLc (i := j) (own := [(x, i)]) (g := gName i) C.calm (by rw [C.eN]; exact C.nd) (by rw [C.eN]; exact sy.get) hyl (sw_true hk2 hyl hln hany) pi_w ok (fun s H A cl fp => ?_) (fun s H A cl fp => ?_) (fun s H A cl fp => ?_) hs) (lc_read C h hv hl wd sl kx fun F1 H1 ρ1 p xs ds st1 wd1 sl1 hp fp np hh dd q => ?_)
  · have Cb := C.blk (scope := scope) (vb := vb) (lb := lb) hv hl s H A cl fp
    exact pg_name (by rw [Cb.eN]; exact Cb.nd) (by rw [Cb.eN]; exact sx.get) (Cb.lo sx.get hli) (Cb.st sx.get hli)
  · exact ⟨fun pins s' σ' H' Q' I' h' => h' s H A cl fp pins s' I'⟩
  · exact ⟨fun pins s' σ' H' Q' I' h' => h' s H A cl fp pins s' I'⟩
  · refine kn F1 H1 _ _ ⟨st1.ex, st1.keep, st1.fr, fun a z => ?_, st1.all⟩ (wd1.own_set (o := .lst ds) fp np hh ⟨xs, rfl, dd⟩) sl1.own_set (q p)
    rcases owns_set z with z | z
    · exact st1.own a z
    · rw [z]
      exact .inr hp
/-- x op e, x an owned list: a look at it -/
theorem tw_cmpO (C : Cxt P w K mg base sc N vs ls k X W) [sx : Slot N x i] {op : CmpOp} {q : Addr} {ds : List PyData} {Q : Rho → Bool → Prop} (hs : ρ[i]? = some (some (.own q (.lst ds)))) (hv : vs[i]? = some true) (h : EW X W b ρ (fun ρ1 y => ρ1[i]? = some (some (.own q (.lst ds))) ∧ BW X (compareOp op) (.list ds) y (fun d => ∃ k, d = .bool k ∧ Q ρ1 k)) E) (hm : behindInMarks op b = false := by with_unfolding_all rfl)
    (hd : (x == ("__debug__" : Str)) = false := by decide) (hcd : (x == ("__classdict__" : Str)) = false := by decide) : TW X W (.Compare (.Name x p) [op] [b] pos) ρ Q E := by
  intro F H σ R wd sl kx kk
  refine of_pt (pt_cmpR wop_self (pv_of C hv hd hcd) pe_w hm) ?_
  obtain ⟨v, h1, h2⟩ := sl.get i _ hs
  cases (show v = .ref q from h2)
  refine ⟨_, h1, ?_⟩
  refine h F H σ _ wd sl kx fun F1 H1 ρ1 y dy st1 wd1 sl1 dd1 q1 => ?_
  obtain ⟨hq1, bw⟩ := q1
  obtain ⟨f1, ho, hh, xs, rfl, dd⟩ := wd1.own i q _ hq1
  have ex : Ex F1 (upd F1 q (.lst xs)) := Ex.new f1
  have sub : Ex (upd F1 q (.lst xs)) H1 := fun a o z => by
    by_cases ea : a = q
    · subst ea
      rw [upd_same] at z
      rw [hh, z]
    · rw [upd_ne ea] at z
      exact wd1.sub a o z
  refine bw (upd F1 q (.lst xs)) H1 _ y _ sub (.lst upd_same (dd.mono ex)) (dd1.mono ex) fun F3 H3 v d gr dd3 q3 => ?_
  obtain ⟨kb, rfl, q3⟩ := q3
  cases dd3
  have g : Gr F1 H1 F1 H3 := ⟨Ex.refl _, gr.exH, wd1.sub.trans gr.exH, fun _ _ f _ => f⟩
  exact ⟨kb, rfl, kk F1 H3 ρ1 kb (st1.trans g.stp) (wd1.gr g) sl1 q3⟩
/-! ### a draw from an owned list -/
/-- growth, but for the objects at A -/
structure GrO (A : Addr → Prop) (F H F' H' : Hp) : Prop where
  ex : Ex F F'
  keep : ∀ a o, ¬ A a → H a = some o → H' a = some o
  sub : Ex F' H'
  fr : ∀ a o, ¬ A a → F a = none → H a = some o → F' a = none
  all : ∀ a, H' a = none → H a = none
theorem GrO.stp {A : Addr → Prop} {F H F' H' : Hp} (g : GrO A F H F' H') (hA : ∀ a, A a → Owns ρ a) : Stp ρ ρ F H F' H' :=
  ⟨g.ex, fun a o h n => g.keep a o (fun z => n (hA a z)) h, fun a o f h n => g.fr a o (fun z => n (hA a z)) f h, fun _ h => .inl h, g.all⟩
theorem GrO.wd {A : Addr → Prop} {F H F' H' : Hp} (g : GrO A F H F' H') (wd : Wd K F H ρ) (hA : ∀ (i : Nat) a o, A a → ρ[i]? = some (some (S.own a o)) → F' a = none ∧ ∃ ho, H' a = some ho ∧ OO K F' ho o) : Wd K F' H' ρ where
  sub := g.sub
  own := fun i a o q => by
    by_cases h : A a
    · exact hA i a o h q
    · obtain ⟨h1, ho, h2, h3⟩ := wd.own i a o q
      exact ⟨g.fr a ho h h1 h2, ho, g.keep a ho h h2, h3.mono g.ex⟩
  dis := wd.dis
def spPk (K : PySem.W.Frag) : Sp := fun vs H Q _ => ∃ (F : Hp) (q1 q2 : Addr) (ds : List PyData), vs = [.ref q1, .ref q2] ∧ Ex F H ∧ F q1 = none ∧ F q2 = none ∧ q1 ≠ q2 ∧ (∃ ho, H q1 = some ho ∧ OO K F ho .rs) ∧ (∃ ho, H q2 = some ho ∧ OO K F ho (.lst ds)) ∧ 1 ≤ ds.length ∧ ds.length ≤ 1000 ∧
  ∀ F' H' v d, GrO (fun a => a = q1 ∨ a = q2) F H F' H' → F' q1 = none → F' q2 = none → (∃ ho, H' q1 = some ho ∧ OO K F' ho .rs) → (∃ ho, H' q2 = some ho ∧ OO K F' ho (.lst ds)) → DD K F' v d → d ∈ ds → Q v H'
def FnPk (P : Program) (w : World) (K : PySem.W.Frag) (mg : Str → Option Value) (base : Heap) (j : Nat) (x : Str) : Prop :=
  ∃ f fd ps, FnOk P w K mg base (L2.CX P w) j f fd ps (spPk K) ∧ mg x = some (.ref f) ∧ PySem.W.keepIn K (.ref f) = true ∧ Binds K fd ps []
theorem fn_pk {st : Stmt} {p1 p2 : Str} (A : At K mg x st) (Sc : FnScope N [p1, p2] (defScope st)) (bd : Bd x st [p1, p2]) (hv : chkB (locB (defScope st)) N vs = true)
    (hbody : ∀ X W, Cxt P w K mg base (defScope st) N vs vs k X W → Frm X → ∀ q1 q2 ds, 1 ≤ ds.length → ds.length ≤ 1000 → SW X W (defBody st) (args [.own q1 .rs, .own q2 (.lst ds)] N.length) (fun _ => False) (fun ρ' r => ∃ d, ρ' = args [.own q1 .rs, .own q2 (.lst ds)] N.length ∧ r = .d d ∧ d ∈ ds) noX) : FnPk P w K mg base (k + 1) x := by
  obtain ⟨f, fd, F, hm⟩ := A
  refine ⟨f, fd, _, ?_, hm, F.kp, bd_binds F bd⟩
  refine F.ok Sc (fun vs H Q E h => ?_) (fun cdv A outer s H vs Q E hr h => ?_)
  · obtain ⟨F, q1, q2, ds, rfl, _⟩ := h
    rfl
  · obtain ⟨F0, q1, q2, ds, rfl, ex, fq1, fq2, ne, ⟨ho, hh, oo⟩, ⟨ho2, hh2, oo2⟩, l1, l2, kq⟩ := h
    have C := cxt_of (P := P) (w := w) (K := K) (mg := mg) (base := base) (outer := outer) (s := s) (H := H) (E := E) (cdv := cdv) (f := f) (qual := x) Sc hv hr
    refine ⟨_, pss_w, ?_⟩
    have n2 : 2 ≤ N.length := ps_le Sc
    have at0 : ∀ (i : Nat) (a : Addr) (o' : O), (args [.own q1 .rs, .own q2 (.lst ds)] N.length)[i]? = some (some (S.own a o')) → (i = 0 ∧ a = q1 ∧ o' = .rs) ∨ (i = 1 ∧ a = q2 ∧ o' = .lst ds) := fun i a o' z => by
      have z1 := args_get z
      match i with
      | 0 =>
        cases z1
        exact .inl ⟨rfl, rfl, rfl⟩
      | 1 =>
        cases z1
        exact .inr ⟨rfl, rfl, rfl⟩
      | i + 2 => cases z1
    have ow : ∀ a, Owns (args [.own q1 .rs, .own q2 (.lst ds)] N.length) a → a = q1 ∨ a = q2 := fun a ⟨i, o', z⟩ => by
      rcases at0 i a o' z with ⟨_, e, _⟩ | ⟨_, e, _⟩
      · exact .inl e
      · exact .inr e
    have wd : Wd K F0 H (args [.own q1 .rs, .own q2 (.lst ds)] N.length) := by
      refine ⟨ex, fun i a o' z => ?_, fun i j a o1 o2 z z' => ?_⟩
      · rcases at0 i a o' z with ⟨_, rfl, rfl⟩ | ⟨_, rfl, rfl⟩
        · exact ⟨fq1, ho, hh, oo⟩
        · exact ⟨fq2, ho2, hh2, oo2⟩
      · rcases at0 i a o1 z with ⟨e1, e2, _⟩ | ⟨e1, e2, _⟩ <;> rcases at0 j a o2 z' with ⟨e3, e4, _⟩ | ⟨e3, e4, _⟩
        · rw [e1, e3]
        · exact absurd (e2.symm.trans e4) ne
        · exact absurd (e4.symm.trans e2) ne
        · rw [e1, e3]
    have sl : Sl K F0 (L2.start N [.ref q1, .ref q2]) (args [.own q1 .rs, .own q2 (.lst ds)] N.length) := by
      refine ⟨by rw [start_len (vs := [.ref q1, .ref q2]) n2, args_len (ss := [.own q1 .rs, .own q2 (.lst ds)]) n2], fun i z t => ?_⟩
      have z2 := args_get t
      match i with
      | 0 =>
        cases z2
        exact ⟨.ref q1, start_get rfl, rfl⟩
      | 1 =>
        cases z2
        exact ⟨.ref q2, start_get rfl, rfl⟩
      | i + 2 => cases z2
    refine hbody _ _ C ⟨rfl, rfl⟩ q1 q2 ds l1 l2 F0 H _ _ wd sl (fun _ _ _ _ _ _ _ _ _ _ z => z.elim) (fun _ _ _ _ _ _ _ z => z.elim) (fun F' H' ρ' v r st wd' rt z => ?_)
    obtain ⟨d, rfl, rfl, hd⟩ := z
    have i0 : (args [.own q1 .rs, .own q2 (.lst ds)] N.length)[0]? = some (some (S.own q1 .rs)) := rfl
    have i1 : (args [.own q1 .rs, .own q2 (.lst ds)] N.length)[1]? = some (some (S.own q2 (.lst ds))) := rfl
    obtain ⟨g1, o1⟩ := wd'.own 0 q1 _ i0
    obtain ⟨g2, o2⟩ := wd'.own 1 q2 _ i1
    exact kq F' H' v d ⟨st.ex, fun a o n z => st.keep a o z fun y => n (ow a y), wd'.sub, fun a o n f z => st.fr a o f z fun y => n (ow a y), st.all⟩ g1 g2 o1 o2 rt hd
theorem ew_pick2 (C : Cxt P w K mg base sc N vs ls k X W) {jl : Nat} (G : FnPk P w K mg base jl x) [sy : Slot N y i] [sz : Slot N z j] {q1 q2 : Addr} {ds : List PyData} (hs : ρ[i]? = some (some (.own q1 .rs))) (hv : vs[i]? = some true) (hs2 : ρ[j]? = some (some (.own q2 (.lst ds)))) (hv2 : vs[j]? = some true) (l1 : 1 ≤ ds.length) (l2 : ds.length ≤ 1000) (h : ∀ d ∈ ds, Q ρ d) (hij : i ≠ j := by decide)
    (hj : jl ≤ k := by decide) (hg : sc.names.lookup x = some .globalImplicit := by decide +kernel) (hdb : (x == ("__debug__" : Str)) = false := by decide) (hd : (y == ("__debug__" : Str)) = false := by decide) (hcd : (y == ("__classdict__" : Str)) = false := by decide) (hd2 : (z == ("__debug__" : Str)) = false := by decide) (hcd2 : (z == ("__classdict__" : Str)) = false := by decide) :
    EW X W (.Call (.Name x p) [.Name y p2, .Name z p3] [] pos) ρ Q E := by
  intro F H σ R wd sl kx kk
  obtain ⟨f, fd, ps, ok, hm, kp, bd⟩ := G
  have hgl := C.gl hg
  have hr : Room jl X.A := C.room.mono hj
  have pv1 : PE X (.Name y p2) (tVar i) := pv_of C hv hd hcd
  have pv2 : PE X (.Name z p3) (tVar j) := pv_of C hv2 hd2 hcd2
  obtain ⟨rfl, rfl, rfl, rfl, rfl⟩ : X.prog = P ∧ X.w = w ∧ X.K = K ∧ X.mg = mg ∧ X.base = base := ⟨C.eP, C.ew, C.eK, C.eg, C.eb⟩
  refine of_pe (pe_callS ok hr hgl hm kp bd (fun σ => passAt C.tk σ) (pa_cons pv1 (pa_cons pv2 pa_nil)) hdb rfl rfl) ?_
  obtain ⟨v, h1, h2⟩ := sl.get i _ hs
  cases (show v = .ref q1 from h2)
  obtain ⟨v, h3, h4⟩ := sl.get j _ hs2
  cases (show v = .ref q2 from h4)
  obtain ⟨f1, o1⟩ := wd.own i q1 _ hs
  obtain ⟨f2, o2⟩ := wd.own j q2 _ hs2
  have ne : q1 ≠ q2 := fun e => by
    subst e
    exact hij (wd.dis i j q1 _ _ hs hs2)
  refine ⟨_, h1, _, h3, F, q1, q2, ds, rfl, wd.sub, f1, f2, ne, o1, o2, l1, l2, fun F' H' v d g g1 g2 r1 r2 dd hd => ?_⟩
  refine kk F' H' ρ v d (g.stp fun a ha => ?_) (g.wd wd fun l a o ha t => ?_) (sl.mono g.ex) dd (h d hd)
  · rcases ha with rfl | rfl
    · exact ⟨i, _, hs⟩
    · exact ⟨j, _, hs2⟩
  · rcases ha with rfl | rfl
    · have e := wd.dis i l a _ _ hs t
      subst e
      rw [hs] at t
      cases t
      exact ⟨g1, r1⟩
    · have e := wd.dis j l a _ _ hs2 t
      subst e
      rw [hs2] at t
      cases t
      exact ⟨g2, r2⟩
end
end Bp

namespace Bp
open PySem PySem.Spec PyProof.Rows L2
/-! ### dicts that a slot owns -/
abbrev keyD : Key → PyData
  | .inl i => .int i
  | .inr x => .str x
def valD (kvs : List (Key × PyData)) (k : Key) : Option PyData := (kvs.find? fun kv => decide (kv.1 = k)).map (·.2)
def putD (kvs : List (Key × PyData)) (k : Key) (d : PyData) : List (Key × PyData) := if (kvs.any fun kv => decide (kv.1 = k)) = true then kvs.map (fun kv => if kv.1 = k then (kv.1, d) else kv) else kvs ++ [(k, d)]
section
variable {K : PySem.W.Frag} {F F' : Hp}
theorem dd_key {v : V} {k : Key} (h : DD K F v (keyD k)) : v = kV k := by
  cases k with
  | inl i =>
    cases h
    rfl
  | inr x =>
    cases h
    rfl
theorem KVs.inv {ws : List (Key × V)} {kvs : List (Key × PyData)} (h : KVs K F ws kvs) : (ws = [] ∧ kvs = []) ∨ ∃ k v d ws' kvs', ws = (k, v) :: ws' ∧ kvs = (k, d) :: kvs' ∧ DD K F v d ∧ KVs K F ws' kvs' := by
  obtain ⟨h1, h2⟩ := h
  cases ws with
  | nil =>
    cases kvs with
    | nil => exact .inl ⟨rfl, rfl⟩
    | cons a r => cases h1
  | cons a r =>
    cases kvs with
    | nil => cases h1
    | cons b s =>
      obtain ⟨k, v⟩ := a
      obtain ⟨k', d⟩ := b
      have e : k = k' ∧ r.map (·.1) = s.map (·.1) := by simpa using h1
      obtain ⟨rfl, e2⟩ := e
      cases h2 with
      | cons x y => exact .inr ⟨k, v, d, r, s, rfl, rfl, x, e2, y⟩
theorem KVs.cons {ws : List (Key × V)} {kvs : List (Key × PyData)} {k : Key} {v : V} {d : PyData} (x : DD K F v d) (h : KVs K F ws kvs) : KVs K F ((k, v) :: ws) ((k, d) :: kvs) := ⟨by rw [List.map_cons, List.map_cons, h.1], .cons x h.2⟩
theorem KVs.append {ws us : List (Key × V)} {kvs lvs : List (Key × PyData)} (h : KVs K F ws kvs) (h' : KVs K F us lvs) : KVs K F (ws ++ us) (kvs ++ lvs) := ⟨by rw [List.map_append, List.map_append, h.1, h'.1], by rw [List.map_append, List.map_append]; exact h.2.append h'.2⟩
theorem KVs.len {ws : List (Key × V)} {kvs : List (Key × PyData)} (h : KVs K F ws kvs) : ws.length = kvs.length := by
  have := congrArg List.length h.1
  rwa [List.length_map, List.length_map] at this
theorem KVs.val : ∀ {ws : List (Key × V)} {kvs : List (Key × PyData)} (h : KVs K F ws kvs) (k : Key), (valV ws k = none ∧ valD kvs k = none) ∨ ∃ v d, valV ws k = some v ∧ valD kvs k = some d ∧ DD K F v d
  | ws, kvs, h, k => by
    rcases h.inv with ⟨rfl, rfl⟩ | ⟨k', v, d, ws', kvs', rfl, rfl, x, h'⟩
    · exact .inl ⟨rfl, rfl⟩
    · by_cases e : k' = k
      · refine .inr ⟨v, d, ?_, ?_, x⟩
        · exact valV_pos e
        · unfold valD
          rw [List.find?_cons_of_pos (by simpa using e)]
          rfl
      · have e1 : valV ((k', v) :: ws') k = valV ws' k := valV_neg e
        have e2 : valD ((k', d) :: kvs') k = valD kvs' k := by
          unfold valD
          rw [List.find?_cons_of_neg (by simpa using e)]
        rw [e1, e2]
        exact KVs.val h' k
  termination_by ws => ws.length
  decreasing_by simp_all
theorem KVs.any {ws : List (Key × V)} {kvs : List (Key × PyData)} (h : KVs K F ws kvs) (k : Key) : (ws.any fun kv => decide (kv.1 = k)) = (kvs.any fun kv => decide (kv.1 = k)) := by
  have e1 : (ws.any fun kv => decide (kv.1 = k)) = (ws.map (·.1)).any fun y => decide (y = k) := by rw [List.any_map]; rfl
  have e2 : (kvs.any fun kv => decide (kv.1 = k)) = (kvs.map (·.1)).any fun y => decide (y = k) := by rw [List.any_map]; rfl
  rw [e1, e2, h.1]
theorem KVs.repl {k : Key} {v : V} {d : PyData} (x : DD K F v d) : ∀ {ws : List (Key × V)} {kvs : List (Key × PyData)} (h : KVs K F ws kvs), KVs K F (ws.map fun kv => if kv.1 = k then (kv.1, v) else kv) (kvs.map fun kv => if kv.1 = k then (kv.1, d) else kv)
  | ws, kvs, h => by
    rcases h.inv with ⟨rfl, rfl⟩ | ⟨k', v', d', ws', kvs', rfl, rfl, x', h'⟩
    · exact h
    · rw [List.map_cons, List.map_cons]
      by_cases e : k' = k
      · rw [if_pos e, if_pos e]
        exact .cons x (KVs.repl x h')
      · rw [if_neg e, if_neg e]
        exact .cons x' (KVs.repl x h')
  termination_by ws => ws.length
  decreasing_by all_goals simp_all
theorem KVs.put {k : Key} {v : V} {d : PyData} {ws : List (Key × V)} {kvs : List (Key × PyData)} (h : KVs K F ws kvs) (x : DD K F v d) : KVs K F (putK ws k v) (putD kvs k d) := by
  unfold putK putD
  rw [h.any k]
  split
  · exact h.repl x
  · exact h.append ⟨rfl, .cons x .nil⟩
theorem KVs.mono {ws : List (Key × V)} {kvs : List (Key × PyData)} (e : Ex F F') (h : KVs K F ws kvs) : KVs K F' ws kvs := ⟨h.1, h.2.mono e⟩
end
section
variable {P : Program} {w : World} {K : PySem.W.Frag} {mg : Str → Option Value} {base : Heap} {sc scope : Scope} {N : List Str} {vs ls vb lb : List Bool} {k : Nat} {X : Cx} {W : WX} {ρ : Rho} {Q : Rho → PyData → Prop} {E : XQ} {Nx : Rho → Prop} {R : Rho → Ret → Prop} {a b c e elt iter : Expr} {pos p p2 p3 px py pt apos cpos spos : Pos} {x y z : Str} {i j l kt kt2 : Nat}
theorem Cxt.hu (C : Cxt P w K mg base sc N vs ls k X W) : X.A.units + 1 < cLine := by
  have := C.room.units
  omega
/-- behind a change of an owned dict -/
theorem own_updD {F H : Hp} {σ : L2.St} {q : Addr} {o : O} {ws ws' : List (Key × V)} {kvs' : List (Key × PyData)} (wd : Wd K F H ρ) (sl : Sl K F σ ρ) (hq : ρ[i]? = some (some (S.own q o))) (f : F q = none) (hh : H q = some (.dK ws)) (kv : KVs K F ws' kvs') :
    Stp ρ (ρ.set i (some (.own q (.dic kvs')))) F H F (upd H q (.dK ws')) ∧ Wd K F (upd H q (.dK ws')) (ρ.set i (some (.own q (.dic kvs')))) ∧ Sl K F σ (ρ.set i (some (.own q (.dic kvs')))) := by
  have hne : H q ≠ none := by rw [hh]; exact fun z => nomatch z
  have g : GrB q F H F (upd H q (.dK ws')) := GrB.put wd.sub f hne
  exact ⟨g.stp hq hne, g.wd wd hq f ⟨_, upd_same, ws', rfl, kv⟩, g.sl sl hq⟩
/-- x[b] = e, x a dict -/
theorem s1_putO (C : Cxt P w K mg base sc N vs ls k X W) [sx : Slot N x i] {q : Addr} {o : O} (hs : ρ[i]? = some (some (.own q o))) (hv : vs[i]? = some true)
    (h : EW X W e ρ (fun ρ1 d => ∃ o1, ρ1[i]? = some (some (.own q o1)) ∧ EW X W b ρ1 (fun ρ2 z => ∃ k kvs, z = keyD k ∧ ρ2[i]? = some (some (.own q (.dic kvs))) ∧ kvs.length < 16777216 ∧ Nx (ρ2.set i (some (.own q (.dic (putD kvs k d)))))) E) E)
    (hs1 : swapsWithSole [.Subscript (.Name x p) b p2] e pos.line X.env = pure false := by with_unfolding_all rfl) (hw : swappedStores [.Subscript (.Name x p) b p2] e X.env = pure none := by with_unfolding_all rfl)
    (hd : (x == ("__debug__" : Str)) = false := by decide) (hcd : (x == ("__classdict__" : Str)) = false := by decide) (ha : ∀ v, assign (.Subscript (.Name x p) b p2) X.env v = (do
      let ov ← holding [v] (eval (.Name x p) X.env)
      let iv ← holding [v, ov] (eval b X.env)
      standAt p2
      holding [v, ov, iv] (setItem ov iv v)
      release [v, ov, iv] []) := by intro _; with_unfolding_all rfl) : S1 X W (.Assign [.Subscript (.Name x p) b p2] e pos) ρ Nx R E := by
  intro F H σ D wd sl kx kn kr
  refine of_ps (ps_asg pe_w (pg_sub (pv_of C hv hd hcd) pe_w (set_dict C.hu) ha) hs1 hw) ?_
  refine h F H σ _ wd sl kx fun F1 H1 ρ1 v d st1 wd1 sl1 dd1 q1 => ?_
  obtain ⟨o1, hq1, h1⟩ := q1
  obtain ⟨u, u1, u2⟩ := sl1.get i _ hq1
  cases (show u = .ref q from u2)
  refine ⟨_, u1, ?_⟩
  refine h1 F1 H1 σ _ wd1 sl1 (kx.step st1) fun F2 H2 ρ2 y z st2 wd2 sl2 dd2 q2 => ?_
  obtain ⟨kk, kvs, rfl, hq2, hl, nx⟩ := q2
  obtain ⟨f2, ho, hh, ws, rfl, kv⟩ := wd2.own i q _ hq2
  have ey := dd_key dd2
  subst ey
  obtain ⟨s3, w3, l3⟩ := own_updD wd2 sl2 hq2 f2 hh (kv.put (k := kk) (dd1.mono st2.ex))
  exact ⟨q, _, rfl, DPut.k hh (by rw [kv.len, sizeLine_eq]; exact hl), kn F2 _ σ _ ((st1.trans st2).trans s3) w3 l3 nx⟩
/-- x.get(b, c) -/
theorem ew_getO (C : Cxt P w K mg base sc N vs ls k X W) [sx : Slot N x i] {q : Addr} {kvs0 : List (Key × PyData)} (hs : ρ[i]? = some (some (.own q (.dic kvs0)))) (hv : vs[i]? = some true)
    (h : EW X W b ρ (fun ρ1 y => EW X W c ρ1 (fun ρ2 z => ∃ k kvs, y = keyD k ∧ ρ2[i]? = some (some (.own q (.dic kvs))) ∧ Q ρ2 ((valD kvs k).getD z)) E) E)
    (hd : (x == ("__debug__" : Str)) = false := by decide) (hcd : (x == ("__classdict__" : Str)) = false := by decide) (m : M2 X (.Name x p) "get" apos b c cpos := by exact ⟨by with_unfolding_all rfl, by with_unfolding_all rfl, by with_unfolding_all rfl, by with_unfolding_all rfl⟩) :
    EW X W (.Call (.Attribute (.Name x p) "get" apos) [b, c] [] cpos) ρ Q E := by
  intro F H σ R wd sl kx kk
  refine of_pe (pe_dget2 C.hu (pv_of C hv hd hcd) pe_w pe_w m) ?_
  obtain ⟨v, h1, h2⟩ := sl.get i _ hs
  cases (show v = .ref q from h2)
  obtain ⟨f0, ho0, hh0, ws0, rfl, kv0⟩ := wd.own i q _ hs
  refine ⟨_, h1, q, rfl, .inl ⟨ws0, .inl hh0⟩, ?_⟩
  refine h F H σ _ wd sl kx fun F1 H1 ρ1 v1 d1 st1 wd1 sl1 dd1 q1 => ?_
  refine q1 F1 H1 σ _ wd1 sl1 (kx.step st1) fun F2 H2 ρ2 v2 d2 st2 wd2 sl2 dd2 q2 => ?_
  obtain ⟨ky, kvs, rfl, hq2, q2⟩ := q2
  have ey := dd_key dd1
  subst ey
  obtain ⟨f2, ho, hh, ws, rfl, kv⟩ := wd2.own i q _ hq2
  refine ⟨valV ws ky, DGet.k hh, ?_⟩
  rcases kv.val ky with ⟨e1, e2⟩ | ⟨v', d', e1, e2, dd⟩
  · rw [e2] at q2
    rw [e1]
    exact kk F2 H2 ρ2 _ _ (st1.trans st2) wd2 sl2 dd2 q2
  · rw [e2] at q2
    rw [e1]
    exact kk F2 H2 ρ2 _ _ (st1.trans st2) wd2 sl2 dd q2
/-- x[b], x a dict that has it -/
theorem ew_dgetO (C : Cxt P w K mg base sc N vs ls k X W) [sx : Slot N x i] {q : Addr} {kvs0 : List (Key × PyData)} (hs : ρ[i]? = some (some (.own q (.dic kvs0)))) (hv : vs[i]? = some true)
    (h : EW X W b ρ (fun ρ1 y => ∃ k kvs d, y = keyD k ∧ ρ1[i]? = some (some (.own q (.dic kvs))) ∧ valD kvs k = some d ∧ Q ρ1 d) E) (hn : NoSl b := by with_unfolding_all exact fun _ _ => rfl)
    (hd : (x == ("__debug__" : Str)) = false := by decide) (hcd : (x == ("__classdict__" : Str)) = false := by decide) : EW X W (.Subscript (.Name x p) b pos) ρ Q E := by
  intro F H σ R wd sl kx kk
  refine of_pe (pe_dget C.hu (pv_of C hv hd hcd) pe_w hn) ?_
  obtain ⟨v, h1, h2⟩ := sl.get i _ hs
  cases (show v = .ref q from h2)
  refine ⟨_, h1, ?_⟩
  refine h F H σ _ wd sl kx fun F1 H1 ρ1 v1 d1 st1 wd1 sl1 dd1 q1 => ?_
  obtain ⟨ky, kvs, d, rfl, hq1, hd', q1⟩ := q1
  have ey := dd_key dd1
  subst ey
  obtain ⟨f2, ho, hh, ws, rfl, kv⟩ := wd1.own i q _ hq1
  rcases kv.val ky with ⟨e1, e2⟩ | ⟨v', d', e1, e2, dd⟩
  · rw [e2] at hd'
    cases hd'
  · rw [e2] at hd'
    cases hd'
    exact ⟨q, v', rfl, by rw [← e1]; exact DGet.k hh, kk F1 H1 ρ1 _ _ st1 wd1 sl1 dd q1⟩
/-- b not in x, b in x -/
theorem tw_notInO (C : Cxt P w K mg base sc N vs ls k X W) [sx : Slot N x i] {q : Addr} {Q : Rho → Bool → Prop}
    (h : EW X W b ρ (fun ρ1 y => ∃ k kvs, y = keyD k ∧ ρ1[i]? = some (some (.own q (.dic kvs))) ∧ Q ρ1 (!(valD kvs k).isSome)) E) (hv : vs[i]? = some true) (hm : behindInMarks .NotIn (.Name x p) = false := by with_unfolding_all rfl)
    (hd : (x == ("__debug__" : Str)) = false := by decide) (hcd : (x == ("__classdict__" : Str)) = false := by decide) : TW X W (.Compare b [.NotIn] [.Name x p] pos) ρ Q E := by
  intro F H σ R wd sl kx kk
  refine of_pt (pt_cmp (pc_dnotin C.hu pe_w (pv_of C hv hd hcd)) hm) ?_
  refine h F H σ _ wd sl kx fun F1 H1 ρ1 v1 d1 st1 wd1 sl1 dd1 q1 => ?_
  obtain ⟨ky, kvs, rfl, hq1, q1⟩ := q1
  have ey := dd_key dd1
  subst ey
  obtain ⟨v, h1, h2⟩ := sl1.get i _ hq1
  cases (show v = .ref q from h2)
  obtain ⟨f2, ho, hh, ws, rfl, kv⟩ := wd1.own i q _ hq1
  refine ⟨_, h1, q, valV ws ky, rfl, DGet.k hh, _, rfl, ?_⟩
  have e : (valV ws ky).isSome = (valD kvs ky).isSome := by
    rcases kv.val ky with ⟨e1, e2⟩ | ⟨v', d', e1, e2, dd⟩
    · rw [e1, e2]; rfl
    · rw [e1, e2]; rfl
  rw [e]
  exact kk F1 H1 ρ1 _ st1 wd1 sl1 q1
theorem tw_inO (C : Cxt P w K mg base sc N vs ls k X W) [sx : Slot N x i] {q : Addr} {Q : Rho → Bool → Prop}
    (h : EW X W b ρ (fun ρ1 y => ∃ k kvs, y = keyD k ∧ ρ1[i]? = some (some (.own q (.dic kvs))) ∧ Q ρ1 (valD kvs k).isSome) E) (hv : vs[i]? = some true) (hm : behindInMarks .In (.Name x p) = false := by with_unfolding_all rfl)
    (hd : (x == ("__debug__" : Str)) = false := by decide) (hcd : (x == ("__classdict__" : Str)) = false := by decide) : TW X W (.Compare b [.In] [.Name x p] pos) ρ Q E := by
  intro F H σ R wd sl kx kk
  refine of_pt (pt_cmp (pc_din C.hu pe_w (pv_of C hv hd hcd)) hm) ?_
  refine h F H σ _ wd sl kx fun F1 H1 ρ1 v1 d1 st1 wd1 sl1 dd1 q1 => ?_
  obtain ⟨ky, kvs, rfl, hq1, q1⟩ := q1
  have ey := dd_key dd1
  subst ey
  obtain ⟨v, h1, h2⟩ := sl1.get i _ hq1
  cases (show v = .ref q from h2)
  obtain ⟨f2, ho, hh, ws, rfl, kv⟩ := wd1.own i q _ hq1
  refine ⟨_, h1, q, valV ws ky, rfl, DGet.k hh, _, rfl, ?_⟩
  have e : (valV ws ky).isSome = (valD kvs ky).isSome := by
    rcases kv.val ky with ⟨e1, e2⟩ | ⟨v', d', e1, e2, dd⟩
    · rw [e1, e2]; rfl
    · rw [e1, e2]; rfl
  rw [e]
  exact kk F1 H1 ρ1 _ st1 wd1 sl1 q1
theorem ew_notInO (C : Cxt P w K mg base sc N vs ls k X W) [sx : Slot N x i] {q : Addr}
    (h : EW X W b ρ (fun ρ1 y => ∃ k kvs, y = keyD k ∧ ρ1[i]? = some (some (.own q (.dic kvs))) ∧ Q ρ1 (.bool (!(valD kvs k).isSome))) E) (hv : vs[i]? = some true) (hm : behindInMarks .NotIn (.Name x p) = false := by with_unfolding_all rfl)
    (hd : (x == ("__debug__" : Str)) = false := by decide) (hcd : (x == ("__classdict__" : Str)) = false := by decide) : EW X W (.Compare b [.NotIn] [.Name x p] pos) ρ Q E := by
  intro F H σ R wd sl kx kk
  refine of_pe (pe_cmp (pc_dnotin C.hu pe_w (pv_of C hv hd hcd)) hm) ?_
  refine h F H σ _ wd sl kx fun F1 H1 ρ1 v1 d1 st1 wd1 sl1 dd1 q1 => ?_
  obtain ⟨ky, kvs, rfl, hq1, q1⟩ := q1
  have ey := dd_key dd1
  subst ey
  obtain ⟨v, h1, h2⟩ := sl1.get i _ hq1
  cases (show v = .ref q from h2)
  obtain ⟨f2, ho, hh, ws, rfl, kv⟩ := wd1.own i q _ hq1
  refine ⟨_, h1, q, valV ws ky, rfl, DGet.k hh, ?_⟩
  have e : (valV ws ky).isSome = (valD kvs ky).isSome := by
    rcases kv.val ky with ⟨e1, e2⟩ | ⟨v', d', e1, e2, dd⟩
    · rw [e1, e2]; rfl
    · rw [e1, e2]; rfl
  rw [e]
  exact kk F1 H1 ρ1 _ _ st1 wd1 sl1 (.bl _) q1
theorem dds_keys {F : Hp} : ∀ (ws : List (Key × V)) (kvs : List (Key × PyData)), ws.map (·.1) = kvs.map (·.1) → DDs K F (ws.map fun kv => kV kv.1) (kvs.map fun kv => keyD kv.1)
  | [], [], _ => .nil
  | [], _ :: _, h => by cases h
  | _ :: _, [], h => by cases h
  | (k, v) :: ws, (k', d) :: kvs, h => by
    have e : k = k' ∧ ws.map (·.1) = kvs.map (·.1) := by simpa using h
    obtain ⟨rfl, e⟩ := e
    refine .cons ?_ (dds_keys ws kvs e)
    cases k with
    | inl i => exact .int i
    | inr x => exact .str x
/-- list(x), x a dict: its keys -/
theorem ew_keysO (C : Cxt P w K mg base sc N vs ls k X W) (B : Blt mg) [sx : Slot N x i] {q : Addr} {kvs : List (Key × PyData)} (hs : ρ[i]? = some (some (.own q (.dic kvs)))) (hv : vs[i]? = some true) (h : Q ρ (.list (kvs.map fun kv => keyD kv.1))) (hg : sc.names.lookup ("list" : Str) = some .globalImplicit := by decide +kernel)
    (hd : (x == ("__debug__" : Str)) = false := by decide) (hcd : (x == ("__classdict__" : Str)) = false := by decide) : EW X W (.Call (.Name "list" p2) [.Name x p] [] pos) ρ Q E := by
  intro F H σ R wd sl kx kk
  refine of_pe (pe_callTy (call_list_dK C.calm) (C.gl hg) (by rw [C.eg]; exact B.list) (by decide +kernel) (pa_cons (pv_of C hv hd hcd) pa_nil)) ?_
  obtain ⟨v, h1, h2⟩ := sl.get i _ hs
  cases (show v = .ref q from h2)
  obtain ⟨f2, ho, hh, ws, rfl, kv⟩ := wd.own i q _ hs
  refine ⟨_, h1, q, ws, rfl, hh, fun l hl => ?_⟩
  have g := Gr.new (o := .lst (ws.map fun kv => kV kv.1)) wd.sub hl
  exact kk _ _ ρ _ _ g.stp (wd.gr g) (sl.mono g.ex) (.lst upd_same (dds_keys ws kvs kv.1)) h
/-- len(x), x a dict -/
theorem ew_lenDO (C : Cxt P w K mg base sc N vs ls k X W) (B : Blt mg) [sx : Slot N x i] {q : Addr} {kvs : List (Key × PyData)} (hs : ρ[i]? = some (some (.own q (.dic kvs)))) (hv : vs[i]? = some true) (h : Q ρ (.int kvs.length)) (hg : sc.names.lookup ("len" : Str) = some .globalImplicit := by decide +kernel)
    (hd : (x == ("__debug__" : Str)) = false := by decide) (hcd : (x == ("__classdict__" : Str)) = false := by decide) : EW X W (.Call (.Name "len" p2) [.Name x p] [] pos) ρ Q E := by
  intro F H σ R wd sl kx kk
  refine of_pe (pe_callB call_lenD (C.gl hg) (by rw [C.eg]; exact B.len) boot_len (pa_cons (pv_of C hv hd hcd) pa_nil)) ?_
  obtain ⟨v, h1, h2⟩ := sl.get i _ hs
  cases (show v = .ref q from h2)
  obtain ⟨f2, ho, hh, ws, rfl, kv⟩ := wd.own i q _ hs
  exact ⟨_, h1, q, ws, rfl, hh, by rw [kv.len]; exact kk F H ρ _ _ Stp.refl wd sl (.int _) h⟩
end
end Bp

namespace Bp
open PySem PySem.Spec PyProof.Rows L2
/-! ### several values at once, some of them new objects -/
def New1 (K : PySem.W.Frag) (F H : Hp) (ρ : Rho) (v : V) : S → Prop
  | .d d => DD K F v d
  | .own q o => v = .ref q ∧ F q = none ∧ ¬ Owns ρ q ∧ ∃ ho, H q = some ho ∧ OO K F ho o
  | .scr _ => False
def ownA : S → Addr → Prop
  | .own q _, a => a = q
  | _, _ => False
inductive NewS (K : PySem.W.Frag) (F H H0 : Hp) (ρ : Rho) : List V → List S → Prop
  | nil : NewS K F H H0 ρ [] []
  | cons {v : V} {vs : List V} {s : S} {ss : List S} : New1 K F H ρ v s → (∀ a, ownA s a → H0 a = none) → (∀ a, ownA s a → ∀ t ∈ ss, ¬ ownA t a) → NewS K F H H0 ρ vs ss → NewS K F H H0 ρ (v :: vs) (s :: ss)
section
variable {K : PySem.W.Frag} {F H F' H' H0 : Hp} {ρ ρ' : Rho} {σ : L2.St} {i : Nat} {v : V} {s : S} {vs : List V} {ss : List S}
theorem New1.step (h : New1 K F H ρ v s) (st : Stp ρ ρ' F H F' H') : New1 K F' H' ρ' v s := by
  cases s with
  | d d => exact DD.mono st.ex h
  | own q o =>
    obtain ⟨e, f, n, ho, hh, oo⟩ := h
    refine ⟨e, st.fr q ho f hh n, fun z => ?_, ho, st.keep q ho hh n, oo.mono st.ex⟩
    rcases st.own q z with z | z
    · exact n z
    · rw [hh] at z
      cases z
  | scr ns => exact h
theorem New1.wd (h : New1 K F H ρ v s) (wd : Wd K F H ρ) : Wd K F H (ρ.set i (some s)) := by
  cases s with
  | d d => exact wd.set noD
  | own q o =>
    obtain ⟨e, f, n, ho, hh, oo⟩ := h
    exact wd.own_set f n hh oo
  | scr ns => exact h.elim
theorem New1.sl (h : New1 K F H ρ v s) (sl : Sl K F σ ρ) : Sl K F (σ.set i (some v)) (ρ.set i (some s)) := by
  cases s with
  | d d => exact sl.set h
  | own q o =>
    obtain ⟨e, f, n, ho, hh, oo⟩ := h
    subst e
    exact sl.own_set
  | scr ns => exact h.elim
theorem owns_setS {a : Addr} (h : Owns (ρ.set i (some s)) a) : Owns ρ a ∨ ownA s a := by
  cases s with
  | d d => 
    obtain ⟨j, o, z⟩ := h
    exact .inl ⟨j, o, set_own noD z⟩
  | own q o => exact owns_set h
  | scr ns =>
    obtain ⟨j, o, z⟩ := h
    exact .inl ⟨j, o, set_own (fun _ _ z => by cases z) z⟩
theorem NewS.set {t : S} (h : NewS K F H H0 ρ vs ss) (ht : ∀ a, ownA t a → ∀ u ∈ ss, ¬ ownA u a) : NewS K F H H0 (ρ.set i (some t)) vs ss := by
  induction h with
  | nil => exact .nil
  | @cons v vs s ss n f d r ih =>
    refine .cons ?_ f d (ih fun a ha u hu => ht a ha u (List.mem_cons_of_mem _ hu))
    cases s with
    | d d => exact n
    | own q o =>
      obtain ⟨e, fq, nq, x⟩ := n
      refine ⟨e, fq, fun z => ?_, x⟩
      rcases owns_setS z with z | z
      · exact nq z
      · exact ht q z _ List.mem_cons_self rfl
    | scr ns => exact n
theorem Stp.setS {F1 H1 F2 H2 : Hp} {ρ1 ρ2 : Rho} (st : Stp ρ1 ρ2 F1 H1 F2 H2) (hf : ∀ a, ownA s a → H1 a = none) : Stp ρ1 (ρ2.set i (some s)) F1 H1 F2 H2 := ⟨st.ex, st.keep, st.fr, fun a z => by
  rcases owns_setS z with z | z
  · exact st.own a z
  · exact .inr (hf a z), st.all⟩
end
section
variable {P : Program} {w : World} {K : PySem.W.Frag} {mg : Str → Option Value} {base : Heap} {sc scope : Scope} {N : List Str} {vs ls vb lb : List Bool} {k : Nat} {X : Cx} {W : WX} {ρ : Rho} {Q : Rho → PyData → Prop} {E : XQ} {Nx : Rho → Prop} {R : Rho → Ret → Prop} {a b c d e elt iter : Expr} {es : List Expr} {pos p p2 p3 px py pz pu pt pt2 apos cpos spos : Pos} {x y z u : Str} {i j l m kt k2 : Nat}
def AO (X : Cx) (W : WX) (es : List Expr) (ρ : Rho) (Q : Rho → List S → Prop) (E : XQ) : Prop := ∀ F H σ (R : List V → Hp → Prop), Wd X.K F H ρ → Sl X.K F σ ρ → Kx X.K W ρ F H E →
  (∀ F' H' ρ' vs ss, Stp ρ ρ' F H F' H' → Wd X.K F' H' ρ' → Sl X.K F' σ ρ' → NewS X.K F' H' H ρ' vs ss → Q ρ' ss → R vs H') → WAx X es σ H R
theorem ao_nil {Q : Rho → List S → Prop} (q : Q ρ []) : AO X W [] ρ Q E := fun F H σ R wd sl kx kk => of_pa pa_nil (kk F H ρ [] [] Stp.refl wd sl .nil q)
theorem NewS.back {F H Ha Hb : Hp} {ρ : Rho} {vs : List V} {ss : List S} (h : NewS K F H Ha ρ vs ss) (hb : ∀ a, Ha a = none → Hb a = none) : NewS K F H Hb ρ vs ss := by
  induction h with
  | nil => exact .nil
  | cons n f d r ih => exact .cons n (fun a ha => hb a (f a ha)) d ih
theorem NewS.fresh {F H H0 : Hp} {ρ : Rho} {vs : List V} {ss : List S} (h : NewS K F H H0 ρ vs ss) : ∀ t ∈ ss, ∀ a, ownA t a → H0 a = none := by
  induction h with
  | nil => exact fun t ht => (nomatch ht)
  | @cons v vs s ss n f d r ih =>
    intro t ht a ha
    rcases List.mem_cons.mp ht with rfl | ht
    · exact f a ha
    · exact ih t ht a ha
theorem ao_d {Q : Rho → List S → Prop} (h : EW X W e ρ (fun ρ1 d => AO X W es ρ1 (fun ρ2 ss => Q ρ2 (.d d :: ss)) E) E) (he : starEach (e :: es) X.env = (false, eval e X.env) :: starEach es X.env := by with_unfolding_all rfl) : AO X W (e :: es) ρ Q E := by
  intro F H σ R wd sl kx kk
  refine of_pa (pa_cons pe_w pa_w he) ?_
  refine h F H σ _ wd sl kx fun F1 H1 ρ1 v d st1 wd1 sl1 dd1 h1 => ?_
  exact h1 F1 H1 σ _ wd1 sl1 (kx.step st1) fun F2 H2 ρ2 vs ss st2 wd2 sl2 dd2 h2 => kk F2 H2 ρ2 (v :: vs) (.d d :: ss) (st1.trans st2) wd2 sl2 (.cons (dd1.mono st2.ex) (fun a ha => ha.elim) (fun a ha => ha.elim) (dd2.back st1.all)) h2
theorem ao_o {Q : Rho → List S → Prop} (h : EO X W e ρ (fun ρ1 o => ∀ q, AO X W es ρ1 (fun ρ2 ss => Q ρ2 (.own q o :: ss)) E) E) (he : starEach (e :: es) X.env = (false, eval e X.env) :: starEach es X.env := by with_unfolding_all rfl) : AO X W (e :: es) ρ Q E := by
  intro F H σ R wd sl kx kk
  refine of_pa (pa_cons pe_w pa_w he) ?_
  refine h F H σ _ wd sl kx fun F1 H1 ρ1 q ho o st1 wd1 sl1 hp fp np hh oo h1 => ?_
  have n1 : New1 X.K F1 H1 ρ1 (.ref q) (.own q o) := ⟨rfl, fp, np, ho, hh, oo⟩
  exact h1 q F1 H1 σ _ wd1 sl1 (kx.step st1) fun F2 H2 ρ2 vs ss st2 wd2 sl2 dd2 h2 => kk F2 H2 ρ2 (.ref q :: vs) (.own q o :: ss) (st1.trans st2) wd2 sl2 (.cons (n1.step st2) (fun a ha => by rw [show a = q from ha]; exact hp) (fun a ha t ht z => by
    have := dd2.fresh t ht a z
    rw [show a = q from ha, hh] at this
    cases this) (dd2.back st1.all)) h2
theorem s1_parA2 (C : Cxt P w K mg base sc N vs ls k X W) [sx : Slot N x i] [sy : Slot N y j] (h : AO X W [a, b] ρ (fun ρ1 ss => ∃ s t, ss = [s, t] ∧ Nx ((ρ1.set i (some s)).set j (some t))) E)
    (hij : i ≠ j := by decide) (hx : sc.names.lookup x = some .local := by decide +kernel) (hy : sc.names.lookup y = some .local := by decide +kernel)
    (hw : swappedStores [.Tuple [.Name x px, .Name y py] kt pt] (.Tuple [a, b] k2 pt2) (envOf sc) = pure (some [x, y]) := by with_unfolding_all rfl)
    (hs : swapsWithSole [.Tuple [.Name x px, .Name y py] kt pt] (.Tuple [a, b] k2 pt2) pos.line X.env = pure false := by with_unfolding_all rfl) :
    S1 X W (.Assign [.Tuple [.Name x px, .Name y py] kt pt] (.Tuple [a, b] k2 pt2) pos) ρ Nx R E := by
  intro F H σ D wd sl kx kn kr
  refine of_ps (ps_par (i := i) (j := j) C.calm (by rw [C.eN]; exact C.nd) (by rw [C.eN]; exact sx.get) (by rw [C.eN]; exact sy.get) hij (by rw [C.es]; exact hx) (by rw [C.es]; exact hy) pa_w (by rw [swapped_eq C]; exact hw) hs) ?_
  refine h F H σ _ wd sl kx fun F1 H1 ρ1 vs ss st1 wd1 sl1 nw q => ?_
  obtain ⟨s, t, rfl, q⟩ := q
  cases nw with
  | cons n1 f1 d1 r =>
    have r' := r.set (i := i) d1
    cases r' with
    | cons n2 f2 d2 r2 =>
      cases r2
      exact ⟨_, _, rfl, kn F1 H1 _ _ ((st1.setS f1).setS f2) (n2.wd (n1.wd wd1)) (n2.sl (n1.sl sl1)) q⟩
theorem s1_parA3 (C : Cxt P w K mg base sc N vs ls k X W) [sx : Slot N x i] [sy : Slot N y j] [sz : Slot N z l] (h : AO X W [a, b, c] ρ (fun ρ1 ss => ∃ s t r, ss = [s, t, r] ∧ Nx (((ρ1.set i (some s)).set j (some t)).set l (some r))) E)
    (hij : i ≠ j := by decide) (hil : i ≠ l := by decide) (hjl : j ≠ l := by decide) (hx : sc.names.lookup x = some .local := by decide +kernel) (hy : sc.names.lookup y = some .local := by decide +kernel) (hz : sc.names.lookup z = some .local := by decide +kernel)
    (hw : swappedStores [.Tuple [.Name x px, .Name y py, .Name z pz] kt pt] (.Tuple [a, b, c] k2 pt2) (envOf sc) = pure (some [x, y, z]) := by with_unfolding_all rfl)
    (hs : swapsWithSole [.Tuple [.Name x px, .Name y py, .Name z pz] kt pt] (.Tuple [a, b, c] k2 pt2) pos.line X.env = pure false := by with_unfolding_all rfl) :
    S1 X W (.Assign [.Tuple [.Name x px, .Name y py, .Name z pz] kt pt] (.Tuple [a, b, c] k2 pt2) pos) ρ Nx R E := by
  intro F H σ D wd sl kx kn kr
  refine of_ps (ps_par3 (i := i) (j := j) (l := l) C.calm (by rw [C.eN]; exact C.nd) (by rw [C.eN]; exact sx.get) (by rw [C.eN]; exact sy.get) (by rw [C.eN]; exact sz.get) hij hil hjl (by rw [C.es]; exact hx) (by rw [C.es]; exact hy) (by rw [C.es]; exact hz) pa_w (by rw [swapped_eq C]; exact hw) hs) ?_
  refine h F H σ _ wd sl kx fun F1 H1 ρ1 vs ss st1 wd1 sl1 nw q => ?_
  obtain ⟨s, t, r, rfl, q⟩ := q
  cases nw with
  | cons n1 f1 d1 r1 =>
    have r1' := r1.set (i := i) d1
    cases r1' with
    | cons n2 f2 d2 r2 =>
      have r2' := r2.set (i := j) d2
      cases r2' with
      | cons n3 f3 d3 r3 =>
        cases r3
        exact ⟨_, _, _, rfl, kn F1 H1 _ _ (((st1.setS f1).setS f2).setS f3) (n3.wd (n2.wd (n1.wd wd1))) (n3.sl (n2.sl (n1.sl sl1))) q⟩
/-- four names or two or three (where they are captured): by a tuple -/
theorem s1_tupA2 (C : Cxt P w K mg base sc N vs ls k X W) [sx : Slot N x i] [sy : Slot N y j] (hl : ls[i]? = some true) (hl2 : ls[j]? = some true) (h : AO X W [a, b] ρ (fun ρ1 ss => ∃ s t, ss = [s, t] ∧ Nx ((ρ1.set i (some s)).set j (some t))) E)
    (hw : swappedStores [.Tuple [.Name x px, .Name y py] kt pt] (.Tuple [a, b] k2 pt2) (envOf sc) = pure none := by with_unfolding_all rfl)
    (hs : swapsWithSole [.Tuple [.Name x px, .Name y py] kt pt] (.Tuple [a, b] k2 pt2) pos.line X.env = pure false := by with_unfolding_all rfl)
    (h1 : (assignEach [.Tuple [.Name x px, .Name y py] kt pt] X.env).map (·.2) = [assign (.Tuple [.Name x px, .Name y py] kt pt) X.env] := by with_unfolding_all rfl) :
    S1 X W (.Assign [.Tuple [.Name x px, .Name y py] kt pt] (.Tuple [a, b] k2 pt2) pos) ρ Nx R E := by
  intro F H σ D wd sl kx kn kr
  refine of_ps (ps_asg (pe_tup pa_w) (pg_pair C hl hl2) hs (by rw [swapped_eq C]; exact hw) h1) ?_
  refine h F H σ _ wd sl kx fun F1 H1 ρ1 vs ss st1 wd1 sl1 nw q => ?_
  obtain ⟨s, t, rfl, q⟩ := q
  cases nw with
  | @cons w1 _ _ _ n1 f1 d1 r =>
    cases r with
    | @cons w2 _ _ _ n2 f2 d2 r2 =>
      cases r2
      refine ⟨by rw [sizeLine_eq]; show 2 ≤ 16777216; omega, fun T hT => ?_⟩
      have g : Gr F1 H1 F1 (upd H1 T (.tup [w1, w2])) := Gr.side wd1.sub hT
      have st2 := st1.trans g.stp
      have m1 := n1.step g.stp
      have m2 := n2.step g.stp
      have r' : NewS X.K F1 (upd H1 T (.tup [w1, w2])) H ρ1 [_] [_] := .cons m2 f2 d2 .nil
      have r2' := r'.set (i := i) d1
      cases r2' with
      | cons n3 f3 d3 r3 =>
        cases r3
        exact ⟨T, _, _, rfl, .inl (.inl upd_same), kn F1 _ _ _ ((st2.setS f1).setS f3) (n3.wd (m1.wd (wd1.gr g))) (n3.sl (m1.sl sl1)) q⟩
theorem pg_quad (C : Cxt P w K mg base sc N vs ls k X W) [sx : Slot N x i] [sy : Slot N y j] [sz : Slot N z l] [su : Slot N u m] (hl : ls[i]? = some true) (hl2 : ls[j]? = some true) (hl3 : ls[l]? = some true) (hl4 : ls[m]? = some true) :
    PG X (.Tuple [.Name x px, .Name y py, .Name z pz, .Name u pu] kt pt) (fun v σ H Q => ∃ p a b c d, v = .ref p ∧ SqT X.K H p [a, b, c, d] ∧ Q ((((σ.set i (some a)).set j (some b)).set l (some c)).set m (some d)) H) := by
  have nd : X.N.Nodup := by rw [C.eN]; exact C.nd
  have pg := pg_tup (pos := pt) (k := kt) C.calm (pgs_cons (pg_name (pos := px) (i := i) nd (by rw [C.eN]; exact sx.get) (C.lo sx.get hl) (C.st sx.get hl)) (pgs_cons (pg_name (pos := py) (i := j) nd (by rw [C.eN]; exact sy.get) (C.lo sy.get hl2) (C.st sy.get hl2)) (pgs_cons (pg_name (pos := pz) (i := l) nd (by rw [C.eN]; exact sz.get) (C.lo sz.get hl3) (C.st sz.get hl3)) (pgs_cons (pg_name (pos := pu) (i := m) nd (by rw [C.eN]; exact su.get) (C.lo su.get hl4) (C.st su.get hl4)) pgs_nil))))
  refine ⟨fun pins s σ H v u Q I r h => pg.run pins s σ H v u Q I r ?_⟩
  obtain ⟨q, a, b, c, d, rfl, hq, h⟩ := h
  exact ⟨_, _, rfl, hq, rfl, _, _, rfl, _, _, rfl, _, _, rfl, _, _, rfl, rfl, h⟩
theorem s1_tupA4 (C : Cxt P w K mg base sc N vs ls k X W) [sx : Slot N x i] [sy : Slot N y j] [sz : Slot N z l] [su : Slot N u m] (hl : ls[i]? = some true) (hl2 : ls[j]? = some true) (hl3 : ls[l]? = some true) (hl4 : ls[m]? = some true) (h : AO X W [a, b, c, d] ρ (fun ρ1 ss => ∃ s t r v, ss = [s, t, r, v] ∧ Nx ((((ρ1.set i (some s)).set j (some t)).set l (some r)).set m (some v))) E)
    (hw : swappedStores [.Tuple [.Name x px, .Name y py, .Name z pz, .Name u pu] kt pt] (.Tuple [a, b, c, d] k2 pt2) (envOf sc) = pure none := by with_unfolding_all rfl)
    (hs : swapsWithSole [.Tuple [.Name x px, .Name y py, .Name z pz, .Name u pu] kt pt] (.Tuple [a, b, c, d] k2 pt2) pos.line X.env = pure false := by with_unfolding_all rfl)
    (h1 : (assignEach [.Tuple [.Name x px, .Name y py, .Name z pz, .Name u pu] kt pt] X.env).map (·.2) = [assign (.Tuple [.Name x px, .Name y py, .Name z pz, .Name u pu] kt pt) X.env] := by with_unfolding_all rfl) :
    S1 X W (.Assign [.Tuple [.Name x px, .Name y py, .Name z pz, .Name u pu] kt pt] (.Tuple [a, b, c, d] k2 pt2) pos) ρ Nx R E := by
  intro F H σ D wd sl kx kn kr
  refine of_ps (ps_asg (pe_tup pa_w) (pg_quad C hl hl2 hl3 hl4) hs (by rw [swapped_eq C]; exact hw) h1) ?_
  refine h F H σ _ wd sl kx fun F1 H1 ρ1 vs ss st1 wd1 sl1 nw q => ?_
  obtain ⟨s, t, r, v, rfl, q⟩ := q
  cases nw with
  | @cons w1 _ _ _ n1 f1 d1 r1 =>
    cases r1 with
    | @cons w2 _ _ _ n2 f2 d2 r2 =>
      cases r2 with
      | @cons w3 _ _ _ n3 f3 d3 r3 =>
        cases r3 with
        | @cons w4 _ _ _ n4 f4 d4 r4 =>
          cases r4
          refine ⟨by rw [sizeLine_eq]; show 4 ≤ 16777216; omega, fun T hT => ?_⟩
          have g : Gr F1 H1 F1 (upd H1 T (.tup [w1, w2, w3, w4])) := Gr.side wd1.sub hT
          have st2 := st1.trans g.stp
          have m1 := n1.step g.stp
          have rr : NewS X.K F1 (upd H1 T (.tup [w1, w2, w3, w4])) H ρ1 [_, _, _] [_, _, _] := .cons (n2.step g.stp) f2 d2 (.cons (n3.step g.stp) f3 d3 (.cons (n4.step g.stp) f4 d4 .nil))
          have rr1 := rr.set (i := i) d1
          cases rr1 with
          | cons a1 b1 c1 rr1 =>
            have rr2 := rr1.set (i := j) c1
            cases rr2 with
            | cons a2 b2 c2 rr2 =>
              have rr3 := rr2.set (i := l) c2
              cases rr3 with
              | cons a3 b3 c3 rr3 =>
                cases rr3
                exact ⟨T, _, _, _, _, rfl, .inl (.inl upd_same), kn F1 _ _ _ ((((st2.setS f1).setS b1).setS b2).setS b3) (a3.wd (a2.wd (a1.wd (m1.wd (wd1.gr g))))) (a3.sl (a2.sl (a1.sl (m1.sl sl1)))) q⟩
end
end Bp

namespace Bp
open PySem PySem.Spec PyProof.Rows L2
theorem valD_nil {k : Key} : valD [] k = none := rfl
theorem valD_cons {kv : Key × PyData} {r : List (Key × PyData)} {k : Key} : valD (kv :: r) k = if kv.1 = k then some kv.2 else valD r k := by
  unfold valD
  by_cases e : kv.1 = k
  · rw [List.find?_cons_of_pos (by simpa using e), if_pos e]
    rfl
  · rw [List.find?_cons_of_neg (by simpa using e), if_neg e]
theorem valD_repl (k k' : Key) (d : PyData) : ∀ kvs : List (Key × PyData), valD (kvs.map fun kv => if kv.1 = k then (kv.1, d) else kv) k' = if k' = k then (valD kvs k').map (fun _ => d) else valD kvs k'
  | [] => by simp [valD_nil]
  | (a, x) :: r => by
    rw [List.map_cons, valD_cons, valD_repl k k' d r, valD_cons]
    by_cases e : a = k
    · subst e
      simp only [if_pos]
      by_cases e2 : a = k'
      · subst e2
        simp
      · rw [if_neg e2, if_neg (fun z => e2 z.symm), if_neg e2, if_neg (fun z => e2 z.symm)]
    · rw [if_neg e]
      by_cases e2 : a = k'
      · subst e2
        simp [e]
      · simp [e2]
theorem valD_snoc (k k' : Key) (d : PyData) : ∀ kvs : List (Key × PyData), valD (kvs ++ [(k, d)]) k' = ((valD kvs k').or (if k = k' then some d else none))
  | [] => by
    rw [List.nil_append, valD_cons]
    rfl
  | (a, x) :: r => by
    rw [List.cons_append, valD_cons, valD_snoc k k' d r, valD_cons]
    by_cases e : a = k'
    · simp [e]
    · simp [e]
theorem valD_any (kvs : List (Key × PyData)) (k : Key) : (kvs.any fun kv => decide (kv.1 = k)) = (valD kvs k).isSome := by
  induction kvs with
  | nil => rfl
  | cons a r ih =>
    rw [List.any_cons, valD_cons, ih]
    by_cases e : a.1 = k
    · simp [e]
    · simp [e]
theorem valD_put (kvs : List (Key × PyData)) (k k' : Key) (d : PyData) : valD (putD kvs k d) k' = if k' = k then some d else valD kvs k' := by
  unfold putD
  rw [valD_any]
  by_cases h : (valD kvs k).isSome = true
  · rw [if_pos h, valD_repl]
    by_cases e : k' = k
    · subst e
      obtain ⟨x, hx⟩ := Option.isSome_iff_exists.mp h
      simp [hx]
    · rw [if_neg e, if_neg e]
  · rw [if_neg h, valD_snoc]
    have hn : valD kvs k = none := by
      cases e : valD kvs k with
      | none => rfl
      | some x =>
        rw [e] at h
        exact absurd rfl h
    by_cases e : k' = k
    · subst e
      simp [hn]
    · rw [if_neg e, if_neg (fun z => e z.symm)]
      cases valD kvs k' <;> rfl
theorem putD_len (kvs : List (Key × PyData)) (k : Key) (d : PyData) : (putD kvs k d).length ≤ kvs.length + 1 := by
  unfold putD
  split
  · rw [List.length_map]
    omega
  · rw [List.length_append]
    exact Nat.le_refl _
section
variable {P : Program} {w : World} {K : PySem.W.Frag} {mg : Str → Option Value} {base : Heap} {sc scope : Scope} {N : List Str} {vs ls vb lb : List Bool} {k : Nat} {X : Cx} {W : WX} {ρ : Rho} {Q : Rho → PyData → Prop} {E : XQ} {Nx : Rho → Prop} {R : Rho → Ret → Prop} {a b c e elt iter : Expr} {pos p p2 p3 px py pt apos cpos spos : Pos} {x y z : Str} {i j l kt kt2 : Nat}
theorem ew_nin (C : Cxt P w K mg base sc N vs ls k X W) [sx : Slot N x i] {q : Addr} {kvs0 : List (Key × PyData)} (hs : ρ[i]? = some (some (.own q (.dic kvs0)))) (hv : vs[i]? = some true) (h : EW X W b ρ (fun ρ1 y => ∃ k kvs, y = keyD k ∧ ρ1[i]? = some (some (.own q (.dic kvs))) ∧ Q ρ1 (.bool (!(valD kvs k).isSome))) E) (hm : behindInMarks .NotIn (.Name x p) = false := by with_unfolding_all rfl)
    (hd : (x == ("__debug__" : Str)) = false := by decide) (hcd : (x == ("__classdict__" : Str)) = false := by decide) : EW X W (.Compare b [.NotIn] [.Name x p] pos) ρ Q E := ew_notInO C h hv hm hd hcd
theorem tw_nin (C : Cxt P w K mg base sc N vs ls k X W) [sx : Slot N x i] {q : Addr} {kvs0 : List (Key × PyData)} {Q : Rho → Bool → Prop} (hs : ρ[i]? = some (some (.own q (.dic kvs0)))) (hv : vs[i]? = some true) (h : EW X W b ρ (fun ρ1 y => ∃ k kvs, y = keyD k ∧ ρ1[i]? = some (some (.own q (.dic kvs))) ∧ Q ρ1 (!(valD kvs k).isSome)) E) (hm : behindInMarks .NotIn (.Name x p) = false := by with_unfolding_all rfl)
    (hd : (x == ("__debug__" : Str)) = false := by decide) (hcd : (x == ("__classdict__" : Str)) = false := by decide) : TW X W (.Compare b [.NotIn] [.Name x p] pos) ρ Q E := tw_notInO C h hv hm hd hcd
theorem tw_in (C : Cxt P w K mg base sc N vs ls k X W) [sx : Slot N x i] {q : Addr} {kvs0 : List (Key × PyData)} {Q : Rho → Bool → Prop} (hs : ρ[i]? = some (some (.own q (.dic kvs0)))) (hv : vs[i]? = some true) (h : EW X W b ρ (fun ρ1 y => ∃ k kvs, y = keyD k ∧ ρ1[i]? = some (some (.own q (.dic kvs))) ∧ Q ρ1 (valD kvs k).isSome) E) (hm : behindInMarks .In (.Name x p) = false := by with_unfolding_all rfl)
    (hd : (x == ("__debug__" : Str)) = false := by decide) (hcd : (x == ("__classdict__" : Str)) = false := by decide) : TW X W (.Compare b [.In] [.Name x p] pos) ρ Q E := tw_inO C h hv hm hd hcd
/-! ### an except suite that appends a constant -/
theorem uw_app (C : Cxt P w K mg base sc N vs ls k X W) [sx : Slot N x i] {yx : Xc} {q : Addr} {ds : List PyData} {dv : PyData} {v : V} {ee : Expr} (hs : ρ[i]? = some (some (.own q (.lst ds)))) (hv : vs[i]? = some true) (he : ∀ X' : Cx, PE X' ee (tC v)) (hd : ∀ (K : PySem.W.Frag) F, DD K F v dv) (hl : ds.length < 16777216) (n : Nx (ρ.set i (some (.own q (.lst (ds ++ [dv]))))))
    (hdb : (x == ("__debug__" : Str)) = false := by decide) (hcd : (x == ("__classdict__" : Str)) = false := by decide)
    (hbm : ∀ X' : Cx, PE X' (.Name x p) (tVar i) → PA X' [ee] (tCons (tC v) tNil) → PE X' (.Call (.Attribute (.Name x p) "append" p2) [ee] [] pos) (tBM X'.K "list" rAppend (tVar i) (tCons (tC v) tNil)) := by intro X' h1 h2; exact pe_bm PySem.F.plainAttrs_list PySem.F.slot_list_append PySem.F.type_list_append mt_append h1 h2 (by with_unfolding_all rfl) (by with_unfolding_all rfl) (by with_unfolding_all rfl))
    (hsw : ∀ env, swapsWith (.Call (.Attribute (.Name x p) "append" p2) [ee] [] pos) none spos.line env = pure false := by intro _; with_unfolding_all rfl)
    (hst : ∀ env, starEach [ee] env = (false, eval ee env) :: starEach [] env := by intro _; with_unfolding_all rfl) : UW X [.Expr (.Call (.Attribute (.Name x p) "append" p2) [ee] [] pos) spos] ρ yx Nx := by
  intro a oe pn xd hz hf F H σ D wd sl xa ha kn
  have pv : PE (X.suite a ((a, oe) :: pn)) (.Name x p) (tVar i) := pe_var (i := i) (show X.N[i]? = some x by rw [C.eN]; exact sx.get) (show Vis X.env.scope x by rw [C.es]; exact C.vis i x sx.get hv) hdb hcd
  refine of_pss (pss_one (ps_expr (hbm _ pv (pa_cons (he _) pa_nil (hst _))) (hsw _))) ?_
  obtain ⟨u, h1, h2⟩ := sl.get i _ hs
  cases (show u = .ref q from h2)
  obtain ⟨f1, ho, hh, xs, rfl, dd⟩ := wd.own i q _ hs
  obtain ⟨s2, w2, l2⟩ := own_upd wd sl hs f1 hh (dd.append (.cons (hd X.K F) .nil))
  refine ⟨_, h1, .inl ⟨rfl, xs, SqL.of hh⟩, q, xs, v, rfl, rfl, hh, by rw [dd.length, sizeLine_eq]; exact hl, ?_⟩
  exact kn F _ σ _ s2 w2 l2 n
theorem uw_appS (C : Cxt P w K mg base sc N vs ls k X W) [sx : Slot N x i] {yx : Xc} {q : Addr} {ds : List PyData} {st : Str} {jc : Nat} {pc : Pos} (hs : ρ[i]? = some (some (.own q (.lst ds)))) (hv : vs[i]? = some true) (hl : ds.length < 16777216) (n : Nx (ρ.set i (some (.own q (.lst (ds ++ [.str st]))))))
    (hdb : (x == ("__debug__" : Str)) = false := by decide) (hcd : (x == ("__classdict__" : Str)) = false := by decide) (hln : (p2.endLine == pos.line) = true := by with_unfolding_all rfl) : UW X [.Expr (.Call (.Attribute (.Name x p) "append" p2) [.Constant (.str st) jc pc] [] pos) spos] ρ yx Nx :=
  uw_app C hs hv (fun _ => pe_str) (fun _ _ => .str st) hl n hdb hcd (fun X' h1 h2 => pe_bm PySem.F.plainAttrs_list PySem.F.slot_list_append PySem.F.type_list_append mt_append h1 h2 (by with_unfolding_all rfl) (by with_unfolding_all rfl) hln)
end
end Bp

namespace Bp
open PySem PySem.Spec PyProof.Rows L2
/-! ### a range of great numbers -/
theorem slot_lr_next : PySem.Slot "longrange_iterator" "__next__" "longrange_iterator.__next__" := .of (owner := "longrange_iterator") (n := "__next__") (by rw [typeLookup_type, builtinLookup_eq_fast]; kernel_rfl) (by decide +kernel) (by decide +kernel) (by decide +kernel) (by first | exact .inl (by decide +kernel) | exact .inr (by decide +kernel)) (by rw [isSubtype_type]; kernel_rfl)
theorem slot_lr_iter : PySem.Slot "longrange_iterator" "__iter__" "longrange_iterator.__iter__" := .of (owner := "longrange_iterator") (n := "__iter__") (by rw [typeLookup_type, builtinLookup_eq_fast]; kernel_rfl) (by decide +kernel) (by decide +kernel) (by decide +kernel) (by first | exact .inl (by decide +kernel) | exact .inr (by decide +kernel)) (by rw [isSubtype_type]; kernel_rfl)
theorem entry_lr_next : entryFor table "longrange_iterator.__next__" = some Builtin.«longrange_iterator.__next__» := entryFor_of_tree (by kernel_rfl)
theorem entry_lr_iter : entryFor table "longrange_iterator.__iter__" = some Builtin.«dict_keyiterator.__iter__» :=
  entryFor_alias (id' := "dict_keyiterator.__iter__") (by kernel_rfl) (by first | rfl | decide +kernel | (unfold String.splitOn; simp +decide [String.splitOnAux])) (by decide +kernel) (by kernel_rfl)
theorem owner_lr : Manifest.owners.lookup (String.ofList ['r', 'o', 't', 'a', 'r', 'e', 't', 'i', '_', 'e', 'g', 'n', 'a', 'r', 'g', 'n', 'o', 'l'].reverse) = some Manifest.sig_longrange_iterator := by kernel_rfl
theorem args_lr_next (a : Value) : argsOk "longrange_iterator.__next__" ⟨[a], []⟩ := by
  unfold argsOk; rw [signature?_of (id := "longrange_iterator.__next__") (n := ['_', '_', 't', 'x', 'e', 'n', '_', '_']) (o := ['r', 'o', 't', 'a', 'r', 'e', 't', 'i', '_', 'e', 'g', 'n', 'a', 'r', 'g', 'n', 'o', 'l']) (by kernel_rfl) owner_lr]; kernel_rfl
theorem args_lr_iter (a : Value) : argsOk "longrange_iterator.__iter__" ⟨[a], []⟩ := by
  unfold argsOk; rw [signature?_of (id := "longrange_iterator.__iter__") (n := ['_', '_', 'r', 'e', 't', 'i', '_', '_']) (o := ['r', 'o', 't', 'a', 'r', 'e', 't', 'i', '_', 'e', 'g', 'n', 'a', 'r', 'g', 'n', 'o', 'l']) (by kernel_rfl) owner_lr]; kernel_rfl
def IsLr (h : Heap) (it : Addr) (x left step : Int) : Prop := h.get? it = some { cls := .type "longrange_iterator", dict := none, data := .fields #[rawInt x, rawInt left, rawInt step], slots := #[] }
theorem meets_lr (it : Addr) (x left step : Int) (hl : ¬ left ≤ 0) : Meets (Builtin.«longrange_iterator.__next__» ⟨[.ref it], []⟩) (fun _ R s => IsLr s.heap it x left step ∧ R (.ok (.ret (Value.int x s.toks))) { s with heap := (s.heap.update it (Obj.mapFields fun y => y.setIfInBounds 0 (rawInt (x + step)))).update it (Obj.mapFields fun y => y.setIfInBounds 1 (rawInt (left - 1))), toks := s.toks + 1 }) :=
  .of_wp fun prog w A R s h => by
    obtain ⟨hp, g, d, tk, os⟩ := s
    obtain ⟨hi, h⟩ := h
    unfold IsLr at hi
    wp_walk
    exact ⟨_, rfl, h⟩
section
variable {prog : Program} {w : World} {A : Around} {E : Value → Shared → Prop} {s : Shared}
theorem iter_lr {r : Addr} {a b c : Int} {t u v : Tok} {Q : Value → Shared → Prop} (hr : IsRange s.heap r a b c t u v) (hb : Builtin.Range.small a b c = false)
    (hQ : Q (.ref s.heap.objs.size) { s with heap := s.heap.push { cls := .type "longrange_iterator", data := .fields #[rawInt a, rawInt (Builtin.Range.rangeSize a b c), rawInt c] } }) : wpAny (model prog w) A (pyIter (.ref r)) Q E s := by
  have hT : s.TypeIs (.ref r) "range" := ⟨_, hr, rfl⟩
  refine wpAny_pyIter_slot hT F.slot_range_iter (call_meets F.slot_range_iter hT F.entry_range_iter (F.args_range_iter_1 _) (AutoRange.range___iter___range_0 r a b c t u v (by unfold Builtin.Range.small at hb; simp only [hb]; rfl)) ⟨hr, ?_⟩)
  unfold Builtin.Range.small at hb
  simp only [hb]
  exact ⟨"longrange_iterator", _, ⟨_, Heap.get?_push_size _ rfl, rfl⟩, slot_lr_next.lookup, hQ⟩
theorem next_lr {it : Addr} {x left step : Int} {Q : Option Value → Shared → Prop} (hit : IsLr s.heap it x left step) (hl : 0 < left)
    (hQ : ∀ h', IsLr h' it (x + step) (left - 1) step → Heap.SameBut it s.heap h' → Q (some (.int x s.toks)) { s with heap := h', toks := s.toks + 1 }) : wpAny (model prog w) A (pyNext (.ref it)) Q E s := by
  have hT : s.TypeIs (.ref it) "longrange_iterator" := ⟨_, hit, rfl⟩
  unfold pyNext
  refine wpAny_bind (wpAny_attempt (wpAny_callSpecial?_slot (name := Str.ofString "__next__") hT slot_lr_next (call_meets slot_lr_next hT entry_lr_next (args_lr_next _) (meets_lr it x left step (by omega)) ⟨hit, ?_⟩)))
  exact wpAny_pure (hQ _ (Heap.get?_update_self _ (Heap.get?_update_self _ hit rfl) rfl) ((Heap.SameBut.update ..).trans (Heap.SameBut.update ..)))
theorem end_lr {it : Addr} {x left step : Int} {Q : Option Value → Shared → Prop} (hh : A.handled = none) (hit : IsLr s.heap it x left step) (hl : left ≤ 0)
    (hQ : ∀ h', Heap.ExtBut it s.heap h' → Q none { s with heap := h' }) : wpAny (model prog w) A (pyNext (.ref it)) Q E s := by
  have hT : s.TypeIs (.ref it) "longrange_iterator" := ⟨_, hit, rfl⟩
  unfold pyNext
  refine wpAny_bind (wpAny_attempt (wpAny_callSpecial?_slot (name := Str.ofString "__next__") hT slot_lr_next (wpAny_call_entry slot_lr_next hT entry_lr_next ?_ (args_lr_next _))))
  have hf : ∀ (i : Nat) (z : Int) (id : String), #[rawInt x, rawInt left, rawInt step][i]? = some (rawInt z) → ∀ {Q : Int → Shared → Prop} {E : Value → Shared → Prop}, Q z s → wpAny (model prog w) A.in1 (Builtin.Iterators_pickling.intField id (.ref it) i) Q E s := fun i z id hz {Q E} q => by
    unfold Builtin.Iterators_pickling.intField
    refine wpAny_bind (wpAny_field hit rfl hz ?_)
    exact wpAny_pure q
  show wpAny _ _ (Builtin.Iterators_pickling.intField "longrange_iterator.__next__" (.ref it) 0 >>= _) _ _ s
  refine wpAny_bind (hf 0 x _ rfl ?_)
  show wpAny _ _ (Builtin.Iterators_pickling.intField "longrange_iterator.__next__" (.ref it) 1 >>= _) _ _ s
  refine wpAny_bind (hf 1 left _ rfl ?_)
  show wpAny _ _ (Builtin.Iterators_pickling.intField "longrange_iterator.__next__" (.ref it) 2 >>= _) _ _ s
  refine wpAny_bind (hf 2 step _ rfl ?_)
  show wpAny _ _ (if left ≤ 0 then _ else _) _ _ s
  rw [if_pos hl]
  refine wpAny_bind (wpAny_rule (wpAny_bind ?_))
  show wpAny _ _ (newExc (.type "StopIteration") [] >>= _) _ _ _
  refine wpAny_bind ?_
  simp only [newExc, newTuple]
  refine wpAny_bind (wpAny_newObj_type ?_ (by size_fits))
  refine wpAny_bind (m := firstArgMember _ _) (wpAny_of_eq (a := Value.none) (by first | rfl | (simp only [firstArgMember]; rfl)) (wpAny_newObj_type ?_ (by size_fits)))
  refine wpAny_pure ?_
  refine wpAny_bind ?_
  simp only [raiseNew]
  refine wpAny_bind (wpAny_handled ?_)
  first | rw [show A.in1.handled = none from hh] | rw [hh]
  refine wpAny_bind (wpAny_pure (wpAny_throw ?_))
  refine wpAny_bind (wpAny_isInstance (T := "StopIteration") (b := true) ⟨_, Heap.get?_push_size _ rfl, rfl⟩ isSubtype_stop ?_)
  exact wpAny_pure (hQ _ (((Heap.ExtBut.refl it s.heap).push _).push _))
theorem self_lr {it : Addr} {x left step : Int} {Q : Value → Shared → Prop} (hit : IsLr s.heap it x left step) (h : Q (.ref it) s) : wpAny (model prog w) A (pyIter (.ref it)) Q E s := by
  have hT : s.TypeIs (.ref it) "longrange_iterator" := ⟨_, hit, rfl⟩
  refine wpAny_pyIter_slot hT slot_lr_iter (wpAny_call_entry slot_lr_iter hT entry_lr_iter ?_ (args_lr_iter _))
  show wpAny _ _ (ret (.ref it)) _ _ s
  exact wpAny_pure ⟨_, rfl, "longrange_iterator", _, hT, slot_lr_next.lookup, h⟩
end
theorem turn_lr {P : Program} {w : World} {K : PySem.W.Frag} {tg : Expr} (it : Addr) (lo : Int) (n : Nat) : Turn P w K tg (Itr lo n) [it] it (fun i h => IsLr h it (lo + (i : Nat)) ((n : Int) - (i : Nat)) 1) where
  mem := by simp
  obj := fun i h st b hb => by
    have e : b = it := List.mem_singleton.mp hb
    subst e
    exact ⟨_, st, fun v z => Data.noConfusion (show Data.fields _ = Data.cell v from z)⟩
  keep := fun i h h' st k => k it (List.mem_singleton.mpr rfl) _ st
  item := by
    intro X hP hw hK hc i pins s σ H E I hf st hg
    subst hP hw hK
    obtain ⟨f0, f1, f2, f3, f4, f5⟩ := hf it (List.mem_singleton.mpr rfl)
    have hg : i < n := hg
    refine next_lr st (by omega) fun h' st' hs => ?_
    have I1 : Inv X pins σ H { s with heap := h', toks := s.toks + 1 } := I.turned (fun b o hb e => hs.extBut b o hb e) f0 f1 f3 f4 f5
    refine ⟨_, rfl, go_of (s := { s with heap := h', toks := s.toks + 1 }) (n := "longrange_iterator") st' rfl rfl (by decide) ⟨.int (lo + i), H, I1, ⟨_, rfl⟩, ⟨rfl, rfl⟩, ?_, fun b hb => (hf b hb).1⟩⟩
    have e1 : lo + ((i + 1 : Nat) : Int) = lo + (i : Int) + 1 := by omega
    have e2 : (n : Int) - ((i + 1 : Nat) : Int) = (n : Int) - (i : Int) - 1 := by omega
    show IsLr h' it (lo + ((i + 1 : Nat) : Int)) ((n : Int) - ((i + 1 : Nat) : Int)) 1
    rw [e1, e2]
    exact st'
  done := by
    intro X hP hw hK hc i pins s σ H E I hf st hg
    subst hP hw hK
    obtain ⟨f0, f1, f2, f3, f4, f5⟩ := hf it (List.mem_singleton.mpr rfl)
    exact end_lr (I.ok.hd hc) st (by have : n ≤ i := hg; omega) fun h' eb => ⟨rfl, I.turned (t' := s.toks) (fun b o hb e => eb b o hb e) f0 f1 f3 f4 f5⟩
  self := fun _ _ _ _ _ st h => self_lr st h
section
variable {X : Cx} {tg : Expr}
theorem lr_it {pins : List (Addr × Obj)} {σ : L2.St} {H : Hp} {s : Shared} {R : It → Hp → Prop} {E : Value → Shared → Prop} {lo hi : Int} {t u v : Tok} {tk : Nat} (I : Inv X pins σ H s) (hb : Builtin.Range.small lo hi 1 = false) (q : R (Itr lo (hi - lo).toNat) H) :
    wpAny (model X.prog X.w) X.A (pyIter (.ref s.heap.objs.size)) (PIE X pins σ tg R) E { s with heap := s.heap.push { cls := .type "range", data := .fields #[.int lo t, .int hi u, .int 1 v] }, toks := tk } := by
  refine iter_lr (IsRange.new ..) hb ?_
  have I1 : Inv X pins σ H { s with heap := s.heap.push { cls := .type "range", data := .fields #[.int lo t, .int hi u, .int 1 v] }, toks := tk } := I.kept fun b o e => Heap.get?_push_of_some _ e
  generalize hh : s.heap.push { cls := .type "range", data := .fields #[.int lo t, .int hi u, .int 1 v] } = hp at I1 ⊢
  refine ⟨hp.objs.size, [hp.objs.size], _, _, H, rfl, I1.kept (t' := tk) fun b o e => Heap.get?_push_of_some _ e, turn_lr _ lo (hi - lo).toNat, ?_, fun b hb => ?_, q⟩
  · have e1 : lo + ((0 : Nat) : Int) = lo := by simp
    have e2 : (((hi - lo).toNat : Nat) : Int) - ((0 : Nat) : Int) = Builtin.Range.rangeSize lo hi 1 := by rw [rangeSize_one]; split <;> omega
    show IsLr _ _ (lo + ((0 : Nat) : Int)) ((((hi - lo).toNat : Nat) : Int) - ((0 : Nat) : Int)) 1
    rw [e1, e2]
    exact Heap.get?_push_size _ rfl
  · have e := List.mem_singleton.mp hb
    subst e
    exact I1.fpOk (Nat.le_refl _) (I1.hok.fresh (Nat.le_refl _))
theorem any_it {pins : List (Addr × Obj)} {σ : L2.St} {H : Hp} {s : Shared} {R : It → Hp → Prop} {E : Value → Shared → Prop} {lo hi : Int} {t u v : Tok} {tk : Nat} (I : Inv X pins σ H s) (q : R (Itr lo (hi - lo).toNat) H) :
    wpAny (model X.prog X.w) X.A (pyIter (.ref s.heap.objs.size)) (PIE X pins σ tg R) E { s with heap := s.heap.push { cls := .type "range", data := .fields #[.int lo t, .int hi u, .int 1 v] }, toks := tk } := by
  cases hb : Builtin.Range.small lo hi 1 with
  | false => exact lr_it I hb q
  | true =>
    refine wpAny_pyIter_range (IsRange.new ..) hb ?_
    have I1 : Inv X pins σ H { s with heap := s.heap.push { cls := .type "range", data := .fields #[.int lo t, .int hi u, .int 1 v] }, toks := tk } := I.kept fun b o e => Heap.get?_push_of_some _ e
    generalize hh : s.heap.push { cls := .type "range", data := .fields #[.int lo t, .int hi u, .int 1 v] } = hp at I1 ⊢
    refine ⟨hp.objs.size, [hp.objs.size], _, _, H, rfl, I1.kept (t' := tk) fun b o e => Heap.get?_push_of_some _ e, turn_range _ lo (hi - lo).toNat, ?_, fun b hb => ?_, q⟩
    · have e1 : lo + ((0 : Nat) : Int) * 1 = lo := by simp
      have e2 : (((hi - lo).toNat : Nat) : Int) - ((0 : Nat) : Int) = Builtin.Range.rangeSize lo hi 1 := by rw [rangeSize_one]; split <;> omega
      show IsRangeIter _ _ (lo + ((0 : Nat) : Int) * 1) ((((hi - lo).toNat : Nat) : Int) - ((0 : Nat) : Int)) 1
      rw [e1, e2]
      exact Heap.get?_push_size _ rfl
    · have e := List.mem_singleton.mp hb
      subst e
      exact I1.fpOk (Nat.le_refl _) (I1.hok.fresh (Nat.le_refl _))
def iRngB (ta : TA) : TI := fun σ H R => ta σ H fun vs H1 => ∃ i j : Int, vs = [.int i, .int j] ∧ R (Itr i (j - i).toNat) H1
theorem pi_rangeB {a b : Expr} {ta : TA} {p pos : Pos} (hg : Gl X "range") (hm : X.mg "range" = none) (ha : PA X [a, b] ta) (hs : starEach [a, b] X.env = [(false, eval a X.env), (false, eval b X.env)]) (hs2 : starEach [b] X.env = [(false, eval b X.env)]) : PI X tg (.Call (.Name "range" p) [a, b] [] pos) (iRngB ta) := by
  refine ⟨fun pins s σ H R I h => ?_⟩
  refine Call_ (ld_blt I hg hm boot_range (PyProof.Rows.callWith_type1 (thn (ha.run pos pins s σ H _ I h) fun us s1 ⟨vs, H1, I1, r1, q1⟩ => ?_) (by rw [hs, hs2]) (by rw [hs2]; rfl)))
  obtain ⟨i, j, e, q⟩ := q1
  subst e
  cases r1 with
  | cons r r1 =>
    cases r1 with
    | cons r2 r1 =>
      cases r1
      obtain ⟨t, rfl⟩ := r
      obtain ⟨t2, rfl⟩ := r2
      exact call_range_2 (any_it I1 q)
end
section
variable {P : Program} {w : World} {K : PySem.W.Frag} {mg : Str → Option Value} {base : Heap} {sc scope : Scope} {N : List Str} {vs ls vb lb : List Bool} {k : Nat} {X : Cx} {W : WX} {ρ : Rho} {E : XQ} {a b : Expr} {pos p : Pos}
/-- range(a, b), of any size -/
theorem iw_rangeB (C : Cxt P w K mg base sc N vs ls k X W) {tg : Expr} {Q : Rho → List PyData → Prop} (hm : mg "range" = none) (h : EW X W a ρ (fun ρ1 d => ∃ i : Int, d = .int i ∧ EW X W b ρ1 (fun ρ2 d' => ∃ j : Int, d' = .int j ∧ Q ρ2 (rangeD i (j - i).toNat)) E) E)
    (hg : sc.names.lookup ("range" : Str) = some .globalImplicit := by decide +kernel)
    (hs : starEach [a, b] X.env = [(false, eval a X.env), (false, eval b X.env)] := by with_unfolding_all rfl) (hs2 : starEach [b] X.env = [(false, eval b X.env)] := by with_unfolding_all rfl) : IW X W tg (.Call (.Name "range" p) [a, b] [] pos) ρ Q E := by
  intro F H σ R wd sl kx kk
  refine of_pi (pi_rangeB (C.gl hg) (by rw [C.eg]; exact hm) (pa_cons pe_w (pa_cons pe_w pa_nil hs2) (by rw [hs, hs2])) hs hs2) ?_
  refine h F H σ _ wd sl kx fun F1 H1 ρ1 v d st1 wd1 sl1 dd q => ?_
  obtain ⟨i, rfl, q⟩ := q
  cases dd
  refine q F1 H1 σ _ wd1 sl1 (kx.step st1) fun F2 H2 ρ2 v d st2 wd2 sl2 dd q => ?_
  obtain ⟨j, rfl, q⟩ := q
  cases dd
  exact ⟨i, j, rfl, kk F2 H2 ρ2 _ _ (st1.trans st2) wd2 sl2 itd_range q⟩
end
end Bp

namespace Bp
open PySem PySem.Spec PyProof.Rows L2
section
variable {P : Program} {w : World} {K : PySem.W.Frag} {mg : Str → Option Value} {base : Heap} {X : Cx} {W : WX} {ρ : Rho} {E : XQ} {e : Expr} {es : List Expr} {pos p : Pos}
/-- *e, e a list -/
theorem aw_star {Q : Rho → List PyData → Prop} (h : EW X W e ρ (fun ρ1 d => ∃ xs, d = .list xs ∧ AW X W es ρ1 (fun ρ2 ds => Q ρ2 (xs ++ ds)) E) E) (he : starEach (.Starred e p :: es) X.env = (true, eval e X.env) :: starEach es X.env := by with_unfolding_all rfl) : AW X W (.Starred e p :: es) ρ Q E := by
  intro F H σ R wd sl kx kk
  refine of_pa (StX.pa_star pe_w pa_w he) ?_
  refine h F H σ _ wd sl kx fun F1 H1 ρ1 v d st1 wd1 sl1 dd1 h1 => ?_
  obtain ⟨xs, rfl, h1⟩ := h1
  cases dd1 with
  | @lst a vs ds hh dd =>
    refine ⟨_, _, rfl, .inr (SqL.of (wd1.sub _ _ hh)), ?_⟩
    exact h1 F1 H1 σ _ wd1 sl1 (kx.step st1) fun F2 H2 ρ2 us ds st2 wd2 sl2 dd2 h2 => kk F2 H2 ρ2 _ _ (st1.trans st2) wd2 sl2 ((dd.mono st2.ex).append dd2) h2
end
end Bp

namespace Bp
open PySem PySem.Spec PyProof.Rows L2
section
variable {P : Program} {w : World} {K : PySem.W.Frag} {mg : Str → Option Value} {base : Heap} {sc scope : Scope} {N : List Str} {vs ls vb lb : List Bool} {k : Nat} {X : Cx} {W : WX} {ρ : Rho} {E : XQ} {Nx : Rho → Prop} {R : Rho → Ret → Prop} {Q : Rho → PyData → Prop} {a b e l h : Expr} {pos p p2 p3 px : Pos} {x : Str} {i : Nat}
/-- [..] * n, a new list -/
theorem en_mul {Q : Rho → List PyData → Prop} (h : EW X W a ρ (fun ρ1 x => ∃ xs, x = .list xs ∧ EW X W b ρ1 (fun ρ2 y => ∃ n : Int, y = .int n ∧ -(2 ^ 63) ≤ n ∧ n < 2 ^ 63 ∧ xs.length * n.toNat ≤ 16777216 ∧ Q ρ2 (List.replicate n.toNat xs).flatten) E) E) : EN X W (.BinOp a .Mult b pos) ρ Q E := by
  intro F H σ R wd sl kx kk
  refine of_pe (pe_op op_rep pe_w pe_w) ?_
  refine h F H σ _ wd sl kx fun F1 H1 ρ1 x dx st1 wd1 sl1 dd1 h1 => ?_
  obtain ⟨xs, rfl, h1⟩ := h1
  refine h1 F1 H1 σ _ wd1 sl1 (kx.step st1) fun F2 H2 ρ2 y dy st2 wd2 sl2 dd2 h2 => ?_
  obtain ⟨n, rfl, n0, n1, hl, q⟩ := h2
  cases dd2
  cases dd1 with
  | lst q1 d1 =>
    refine ⟨_, _, _, rfl, rfl, wd2.sub _ _ (st2.ex _ _ q1), n0, n1, by rw [d1.length, sizeLine_eq]; exact hl, fun p hp => ?_⟩
    exact en_fin kk (st1.trans st2) wd2 sl2 hp ((d1.mono st2.ex).rep _) q
theorem DDs.setN {F : Hp} {v : V} {d : PyData} (hd : DD K F v d) : ∀ {xs : List V} {ds : List PyData} (j : Nat), DDs K F xs ds → DDs K F (xs.set j v) (ds.set j d)
  | _, _, _, .nil => .nil
  | _, _, 0, .cons _ h => .cons hd h
  | _, _, j + 1, .cons h0 h => .cons h0 (DDs.setN hd j h)
/-- x[b] = e, x a list -/
theorem s1_setIO (C : Cxt P w K mg base sc N vs ls k X W) [sx : Slot N x i] {q : Addr} {o : O} (hs : ρ[i]? = some (some (.own q o))) (hv : vs[i]? = some true)
    (h : EW X W e ρ (fun ρ1 d => ∃ o1, ρ1[i]? = some (some (.own q o1)) ∧ EW X W b ρ1 (fun ρ2 z => ∃ n j ds, z = .int n ∧ ρ2[i]? = some (some (.own q (.lst ds))) ∧ ixN ds.length n = some j ∧ Nx (ρ2.set i (some (.own q (.lst (ds.set j d)))))) E) E)
    (hs1 : swapsWithSole [.Subscript (.Name x p) b p2] e pos.line X.env = pure false := by with_unfolding_all rfl) (hw : swappedStores [.Subscript (.Name x p) b p2] e X.env = pure none := by with_unfolding_all rfl)
    (hd : (x == ("__debug__" : Str)) = false := by decide) (hcd : (x == ("__classdict__" : Str)) = false := by decide) (ha : ∀ v, assign (.Subscript (.Name x p) b p2) X.env v = (do
      let ov ← holding [v] (eval (.Name x p) X.env)
      let iv ← holding [v, ov] (eval b X.env)
      standAt p2
      holding [v, ov, iv] (setItem ov iv v)
      release [v, ov, iv] []) := by intro _; with_unfolding_all rfl) : S1 X W (.Assign [.Subscript (.Name x p) b p2] e pos) ρ Nx R E := by
  intro F H σ D wd sl kx kn kr
  refine of_ps (ps_asg pe_w (pg_sub (pv_of C hv hd hcd) pe_w set_list ha) hs1 hw) ?_
  refine h F H σ _ wd sl kx fun F1 H1 ρ1 v d st1 wd1 sl1 dd1 q1 => ?_
  obtain ⟨o1, hq1, h1⟩ := q1
  obtain ⟨u, u1, u2⟩ := sl1.get i _ hq1
  cases (show u = .ref q from u2)
  refine ⟨_, u1, ?_⟩
  refine h1 F1 H1 σ _ wd1 sl1 (kx.step st1) fun F2 H2 ρ2 y z st2 wd2 sl2 dd2 q2 => ?_
  obtain ⟨n, j, ds, rfl, hq2, hj, nx⟩ := q2
  cases dd2
  obtain ⟨f2, ho, hh, xs, rfl, dd⟩ := wd2.own i q _ hq2
  obtain ⟨s3, w3, l3⟩ := own_upd wd2 sl2 hq2 f2 hh (DDs.setN (dd1.mono st2.ex) j dd)
  exact ⟨q, xs, n, j, rfl, rfl, hh, by rw [dd.length]; exact hj, kn F2 _ σ _ ((st1.trans st2).trans s3) w3 l3 nx⟩
/-! slices of lists -/
def cutD (xs : List PyData) (lo hi : Option Int) : List PyData := (xs.drop (HT.sIx xs.length 0 lo)).take (HT.sIx xs.length xs.length hi - HT.sIx xs.length 0 lo)
theorem DDs.drop' {F : Hp} : ∀ {xs : List V} {ds : List PyData} (j : Nat), DDs K F xs ds → DDs K F (xs.drop j) (ds.drop j)
  | _, _, _, .nil => by rw [List.drop_nil, List.drop_nil]; exact .nil
  | _, _, 0, h => h
  | _, _, j + 1, .cons h0 h => DDs.drop' j h
theorem DDs.take' {F : Hp} : ∀ {xs : List V} {ds : List PyData} (j : Nat), DDs K F xs ds → DDs K F (xs.take j) (ds.take j)
  | _, _, _, .nil => by rw [List.take_nil, List.take_nil]; exact .nil
  | _, _, 0, h => .nil
  | _, _, j + 1, .cons h0 h => .cons h0 (DDs.take' j h)
theorem DDs.cut {F : Hp} {xs : List V} {ds : List PyData} (h : DDs K F xs ds) (lo hi : Option Int) : DDs K F (cutV xs lo hi) (cutD ds lo hi) := by
  unfold cutV cutD
  rw [h.length]
  exact (h.drop' _).take' _
/-- a[:h], a a list -/
theorem ew_slH (h : EW X W a ρ (fun ρ1 x => ∃ xs, x = .list xs ∧ EW X W b ρ1 (fun ρ2 y => ∃ n : Int, y = .int n ∧ Q ρ2 (.list (cutD xs none (some n)))) E) E) : EW X W (.Subscript a (.Slice none (some b) none p2) pos) ρ Q E := by
  intro F H σ R wd sl kx kk
  refine of_pe (pe_slice sl_list pe_w po_none (po_some pe_w)) ?_
  refine h F H σ _ wd sl kx fun F1 H1 ρ1 x dx st1 wd1 sl1 dd1 h1 => ?_
  obtain ⟨xs, rfl, h1⟩ := h1
  refine h1 F1 H1 σ _ wd1 sl1 (kx.step st1) fun F2 H2 ρ2 y dy st2 wd2 sl2 dd2 h2 => ?_
  obtain ⟨n, rfl, q⟩ := h2
  cases dd2
  cases dd1 with
  | @lst aa vv _ q1 d1 =>
    refine ⟨n, rfl, _, _, rfl, SqL.of (wd2.sub _ _ (st2.ex _ _ q1)), fun p hp => ?_⟩
    have g := Gr.new (o := .lst (cutV vv none (some n))) wd2.sub hp
    exact kk _ _ ρ2 _ _ ((st1.trans st2).trans g.stp) (wd2.gr g) (sl2.mono g.ex) (.lst upd_same (((d1.mono st2.ex).cut none (some n)).mono g.ex)) q
/-- a[l:h], a a list -/
theorem ew_sl2 (h : EW X W a ρ (fun ρ1 x => ∃ xs, x = .list xs ∧ EW X W l ρ1 (fun ρ2 y => ∃ m : Int, y = .int m ∧ EW X W b ρ2 (fun ρ3 y => ∃ n : Int, y = .int n ∧ Q ρ3 (.list (cutD xs (some m) (some n)))) E) E) E) : EW X W (.Subscript a (.Slice (some l) (some b) none p2) pos) ρ Q E := by
  intro F H σ R wd sl kx kk
  refine of_pe (pe_slice sl_list pe_w (po_some pe_w) (po_some pe_w)) ?_
  refine h F H σ _ wd sl kx fun F1 H1 ρ1 x dx st1 wd1 sl1 dd1 h1 => ?_
  obtain ⟨xs, rfl, h1⟩ := h1
  refine h1 F1 H1 σ _ wd1 sl1 (kx.step st1) fun F2 H2 ρ2 y dy st2 wd2 sl2 dd2 h2 => ?_
  obtain ⟨m, rfl, h2⟩ := h2
  cases dd2
  refine ⟨m, rfl, ?_⟩
  refine h2 F2 H2 σ _ wd2 sl2 (kx.step (st1.trans st2)) fun F3 H3 ρ3 y dy st3 wd3 sl3 dd3 h3 => ?_
  obtain ⟨n, rfl, q⟩ := h3
  cases dd3
  cases dd1 with
  | @lst aa vv _ q1 d1 =>
    refine ⟨n, rfl, _, _, rfl, SqL.of (wd3.sub _ _ (st3.ex _ _ (st2.ex _ _ q1))), fun p hp => ?_⟩
    have g := Gr.new (o := .lst (cutV vv (some m) (some n))) wd3.sub hp
    exact kk _ _ ρ3 _ _ (((st1.trans st2).trans st3).trans g.stp) (wd3.gr g) (sl3.mono g.ex) (.lst upd_same ((((d1.mono st2.ex).mono st3.ex).cut (some m) (some n)).mono g.ex)) q
/-! x != {} -/
theorem op_neE (hu : X.A.units < cLine) : OpR X (compareOp .NotEq) (fun x y H Q => ∃ a b ks, x = .ref a ∧ y = .ref b ∧ H a = some (.dK ks) ∧ H b = some (.dK []) ∧ Q (.bl (!ks.isEmpty)) H) := by
  intro pins s σ H x y v u Q I rx ry h
  obtain ⟨a, b, ks, rfl, rfl, ea, eb, q⟩ := h
  cases ks with
  | nil => exact op_ne_dictA hu pins s σ H _ _ v u Q I rx ry ⟨a, b, [], [], rfl, rfl, ea, eb, rfl, (fun p hp => nomatch hp), q⟩
  | cons k0 ks =>
    obtain rfl : v = Value.ref a := rx
    obtain rfl : u = Value.ref b := ry
    obtain ⟨_, ya, va, ra, da⟩ := (show ObjOk X.prog X.w H s.heap a (.dK (k0 :: ks)) from I.hok a _ ea)
    obtain ⟨_, yb, vb, rb, db⟩ := (show ObjOk X.prog X.w H s.heap b (.dK []) from I.hok b _ eb)
    have hl : va.length ≠ vb.length := by
      rw [← ra.length, ← rb.length]
      simp
    exact PySem.W.keq_ne (knd := mixKind X.prog X.w) (r := true) ya yb da db hu (fun e => absurd e hl) (fin_bl I q (by simp [hl]))
theorem tw_neE (C : Cxt P w K mg base sc N vs ls k X W) [sx : Slot N x i] {q : Addr} {kvs : List (Key × PyData)} {Q : Rho → Bool → Prop} (hs : ρ[i]? = some (some (.own q (.dic kvs)))) (hv : vs[i]? = some true) (h : Q ρ (!kvs.isEmpty))
    (hd : (x == ("__debug__" : Str)) = false := by decide) (hcd : (x == ("__classdict__" : Str)) = false := by decide) (hm : behindInMarks .NotEq (.Dict [] [] p2) = false := by with_unfolding_all rfl) : TW X W (.Compare (.Name x p) [.NotEq] [.Dict [] [] p2] pos) ρ Q E := by
  intro F H σ R wd sl kx kk
  refine of_pt (pt_cmpR (op_neE (Nat.lt_of_succ_lt C.hu)) (pv_of C hv hd hcd) pe_dnewK hm) ?_
  obtain ⟨v, h1, h2⟩ := sl.get i _ hs
  cases (show v = .ref q from h2)
  obtain ⟨f1, ho, hh, ws, rfl, kv⟩ := wd.own i q _ hs
  refine ⟨_, h1, fun r hr => ?_⟩
  have ne : q ≠ r := fun z => by
    subst z
    rw [hh] at hr
    cases hr
  refine ⟨q, r, ws, rfl, rfl, by rw [upd_ne ne]; exact hh, upd_same, _, rfl, ?_⟩
  have g : Gr F H F (upd H r (.dK [])) := Gr.side wd.sub hr
  have e : ws.isEmpty = kvs.isEmpty := by
    have := kv.len
    cases ws <;> cases kvs <;> simp at this <;> rfl
  rw [e]
  exact kk F _ ρ _ g.stp (wd.gr g) sl h
end
end Bp

namespace Bp
open PySem PySem.Spec PyProof.Rows L2
section
variable {P : Program} {w : World} {K : PySem.W.Frag} {mg : Str → Option Value} {base : Heap} {sc scope : Scope} {N : List Str} {vs ls : List Bool} {k : Nat} {X : Cx} {W : WX} {ρ : Rho} {E : XQ} {Q : Rho → PyData → Prop} {pos p : Pos} {x : Str}
def tCallZ (sp : Sp) (E : L2.St → XK) : TE := fun σ H Q => sp [] H Q (E σ)
theorem pe_callZ {CX : CXT} {f : Addr} {fd : FuncData} {ps : List Str} {sp : Sp} {E : L2.St → XK} {j : Nat} (F : FnOk X.prog X.w X.K X.mg X.base CX j f fd ps sp) (hr : Room j X.A) (hg : Gl X x) (hm : X.mg x = some (.ref f)) (hk : PySem.W.keepIn X.K (.ref f) = true) (hb : Binds X.K fd ps []) (hx : ∀ σ, PassesAt CX X σ (E σ)) (hdb : (x == ("__debug__" : Str)) = false) : PE X (.Call (.Name x p) [] [] pos) (tCallZ sp E) :=
  ⟨fun pins s σ H Q I h => wpAny_Call_Name_kw (ld_glob I hg hm (PySem.W.callWith_K0 I.kIn hk (run_fnS (us := []) F hr hb (hx σ) I .nil h)) hdb)⟩
/-- x(), x a def of the module -/
theorem ew_call0 (C : Cxt P w K mg base sc N vs ls k X W) {j : Nat} {Pf : PF} (G : Fn P w K mg base j x Pf) (h : Pf [] (fun r => ∃ d, r.toD = some d ∧ Q ρ d) (E ρ)) (hj : j ≤ k := by decide) (hg : sc.names.lookup x = some .globalImplicit := by decide +kernel)
    (hdb : (x == ("__debug__" : Str)) = false := by decide) : EW X W (.Call (.Name x p) [] [] pos) ρ Q E := by
  intro F H σ R wd sl kx kk
  obtain ⟨f, fd, ps, ok, hm, kp, bd⟩ := G
  have hgl := C.gl hg
  have hr : Room j X.A := C.room.mono hj
  obtain ⟨rfl, rfl, rfl, rfl, rfl⟩ : X.prog = P ∧ X.w = w ∧ X.K = K ∧ X.mg = mg ∧ X.base = base := ⟨C.eP, C.ew, C.eK, C.eg, C.eb⟩
  refine of_pe (pe_callZ ok hr hgl hm kp bd (fun σ => passAt C.tk σ) hdb) ?_
  refine ⟨F, [], _, _, wd.sub, .nil, h, fun F' H' v r g rt q => ?_, fun F' H' y xd g xa q => ?_⟩
  · obtain ⟨d, hd, q⟩ := q
    have wd' := wd.gr g
    have rt' : RtV X.K ρ H F' H' ρ v r := by
      cases r with
      | d d => exact rt
      | new o =>
        obtain ⟨q, ho, e, h0, f, _, h, oo⟩ := rt
        have h0 : H q = none := h0.resolve_right fun ⟨j, o', z⟩ => by simp at z
        refine ⟨q, ho, e, .inl h0, f, fun ⟨j, o', z⟩ => ?_, h, oo⟩
        obtain ⟨_, _, z2, _⟩ := wd.own j q o' z
        rw [h0] at z2
        cases z2
      | nest dss => cases hd
    obtain ⟨F2, s2, w2, e2, d2⟩ := frzR (g.stp (ρ := ρ)) wd' rt' hd
    exact kk F2 H' ρ v d s2 w2 ((sl.mono g.ex).mono e2) d2 q
  · exact kx F' H' σ ρ y xd g.stp (wd.gr g) (sl.mono g.ex) xa q
end
end Bp

namespace Bp
open PySem PySem.Spec PyProof.Rows L2
/-! ### except clauses, some of them with a name -/
/-- the ends behind a suite whose name is in slot i: the name is gone -/
def cutE (D : Ends) (i : Nat) : Ends := { nx := fun σ H => D.nx (σ.set i none) H, rt := D.rt, bk := fun σ H => D.bk (σ.set i none) H, ct := fun σ H => D.ct (σ.set i none) H }
abbrev Cl := Value × Option Nat × (Addr → Value → Option Addr → TS)
def clGo (D : Ends) (ts : Addr → Value → Option Addr → TS) (o : Option Nat) (a : Addr) (cls : Value) (d : Option Addr) (σ : L2.St) (H : Hp) : Prop := match o with
  | none => ts a cls d D σ H
  | some i => ts a cls d (cutE D i) (σ.set i (some (.ref a))) H
def wMix (K : PySem.W.Frag) (Wo : WX) (D : Ends) : List Cl → WX
  | [] => Wo
  | (c, o, ts) :: r => fun cls d σ H => ∃ b, PySem.W.exmOne K cls c = some b ∧ (b = true → ∀ a, H a = none → clGo D ts o a cls d σ H) ∧ (b = false → wMix K Wo D r cls d σ H)
abbrev SuOk (X : Cx) (su : List Stmt) (ts : Addr → Value → Option Addr → TS) : Prop := ∀ (a : Addr) (oe : Obj) (cls : Value) (d : Option Addr) (pn : List (Addr × Obj)), Zc cls d oe → (∃ vs, oe.data = .fields vs) → PSs (X.suite a ((a, oe) :: pn)) su (ts a cls d)
inductive MixH (X : Cx) : List ExceptHandler → List Cl → Prop
  | nil : MixH X [] []
  | bare {x : Str} {c : Value} {ts : Addr → Value → Option Addr → TS} {s0 : Stmt} {su : List Stmt} {p1 p2 : Pos} {hr : List ExceptHandler} {lr : List Cl} (nm : Names X x c) (ok : SuOk X (s0 :: su) ts) (r : MixH X hr lr) : MixH X (.ExceptHandler (some (.Name x p1)) none (s0 :: su) p2 :: hr) ((c, none, ts) :: lr)
  | as {x n : Str} {i : Nat} {c : Value} {ts : Addr → Value → Option Addr → TS} {s0 : Stmt} {su : List Stmt} {p1 p2 : Pos} {hr : List ExceptHandler} {lr : List Cl} (nm : Names X x c) (hi : X.N[i]? = some n) (hk : X.env.kindOf n = some .local) (ok : SuOk X (s0 :: su) ts) (r : MixH X hr lr) :
      MixH X (.ExceptHandler (some (.Name x p1)) (some n) (s0 :: su) p2 :: hr) ((c, some i, ts) :: lr)
theorem ps_try_mix {X : Cx} {body : List Stmt} {hA : ExceptHandler} {hB : List ExceptHandler} {l : List Cl} {pos : Pos} {tb : WX → TS} {Wo : WX} (eS : X.stack = X.env :: X.outer) (eF : X.env.frame = some X.env.locals) (nd : X.N.Nodup) (tk : Takes X Wo)
    (tBody : ∀ (V : WX) (pn : List (Addr × Obj)) (xe : Value → Shared → Prop), Takes (X.tr pn xe) V → PassesOwn (model X.prog X.w) X.A X.env xe → PSs (X.tr pn xe) body (tb V))
    (mh : MixH X (hA :: hB) l) : PS X (.Try body (hA :: hB) [] [] pos) (fun D σ H => tb (wMix X.K Wo D l) D σ H) := by
  refine ⟨fun pins s σ H D I hwish => ?_⟩
  have okX := I.ok
  have frA : X.A.frames = some (X.env :: X.outer) := okX.frames.trans (congrArg some eS)
  refine wpAny_Try_except ?_
  -- what the body leaves, what it raises
  refine wpAny_mono ((tBody (wMix X.K Wo D l) (X.pn ++ pins) _ (fun u s' xx => ?ctch) PassesOwn.looking).run [] s σ H D (I.toTry _) hwish) (fun f s1 hsp => ?thru) (fun _ _ z => z)
  case thru =>
    cases f with
    | next => exact (fun ⟨σ1, H1, J1, q1⟩ => wpAny_execs_nil ⟨σ1, H1, J1.ofTry okX, q1⟩) hsp
    | brk => exact (fun ⟨σ1, H1, J1, q1⟩ => ⟨σ1, H1, J1.ofTry okX, q1⟩) hsp
    | cont => exact (fun ⟨σ1, H1, J1, q1⟩ => ⟨σ1, H1, J1.ofTry okX, q1⟩) hsp
    | ret u => exact (fun ⟨v1, σ1, H1, J1, r1, q1⟩ => ⟨v1, σ1, H1, J1.ofTry okX, r1, q1⟩) hsp
  case ctch =>
    obtain ⟨a, G, sI, pins1, σ1, H1, cls, d, rfl, J1, nb, up, sky, na, eos, bare, ww⟩ := xx
    have J := J1.ofTry okX
    have sky1 : Sky G (X.env :: X.outer) a (Zc cls d) X.env.locals s'.heap := eS ▸ sky
    show wpAny (model X.prog X.w) X.A (noteFrame (Value.ref a) X.env) _ _ _
    refine Sky.land Zc.steady frA eF sky1 fun h3 fl up3 => ?_
    have J3 : Inv X pins σ1 H1 { s' with heap := h3 } := J.landed nb fl.1 (up.trans up3) eos bare
    obtain ⟨o3, v3, g3, z3, d3⟩ := fl.there
    have out : a ∉ frs (X.env :: X.outer) := fun hm => by
      obtain ⟨_, o', e', no⟩ := fl.2.2.1.mem hm
      rw [g3] at e'
      cases e'
      exact no _ d3
    have outL : a ≠ X.env.locals := fun z => out (List.mem_filterMap.mpr ⟨X.env, List.mem_cons_self, eF.trans (congrArg some z.symm)⟩)
    have outF : a ∉ X.fs := fun hm => let ⟨e, he, q⟩ := List.mem_filterMap.mp hm; out (List.mem_filterMap.mpr ⟨e, List.mem_cons_of_mem _ he, q⟩)
    have S3 := J3.suite g3 d3 na outL outF
    have lt : PySem.W.Looks (model X.prog X.w) h3 (typeOf (.ref a)) cls := fun A Q E s k q => wpAny_typeOf_ref (k _ _ g3) (z3.1.symm ▸ q)
    -- the clause's class is looked up
    have cl : ∀ {x : Str} {c : Value} {p1 : Pos} {Q : Value → Shared → Prop} {E : Value → Shared → Prop}, Names X x c → Q c { s' with heap := h3 } → wpAny (model X.prog X.w) (X.A.mark (some (.ref a))) (eval (.Name x p1) X.env) Q E { s' with heap := h3 } := by
      rintro x c p1 Q E ⟨hg, hdb, hm | ⟨hm, hv, hne⟩⟩ q
      · exact ld_glob (X := X.suite a ((a, o3) :: (X.pn ++ pins))) S3 hg hm q hdb
      · exact ld_blt (X := X.suite a ((a, o3) :: (X.pn ++ pins))) S3 hg hm hv q hne hdb
    have go : ∀ {hs : List ExceptHandler} {lr : List Cl}, MixH X hs lr → wMix X.K Wo D lr cls d σ1 H1 → wpAny (model X.prog X.w) X.A (handleBy (.ref a) X.env hs) (SP X pins D) X.xe { s' with heap := h3 } := by
      intro hs lr mk
      induction mk with
      | nil =>
        intro wv
        refine wpAny_handleBy_nil ?_
        obtain ⟨_, _, _, oe, vs, T, oT, tt, heA, hzA, hdA, hA1, _⟩ := id fl
        unfold PySem.passOn
        refine wpAny_bind (wpAny_field heA hdA hA1 ?_)
        rw [if_neg (by simp : ¬ ((Value.ref T == Value.none) = true))]
        have last : wpAny (model X.prog X.w) X.A (setFlight (.ref a) X.env.frame) (fun _ s4 => wpAny (model X.prog X.w) X.A (throw (.ref a) : Sem Flow) (SP X pins D) X.xe s4) X.xe { s' with heap := h3 } := by
          rw [eF]
          refine HandSPX.setFlight_upZ fl fun h4 hh4 up4 => wpAny_throw (tk _ _ ⟨a, G, sI, pins, σ1, H1, cls, d, rfl, J, nb, (up.trans up3).trans up4, .inr (.inr (by rw [eS]; exact hh4)), na, eos, bare, wv⟩)
        first | exact wpAny_bind (wpAny_pure (wpAny_bind last)) | exact wpAny_bind last
      | @bare x c ts s0 su p1 p2 hr lr nm ok r ih =>
        rintro ⟨b, eb, yes, no⟩
        refine wpAny_handleBy_cons (codeAny_handlers_test ?_) (fun q => nomatch q)
        refine cl nm ((PySem.W.exm_one (M := model X.prog X.w) J3.kIn lt eb).here ?_)
        cases b with
        | false => exact ih (no rfl)
        | true =>
          refine codeAny_handlers_suite (HandSPX.lands_againZ fl fun h4 fl4 up4 => ?_)
          obtain ⟨o4, v4, g4, z4, d4⟩ := fl4.there
          have J4 : Inv X pins σ1 H1 { s' with heap := h4 } := J.landed nb fl4.1 ((up.trans up3).trans up4) eos bare
          have S4 := J4.suite g4 d4 na outL outF
          refine wpAny_mono ((ok a o4 cls d (X.pn ++ pins) z4 ⟨_, d4⟩).run [] _ _ H1 _ S4 (yes rfl a na)) (fun f s6 hsp => ?_) (fun _ _ z => z.elim)
          cases f with
          | next => exact (fun ⟨_, _, S6, q6⟩ => ⟨_, _, S6.unsuite okX, q6⟩) hsp
          | brk => exact (fun ⟨_, _, S6, q6⟩ => ⟨_, _, S6.unsuite okX, q6⟩) hsp
          | cont => exact (fun ⟨_, _, S6, q6⟩ => ⟨_, _, S6.unsuite okX, q6⟩) hsp
          | ret u => exact (fun ⟨_, _, _, S6, r6, q6⟩ => ⟨_, _, _, S6.unsuite okX, r6, q6⟩) hsp
      | @as x n i c ts s0 su p1 p2 hr lr nm hi hk ok r ih =>
        rintro ⟨b, eb, yes, no⟩
        refine wpAny_handleBy_cons (codeAny_handlers_test ?_) (fun q => nomatch q)
        refine cl nm ((PySem.W.exm_one (M := model X.prog X.w) J3.kIn lt eb).here ?_)
        cases b with
        | false => exact ih (no rfl)
        | true =>
          refine codeAny_handlers_suite_as (HandSPX.lands_againZ fl fun h4 fl4 up4 => ?_)
          obtain ⟨o4, v4, g4, z4, d4⟩ := fl4.there
          have J4 : Inv X pins σ1 H1 { s' with heap := h4 } := J.landed nb fl4.1 ((up.trans up3).trans up4) eos bare
          have S4 := J4.suite g4 d4 na outL outF
          refine store_ok (X := X.suite a ((a, o4) :: (X.pn ++ pins))) (v := .ref a) S4 nd hi (.inl hk) rfl (fun s5 S5 => ?_) (.inr hk)
          refine wpAny_mono ((ok a o4 cls d (X.pn ++ pins) z4 ⟨_, d4⟩).run [] s5 _ H1 _ S5 (yes rfl a na)) (fun f s6 hsp => ?_) (fun _ _ z => z.elim)
          have gone : ∀ {σ6 : L2.St} {H6 : Hp} {Q : Shared → Prop}, Inv (X.suite a ((a, o4) :: (X.pn ++ pins))) [] σ6 H6 s6 → (∀ s7, Inv X pins (σ6.set i none) H6 s7 → Q s7) → wpAny (model X.prog X.w) X.A (do bindName X.env n .none; unbindBehindTheSuite X.env n p2) (fun _ s7 => Q s7) X.xe s6 :=
            fun S6 hq => gone_ok (S6.unsuite okX) nd hi hk hq
          cases f with
          | next => exact (fun ⟨_, _, S6, q6⟩ => gone S6 fun s7 J7 => ⟨_, _, J7, q6⟩) hsp
          | brk => exact (fun ⟨_, _, S6, q6⟩ => gone S6 fun s7 J7 => ⟨_, _, J7, q6⟩) hsp
          | cont => exact (fun ⟨_, _, S6, q6⟩ => gone S6 fun s7 J7 => ⟨_, _, J7, q6⟩) hsp
          | ret u => exact (fun ⟨_, _, _, S6, r6, q6⟩ => gone S6 fun s7 J7 => ⟨_, _, _, J7, r6, q6⟩) hsp
    exact go mh ww
section
variable {P : Program} {w : World} {K : PySem.W.Frag} {mg : Str → Option Value} {base : Heap} {sc : Scope} {N : List Str} {vs ls : List Bool} {k : Nat} {X : Cx} {W : WX} {ρ : Rho} {Nx : Rho → Prop} {R : Rho → Ret → Prop} {E : XQ} {a b c e : Expr} {es : List Expr} {pos p p2 p3 p4 spos : Pos} {x y n f : Str} {i j : Nat}
/-- what a suite with a name, in slot i, does of an error -/
def UWn (X : Cx) (suite : List Stmt) (i : Nat) (ρ : Rho) (y : Xc) (Nx : Rho → Prop) : Prop := ∀ (a : Addr) (oe : Obj) (pn : List (Addr × Obj)) (d : Option Addr), Zc (.ref y.cls) d oe → (∃ vs, oe.data = .fields vs) → ∀ F H σ (D : Ends), Wd X.K F H ρ → Sl X.K F σ ρ → XcAt X.K F H y d → H a = none →
  (∀ F' H' σ' ρ', Stp ρ ρ' F H F' H' → Wd X.K F' H' ρ' → Sl X.K F' σ' ρ' → Nx ρ' → D.nx σ' H') → WSs (X.suite a ((a, oe) :: pn)) suite (cutE D i) (σ.set i (some (.ref a))) H
abbrev Cls := Value × Option Nat × List Stmt
def clU (X : Cx) (o : Option Nat) (su : List Stmt) (ρ : Rho) (y : Xc) (Nx : Rho → Prop) : Prop := match o with
  | none => UW X su ρ y Nx
  | some i => UWn X su i ρ y Nx
def HDM (X : Cx) : List Cls → Rho → Xc → (Rho → Prop) → XQ → Prop
  | [], ρ, y, _, E => E ρ y
  | (c, o, su) :: r, ρ, y, Nx, E => ∃ b, PySem.W.exmOne X.K (.ref y.cls) c = some b ∧ (b = true → clU X o su ρ y Nx) ∧ (b = false → HDM X r ρ y Nx E)
inductive Hdm (sc : Scope) (mg : Str → Option Value) (N : List Str) : List ExceptHandler → List Cls → Prop
  | nil : Hdm sc mg N [] []
  | bare {x : Str} {c : Value} {s0 : Stmt} {su : List Stmt} {p1 p2 : Pos} {hr : List ExceptHandler} {l : List Cls} (hm : mg x = some c) (hg : sc.names.lookup x = some .globalImplicit) (hd : (x == ("__debug__" : Str)) = false) (r : Hdm sc mg N hr l) : Hdm sc mg N (.ExceptHandler (some (.Name x p1)) none (s0 :: su) p2 :: hr) ((c, none, s0 :: su) :: l)
  | as {x n : Str} {i : Nat} {c : Value} {s0 : Stmt} {su : List Stmt} {p1 p2 : Pos} {hr : List ExceptHandler} {l : List Cls} (sl : Slot N n i) (hm : mg x = some c) (hg : sc.names.lookup x = some .globalImplicit) (hd : (x == ("__debug__" : Str)) = false) (hk : sc.names.lookup n = some .local) (r : Hdm sc mg N hr l) :
      Hdm sc mg N (.ExceptHandler (some (.Name x p1)) (some n) (s0 :: su) p2 :: hr) ((c, some i, s0 :: su) :: l)
def clsOf (X : Cx) (l : List Cls) : List Cl := l.map fun q => (q.1, q.2.1, fun a cls d D σ H => ∀ (oe : Obj) (pn : List (Addr × Obj)), Zc cls d oe → (∃ vs, oe.data = .fields vs) → WSs (X.suite a ((a, oe) :: pn)) q.2.2 D σ H)
theorem hdm_ok (C : Cxt P w K mg base sc N vs ls k X W) : ∀ {hs : List ExceptHandler} {l : List Cls}, Hdm sc mg N hs l → MixH X hs (clsOf X l)
  | _, _, .nil => .nil
  | _, _, .bare hm hg hd r => .bare ⟨C.gl hg, hd, .inl (by rw [C.eg]; exact hm)⟩ (fun a oe cls d pn hz hf => ⟨fun pins s σ H D I h => h oe pn hz hf pins s I⟩) (hdm_ok C r)
  | _, _, .as sl hm hg hd hk r => .as ⟨C.gl hg, hd, .inl (by rw [C.eg]; exact hm)⟩ (by rw [C.eN]; exact sl.get) (by unfold Env.kindOf; rw [C.es]; exact hk) (fun a oe cls d pn hz hf => ⟨fun pins s σ H D I h => h oe pn hz hf pins s I⟩) (hdm_ok C r)
theorem s1_tryM (C : Cxt P w K mg base sc N vs ls k X W) (Fr : Frm X) {body : List Stmt} {h0 : ExceptHandler} {hds : List ExceptHandler} {l : List Cls} (hh : Hdm sc mg N (h0 :: hds) l)
    (h : ∀ X' W', Cxt P w K mg base sc N vs ls k X' W' → Frm X' → SW X' W' body ρ Nx R (fun ρ' y => HDM X l ρ' y Nx E)) : S1 X W (.Try body (h0 :: hds) [] [] pos) ρ Nx R E := by
  intro F H σ D wd sl kx kn kr
  refine of_ps (ps_try_mix (tb := fun V => fun D σ H => ∀ pn xe, Takes (X.tr pn xe) V → PassesOwn (model X.prog X.w) X.A X.env xe → WSs (X.tr pn xe) body D σ H) Fr.stk Fr.fr (by rw [C.eN]; exact C.nd) C.tk (fun V pn xe tk po => ⟨fun pins s σ H D I hw => hw pn xe tk po pins s I⟩) (hdm_ok C hh)) ?_
  intro pn xe tk po
  refine h (X.tr pn xe) _ (C.tr tk po) ⟨Fr.stk, Fr.fr⟩ F H σ D wd sl (fun F1 H1 σ1 ρ1 y xd st1 wd1 sl1 xa q => ?_) kn kr
  have go : ∀ l : List Cls, HDM X l ρ1 y Nx E → wMix X.K W D (clsOf X l) (.ref y.cls) xd σ1 H1 := by
    intro l
    induction l with
    | nil => exact fun q => kx F1 H1 σ1 ρ1 y xd st1 wd1 sl1 xa q
    | cons q r ih =>
      obtain ⟨cc, o, suite⟩ := q
      rintro ⟨b, hb, h1, h2⟩
      refine ⟨b, hb, fun eb a ha => ?_, fun eb => ih (h2 eb)⟩
      have h1 := h1 eb
      cases o with
      | none => exact fun oe pn' hz hf => h1 a oe pn' xd hz hf F1 H1 σ1 D wd1 sl1 xa ha fun F2 H2 σ2 ρ2 st2 wd2 sl2 n => kn F2 H2 σ2 ρ2 (st1.trans st2) wd2 sl2 n
      | some i => exact fun oe pn' hz hf => h1 a oe pn' xd hz hf F1 H1 σ1 D wd1 sl1 xa ha fun F2 H2 σ2 ρ2 st2 wd2 sl2 n => kn F2 H2 σ2 ρ2 (st1.trans st2) wd2 sl2 n
  exact go l q
theorem Sl.hide {F : Hp} {σ : L2.St} {v : Option V} (s : Sl K F σ ρ) : Sl K F (σ.set i v) (ρ.set i none) where
  len := by rw [List.length_set, List.length_set]; exact s.len
  get := fun j z q => by
    rw [List.getElem?_set] at q ⊢
    split at q
    · split at q
      · cases (Option.some.inj q)
      · cases q
    · rename_i e
      rw [if_neg e]
      exact s.get j z q
theorem Sl.wipe {F : Hp} {σ : L2.St} {v : Option V} (s : Sl K F σ ρ) (h : ∀ z, ρ[i]? ≠ some (some z)) : Sl K F (σ.set i v) ρ where
  len := by rw [List.length_set]; exact s.len
  get := fun j z q => by
    rw [List.getElem?_set]
    split
    · rename_i e
      subst e
      exact absurd q (h z)
    · exact s.get j z q
/-- the suite x.append(n.f), n the error's name -/
theorem uwn_app (C : Cxt P w K mg base sc N vs ls k X W) [sx : Slot N x j] [sn : Slot N n i] {yx : Xc} {q : Addr} {ds : List PyData} {d : PyData} (T : XfC K yx.cls) (hno : PySem.W.findIn K (.ref yx.cls) f = some none) (hs : ρ[j]? = some (some (.own q (.lst ds)))) (hv : vs[j]? = some true) (hvn : vs[i]? = some true) (hij : i ≠ j)
    (hy : yx.fld = some (f, d)) (hl : ds.length < 16777216) (nx : Nx ((ρ.set i none).set j (some (.own q (.lst (ds ++ [d]))))))
    (hdb : (x == ("__debug__" : Str)) = false := by decide) (hcd : (x == ("__classdict__" : Str)) = false := by decide) (hdbn : (n == ("__debug__" : Str)) = false := by decide) (hcdn : (n == ("__classdict__" : Str)) = false := by decide)
    (hbm : ∀ (X' : Cx) (te : TE), PE X' (.Name x p) (tVar j) → PA X' [.Attribute (.Name n p3) f p4] (tCons te tNil) → PE X' (.Call (.Attribute (.Name x p) "append" p2) [.Attribute (.Name n p3) f p4] [] pos) (tBM X'.K "list" rAppend (tVar j) (tCons te tNil)) := by intro X' te h1 h2; exact pe_bm PySem.F.plainAttrs_list PySem.F.slot_list_append PySem.F.type_list_append mt_append h1 h2 (by with_unfolding_all rfl) (by with_unfolding_all rfl) (by with_unfolding_all rfl))
    (hsw : ∀ env, swapsWith (.Call (.Attribute (.Name x p) "append" p2) [.Attribute (.Name n p3) f p4] [] pos) none spos.line env = pure false := by intro _; with_unfolding_all rfl)
    (hab : ∀ env, attributeBase (.Name n p3) f env (eval (.Name n p3) env) = eval (.Name n p3) env := by intro _; with_unfolding_all rfl)
    (hst : ∀ env, starEach [.Attribute (.Name n p3) f p4] env = (false, eval (.Attribute (.Name n p3) f p4) env) :: starEach [] env := by intro _; with_unfolding_all rfl) : UWn X [.Expr (.Call (.Attribute (.Name x p) "append" p2) [.Attribute (.Name n p3) f p4] [] pos) spos] i ρ yx Nx := by
  intro a oe pn xd hz hf F H σ D wd sl xa ha kn pins s I
  obtain rfl := C.eK
  have hlen : i < σ.length := by
    have e1 : (σ.set i (some (.ref a))).length = X.N.length := I.len
    rw [List.length_set, C.eN] at e1
    rw [e1]
    exact (List.getElem?_eq_some_iff.mp sn.get).1
  have pv : PE (X.suite a ((a, oe) :: pn)) (.Name x p) (tVar j) := pe_var (i := j) (show X.N[j]? = some x by rw [C.eN]; exact sx.get) (show Vis X.env.scope x by rw [C.es]; exact C.vis j x sx.get hv) hdb hcd
  have pn' : PE (X.suite a ((a, oe) :: pn)) (.Name n p3) (tVar i) := pe_var (i := i) (show X.N[i]? = some n by rw [C.eN]; exact sn.get) (show Vis X.env.scope n by rw [C.es]; exact C.vis i n sn.get hvn) hdbn hcdn
  refine of_pss (pss_one (ps_expr (hbm _ _ pv (pa_cons (pe_xf T hno hz hf pn' (hab _)) pa_nil (hst _))) (hsw _))) ?_ pins s I
  have sl0 : Sl X.K F (σ.set i (some (.ref a))) (ρ.set i none) := sl.hide
  have wd0 : Wd X.K F H (ρ.set i none) := wd.set noN
  have hs0 : (ρ.set i none)[j]? = some (some (S.own q (.lst ds))) := by rw [List.getElem?_set, if_neg hij]; exact hs
  obtain ⟨u, h1, h2⟩ := sl0.get j _ hs0
  cases (show u = .ref q from h2)
  obtain ⟨f1, ho, hh, xs, rfl, dd⟩ := wd0.own j q _ hs0
  unfold XcAt at xa
  rw [hy] at xa
  obtain ⟨dx, v, rfl, hdx, dv⟩ := xa
  obtain ⟨s2, w2, l2⟩ := own_upd wd0 sl0 hs0 f1 hh (dd.append (.cons dv .nil))
  refine ⟨_, h1, .inl ⟨rfl, xs, SqL.of hh⟩, _, by rw [List.getElem?_set, if_pos rfl, if_pos hlen], rfl, rfl, dx, _, v, rfl, hdx, by simp [List.lookup], q, xs, v, rfl, rfl, hh, by rw [dd.length, sizeLine_eq]; exact hl, ?_⟩
  refine kn F _ _ _ ((Stp.set noN).trans s2) w2 (l2.wipe ?_) nx
  intro z
  rw [List.getElem?_set, if_neg (Ne.symm hij), List.getElem?_set, if_pos rfl]
  split
  · exact fun e => nomatch (Option.some.inj e)
  · exact fun e => nomatch e
/-! ### raise x(e), x an own class of errors with an own __init__ that keeps one field -/
def spXi (C : Addr) (f : Str) : Sp := fun vs H Q _ => ∃ a v, vs = [.ref a, v] ∧ H a = some (exo a C none) ∧ ∀ dx, H dx = none → dx ≠ a → Q .non (upd (upd H dx (exd dx [(f, v)])) a (exo a C (some dx)))
theorem fn_xi {Cl fI : Addr} {fd : FuncData} {qual : Str} {params : Arguments} {body : List Stmt} {p1 : Str} {q1 q2 q3 q4 : Pos} (F : FunD K "__init__" qual params body sc [] [] fI fd) (Sc : FnScope [p1, f] [p1, f] sc) (hv : chkB (locB sc) [p1, f] [true, true] = true) (T : OexC K Cl) (hno : PySem.W.findIn K (.ref Cl) f = some none)
    (hb : body = [.Assign [.Attribute (.Name p1 q1) f q2] (.Name f q3) q4]) (hdb : (p1 == ("__debug__" : Str)) = false := by decide) (hcd : (p1 == ("__classdict__" : Str)) = false := by decide) (hdb2 : (f == ("__debug__" : Str)) = false := by decide) (hcd2 : (f == ("__classdict__" : Str)) = false := by decide)
    (hsw : ∀ env, swapsWith (.Name f q3) (some (.Attribute (.Name p1 q1) f q2)) q4.line env = pure false := by intro _; with_unfolding_all rfl) :
    FnOk P w K mg base (L2.CX P w) 1 fI fd [p1, f] (spXi Cl f) := by
  subst hb
  refine F.ok (k := 0) Sc (fun vs H Q E h => ?_) (fun cdv A outer s H vs Q E hr h => ?_)
  · obtain ⟨a, v, rfl, _⟩ := h
    rfl
  · obtain ⟨a, v, rfl, ha, q⟩ := h
    have C := cxt_of (P := P) (w := w) (K := K) (mg := mg) (base := base) (outer := outer) (s := s) (H := H) (E := E) (cdv := cdv) (f := fI) (qual := qual) Sc hv hr
    refine ⟨_, pss_one (ps_ost (pe_var (i := 0) rfl (by rw [C.es]; exact C.vis 0 p1 rfl rfl) hdb hcd) (pe_var (i := 1) rfl (by rw [C.es]; exact C.vis 1 f rfl rfl) hdb2 hcd2) (hsw _)), ?_⟩
    exact ⟨v, rfl, .ref a, rfl, a, Cl, rfl, T, hno, .inl ⟨ha, fun dx n ne => q dx n ne⟩⟩
structure XiC (P : Program) (w : World) (K : PySem.W.Frag) (mg : Str → Option Value) (base : Heap) (x : Str) (Cl : Addr) (f : Str) : Prop where
  gl : mg x = some (.ref Cl)
  oe : OexC K Cl
  it : ∃ fI fd p1, PySem.W.findIn K (.ref Cl) "__init__" = some (some (.ref fI)) ∧ PySem.W.typeIn K (.ref fI) = some (.type "function") ∧ FnOk P w K mg base (L2.CX P w) 1 fI fd [p1, f] (spXi Cl f) ∧ Binds K fd [p1, f] []
theorem s1_raiseF (C : Cxt P w K mg base sc N vs ls k X W) {A : Addr} (T : XiC P w K mg base x A f) (h : EW X W e ρ (fun ρ1 d => E ρ1 ⟨A, some (f, d)⟩) E) (hk : 2 ≤ k := by decide) (hg : sc.names.lookup x = some .globalImplicit := by decide +kernel) (hdb : (x == ("__debug__" : Str)) = false := by decide)
    (he : starEach [e] X.env = (false, eval e X.env) :: starEach [] X.env := by with_unfolding_all rfl) : S1 X W (.Raise (some (.Call (.Name x p) [e] [] pos)) none p2) ρ Nx R E := by
  intro F H σ D wd sl kx kn kr
  have hgl := C.gl hg
  have hr : Room 2 X.A := C.room.mono hk
  obtain ⟨rfl, rfl, rfl, rfl, rfl⟩ : X.prog = P ∧ X.w = w ∧ X.K = K ∧ X.mg = mg ∧ X.base = base := ⟨C.eP, C.ew, C.eK, C.eg, C.eb⟩
  obtain ⟨fI, fd, p1, hi, ht, ok, bd⟩ := T.it
  refine of_ps (ps_raise C.calm C.tk (pmk_oex T.oe hi ht ok hr bd .nil (fun pins σ H s e s' I c => C.tk e s' (XE.of_call I (fun _ _ _ z => z.elim) c)) hgl T.gl (pa_cons pe_w pa_nil he) hdb he (by with_unfolding_all rfl))) ?_
  refine h F H σ _ wd sl kx fun F1 H1 ρ1 v d st1 wd1 sl1 dd1 q1 => ?_
  refine ⟨by simp, fun a ha => ⟨a, v, rfl, upd_same, fun dx n ne => ⟨rfl, dx, [(f, v)], upd_same, ?_, ?_, ?_⟩⟩⟩
  · rw [upd_ne ne, upd_same]
  · rw [upd_ne ne] at n
    exact n
  · have n1 : H1 dx = none := by
      rw [upd_ne ne] at n
      exact n
    have eH : upd (del (upd (upd (upd H1 a (exo a A none)) dx (exd dx [(f, v)])) a (exo a A (some dx))) a) dx (.xd [(f, v)]) = upd H1 dx (.xd [(f, v)]) := by
      funext b
      by_cases hb : b = dx
      · rw [hb, upd_same, upd_same]
      · rw [upd_ne hb, upd_ne hb]
        by_cases hba : b = a
        · rw [hba, del_same, ha]
        · rw [del_ne hba, upd_ne hba, upd_ne hb, upd_ne hba]
    rw [eH]
    have g : Gr F1 H1 F1 (upd H1 dx (.xd [(f, v)])) := Gr.side wd1.sub n1
    exact kx F1 _ σ ρ1 ⟨A, some (f, d)⟩ (some dx) (st1.trans g.stp) (wd1.gr g) (sl1.mono g.ex) ⟨dx, v, rfl, upd_same, dd1⟩ q1
end
end Bp

namespace Bp
open PySem PySem.Spec PyProof.Rows L2
/-! ### the head with further looks at the module -/
abbrev Ex1 := PySem.W.Frag → Bool
def exAll (l : List Ex1) (K : PySem.W.Frag) : Bool := l.all fun f => f K
abbrev AlM : Type := He.AlD × Bool
def obsM (fa : List He.Fa) (fn : List He.DefD) (l : List Ex1) (K : PySem.W.Frag) : AlM := (He.obsD fa fn K, exAll l K)
def obsMG (n : Nat) (fa : List He.Fa) (fn : List He.DefD) (l : List Ex1) (g : Addr → Option Obj) : AlM := obsM fa fn l (He.frG g (He.asD g n))
structure SaysM (fa : List He.Fa) (fn : List He.DefD) (l : List Ex1) (K : PySem.W.Frag) : Prop where
  d : He.SaysD fa fn K
  x : exAll l K = true
def hookM (n : Nat) (fa : List He.Fa) (fn : List He.DefD) (l : List Ex1) : PySem.W.Hook where
  α := AlM
  obs := fun s => obsMG n fa fn l s.heap.get?
  val := fun _ => (He.valD fn, true)
  says := fun _ h => ∃ K : PySem.W.Frag, K.In h ∧ SaysM fa fn l K
  of := fun _ _ e => ⟨_, He.frG_in, congrArg (fun z : AlM => z.1) e, congrArg (fun z : AlM => z.2) e⟩
  keeps := fun _ _ _ ⟨K, hK, c⟩ st => ⟨K, PySem.W.Frag.In.keeps hK st, c⟩
theorem obsMG_eq {n : Nat} {fa : List He.Fa} {fn : List He.DefD} {l : List Ex1} {g : Addr → Option Obj} {s : Shared} (h : ∀ a, g a = s.heap.get? a) : obsMG n fa fn l g = (hookM n fa fn l).obs s := by
  rw [show g = s.heap.get? from funext h]
  rfl
theorem ex_at {l : List Ex1} {K : PySem.W.Frag} (h : exAll l K = true) (i : Nat) {f : Ex1} (e : l[i]? = some f) : f K = true := List.all_eq_true.mp h f (List.mem_of_getElem? e)
/-! ### an own class of errors with an own __init__ -/
def oexB (K : PySem.W.Frag) (C : Addr) : Bool := match K.lookup C with
  | some ⟨.type c, _, .cls cd, sl⟩ => decide (c = "type") && (match cd.mro, sl.toList with
    | .ref C' :: bm, [_, _, _, _, some (.builtin n), _] => decide (C' = C) && (decide (n = "ValueError.__new__") && (!cd.hasDel && (cd.hasDict && PySem.HandSPX.refsVE bm)))
    | _, _ => false)
  | _ => false
theorem oexB_ok {K : PySem.W.Frag} {C : Addr} (h : oexB K C = true) : ∃ nm q N bs bm sn sub ab col dd k0 k1 k2 k3 k5, K.lookup C = some (excClassObj nm q C N bs bm true sn sub ab col dd k0 k1 k2 k3 k5 "ValueError.__new__") ∧ PySem.HandSPX.refsVE bm = true := by
  unfold oexB at h
  split at h
  · rename_i c dd cd sl ho
    obtain ⟨h1, h⟩ := He.ba h
    split at h
    · rename_i C' bm k0 k1 k2 k3 nI k5 hm hs
      obtain ⟨h2, h⟩ := He.ba h
      obtain ⟨h3, h⟩ := He.ba h
      obtain ⟨h4, h⟩ := He.ba h
      obtain ⟨h5, h6⟩ := He.ba h
      cases of_decide_eq_true h1
      cases of_decide_eq_true h2
      cases of_decide_eq_true h3
      obtain ⟨nm, bs, mro, nsp, qn, hd, sn, sub, ab, col, del⟩ := cd
      dsimp only at hm h4 h5
      have h4 : del = false := by simpa using h4
      subst hm h5 h4
      have es : sl = #[k0, k1, k2, k3, some (.builtin "ValueError.__new__"), k5] := by
        obtain ⟨l⟩ := sl
        exact congrArg Array.mk hs
      subst es
      exact ⟨nm, qn, nsp, bs, bm, sn, sub, ab, col, dd, k0, k1, k2, k3, k5, ho, h6⟩
    · cases h
  · cases h
def decB (K : PySem.W.Frag) (C : Addr) : Bool := decide (PySem.W.findIn K (.ref C) "__setattr__" = some (some (.builtin "object.__setattr__"))) && (decide (PySem.W.subIn K (.ref C) (.type "BaseException") = some true) && (decide (PySem.W.typeIn K (.ref C) = some (.type "type")) && PySem.W.keepIn K (.ref C)))
def xiB (x f : Str) : Ex1 := fun K => oexB K (cA K x) && (decB K (cA K x) && (xfB K (cA K x) && (decide (PySem.W.findIn K (.ref (cA K x)) f = some none) && (decide (PySem.W.findIn K (.ref (cA K x)) "__init__" = some (some (.ref (He.ma K (cA K x) "__init__")))) && decide (PySem.W.typeIn K (.ref (He.ma K (cA K x) "__init__")) = some (.type "function"))))))
structure XiF (K : PySem.W.Frag) (x f : Str) : Prop where
  oe : OexC K (cA K x)
  xf : XfC K (cA K x)
  no : PySem.W.findIn K (.ref (cA K x)) f = some none
  it : PySem.W.findIn K (.ref (cA K x)) "__init__" = some (some (.ref (He.ma K (cA K x) "__init__")))
  ty : PySem.W.typeIn K (.ref (He.ma K (cA K x) "__init__")) = some (.type "function")
theorem xiB_ok {K : PySem.W.Frag} {x f : Str} (h : xiB x f K = true) : XiF K x f := by
  obtain ⟨h1, h⟩ := He.ba h
  obtain ⟨h2, h⟩ := He.ba h
  obtain ⟨h3, h⟩ := He.ba h
  obtain ⟨h4, h⟩ := He.ba h
  obtain ⟨h5, h6⟩ := He.ba h
  obtain ⟨d1, d⟩ := He.ba h2
  obtain ⟨d2, d⟩ := He.ba d
  obtain ⟨d3, d4⟩ := He.ba d
  exact ⟨⟨oexB_ok h1, of_decide_eq_true d1, of_decide_eq_true d2, of_decide_eq_true d3, d4⟩, xfB_ok h3, of_decide_eq_true h4, of_decide_eq_true h5, of_decide_eq_true h6⟩
end Bp

namespace Bp
open PySem PySem.Spec PyProof.Rows L2
/-! ### parts of tuples, tuples repeated: the new ones known to the object -/
def rCutF (K : PySem.W.Frag) : V → Option Int → Option Int → Hp → VK → Prop := fun x lo hi H Q => ∃ a xs, x = .ref a ∧ SqT K H a xs ∧ (cutV xs lo hi = xs → Q (.ref a) H) ∧ ∀ (p : Addr) (o : Obj), H p = none → o.dict = none → Q (.ref p) (upd H p (.frz o (.tup (cutV xs lo hi))))
theorem cut_whole {xs : List V} {lo hi : Option Int} (h : HT.sIx xs.length 0 lo = 0 ∧ HT.sIx xs.length xs.length hi = xs.length) : cutV xs lo hi = xs := by
  unfold cutV
  rw [h.1, h.2, List.drop_zero, Nat.sub_zero, List.take_length]
theorem sl_cutF {X : Cx} : SlR X (rCutF X.K) := by
  intro pins s σ H x v vl vu lo hi sl Q I rx isl pl pu h
  obtain ⟨a, xs, rfl, sq, qa, qn⟩ := h
  by_cases hw : (HT.sIx xs.length 0 lo = 0) ∧ (HT.sIx xs.length xs.length hi = xs.length)
  · exact sl_tupA pins s σ H _ v vl vu lo hi sl Q I rx isl pl pu ⟨a, xs, rfl, sq, fun _ => qa (cut_whole hw), fun no => absurd hw no⟩
  · cases rx
    obtain ⟨its, rv, tup, le⟩ := I.tuple sq
    have ez : its.toArray.size = xs.length := (List.size_toArray).trans rv.length.symm
    refine ⟨"tuple", _, PyProof.Rows.slot_tuple_getitem.lookup, tup.typeIs, HT.getItem_tuple_cut tup isl pl pu (ez ▸ hw) ?_ (ez ▸ le)⟩
    rw [ez]
    have rc : Vals (cutV xs lo hi) ((its.drop (HT.sIx xs.length 0 lo)).take (HT.sIx xs.length xs.length hi - HT.sIx xs.length 0 lo)) := (rv.drop _).take _
    exact ⟨.ref s.heap.objs.size, _, I.laid (t' := s.toks) (o := .frz { cls := .type "tuple", data := .seq ((its.drop (HT.sIx xs.length 0 lo)).take (HT.sIx xs.length xs.length hi - HT.sIx xs.length 0 lo)).toArray } (.tup (cutV xs lo hi))) (fun b ob e => Heap.get?_push_of_some _ e) (Nat.le_refl _) ⟨Heap.get?_push_size _ rfl, Nat.le_trans (cutV_length xs lo hi) le, _, rc, IsTup.new _ _⟩, rfl, qn _ _ (I.hok.fresh (Nat.le_refl _)) rfl⟩
theorem mul_one_tup (l : Addr) (items : Array Value) (n : Nat) (dd : Option Addr) (sl : Array (Option Value)) (u : Tok) :
    Meets (Builtin.«tuple.__mul__» ⟨[.ref l, .int 1 u], []⟩) (fun _ R s => s.heap.get? l = some { cls := .type "tuple", dict := dd, data := .seq items n, slots := sl } ∧ R (.ok (.ret (.ref l))) s) :=
  .of_wp fun prog w A R s h => by
    obtain ⟨hp, g, d, tk, os⟩ := s
    obtain ⟨hl, h⟩ := h
    have f1 := AutoSeq1.idx_int
    have c1 : (items.isEmpty || (1 : Int) == 1) = true := by simp
    wp_walk using wpAny_loadPart' hl
    repeat (first | (refine wpAny_ite_true (decide_eq_true c1) ?_; wp_walk using wpAny_loadPart' hl))
    exact ⟨_, rfl, h⟩
def rMulF (K : PySem.W.Frag) : R2 := fun x y H Q => ∃ a n xs, x = .ref a ∧ y = .int n ∧ SqT K H a xs ∧ xs ≠ [] ∧ 1 ≤ n ∧ n ≤ 1000 ∧ xs.length ≤ 1000 ∧ (n = 1 → Q (.ref a) H) ∧ ∀ (p : Addr) (o : Obj), H p = none → o.dict = none → Q (.ref p) (upd H p (.frz o (.tup (List.replicate n.toNat xs).flatten)))
theorem op_mulF {X : Cx} : OpR X (binaryOp .Mult) (rMulF X.K) := by
  intro pins s σ H x y v u Q I rx ry h
  obtain ⟨a, n, xs, rfl, rfl, sq, ne, n1, n2, l2, qa, qn⟩ := h
  cases rx
  obtain ⟨t, rfl⟩ := ry
  obtain ⟨its, rv, ⟨⟨cls, dd, data, slo⟩, ho, hcl, m, hda⟩, le⟩ := I.tuple sq
  simp only at hcl hda
  subst hcl hda
  have el : its.length = xs.length := rv.length.symm
  have pos : 0 < its.length := by
    rw [el]
    exact List.length_pos_iff.mpr ne
  have emp : its.toArray.isEmpty = false := by
    cases its with
    | nil => cases pos
    | cons _ _ => rfl
  refine wpAny_binaryOp_repeat_ref (T := "tuple") (U := "int") (by decide) ⟨_, ho, rfl⟩ (fun s' => typeIs_int s' n t) noFill_tuple_mul F.fills_int_mul F.slot_int_rmul repeat_tuple F.slot_int_index.lookup
    (call_meets F.slot_int_rmul (typeIs_int s n t) F.entry_int_rmul (F.args_int_rmul_2 _ _) (int_rmul_tuple n t a its.toArray m dd slo) ⟨ho, rfl, ⟨_, ho, rfl⟩, ?_⟩)
  by_cases h1 : n = 1
  · subst h1
    exact call_meets F.slot_tuple_mul ⟨_, ho, rfl⟩ F.entry_tuple_mul (F.args_tuple_mul_2 _ _) (mul_one_tup a its.toArray m dd slo t) ⟨ho, .ref a, H, I, rfl, qa rfl⟩
  · have fl : (List.replicate n.toNat its).flatten.length ≤ sizeLine := by
      rw [PyProof.Rows.lm_len_rep_flat, el, sizeLine_eq]
      have := Nat.mul_le_mul (show n.toNat ≤ 1000 by omega) l2
      omega
    have im : ((its.toArray.size : Nat) : Int) * n ≤ 1000000 := by
      rw [List.size_toArray, el]
      have := Int.mul_le_mul (show ((xs.length : Nat) : Int) ≤ 1000 by omega) n2 (by omega) (by omega)
      omega
    refine call_meets F.slot_tuple_mul ⟨_, ho, rfl⟩ F.entry_tuple_mul (F.args_tuple_mul_2 _ _) (tuple_mulW a its.toArray m dd slo n t ?_ ?_ ?_ (by omega) ?_ (by rw [size_rep, List.size_toArray]; exact fl)) ⟨ho, ?_⟩
    · rw [decide_eq_false (by omega : ¬ n < -(2 ^ 63)), decide_eq_false (by omega : ¬ n ≥ 2 ^ 63)]
      rfl
    · rw [emp, Bool.false_or]
      exact beq_eq_false_iff_ne.mpr h1
    · rw [emp, Bool.or_false]
      exact decide_eq_false (by omega)
    · unfold Builtin.Tuple.tupleTooMany
      rw [sizeLine_eq]
      exact decide_eq_false (by omega)
    · rw [size_rep]
      have rr := rv.rep n.toNat
      exact ⟨.ref s.heap.objs.size, _, I.laid (t' := s.toks) (o := .frz { cls := .type "tuple", data := .seq (List.replicate n.toNat its).flatten.toArray } (.tup (List.replicate n.toNat xs).flatten)) (fun b ob e => Heap.get?_push_of_some _ e) (Nat.le_refl _) ⟨Heap.get?_push_size _ rfl, by rw [rr.length]; exact fl, _, rr, IsTup.new _ _⟩, rfl, qn _ _ (I.hok.fresh (Nat.le_refl _)) rfl⟩
section
variable {P : Program} {w : World} {K : PySem.W.Frag} {mg : Str → Option Value} {base : Heap} {sc : Scope} {N : List Str} {vs ls : List Bool} {k : Nat} {X : Cx} {W : WX} {ρ : Rho} {Q : Rho → PyData → Prop} {E : XQ} {a b l e : Expr} {pos p p2 : Pos}
theorem bw_mulT {Q : PyData → Prop} {xs : List PyData} {n : Int} (ne : xs ≠ []) (n1 : 1 ≤ n) (n2 : n ≤ 1000) (l2 : xs.length ≤ 1000) (q : Q (.tuple (List.replicate n.toNat xs).flatten)) : BW X (binaryOp .Mult) (.tuple xs) (.int n) Q := by
  intro F H vx vy R e hx hy kk
  cases hy
  cases hx with
  | @tup aa us _ h1 nd1 d1 =>
    refine wop_of op_mulF ⟨_, _, _, rfl, rfl, e.sqt h1, fun z => ?_, n1, n2, by rw [d1.length]; exact l2, fun z => ?_, fun p o hp ho => fin_tup e hp ho (d1.rep _) kk q⟩
    · subst z
      cases d1
      exact ne rfl
    · subst z
      have q : Q (.tuple (xs ++ [])) := q
      rw [List.append_nil] at q
      exact kk F H _ _ (Gr.refl e) (.tup h1 nd1 d1) q
theorem fin_cut {Q : PyData → Prop} {R : VK} {F H : Hp} {vx : V} {xs : List PyData} {lo hi : Option Int} (e : Ex F H) (dd : DD X.K F vx (.tuple xs)) (kk : ∀ F' H' v d, Gr F H F' H' → DD X.K F' v d → Q d → R v H') (q : Q (.tuple (cutD xs lo hi))) : rCutF X.K vx lo hi H R := by
  cases dd with
  | @tup aa us _ h1 nd1 d1 =>
    refine ⟨_, _, rfl, e.sqt h1, fun z => ?_, fun p o hp ho => fin_tup e hp ho (d1.cut lo hi) kk q⟩
    have dc := d1.cut lo hi
    rw [z] at dc
    exact kk F H _ _ (Gr.refl e) (.tup h1 nd1 dc) q
/-- t[:b], t a tuple -/
theorem ew_cutH (h : EW X W a ρ (fun ρ1 x => ∃ xs, x = .tuple xs ∧ EW X W b ρ1 (fun ρ2 y => ∃ n : Int, y = .int n ∧ Q ρ2 (.tuple (cutD xs none (some n)))) E) E) : EW X W (.Subscript a (.Slice none (some b) none p2) pos) ρ Q E := by
  intro F H σ R wd sl kx kk
  refine of_pe (pe_slice sl_cutF pe_w po_none (po_some pe_w)) ?_
  refine h F H σ _ wd sl kx fun F1 H1 ρ1 x dx st1 wd1 sl1 dd1 z1 => ?_
  obtain ⟨xs, rfl, z1⟩ := z1
  refine z1 F1 H1 σ _ wd1 sl1 (kx.step st1) fun F2 H2 ρ2 y dy st2 wd2 sl2 dd2 z2 => ?_
  obtain ⟨n, rfl, q⟩ := z2
  cases dd2
  exact ⟨n, rfl, fin_cut (Q := Q ρ2) wd2.sub (dd1.mono st2.ex) (fun F3 H3 v d g dd3 q3 => kk F3 H3 ρ2 v d ((st1.trans st2).trans g.stp) (wd2.gr g) (sl2.mono g.ex) dd3 q3) q⟩
/-- t[b:], t a tuple -/
theorem ew_cutL (h : EW X W a ρ (fun ρ1 x => ∃ xs, x = .tuple xs ∧ EW X W b ρ1 (fun ρ2 y => ∃ n : Int, y = .int n ∧ Q ρ2 (.tuple (cutD xs (some n) none))) E) E) : EW X W (.Subscript a (.Slice (some b) none none p2) pos) ρ Q E := by
  intro F H σ R wd sl kx kk
  refine of_pe (pe_slice sl_cutF pe_w (po_some pe_w) po_none) ?_
  refine h F H σ _ wd sl kx fun F1 H1 ρ1 x dx st1 wd1 sl1 dd1 z1 => ?_
  obtain ⟨xs, rfl, z1⟩ := z1
  refine z1 F1 H1 σ _ wd1 sl1 (kx.step st1) fun F2 H2 ρ2 y dy st2 wd2 sl2 dd2 z2 => ?_
  obtain ⟨n, rfl, q⟩ := z2
  cases dd2
  exact ⟨n, rfl, fin_cut (Q := Q ρ2) wd2.sub (dd1.mono st2.ex) (fun F3 H3 v d g dd3 q3 => kk F3 H3 ρ2 v d ((st1.trans st2).trans g.stp) (wd2.gr g) (sl2.mono g.ex) dd3 q3) q⟩
end
theorem cut_from1 {x : PyData} {xs : List PyData} : cutD (x :: xs) (some 1) none = xs := by
  unfold cutD HT.sIx
  simp
/-- t[:-1] -/
theorem cut_last {xs : List PyData} {x : PyData} : cutD (xs ++ [x]) none (some (-1)) = xs := by
  unfold cutD HT.sIx
  simp
  rw [show (-1 + ((xs.length : Int) + 1)).toNat = xs.length by omega, List.take_left]
end Bp

namespace Bp
open PySem PySem.Spec PyProof.Rows L2
/-! ### fields, methods, properties of an owned instance -/
def putFD (f : Str) (d : PyData) : List (Str × PyData) → List (Str × PyData)
  | [] => [(f, d)]
  | (g, x) :: r => if g = f then (g, d) :: r else (g, x) :: putFD f d r
section
variable {K : PySem.W.Frag} {F : Hp} {f : Str} {d : PyData} {v : V}
theorem fvs_cons {g : Str} {x : V} {r : List (Str × V)} {fs : List (Str × PyData)} (h : FVs K F ((g, x) :: r) fs) : ∃ y s, fs = (g, y) :: s ∧ DD K F x y ∧ FVs K F r s := by
  obtain ⟨h1, h2⟩ := h
  cases fs with
  | nil => cases h1
  | cons q s =>
    obtain ⟨g', y⟩ := q
    have e1 : g = g' := (List.cons.inj h1).1
    have e2 : r.map (·.1) = s.map (·.1) := (List.cons.inj h1).2
    subst e1
    cases h2 with
    | cons a b => exact ⟨y, s, rfl, a, e2, b⟩
theorem fvs_of {g : Str} {x : V} {y : PyData} {r : List (Str × V)} {s : List (Str × PyData)} (h : DD K F x y) (t : FVs K F r s) : FVs K F ((g, x) :: r) ((g, y) :: s) := ⟨by show g :: r.map (·.1) = g :: s.map (·.1); rw [t.1], .cons h t.2⟩
theorem fvs_nil {fs : List (Str × PyData)} (h : FVs K F [] fs) : fs = [] := by
  cases fs with
  | nil => rfl
  | cons _ _ => cases h.1
theorem fvs_look : ∀ {gs : List (Str × V)} {fs : List (Str × PyData)}, FVs K F gs fs → fs.lookup f = some d → ∃ v, gs.lookup f = some v ∧ DD K F v d
  | [], fs, h, e => by
    rw [fvs_nil h] at e
    cases e
  | (g, x) :: r, fs, h, e => by
    obtain ⟨y, s, rfl, a, b⟩ := fvs_cons h
    by_cases hg : f = g
    · subst hg
      simp [List.lookup] at e
      subst e
      exact ⟨x, by simp [List.lookup], a⟩
    · have hb : (f == g) = false := beq_eq_false_iff_ne.mpr hg
      simp only [List.lookup, hb] at e ⊢
      exact fvs_look b e
theorem fvs_none : ∀ {gs : List (Str × V)} {fs : List (Str × PyData)}, FVs K F gs fs → fs.lookup f = none → gs.lookup f = none
  | [], _, _, _ => rfl
  | (g, x) :: r, fs, h, e => by
    obtain ⟨y, s, rfl, a, b⟩ := fvs_cons h
    by_cases hg : f = g
    · subst hg
      simp [List.lookup] at e
    · have hb : (f == g) = false := beq_eq_false_iff_ne.mpr hg
      simp only [List.lookup, hb] at e ⊢
      exact fvs_none b e
theorem fvs_put (hd : DD K F v d) : ∀ {gs : List (Str × V)} {fs : List (Str × PyData)}, FVs K F gs fs → FVs K F (putF f v gs) (putFD f d fs)
  | [], fs, h => by
    rw [fvs_nil h]
    exact ⟨rfl, .cons hd .nil⟩
  | (g, x) :: r, fs, h => by
    obtain ⟨y, s, rfl, a, b⟩ := fvs_cons h
    show FVs K F (if g = f then (g, v) :: r else (g, x) :: putF f v r) (if g = f then (g, d) :: s else (g, y) :: putFD f d s)
    by_cases hg : g = f
    · rw [if_pos hg, if_pos hg]
      exact fvs_of hd b
    · rw [if_neg hg, if_neg hg]
      exact fvs_of a (fvs_put hd b)
theorem OO.i {Cl dx : Addr} {gs : List (Str × V)} {fs : List (Str × PyData)} (h : FVs K F gs fs) : OO K F (.ins Cl dx gs) (.ins Cl dx fs) := ⟨gs, rfl, h⟩
theorem fvs_len {gs : List (Str × V)} {fs : List (Str × PyData)} (h : FVs K F gs fs) : gs.length = fs.length := by
  have := congrArg List.length h.1
  rw [List.length_map, List.length_map] at this
  exact this
end
section
variable {P : Program} {w : World} {K : PySem.W.Frag} {mg : Str → Option Value} {base : Heap} {sc : Scope} {N : List Str} {vs ls : List Bool} {k : Nat} {X : Cx} {W : WX} {ρ : Rho} {Q : Rho → PyData → Prop} {Nx : Rho → Prop} {R : Rho → Ret → Prop} {E : XQ} {a b l e : Expr} {es : List Expr} {pos p p2 p3 : Pos} {x y f m : Str} {i j : Nat} {q Cl dx : Addr} {fs : List (Str × PyData)} {d : PyData}
theorem ew_fldO (C : Cxt P w K mg base sc N vs ls k X W) [sx : Slot N x i] (hs : ρ[i]? = some (some (.own q (.ins Cl dx fs)))) (hv : vs[i]? = some true) (c : L2.Cls K Cl) (n : NoAttr K Cl f) (hf : fs.lookup f = some d) (h : Q ρ d)
    (hd : (x == ("__debug__" : Str)) = false := by decide) (hcd : (x == ("__classdict__" : Str)) = false := by decide) (hb : attributeBase (.Name x p) f X.env (eval (.Name x p) X.env) = eval (.Name x p) X.env := by with_unfolding_all rfl) : EW X W (.Attribute (.Name x p) f pos) ρ Q E := by
  intro F H σ R wd sl kx kk
  obtain rfl := C.eK
  refine of_pe (pe_fld (pv_of C hv hd hcd) hb) ?_
  obtain ⟨v, h1, h2⟩ := sl.get i _ hs
  cases (show v = .ref q from h2)
  obtain ⟨f1, ho, hh, gs, rfl, fv⟩ := wd.own i q _ hs
  obtain ⟨u, u1, u2⟩ := fvs_look fv hf
  exact ⟨_, h1, q, Cl, dx, gs, u, rfl, hh, c, n, u1, kk F H ρ u d Stp.refl wd sl u2 h⟩
theorem s1_fldO (C : Cxt P w K mg base sc N vs ls k X W) [sx : Slot N x i] (hs : ρ[i]? = some (some (.own q (.ins Cl dx fs)))) (hv : vs[i]? = some true) (c : L2.Cls K Cl) (n : NoAttr K Cl f)
    (h : EW X W e ρ (fun ρ1 d => ∃ fs1, ρ1[i]? = some (some (.own q (.ins Cl dx fs1))) ∧ fs1.length < 1000 ∧ Nx (ρ1.set i (some (.own q (.ins Cl dx (putFD f d fs1)))))) E)
    (hd : (x == ("__debug__" : Str)) = false := by decide) (hcd : (x == ("__classdict__" : Str)) = false := by decide) (hsw : swapsWith e (some (.Attribute (.Name x p) f p2)) pos.line X.env = pure false := by with_unfolding_all rfl) : S1 X W (.Assign [.Attribute (.Name x p) f p2] e pos) ρ Nx R E := by
  intro F H σ D wd sl kx kn kr
  obtain rfl := C.eK
  refine of_ps (ps_fld (pv_of C hv hd hcd) pe_w hsw) ?_
  refine h F H σ _ wd sl kx fun F1 H1 ρ1 v d st1 wd1 sl1 dd1 q1 => ?_
  obtain ⟨fs1, hq, hl, nx⟩ := q1
  obtain ⟨u, h1, h2⟩ := sl1.get i _ hq
  cases (show u = .ref q from h2)
  obtain ⟨f1, ho, hh, gs, rfl, fv⟩ := wd1.own i q _ hq
  have hne : H1 q ≠ none := by rw [hh]; exact fun z => nomatch z
  have g : GrB q F1 H1 F1 (upd H1 q (.ins Cl dx (putF f v gs))) := GrB.put wd1.sub f1 hne
  exact ⟨_, h1, q, Cl, dx, gs, rfl, hh, c, n, by rw [fvs_len fv]; exact hl, kn F1 _ σ _ (st1.trans (g.stp hq hne)) (g.wd wd1 hq f1 ⟨_, upd_same, OO.i (fvs_put dd1 fv)⟩) (g.sl sl1 hq) nx⟩
/-- the class's method m keeps Pg -/
def MetO (P : Program) (w : World) (K : PySem.W.Frag) (mg : Str → Option Value) (base : Heap) (j : Nat) (Cl : Addr) (m : Str) (Pg : PG1) : Prop :=
  ∃ g fd ps, FnOk P w K mg base (L2.CX P w) j g fd ps (spO K Pg) ∧ L2.Cls K Cl ∧ Meth K Cl m g ∧ Binds K fd ps []
def tMethX (Cl : Addr) (m : Str) (sp : Sp) (E : L2.St → XK) (ta : TE) (t : TA) : TE := fun σ H Q => ta σ H fun x H1 => ∃ a dx fs, x = .ref a ∧ H1 a = some (.ins Cl dx fs) ∧ fs.lookup m = none ∧ t σ H1 fun us H2 => sp (x :: us) H2 Q (E σ)
theorem pe_methX {CX : CXT} {g : Addr} {fd : FuncData} {ps : List Str} {sp : Sp} {Ex : L2.St → XK} {ta : TE} {t : TA} {pl : Sem Bool} {o : Expr} (po : PE X o ta) (c : L2.Cls X.K Cl) (hm : Meth X.K Cl m g) (ok : FnOk X.prog X.w X.K X.mg X.base CX k g fd ps sp) (hr : Room k X.A) (hb : Binds X.K fd ps []) (hx : ∀ σ, PassesAt CX X σ (Ex σ)) (pa : PA X (e :: es) t)
    (hst : starEach (e :: es) X.env = (false, eval e X.env) :: starEach es X.env) (hpl : (backTo pos (starEach es X.env)).any (·.1) = false)
    (hev : eval (.Call (.Attribute o m p2) (e :: es) [] pos) X.env = (do let ov ← eval o X.env; standAt p2.atName; let (f, first) ← holding [ov] (getMethod ov m pl); callWith pos f first (backTo pos (starEach (e :: es) X.env)) (backToKw pos (keywordEach [] X.env)))) :
    PE X (.Call (.Attribute o m p2) (e :: es) [] pos) (tMethX Cl m sp Ex ta t) := by
  refine ⟨fun pins s σ H Q I hw => PySem.W.methodCall_KW (pl := pl) (thn (po.run pins s σ H _ I hw) ?_) hev⟩
  rintro u s1 ⟨xx, H1, I1, rx, aa, dd, gs, rfl, hh, nl, q1⟩
  cases (show u = Value.ref aa from rx)
  refine getmeth_ok I1 hh c hm nl (PySem.W.callWith_K (first := [.ref aa]) (h₀ := X.base) I.ok.mod.kin hm.kp (thn (pa.run pos pins s1 σ H1 _ I1 q1) ?_) hst hpl)
  rintro us s2 ⟨ws, H2, I2, rv, q2⟩
  exact ⟨I2.kIn, run_fnS (us := .ref aa :: us) (vs := .ref aa :: ws) ok hr hb (hx σ) I2 (.cons rfl rv) q2⟩
theorem pe_methX0 {CX : CXT} {g : Addr} {fd : FuncData} {ps : List Str} {sp : Sp} {Ex : L2.St → XK} {ta : TE} {pl : Sem Bool} {o : Expr} (po : PE X o ta) (c : L2.Cls X.K Cl) (hm : Meth X.K Cl m g) (ok : FnOk X.prog X.w X.K X.mg X.base CX k g fd ps sp) (hr : Room k X.A) (hb : Binds X.K fd ps []) (hx : ∀ σ, PassesAt CX X σ (Ex σ))
    (hev : eval (.Call (.Attribute o m p2) [] [] pos) X.env = (do let ov ← eval o X.env; standAt p2.atName; let (f, first) ← holding [ov] (getMethod ov m pl); callWith pos f first (backTo pos (starEach [] X.env)) (backToKw pos (keywordEach [] X.env)))) :
    PE X (.Call (.Attribute o m p2) [] [] pos) (tMethX Cl m sp Ex ta tNil) := by
  refine ⟨fun pins s σ H Q I hw => PySem.W.methodCall_KW (pl := pl) (thn (po.run pins s σ H _ I hw) ?_) hev⟩
  rintro u s1 ⟨xx, H1, I1, rx, aa, dd, gs, rfl, hh, nl, q1⟩
  cases (show u = Value.ref aa from rx)
  exact getmeth_ok I1 hh c hm nl (PySem.W.callWith_K0 (first := [.ref aa]) I1.kIn hm.kp (run_fnS (us := [.ref aa]) (vs := [.ref aa]) ok hr hb (hx σ) I1 (.cons rfl .nil) q1))
theorem ew_methO (C : Cxt P w K mg base sc N vs ls k X W) {Pg : PG1} (G : MetO P w K mg base j Cl m Pg) [sx : Slot N x i] (hs : ρ[i]? = some (some (.own q (.ins Cl dx fs)))) (hv : vs[i]? = some true) (hn : fs.lookup m = none)
    (h : AW X W (e :: es) ρ (fun ρ1 ds => ∃ o1, ρ1[i]? = some (some (.own q o1)) ∧ Pg o1 ds (fun o' d => Q (ρ1.set i (some (.own q o'))) d) (fun o' z => E (ρ1.set i (some (.own q o'))) z)) E) (hj : j ≤ k := by decide)
    (hd : (x == ("__debug__" : Str)) = false := by decide) (hcd : (x == ("__classdict__" : Str)) = false := by decide) (hst : starEach (e :: es) X.env = (false, eval e X.env) :: starEach es X.env := by with_unfolding_all rfl) (hpl : (backTo pos (starEach es X.env)).any (·.1) = false := by with_unfolding_all rfl)
    {pl : Sem Bool} (hev : eval (.Call (.Attribute (.Name x p) m p2) (e :: es) [] pos) X.env = (do let ov ← eval (.Name x p) X.env; standAt p2.atName; let (f, first) ← holding [ov] (getMethod ov m pl); callWith pos f first (backTo pos (starEach (e :: es) X.env)) (backToKw pos (keywordEach [] X.env))) := by with_unfolding_all rfl) :
    EW X W (.Call (.Attribute (.Name x p) m p2) (e :: es) [] pos) ρ Q E := by
  intro F H σ R wd sl kx kk
  obtain ⟨g, fd, ps, ok, c, hm, bd⟩ := G
  have hr : Room j X.A := C.room.mono hj
  have pv := pv_of (p := p) C hv hd hcd
  obtain ⟨rfl, rfl, rfl, rfl, rfl⟩ : X.prog = P ∧ X.w = w ∧ X.K = K ∧ X.mg = mg ∧ X.base = base := ⟨C.eP, C.ew, C.eK, C.eg, C.eb⟩
  refine of_pe (pe_methX pv c hm ok hr bd (fun σ => passAt C.tk σ) pa_w hst hpl hev) ?_
  obtain ⟨v, h1, h2⟩ := sl.get i _ hs
  cases (show v = .ref q from h2)
  obtain ⟨_, ho, hh, gs, rfl, fv⟩ := wd.own i q _ hs
  refine ⟨_, h1, q, dx, gs, rfl, hh, fvs_none fv hn, ?_⟩
  refine h F H σ _ wd sl kx fun F1 H1 ρ1 us ds st1 wd1 sl1 dd1 q1 => ?_
  obtain ⟨o1, hq1, pg⟩ := q1
  obtain ⟨f1, ho, hh1, oo⟩ := wd1.own i q o1 hq1
  have nn : H1 q ≠ none := by rw [hh1]; exact fun z => nomatch z
  refine ⟨F1, q, o1, us, ds, _, _, rfl, wd1.sub, f1, ⟨ho, hh1, oo⟩, dd1, pg, fun F' H' o' v d g fq oq dd qd => ?_, fun F' H' o' z xd g fq oq xa ez => ?_⟩
  · exact kk F' H' _ v d (st1.trans (g.stp hq1 nn)) (g.wd wd1 hq1 fq oq) (g.sl sl1 hq1) dd qd
  · exact kx F' H' σ _ z xd (st1.trans (g.stp hq1 nn)) (g.wd wd1 hq1 fq oq) (g.sl sl1 hq1) xa ez
theorem ew_methO0 (C : Cxt P w K mg base sc N vs ls k X W) {Pg : PG1} (G : MetO P w K mg base j Cl m Pg) [sx : Slot N x i] (hs : ρ[i]? = some (some (.own q (.ins Cl dx fs)))) (hv : vs[i]? = some true) (hn : fs.lookup m = none)
    (h : Pg (.ins Cl dx fs) [] (fun o' d => Q (ρ.set i (some (.own q o'))) d) (fun o' z => E (ρ.set i (some (.own q o'))) z)) (hj : j ≤ k := by decide)
    (hd : (x == ("__debug__" : Str)) = false := by decide) (hcd : (x == ("__classdict__" : Str)) = false := by decide)
    {pl : Sem Bool} (hev : eval (.Call (.Attribute (.Name x p) m p2) [] [] pos) X.env = (do let ov ← eval (.Name x p) X.env; standAt p2.atName; let (f, first) ← holding [ov] (getMethod ov m pl); callWith pos f first (backTo pos (starEach [] X.env)) (backToKw pos (keywordEach [] X.env))) := by with_unfolding_all rfl) :
    EW X W (.Call (.Attribute (.Name x p) m p2) [] [] pos) ρ Q E := by
  intro F H σ R wd sl kx kk
  obtain ⟨g, fd, ps, ok, c, hm, bd⟩ := G
  have hr : Room j X.A := C.room.mono hj
  have pv := pv_of (p := p) C hv hd hcd
  obtain ⟨rfl, rfl, rfl, rfl, rfl⟩ : X.prog = P ∧ X.w = w ∧ X.K = K ∧ X.mg = mg ∧ X.base = base := ⟨C.eP, C.ew, C.eK, C.eg, C.eb⟩
  refine of_pe (pe_methX0 pv c hm ok hr bd (fun σ => passAt C.tk σ) hev) ?_
  obtain ⟨v, h1, h2⟩ := sl.get i _ hs
  cases (show v = .ref q from h2)
  obtain ⟨f1, ho, hh, gs, rfl, fv⟩ := wd.own i q _ hs
  have nn : H q ≠ none := by rw [hh]; exact fun z => nomatch z
  refine ⟨_, h1, q, dx, gs, rfl, hh, fvs_none fv hn, F, q, _, [], [], _, _, rfl, wd.sub, f1, ⟨_, hh, OO.i fv⟩, .nil, h, fun F' H' o' v d g fq oq dd qd => ?_, fun F' H' o' z xd g fq oq xa ez => ?_⟩
  · exact kk F' H' _ v d (g.stp hs nn) (g.wd wd hs fq oq) (g.sl sl hs) dd qd
  · exact kx F' H' σ _ z xd (g.stp hs nn) (g.wd wd hs fq oq) (g.sl sl hs) xa ez
/-- the class's property f keeps Pg -/
def PropO (P : Program) (w : World) (K : PySem.W.Frag) (mg : Str → Option Value) (base : Heap) (j : Nat) (Cl : Addr) (f : Str) (Pg : PG1) : Prop :=
  ∃ pa g fd ps, FnOk P w K mg base (L2.CX P w) j g fd ps (spO K Pg) ∧ L2.Cls K Cl ∧ PropOf K Cl f pa g ∧ Binds K fd ps []
theorem ew_propO (C : Cxt P w K mg base sc N vs ls k X W) {Pg : PG1} (G : PropO P w K mg base j Cl f Pg) [sx : Slot N x i] (hs : ρ[i]? = some (some (.own q (.ins Cl dx fs)))) (hv : vs[i]? = some true)
    (h : Pg (.ins Cl dx fs) [] (fun o' d => Q (ρ.set i (some (.own q o'))) d) (fun _ _ => False)) (hj : j + 1 ≤ k := by decide)
    (hd : (x == ("__debug__" : Str)) = false := by decide) (hcd : (x == ("__classdict__" : Str)) = false := by decide) (hb : attributeBase (.Name x p) f X.env (eval (.Name x p) X.env) = eval (.Name x p) X.env := by with_unfolding_all rfl) : EW X W (.Attribute (.Name x p) f pos) ρ Q E := by
  intro F H σ R wd sl kx kk
  obtain ⟨pa, g, fd, ps, ok, c, hp, bd⟩ := G
  have hr : Room (j + 1) X.A := C.room.mono hj
  have pv := pv_of (p := p) C hv hd hcd
  obtain ⟨rfl, rfl, rfl, rfl, rfl⟩ : X.prog = P ∧ X.w = w ∧ X.K = K ∧ X.mg = mg ∧ X.base = base := ⟨C.eP, C.ew, C.eK, C.eg, C.eb⟩
  refine of_pe (pe_prop (E := fun _ _ _ => False) pv c hp ok hr bd .nil (fun pins σ H s e s' I c => takes_none5 e s' (XE.of_call I (fun _ _ _ z => z.elim) c)) hb) ?_
  obtain ⟨v, h1, h2⟩ := sl.get i _ hs
  cases (show v = .ref q from h2)
  obtain ⟨f1, ho, hh, gs, rfl, fv⟩ := wd.own i q _ hs
  have nn : H q ≠ none := by rw [hh]; exact fun z => nomatch z
  refine ⟨_, h1, q, dx, gs, rfl, hh, F, q, _, [], [], _, _, rfl, wd.sub, f1, ⟨_, hh, OO.i fv⟩, .nil, h, fun F' H' o' v d g fq oq dd qd => ?_, fun F' H' o' z xd g fq oq xa ez => ez⟩
  exact kk F' H' _ v d (g.stp hs nn) (g.wd wd hs fq oq) (g.sl sl hs) dd qd
/-- len(x), x an instance with an own __len__ -/
theorem call_lenO {CX : CXT} {g : Addr} {fd : FuncData} {ps : List Str} {sp : Sp} (c : L2.Cls X.K Cl) (hm : Meth X.K Cl "__len__" g) (ok : FnOk X.prog X.w X.K X.mg X.base (L2.CX X.prog X.w) k g fd ps sp) (hr : Room (k + 1) X.A) (hb : Binds X.K fd ps []) :
    CallR X (.builtin "len") (fun xs H Q => ∃ aa dd gs, xs = [.ref aa] ∧ H aa = some (.ins Cl dd gs) ∧ sp [.ref aa] H (fun v H' => ∃ n : Int, v = .int n ∧ 0 ≤ n ∧ n < 2 ^ 63 ∧ Q (.int n) H') (fun _ _ _ => False)) := by
  intro pins s σ H xs us Q I rv hq
  obtain ⟨aa, dd, gs, rfl, hh, hsp⟩ := hq
  obtain ⟨u, rfl, ru⟩ := vals1 rv
  cases ru
  obtain ⟨mA, O, _, _, _, _⟩ := ins_get I.hok hh
  obtain ⟨od, J, _⟩ := O.look
  obtain ⟨mf, fr⟩ := I.fr
  refine PySem.W.len_K fr I.ok.mod.kin J hm.at_ hm.fn ?_
  have hl : [Value.ref aa].length = ps.length := by rw [← ok.len _ _ _ _ hsp]; rfl
  have bb := hb s [.ref aa] I.kIn (by rw [List.append_nil]; exact hl)
  rw [List.append_nil] at bb
  refine wpAny_call (codeAny_mono (ok.run X.A.in1 X.stack s H ⟨[.ref aa], []⟩ [.ref aa] [.ref aa] _ _ hr.in1 I.env0.in1 bb (.cons rfl .nil) hsp) fun r s' hq => ?_)
  cases r with
  | error er => exact (takes_none5 (X := X.nox) er s' (XE.of_call (I.wish _) (fun _ _ _ z => z.elim) hq)).elim
  | ok fl =>
    cases fl with
    | ret u =>
      obtain ⟨v, H', I3, rw', n, rfl, n0, n1, q3⟩ := I.after hq
      obtain ⟨t, rfl⟩ := rw'
      exact ⟨⟨n0, n1⟩, .int n, H', I3.tok _, ⟨_, rfl⟩, q3⟩
    | next => exact hq.elim
    | brk => exact hq.elim
    | cont => exact hq.elim
theorem ew_lenI (C : Cxt P w K mg base sc N vs ls k X W) (B : Blt mg) {Pg : PG1} (G : MetO P w K mg base j Cl "__len__" Pg) [sx : Slot N x i] (hs : ρ[i]? = some (some (.own q (.ins Cl dx fs)))) (hv : vs[i]? = some true)
    (h : Pg (.ins Cl dx fs) [] (fun o' d => ∃ n : Int, d = .int n ∧ 0 ≤ n ∧ n < 2 ^ 63 ∧ Q (ρ.set i (some (.own q o'))) (.int n)) (fun _ _ => False)) (hj : j + 1 ≤ k := by decide) (hg : sc.names.lookup ("len" : Str) = some .globalImplicit := by decide +kernel)
    (hd : (x == ("__debug__" : Str)) = false := by decide) (hcd : (x == ("__classdict__" : Str)) = false := by decide) (he : starEach [.Name x p2] X.env = (false, eval (.Name x p2) X.env) :: starEach [] X.env := by with_unfolding_all rfl) : EW X W (.Call (.Name "len" p) [.Name x p2] [] pos) ρ Q E := by
  intro F H σ R wd sl kx kk
  obtain ⟨g, fd, ps, ok, c, hm, bd⟩ := G
  have hr : Room (j + 1) X.A := C.room.mono hj
  have hgl := C.gl hg
  have pv := pv_of (p := p2) C hv hd hcd
  have hbl := B.len
  obtain ⟨rfl, rfl, rfl, rfl, rfl⟩ : X.prog = P ∧ X.w = w ∧ X.K = K ∧ X.mg = mg ∧ X.base = base := ⟨C.eP, C.ew, C.eK, C.eg, C.eb⟩
  refine of_pe (pe_callB (call_lenO (CX := L2.CX X.prog X.w) c hm ok hr bd) hgl hbl PySem.boot_len (pa_cons pv pa_nil he) (by decide) (by decide) he (by with_unfolding_all rfl)) ?_
  obtain ⟨v, h1, h2⟩ := sl.get i _ hs
  cases (show v = .ref q from h2)
  obtain ⟨f1, ho, hh, gs, rfl, fv⟩ := wd.own i q _ hs
  have nn : H q ≠ none := by rw [hh]; exact fun z => nomatch z
  refine ⟨_, h1, q, dx, gs, rfl, hh, F, q, _, [], [], _, _, rfl, wd.sub, f1, ⟨_, hh, OO.i fv⟩, .nil, h, fun F' H' o' v d g fq oq dd qd => ?_, fun F' H' o' z xd g fq oq xa ez => ez⟩
  obtain ⟨n, rfl, n0, n1, qd⟩ := qd
  cases dd
  exact ⟨n, rfl, n0, n1, kk F' H' _ _ _ (g.stp hs nn) (g.wd wd hs fq oq) (g.sl sl hs) (.int n) qd⟩
end
end Bp

namespace Bp
open PySem PySem.Spec PyProof.Rows L2
/-! ### pairs of ints in rising order -/
abbrev I2 := Int × Int
def leP (a b : I2) : Prop := a.1 < b.1 ∨ (a.1 = b.1 ∧ a.2 ≤ b.2)
instance (a b : I2) : Decidable (leP a b) := by unfold leP; infer_instance
def insP (x : I2) : List I2 → List I2
  | [] => [x]
  | y :: l => if leP x y then x :: y :: l else y :: insP x l
def srtP : List I2 → List I2
  | [] => []
  | x :: l => insP x (srtP l)
theorem insP_perm (x : I2) : ∀ l : List I2, (insP x l).Perm (x :: l)
  | [] => List.Perm.refl _
  | y :: l => by
    unfold insP
    split
    · exact List.Perm.refl _
    · exact ((insP_perm x l).cons y).trans (List.Perm.swap x y l)
theorem srtP_perm : ∀ l : List I2, (srtP l).Perm l
  | [] => List.Perm.refl _
  | x :: l => (insP_perm x (srtP l)).trans ((srtP_perm l).cons x)
theorem leP_total {a b : I2} (h : ¬ leP a b) : leP b a := by
  unfold leP at h ⊢
  omega
theorem leP_trans {a b c : I2} (h : leP a b) (h' : leP b c) : leP a c := by
  unfold leP at h h' ⊢
  omega
theorem leP_anti {a b : I2} (h : leP a b) (h' : leP b a) : a = b := by
  unfold leP at h h'
  exact Prod.ext (by omega) (by omega)
theorem insP_sorted (x : I2) : ∀ {l : List I2}, l.Pairwise leP → (insP x l).Pairwise leP
  | [], _ => List.pairwise_singleton _ _
  | y :: l, h => by
    have h1 := List.pairwise_cons.mp h
    unfold insP
    split
    · rename_i c
      exact List.pairwise_cons.mpr ⟨fun z hz => by
        rcases List.mem_cons.mp hz with e | hz
        · rw [e]
          exact c
        · exact leP_trans c (h1.1 z hz), h⟩
    · rename_i c
      refine List.pairwise_cons.mpr ⟨fun z hz => ?_, insP_sorted x h1.2⟩
      rcases List.mem_cons.mp ((insP_perm x l).mem_iff.mp hz) with e | hz
      · rw [e]
        exact leP_total c
      · exact h1.1 z hz
theorem srtP_sorted : ∀ l : List I2, (srtP l).Pairwise leP
  | [] => .nil
  | x :: l => insP_sorted x (srtP_sorted l)
theorem srtP_uniq : ∀ {l m : List I2}, l.Perm m → l.Pairwise leP → m.Pairwise leP → l = m
  | [], m, h, _, _ => (List.Perm.eq_nil h.symm).symm
  | x :: l, [], h, _, _ => absurd h.length_eq (by simp)
  | x :: l, y :: m, h, hl, hm => by
    have h1 := List.pairwise_cons.mp hl
    have h2 := List.pairwise_cons.mp hm
    have e : x = y := by
      rcases List.mem_cons.mp (h.mem_iff.mp (List.mem_cons_self (a := x) (l := l))) with e | hx
      · exact e
      · rcases List.mem_cons.mp (h.mem_iff.mpr (List.mem_cons_self (a := y) (l := m))) with e | hy
        · exact e.symm
        · exact leP_anti (h1.1 y hy) (h2.1 x hx)
    subst e
    rw [srtP_uniq h.cons_inv h1.2 h2.2]
theorem srtP_eq {l m : List I2} (h : l.Perm m) : srtP l = srtP m := srtP_uniq ((srtP_perm l).trans (h.trans (srtP_perm m).symm)) (srtP_sorted l) (srtP_sorted m)
abbrev prD (p : I2) : PyData := .tuple [.int p.1, .int p.2]
/-! ### sorted, a list of pairs -/
/-- sorted(xs), xs a list of pairs of ints of any kind (k says which) -/
def rSortQ (K : PySem.W.Frag) : List V → Hp → VK → Prop := fun us H Q => ∃ (a : Addr) (xs : List V) (k : V → Int × Int), us = [V.ref a] ∧ SqL K H a xs ∧ (∀ x ∈ xs, ∃ t, x = V.ref t ∧ SqT K H t [.int (k x).1, .int (k x).2]) ∧ ∀ ys p, SrtO.Srtd (ltP k) ys → ys.Perm xs → H p = none → Q (.ref p) (upd H p (.lst ys))
theorem cr_sortQ {X : Cx} : CallR X (.builtin "sorted") (rSortQ X.K) := by
  intro pins s σ H us vals Q I rv hw
  obtain ⟨a, xs, k, rfl, sq, ps, q⟩ := hw
  obtain ⟨its, ri, isl, le⟩ := I.list sq
  obtain ⟨u, rfl, ru⟩ := vals1 rv
  cases (show u = Value.ref a from ru)
  obtain ⟨b1, b2⟩ := refs_back ri fun x m => let ⟨t, e, _⟩ := ps x m; ⟨t, e⟩
  refine SrtO.sorted_pairsO (k := fun u => k (backV u)) isl.isList (by rw [← ri.length]; exact le) (fun v hv => ?_) fun h' d out s1 s2 kp hd hn => ?_
  · obtain ⟨t, rfl⟩ := b2 v hv
    obtain ⟨t', e, sqt⟩ := ps (V.ref t) (by rw [b1]; exact List.mem_map.mpr ⟨_, hv, rfl⟩)
    cases e
    obtain ⟨its2, r2, ⟨o, ho, hc, n, hdt⟩, _⟩ := I.tuple sqt
    obtain ⟨u1, u2, rfl, ⟨t1, rfl⟩, ⟨t2, rfl⟩⟩ := vals2 r2
    exact ⟨t, o, t1, t2, n, rfl, ho, hc, hdt⟩
  · have rf : ∀ u ∈ out, ∃ a, u = Value.ref a := fun u hu => b2 u (s2.perm.mem_iff.mp hu)
    have pm : (out.map backV).Perm xs := by
      rw [b1]
      exact s2.perm.map backV
    obtain ⟨n, hn⟩ := hn
    exact ⟨.ref d, upd H d (.lst (out.map backV)), I.laid (t' := s.toks) kp hd ⟨by rw [pm.length_eq]; exact le, out, n, vals_back rf, hn⟩, rfl, q _ d (SrtO.srtd_map s1) pm (I.hok.fresh hd)⟩
theorem int_inv {K : PySem.W.Frag} {F : Hp} {i j : Int} (h : DD K F (.int i) (.int j)) : i = j := by
  cases h
  rfl
/-- a pair stands for one pair alone -/
theorem dd_pair {X : Cx} {pins : List (Addr × Obj)} {σ : L2.St} {F H : Hp} {s : Shared} (I : Inv X pins σ H s) (e : Ex F H) {x : V} {p q : I2} (h : DD X.K F x (prD p)) (h' : DD X.K F x (prD q)) : p = q := by
  have at_ : ∀ {a : Addr} {us : List V}, SqT X.K F a us → NoDt F a → ∃ o, F a = some (.frz o (.tup us)) := by
    intro a us sq nd
    obtain ⟨o, u, hf, _⟩ := nd
    rcases sq with (z | ⟨o', z⟩) | ⟨ob, its, n, lk, _⟩
    · rw [hf] at z
      cases z
    · exact ⟨o', z⟩
    · have := (I.bs a ob (I.ok.mod.kin a ob lk)).2
      rw [e a _ hf] at this
      cases this
  cases h with
  | tup s1 n1 d1 =>
    cases h' with
    | tup s2 n2 d2 =>
      obtain ⟨o1, z1⟩ := at_ s1 n1
      obtain ⟨o2, z2⟩ := at_ s2 n2
      rw [z1] at z2
      cases z2
      cases d1 with
      | cons a1 r1 =>
        cases r1 with
        | cons b1 t1 =>
          cases t1
          cases a1
          cases b1
          cases d2 with
          | cons a2 r2 =>
            cases r2 with
            | cons b2 t2 =>
              exact Prod.ext (int_inv a2) (int_inv b2)
section
variable {X : Cx}
theorem bc_sortP {Q : PyData → Prop} {us : List I2} (q : Q (.list ((srtP us).map prD))) : BC X (.builtin "sorted") [.list (us.map prD)] Q := by
  intro F H vs R e hx kk pins s σ uv I rr
  cases hx with
  | cons h hs =>
    cases hs
    cases h with
    | @lst a xs _ hh dd =>
      have hlen : xs.length = us.length := by rw [dd.length, List.length_map]
      have hat : ∀ {i : Nat} {x : V} {p : I2}, xs[i]? = some x → us[i]? = some p → DD X.K F x (prD p) := fun {i x p} hx hp => by
        obtain ⟨d, h1, h2⟩ := dd.getV hx
        rw [List.getElem?_map, hp] at h1
        cases h1
        exact h2
      have kat : ∀ {i : Nat} {x : V} {p : I2}, xs[i]? = some x → us[i]? = some p → us.getD (xs.idxOf x) (0, 0) = p := fun {i x p} hx hp => by
        have hm : x ∈ xs := List.mem_of_getElem? hx
        have hi := List.idxOf_lt_length_of_mem hm
        have hj : xs.idxOf x < us.length := by omega
        have hxx : xs[xs.idxOf x]? = some x := by
          rw [List.getElem?_eq_getElem hi, List.getElem_idxOf hi]
        have hpp : us[xs.idxOf x]? = some us[xs.idxOf x] := List.getElem?_eq_getElem hj
        rw [List.getD_eq_getElem?_getD, hpp]
        exact dd_pair I e (hat hxx hpp) (hat hx hp)
      have kmap : xs.map (fun x => us.getD (xs.idxOf x) (0, 0)) = us := by
        refine List.ext_getElem? fun i => ?_
        rw [List.getElem?_map]
        cases hx : xs[i]? with
        | none =>
          rw [List.getElem?_eq_none_iff] at hx
          rw [List.getElem?_eq_none (by omega)]
          rfl
        | some x =>
          have hi := (List.getElem?_eq_some_iff.mp hx).1
          have hp : us[i]? = some us[i] := List.getElem?_eq_getElem (by omega)
          rw [hp]
          exact congrArg some (kat hx hp)
      have dk : ∀ x ∈ xs, DD X.K F x (prD (us.getD (xs.idxOf x) (0, 0))) := fun x hm => by
        obtain ⟨i, hi, rfl⟩ := List.mem_iff_getElem.mp hm
        have hx : xs[i]? = some xs[i] := List.getElem?_eq_getElem hi
        have hp : us[i]? = some us[i] := List.getElem?_eq_getElem (by omega)
        rw [kat hx hp]
        exact hat hx hp
      refine wca_of cr_sortQ ⟨a, xs, fun x => us.getD (xs.idxOf x) (0, 0), rfl, SqL.of (e _ _ hh), fun x hm => ?_, fun ys p srt pm hp => ?_⟩ pins s σ uv I rr
      · cases dk x hm with
        | @tup t ws _ sq nd ds =>
          cases ds with
          | cons a1 r1 =>
            cases r1 with
            | cons b1 t1 =>
              cases t1
              cases a1
              cases b1
              exact ⟨t, rfl, e.sqt sq⟩
      · have dys : DDs X.K F ys ((ys.map fun x => us.getD (xs.idxOf x) (0, 0)).map prD) := by
          have : ∀ zs : List V, (∀ z ∈ zs, z ∈ xs) → DDs X.K F zs ((zs.map fun x => us.getD (xs.idxOf x) (0, 0)).map prD) := by
            intro zs
            induction zs with
            | nil => exact fun _ => .nil
            | cons z zs ih => exact fun hz => .cons (dk z (hz z List.mem_cons_self)) (ih fun y hy => hz y (List.mem_cons_of_mem _ hy))
          exact this ys fun z hz => pm.mem_iff.mp hz
        have es : ys.map (fun x => us.getD (xs.idxOf x) (0, 0)) = srtP us := by
          refine srtP_uniq ?_ ?_ (srtP_sorted us)
          · have := pm.map (fun x => us.getD (xs.idxOf x) (0, 0))
            rw [kmap] at this
            exact this.trans (srtP_perm us).symm
          · rw [List.pairwise_map]
            refine List.Pairwise.imp (fun {x y} h => ?_) srt
            have := SrtO.lexB_no.mp h
            dsimp only at this
            unfold leP
            omega
        rw [es] at dys
        exact fin_lst e hp dys kk q
theorem bc_sortPE {Q : PyData → Prop} {ds : List PyData} {us : List I2} (ed : ds = us.map prD) (q : Q (.list ((srtP us).map prD))) : BC X (.builtin "sorted") [.list ds] Q := by
  subst ed
  exact bc_sortP q
end
section
variable {X : Cx} {W : WX} {ρ : Rho} {E : XQ} {e : Expr} {es : List Expr} {p : Pos}
/-- *e, e a tuple -/
theorem aw_starT {Q : Rho → List PyData → Prop} (h : EW X W e ρ (fun ρ1 d => ∃ xs, d = .tuple xs ∧ AW X W es ρ1 (fun ρ2 ds => Q ρ2 (xs ++ ds)) E) E) (he : starEach (.Starred e p :: es) X.env = (true, eval e X.env) :: starEach es X.env := by with_unfolding_all rfl) : AW X W (.Starred e p :: es) ρ Q E := by
  intro F H σ R wd sl kx kk
  refine of_pa (StX.pa_star pe_w pa_w he) ?_
  refine h F H σ _ wd sl kx fun F1 H1 ρ1 v d st1 wd1 sl1 dd1 z1 => ?_
  obtain ⟨xs, rfl, z1⟩ := z1
  cases dd1 with
  | @tup a us ds sq nd dd =>
    refine ⟨_, _, rfl, .inl (wd1.sub.sqt sq), ?_⟩
    exact z1 F1 H1 σ _ wd1 sl1 (kx.step st1) fun F2 H2 ρ2 us ds st2 wd2 sl2 dd2 z2 => kk F2 H2 ρ2 _ _ (st1.trans st2) wd2 sl2 ((dd.mono st2.ex).append dd2) z2
end
end Bp

namespace Bp
open PySem PySem.Spec PyProof.Rows L2
/-! ### dicts that are only read, as data -/
def dkD (kvs : List (Key × PyData)) : PyData := .dict (kvs.map fun kv => (kyD kv.1, kv.2))
theorem kyD_inj {a b : Key} (h : kyD a = kyD b) : a = b := by
  cases a <;> cases b <;> simp [kyD] at h <;> rw [h]
theorem kyD_map : ∀ {ks ls : List Key}, ks.map kyD = ls.map kyD → ks = ls
  | [], [], _ => rfl
  | [], _ :: _, h => by cases h
  | _ :: _, [], h => by cases h
  | a :: r, b :: s, h => by
    have h := List.cons.inj h
    rw [kyD_inj h.1, kyD_map h.2]
theorem dd_dk {K : PySem.W.Frag} {F : Hp} {v : V} {kvs : List (Key × PyData)} (h : DD K F v (dkD kvs)) : ∃ a o ws, v = .ref a ∧ F a = some (.frz o (.dK ws)) ∧ KVs K F ws kvs := by
  unfold dkD at h
  generalize hk : (kvs.map fun kv => (kyD kv.1, kv.2)) = kd at h
  cases h with
  | @dct a o ws kvd hf e hs =>
    subst hk
    refine ⟨a, o, ws, rfl, hf, ?_, ?_⟩
    · rw [List.map_map] at e
      have e2 : (ws.map (·.1)).map kyD = (kvs.map (·.1)).map kyD := by
        rw [List.map_map, List.map_map]
        exact e
      exact kyD_map e2
    · rw [List.map_map] at hs
      exact hs
theorem dk_dd {K : PySem.W.Frag} {F : Hp} {a : Addr} {o : Obj} {ws : List (Key × V)} {kvs : List (Key × PyData)} (h : F a = some (.frz o (.dK ws))) (kv : KVs K F ws kvs) : DD K F (.ref a) (dkD kvs) := by
  refine .dct h ?_ ?_
  · rw [List.map_map]
    have := congrArg (List.map kyD) kv.1
    rw [List.map_map, List.map_map] at this
    exact this
  · rw [List.map_map]
    exact kv.2
section
variable {P : Program} {w : World} {K : PySem.W.Frag} {mg : Str → Option Value} {base : Heap} {sc : Scope} {N : List Str} {vs ls : List Bool} {k : Nat} {X : Cx} {W : WX} {ρ : Rho} {Q : Rho → PyData → Prop} {Nx : Rho → Prop} {R : Rho → Ret → Prop} {E : XQ} {a b c e : Expr} {es : List Expr} {pos p p2 p3 apos cpos : Pos} {x y f m : Str} {i j : Nat} {q : Addr}
/-- a new dict, from here on only read -/
theorem ew_frzE (h : EO X W e ρ (fun ρ1 o => ∃ kvs, o = .dic kvs ∧ Q ρ1 (dkD kvs)) E) : EW X W e ρ Q E := by
  intro F H σ R wd sl kx kk
  refine wex_frz (h F H σ _ wd sl kx fun F1 H1 ρ1 pa ho o st1 wd1 sl1 hp fp np hh oo q1 => ?_)
  obtain ⟨kvs, rfl, q1⟩ := q1
  obtain ⟨ws, rfl, kv⟩ := oo
  refine ⟨pa, ws, hh, fun ob => ?_⟩
  have ex : Ex F1 (upd F1 pa (.frz ob (.dK ws))) := Ex.new fp
  have sub : Ex (upd F1 pa (.frz ob (.dK ws))) (upd H1 pa (.frz ob (.dK ws))) := fun z o q => by
    by_cases hz : z = pa
    · subst hz
      rw [upd_same] at q ⊢
      exact q
    · rw [upd_ne hz] at q ⊢
      exact wd1.sub z o q
  have no : ∀ z o, H z = some o → z ≠ pa := fun z o q => ne_of_none q hp
  refine kk _ _ ρ1 _ _ ⟨st1.ex.trans ex, fun z o q n => ?_, fun z o f1 q n => ?_, st1.own, fun z q => ?_⟩ ⟨sub, fun l z o q => ?_, wd1.dis⟩ (sl1.mono ex) (dk_dd upd_same ⟨kv.1, kv.2.mono ex⟩) q1
  · rw [upd_ne (no z o q)]
    exact st1.keep z o q n
  · rw [upd_ne (no z o q)]
    exact st1.fr z o f1 q n
  · by_cases hz : z = pa
    · rw [hz]
      exact hp
    · rw [upd_ne hz] at q
      exact st1.all z q
  · obtain ⟨f2, ho2, h2, o2⟩ := wd1.own l z o q
    have ne : z ≠ pa := fun e => np (e ▸ ⟨l, o, q⟩)
    exact ⟨by rw [upd_ne ne]; exact f2, ho2, by rw [upd_ne ne]; exact h2, o2.mono ex⟩
/-- the slot's dict, from here on only read -/
theorem sw_frzD {sts : List Stmt} {kvs : List (Key × PyData)} (hs : ρ[i]? = some (some (S.own q (.dic kvs)))) (h : SW X W sts (ρ.set i (some (.d (dkD kvs)))) Nx R E) : SW X W sts ρ Nx R E := by
  intro F H σ D wd sl kx kn kr pins s I
  obtain ⟨fp, ho, hh, ws, rfl, kv⟩ := wd.own i q _ hs
  obtain ⟨ob, I2⟩ := I.lock hh True.intro
  have ex : Ex F (upd F q (.frz ob (.dK ws))) := Ex.new fp
  have sub : Ex (upd F q (.frz ob (.dK ws))) (upd H q (.frz ob (.dK ws))) := fun z o e => by
    by_cases hz : z = q
    · subst hz
      rw [upd_same] at e ⊢
      exact e
    · rw [upd_ne hz] at e ⊢
      exact wd.sub z o e
  have ow : Owns ρ q := ⟨i, _, hs⟩
  have back : ∀ (l : Nat) (z : Addr) (o : O), (ρ.set i (some (.d (dkD kvs))))[l]? = some (some (S.own z o)) → ρ[l]? = some (some (S.own z o)) ∧ z ≠ q := fun l z o e => by
    have e2 := set_own noD e
    refine ⟨e2, fun hz => ?_⟩
    subst hz
    have := wd.dis i l z _ o hs e2
    subst this
    rw [List.getElem?_set] at e
    split at e
    · split at e
      · cases (Option.some.inj (Option.some.inj e))
      · cases e
    · rename_i z2
      exact z2 rfl
  have st : Stp ρ (ρ.set i (some (.d (dkD kvs)))) F H (upd F q (.frz ob (.dK ws))) (upd H q (.frz ob (.dK ws))) := by
    refine ⟨ex, fun z o e n => ?_, fun z o f1 e n => ?_, fun z ⟨l, o, e⟩ => .inl ⟨l, o, (back l z o e).1⟩, fun z e => ?_⟩
    · rw [upd_ne (fun (hz : z = q) => n (by rw [hz]; exact ow))]
      exact e
    · rw [upd_ne (fun (hz : z = q) => n (by rw [hz]; exact ow))]
      exact f1
    · by_cases hz : z = q
      · rw [hz, upd_same] at e
        cases e
      · rw [upd_ne hz] at e
        exact e
  have wd2 : Wd X.K (upd F q (.frz ob (.dK ws))) (upd H q (.frz ob (.dK ws))) (ρ.set i (some (.d (dkD kvs)))) := by
    refine ⟨sub, fun l z o e => ?_, fun l l' z o o' e e' => wd.dis l l' z o o' (back l z o e).1 (back l' z o' e').1⟩
    obtain ⟨e2, ne⟩ := back l z o e
    obtain ⟨f2, ho2, h2, o2⟩ := wd.own l z o e2
    exact ⟨by rw [upd_ne ne]; exact f2, ho2, by rw [upd_ne ne]; exact h2, o2.mono ex⟩
  have sl2 : Sl X.K (upd F q (.frz ob (.dK ws))) σ (ρ.set i (some (.d (dkD kvs)))) := by
    refine ⟨by rw [List.length_set]; exact sl.len, fun l z e => ?_⟩
    rw [List.getElem?_set] at e
    split at e
    · rename_i hl
      subst hl
      split at e
      · cases (Option.some.inj (Option.some.inj e))
        obtain ⟨v, h1, h2⟩ := sl.get i _ hs
        cases (show v = .ref q from h2)
        exact ⟨_, h1, dk_dd upd_same ⟨kv.1, kv.2.mono ex⟩⟩
      · cases e
    · obtain ⟨v, h1, h2⟩ := sl.get l z e
      exact ⟨v, h1, h2.mono ex⟩
  exact h _ _ σ D wd2 sl2 (kx.step st) (fun F' H' σ' ρ' s1 w1 l1 n => kn F' H' σ' ρ' (st.trans s1) w1 l1 n) (fun F' H' ρ' v r s1 w1 rt n => kr F' H' ρ' v r (st.trans s1) w1 (rt.back st) n) pins s I2
/-! reading -/
theorem bc_lenDk {Q : PyData → Prop} {kvs : List (Key × PyData)} (q : Q (.int kvs.length)) : BC X (.builtin "len") [dkD kvs] Q := by
  intro F H us R ex hx kk
  cases hx with
  | cons h hs =>
    cases hs
    obtain ⟨aa, o, ws, rfl, hf, kv⟩ := dd_dk h
    have lw : CallR X (.builtin "len") (fun xs H Q => ∃ a kvs, xs = [V.ref a] ∧ Rd H a (.dK kvs) ∧ Q (.int kvs.length) H) := by
      intro pins s σ H xs us Q I r hw
      obtain ⟨a, kvs, rfl, ha, q⟩ := hw
      obtain ⟨u, rfl, ru⟩ := vals1 r
      cases ru
      exact d_len I ha fun t s' I' => ⟨.int kvs.length, H, I', ⟨t, rfl⟩, q⟩
    refine wca_of lw ⟨aa, ws, rfl, .inr ⟨o, ex _ _ hf⟩, ?_⟩
    rw [kv.len]
    exact kk F H _ _ (Gr.refl ex) (.int _) q
/-- e[b], e a dict -/
theorem ew_dgetD (C : Cxt P w K mg base sc N vs ls k X W) (h : EW X W a ρ (fun ρ1 x => EW X W b ρ1 (fun ρ2 y => ∃ kvs k d, x = dkD kvs ∧ y = kyD k ∧ valD kvs k = some d ∧ Q ρ2 d) E) E) (hn : NoSl b := by with_unfolding_all exact fun _ _ => rfl) : EW X W (.Subscript a b pos) ρ Q E := by
  intro F H σ R wd sl kx kk
  refine of_pe (pe_dget C.hu pe_w pe_w hn) ?_
  refine h F H σ _ wd sl kx fun F1 H1 ρ1 v1 x1 st1 wd1 sl1 dd1 z1 => ?_
  refine z1 F1 H1 σ _ wd1 sl1 (kx.step st1) fun F2 H2 ρ2 v2 y2 st2 wd2 sl2 dd2 z2 => ?_
  obtain ⟨kvs, ky, d, rfl, rfl, hd, q⟩ := z2
  obtain ⟨aa, o, ws, rfl, hf, kv⟩ := dd_dk (dd1.mono st2.ex)
  have ey : v2 = kV ky := by
    cases ky with
    | inl n => cases dd2; rfl
    | inr s => cases dd2; rfl
  subst ey
  rcases kv.val ky with ⟨e1, e2⟩ | ⟨v', d', e1, e2, dd⟩
  · rw [e2] at hd
    cases hd
  · rw [e2] at hd
    cases hd
    exact ⟨aa, v', rfl, .inl ⟨ws, ky, .inr ⟨o, wd2.sub _ _ hf⟩, rfl, e1.symm⟩, kk F2 H2 ρ2 _ _ (st1.trans st2) wd2 sl2 dd q⟩
/-- e.get(b, c), e a dict -/
theorem ew_getD (C : Cxt P w K mg base sc N vs ls k X W) (h : EW X W a ρ (fun ρ0 x => ∃ kvs, x = dkD kvs ∧ EW X W b ρ0 (fun ρ1 y => EW X W c ρ1 (fun ρ2 z => ∃ k, y = kyD k ∧ Q ρ2 ((valD kvs k).getD z)) E) E) E)
    (m : M2 X a "get" apos b c cpos := by exact ⟨by with_unfolding_all rfl, by with_unfolding_all rfl, by with_unfolding_all rfl, by with_unfolding_all rfl⟩) : EW X W (.Call (.Attribute a "get" apos) [b, c] [] cpos) ρ Q E := by
  intro F H σ R wd sl kx kk
  refine of_pe (pe_dget2 C.hu pe_w pe_w pe_w m) ?_
  refine h F H σ _ wd sl kx fun F0 H0 ρ0 v0 x0 st0 wd0 sl0 dd0 z0 => ?_
  obtain ⟨kvs, rfl, z0⟩ := z0
  obtain ⟨aa, o, ws, rfl, hf, kv⟩ := dd_dk dd0
  refine ⟨aa, rfl, .inl ⟨ws, .inr ⟨o, wd0.sub _ _ hf⟩⟩, ?_⟩
  refine z0 F0 H0 σ _ wd0 sl0 (kx.step st0) fun F1 H1 ρ1 v1 y1 st1 wd1 sl1 dd1 z1 => ?_
  have s01 := st0.trans st1
  refine z1 F1 H1 σ _ wd1 sl1 (kx.step s01) fun F2 H2 ρ2 v2 y2 st2 wd2 sl2 dd2 z2 => ?_
  obtain ⟨ky, rfl, q⟩ := z2
  have ey : v1 = kV ky := by
    cases ky with
    | inl n => cases dd1; rfl
    | inr s => cases dd1; rfl
  subst ey
  refine ⟨valV ws ky, .inl ⟨ws, ky, .inr ⟨o, wd2.sub _ _ (st2.ex _ _ (st1.ex _ _ hf))⟩, rfl, rfl⟩, ?_⟩
  have kv2 : KVs X.K F2 ws kvs := ⟨kv.1, (kv.2.mono st1.ex).mono st2.ex⟩
  rcases kv2.val ky with ⟨e1, e2⟩ | ⟨v', d', e1, e2, dd⟩
  · rw [e2] at q
    rw [e1]
    exact kk F2 H2 ρ2 _ _ (s01.trans st2) wd2 sl2 dd2 q
  · rw [e2] at q
    rw [e1]
    exact kk F2 H2 ρ2 _ _ (s01.trans st2) wd2 sl2 dd q
/-- for k in e, e a dict: its keys -/
theorem itd_dk {F : Hp} {aa : Addr} {o : Obj} {ws : List (Key × V)} {kvs : List (Key × PyData)} (hf : F aa = some (.frz o (.dK ws))) (kv : KVs K F ws kvs) : ItD K F (Itk aa o ws) (kvs.map fun kv => kyD kv.1) where
  go := fun F' H l ex sub hl => ⟨sub _ _ (ex _ _ hf), by rw [kv.len]; rw [List.length_map] at hl; exact hl⟩
  yld := fun F' H l y H' d ex sub hd hy => by
    obtain ⟨rfl, ky, v, h1, rfl⟩ := hy
    refine ⟨F', Gr.refl sub, ?_⟩
    have e1 : (ws.map (·.1))[l]? = some ky := by rw [List.getElem?_map, h1]; rfl
    rw [kv.1, List.getElem?_map] at e1
    rw [List.getElem?_map] at hd
    cases hk : kvs[l]? with
    | none =>
      rw [hk] at hd
      cases hd
    | some z =>
      rw [hk] at hd e1
      cases (Option.some.inj hd)
      have e2 : z.1 = ky := Option.some.inj e1
      show DD K F' (kV ky) (kyD z.1)
      rw [e2]
      cases ky with
      | inl n => exact .int n
      | inr s => exact .str s
  stop := fun F' H ex sub => ⟨sub _ _ (ex _ _ hf), by rw [List.length_map, kv.len]; exact Nat.le_refl _⟩
theorem iw_dk {tg iter : Expr} {Q : Rho → List PyData → Prop} (h : EW X W iter ρ (fun ρ1 d => ∃ kvs, d = dkD kvs ∧ Q ρ1 (kvs.map fun kv => kyD kv.1)) E) : IW X W tg iter ρ Q E := by
  intro F H σ R wd sl kx kk
  refine of_pi (pi_keys pe_w) ?_
  refine h F H σ _ wd sl kx fun F1 H1 ρ1 v d st1 wd1 sl1 dd z => ?_
  obtain ⟨kvs, rfl, z⟩ := z
  obtain ⟨aa, o, ws, rfl, hf, kv⟩ := dd_dk dd
  exact ⟨aa, o, rfl, .inl ⟨ws, wd1.sub _ _ hf, kk F1 H1 ρ1 _ _ st1 wd1 sl1 (itd_dk hf kv) z⟩⟩
/-! list(e.values()) -/
def vwO (v a : Addr) : HO := .ext fun h => h.IsValuesView v a
theorem vwO_ok {P : Program} {w : World} {H : Hp} {h : Heap} {v a : Addr} (x : h.IsValuesView v a) : ObjOk P w H h v (vwO v a) := by
  obtain ⟨o, ho, r⟩ := id x
  exact ⟨x, ⟨o, ho⟩, fun h1 h2 ⟨o', ho', r'⟩ kp => ⟨o', kp o' ho', r'⟩⟩
def tVw (td : TE) : TE := fun σ H Q => td σ H fun x H1 => ∃ a ws, x = .ref a ∧ Rd H1 a (.dK ws) ∧ ∀ v, H1 v = none → Q (.ref v) (upd H1 v (vwO v a))
theorem pe_vw {o : Expr} {td : TE} (hd : PE X o td) (hbase : attributeBase o "values" X.env (eval o X.env) = eval o X.env) (hline : (apos.endLine == cpos.line) = true) : PE X (.Call (.Attribute o "values" apos) [] [] cpos) (tVw td) := by
  refine ⟨fun pins s σ H Q I hw => wpAny_Call_method (T := "dict") (id := "dict.values") hbase rfl hline F.plainAttrs_dict F.slot_dict_values F.type_dict_values (thn (hd.run pins s σ H _ I hw) ?_)⟩
  rintro u s1 ⟨xx, H1, I1, rx, aa, ws, rfl, rd, q1⟩
  cases (show u = Value.ref aa from rx)
  obtain ⟨_, hsys, us, rel, dof⟩ := dk_rd I1.hok rd
  refine ⟨dof.typeIs, dof.mapOf.noDict, ?_⟩
  show wpAny _ _ (callWith cpos (.builtin "dict.values") [.ref aa] [] []) _ X.xe s1
  refine method_meetsIn F.slot_dict_values F.entry_dict_values rfl (PySem.evalArgs_none ⟨rfl, dof.typeIs, F.args_dict_values_1 _, _, meets_dict_values (mixKind X.prog X.w) aa hsys, ⟨us, dof⟩, ?_⟩)
  exact ⟨.ref s1.heap.objs.size, _, I1.laid (t' := s1.toks) (fun b u e => Heap.get?_push_of_some _ e) (Nat.le_refl _) (vwO_ok ⟨_, Heap.get?_push_size _ rfl, rfl, rfl⟩), rfl, q1 _ (I1.hok.fresh (Nat.le_refl _))⟩
theorem call_list_vw (hc : X.calm = true) : CallR X (.type "list") (fun xs H Q => ∃ v a ws, xs = [.ref v] ∧ H v = some (vwO v a) ∧ Rd H a (.dK ws) ∧ ∀ l, H l = none → Q (.ref l) (upd H l (.lst (ws.map (·.2))))) := by
  intro pins s σ H xs us Q I rv hw
  obtain ⟨v, aa, ws, rfl, hv, rd, q⟩ := hw
  obtain ⟨u, rfl, ru⟩ := vals1 rv
  cases ru
  obtain ⟨z, lo, ks, rel, dof⟩ := dk_rd I.hok rd
  obtain ⟨ep, dat⟩ := dof.dictAt
  have hview : s.heap.IsValuesView v aa := (show ObjOk X.prog X.w H s.heap v (vwO v aa) from I.hok v _ hv).1
  have el : ws.length = ks.length := Paired.length rel
  refine PySem.W.kdl_call (PySem.W.kdl_values (knd := mixKind X.prog X.w) (kvs := ks) (ep := ep)) (I.ok.hd hc) ⟨hview, dat⟩ (by rw [← el]; exact z) fun h' tk acc' c' hkeep hS hacc => ?_
  have lw : (ws.map (·.2)).length = ws.length := List.length_map ..
  refine ⟨.ref s.heap.objs.size, upd H s.heap.objs.size (.lst (ws.map (·.2))), I.laid hkeep (Nat.le_refl _) (show ObjOk X.prog X.w _ _ _ (.lst (ws.map (·.2))) from ⟨by rw [lw]; exact z, acc'.toList, c', ?_, ?_⟩), rfl, q _ (I.hok.fresh (Nat.le_refl _))⟩
  · have ea : acc'.toList.length = acc'.size := by simp
    refine vals_of_at (by rw [lw, ea, hacc.1, el]) fun j x wv h1 h2 => ?_
    obtain ⟨ky, hky⟩ := hacc.2 j wv (by rw [← Array.getElem?_toList]; exact h2)
    obtain ⟨x', h3, h4⟩ := KV.at' rel hky
    rw [List.getElem?_map, h3] at h1
    cases h1
    exact h4
  · simpa using hS
theorem ew_valsD (C : Cxt P w K mg base sc N vs ls k X W) (B : Blt mg) (h : EW X W a ρ (fun ρ1 x => ∃ kvs, x = dkD kvs ∧ Q ρ1 (.list (kvs.map (·.2)))) E) (hg : sc.names.lookup ("list" : Str) = some .globalImplicit := by decide +kernel)
    (hbase : attributeBase a "values" X.env (eval a X.env) = eval a X.env := by with_unfolding_all rfl) (hline : (apos.endLine == cpos.line) = true := by with_unfolding_all rfl) (he : starEach [Expr.Call (.Attribute a "values" apos) [] [] cpos] X.env = (false, eval (Expr.Call (.Attribute a "values" apos) [] [] cpos) X.env) :: starEach [] X.env := by with_unfolding_all rfl) :
    EW X W (.Call (.Name "list" p) [.Call (.Attribute a "values" apos) [] [] cpos] [] pos) ρ Q E := by
  intro F H σ R wd sl kx kk
  refine of_pe (pe_callTy (call_list_vw C.calm) (C.gl hg) (by rw [C.eg]; exact B.list) (by decide +kernel) (pa_cons (pe_vw pe_w hbase hline) pa_nil he) (by decide) (by decide) he (by with_unfolding_all rfl)) ?_
  refine h F H σ _ wd sl kx fun F1 H1 ρ1 v x st1 wd1 sl1 dd1 z1 => ?_
  obtain ⟨kvs, rfl, q⟩ := z1
  obtain ⟨aa, o, ws, rfl, hf, kv⟩ := dd_dk dd1
  have ha : H1 aa = some (.frz o (.dK ws)) := wd1.sub _ _ hf
  refine ⟨aa, ws, rfl, .inr ⟨o, ha⟩, fun v hv => ?_⟩
  have g1 : Gr F1 H1 F1 (upd H1 v (vwO v aa)) := Gr.side wd1.sub hv
  refine ⟨v, aa, ws, rfl, upd_same, .inr ⟨o, by rw [upd_ne (ne_of_none ha hv)]; exact ha⟩, fun l hl => ?_⟩
  have g2 := Gr.new (o := .lst (ws.map (·.2))) g1.sub hl
  have g := g1.trans g2
  exact kk _ _ ρ1 _ _ (st1.trans g.stp) (wd1.gr g) (sl1.mono g.ex) (.lst upd_same (kv.2.mono g.ex)) q
end
end Bp

namespace Bp
open PySem PySem.Spec PyProof.Rows L2
/-! ### the head, with the getters of properties -/
def fnAt (K : PySem.W.Frag) (a : Addr) : He.FnW := match K.lookup a with
  | some ⟨_, _, .func fd, _⟩ => some (fd.name, fd.qualname, fd.params, fd.body, fd.scope, fd.globals, fd.closure, fd.builtins)
  | _ => none
/-- the getter of the property f of the class x -/
def prA (x f : Str) (K : PySem.W.Frag) : Addr := match PySem.W.recIn K (He.ma K (cA K x) f) "property" with
  | some (.ref g :: _) => g
  | _ => 0
structure GetD where
  cls : Str
  prop : Str
  qual : Str
  params : Arguments
  body : List Stmt
  scope : Scope
def GetD.val (g : GetD) : He.FnW := some (g.prop, g.qual, g.params, .stmts g.body, g.scope, mainGlobals, [], builtinsNs)
def codeB (K : PySem.W.Frag) (a : Addr) (qual : Str) : Bool := PySem.W.keepIn K (.ref a) && (match K.lookup a with
  | some ⟨_, _, .func fd, _⟩ => PySem.W.codeIn K fd.code qual && (He.dflB K fd.defaults [] && He.kwdB K fd.kwdefaults [])
  | _ => false)
def propB (x f : Str) (K : PySem.W.Frag) : Bool := decide (PySem.W.findIn K (.ref (cA K x)) f = some (some (.ref (He.ma K (cA K x) f)))) && (decide (PySem.W.specialIn K (.ref (He.ma K (cA K x) f)) "__get__" = some (some (.builtin "property.__get__"))) && (decide (PySem.W.takesIn K (.ref (He.ma K (cA K x) f)) = some true) && (match PySem.W.recIn K (He.ma K (cA K x) f) "property" with
  | some (.ref _ :: _) => true
  | _ => false)))
def GetD.ok (g : GetD) (K : PySem.W.Frag) : Bool := codeB K (prA g.cls g.prop K) g.qual && propB g.cls g.prop K
theorem propB_ok {x f : Str} {K : PySem.W.Frag} (h : propB x f K = true) : PropOf K (cA K x) f (He.ma K (cA K x) f) (prA x f K) := by
  obtain ⟨h1, h⟩ := He.ba h
  obtain ⟨h2, h⟩ := He.ba h
  obtain ⟨h3, h4⟩ := He.ba h
  refine ⟨of_decide_eq_true h1, of_decide_eq_true h2, of_decide_eq_true h3, ?_⟩
  unfold prA
  split at h4
  · rename_i g r e
    exact ⟨r, by rw [e]⟩
  · cases h4
theorem funD_at {K : PySem.W.Frag} {a : Addr} {nm qual : Str} {params : Arguments} {body : List Stmt} {scope : Scope} (e : fnAt K a = some (nm, qual, params, .stmts body, scope, mainGlobals, [], builtinsNs)) (c : codeB K a qual = true) : ∃ fd, FunD K nm qual params body scope [] [] a fd := by
  obtain ⟨kp, c2⟩ := He.ba c
  unfold fnAt at e
  cases lk : K.lookup a with
  | none =>
    rw [lk] at c2
    cases c2
  | some ob =>
    obtain ⟨oc, od, dt, osl⟩ := ob
    rw [lk] at c2 e
    cases dt with
    | func fd =>
      obtain ⟨f1, f2, f3, f4, f5, f6, f7, f8, f9, f10, f11, f12, f13, f14, f15⟩ := fd
      have e2 : (some (f1, f2, f3, f4, f5, f6, f7, f15) : He.FnW) = some (nm, qual, params, .stmts body, scope, mainGlobals, [], builtinsNs) := e
      simp only [Option.some.injEq, Prod.mk.injEq] at e2
      obtain ⟨rfl, rfl, rfl, rfl, rfl, rfl, rfl, rfl⟩ := e2
      have c3 : (PySem.W.codeIn K f13 f2 && (He.dflB K f8 [] && He.kwdB K f9 [])) = true := c2
      obtain ⟨k1, c4⟩ := He.ba c3
      obtain ⟨k2, k3⟩ := He.ba c4
      exact ⟨_, ⟨oc, od, f8, f9, f10, f11, f12, f13, f14, osl, rfl, lk, k1, He.dflB_ok k2, He.kwdB_ok k3⟩, kp⟩
    | _ => cases c2
abbrev AlN : Type := AlM × List He.FnW
def obsN (fa : List He.Fa) (fn : List He.DefD) (l : List Ex1) (gs : List GetD) (K : PySem.W.Frag) : AlN := (obsM fa fn (l ++ gs.map GetD.ok) K, gs.map fun g => fnAt K (prA g.cls g.prop K))
def obsNG (n : Nat) (fa : List He.Fa) (fn : List He.DefD) (l : List Ex1) (gs : List GetD) (g : Addr → Option Obj) : AlN := obsN fa fn l gs (He.frG g (He.asD g n))
structure SaysN (fa : List He.Fa) (fn : List He.DefD) (l : List Ex1) (gs : List GetD) (K : PySem.W.Frag) : Prop where
  d : He.SaysD fa fn K
  x : exAll l K = true ∧ gs.all (fun g => g.ok K) = true ∧ (gs.map fun g => fnAt K (prA g.cls g.prop K)) = gs.map GetD.val
def hookN (n : Nat) (fa : List He.Fa) (fn : List He.DefD) (l : List Ex1) (gs : List GetD) : PySem.W.Hook where
  α := AlN
  obs := fun s => obsNG n fa fn l gs s.heap.get?
  val := fun _ => ((He.valD fn, true), gs.map GetD.val)
  says := fun _ h => ∃ K : PySem.W.Frag, K.In h ∧ SaysN fa fn l gs K
  of := fun _ _ e => by
    refine ⟨_, He.frG_in, congrArg (fun z : AlN => z.1.1) e, ?_⟩
    have e2 : exAll (l ++ gs.map GetD.ok) _ = true := congrArg (fun z : AlN => z.1.2) e
    unfold exAll at e2
    rw [List.all_append, List.all_map] at e2
    obtain ⟨a, b⟩ := He.ba e2
    exact ⟨a, b, congrArg (fun z : AlN => z.2) e⟩
  keeps := fun _ _ _ ⟨K, hK, c⟩ st => ⟨K, PySem.W.Frag.In.keeps hK st, c⟩
theorem obsNG_eq {n : Nat} {fa : List He.Fa} {fn : List He.DefD} {l : List Ex1} {gs : List GetD} {g : Addr → Option Obj} {s : Shared} (h : ∀ a, g a = s.heap.get? a) : obsNG n fa fn l gs g = (hookN n fa fn l gs).obs s := by
  rw [show g = s.heap.get? from funext h]
  rfl
theorem get_at {fa : List He.Fa} {fn : List He.DefD} {l : List Ex1} {gs : List GetD} {K : PySem.W.Frag} (c : SaysN fa fn l gs K) (i : Nat) {g : GetD} (h : gs[i]? = some g) : PropOf K (cA K g.cls) g.prop (He.ma K (cA K g.cls) g.prop) (prA g.cls g.prop K) ∧ ∃ fd, FunD K g.prop g.qual g.params g.body g.scope [] [] (prA g.cls g.prop K) fd := by
  obtain ⟨h1, h2⟩ := He.ba (List.all_eq_true.mp c.x.2.1 g (List.mem_of_getElem? h))
  have e : (gs.map fun g => fnAt K (prA g.cls g.prop K))[i]? = (gs.map GetD.val)[i]? := by rw [c.x.2.2]
  rw [List.getElem?_map, List.getElem?_map, h] at e
  exact ⟨propB_ok h2, funD_at (Option.some.inj e) h1⟩
end Bp

namespace Bp
open PySem PySem.Spec PyProof.Rows L2
/-! ### lists that a slot owns: + , != [] and pop() -/
section
variable {P : Program} {w : World} {K : PySem.W.Frag} {mg : Str → Option Value} {base : Heap} {sc scope : Scope} {N : List Str} {vs ls vb lb : List Bool} {k : Nat} {X : Cx} {W : WX} {ρ : Rho} {Q : Rho → PyData → Prop} {E : XQ} {Nx : Rho → Prop} {R : Rho → Ret → Prop} {a b c e elt iter : Expr} {pos p p2 p3 px py pt apos cpos spos : Pos} {x y z : Str} {i j l kt kt2 : Nat}
theorem en_addO (C : Cxt P w K mg base sc N vs ls k X W) [sx : Slot N x i] {q : Addr} {ds0 : List PyData} {Q : Rho → List PyData → Prop} (hs : ρ[i]? = some (some (.own q (.lst ds0)))) (hv : vs[i]? = some true) (h : EW X W b ρ (fun ρ2 y => ∃ ds ys, ρ2[i]? = some (some (.own q (.lst ds))) ∧ y = .list ys ∧ ds.length + ys.length ≤ 16777216 ∧ Q ρ2 (ds ++ ys)) E)
    (hd : (x == ("__debug__" : Str)) = false := by decide) (hcd : (x == ("__classdict__" : Str)) = false := by decide) : EN X W (.BinOp (.Name x p) .Add b pos) ρ Q E := by
  intro F H σ R wd sl kx kk
  refine of_pe (pe_op op_cat (pv_of C hv hd hcd) pe_w) ?_
  obtain ⟨v, h1, h2⟩ := sl.get i _ hs
  cases (show v = .ref q from h2)
  refine ⟨_, h1, ?_⟩
  refine h F H σ _ wd sl kx fun F2 H2 ρ2 y dy st2 wd2 sl2 dd2 h2 => ?_
  obtain ⟨ds, ys, hq, rfl, hl, q2⟩ := h2
  obtain ⟨f1, ho, hh, xs, rfl, dd⟩ := wd2.own i q _ hq
  cases dd2 with
  | lst q2 d2 =>
    refine ⟨_, _, _, _, rfl, rfl, hh, wd2.sub _ _ q2, by rw [dd.length, d2.length, sizeLine_eq]; exact hl, fun p hp => ?_⟩
    exact en_fin kk st2 wd2 sl2 hp (dd.append d2) (by assumption)
theorem ew_neLO (C : Cxt P w K mg base sc N vs ls k X W) [sx : Slot N x i] {q : Addr} {ds : List PyData} (hs : ρ[i]? = some (some (.own q (.lst ds)))) (hv : vs[i]? = some true) (hsh : SeqAt.shaped (.list ds) = true) (h : Q ρ (.bool (!ds.isEmpty)))
    (hd : (x == ("__debug__" : Str)) = false := by decide) (hcd : (x == ("__classdict__" : Str)) = false := by decide) (hm : behindInMarks .NotEq (.List [] p2) = false := by with_unfolding_all rfl) : EW X W (.Compare (.Name x p) [.NotEq] [.List [] p2] pos) ρ Q E := by
  intro F H σ R wd sl kx kk
  refine of_pe (pe_cmpR (op_neD C.room.units) (pv_of C hv hd hcd) (pe_lst pa_nil) hm) ?_
  obtain ⟨v, h1, h2⟩ := sl.get i _ hs
  cases (show v = .ref q from h2)
  obtain ⟨f1, ho, hh, xs, rfl, dd⟩ := wd.own i q _ hs
  refine ⟨_, h1, ⟨by rw [sizeLine_eq]; exact Nat.zero_le _, fun r hr => ?_⟩⟩
  have ne : q ≠ r := fun z => by
    subst z
    rw [hh] at hr
    cases hr
  have g : Gr F H F (upd H r (.lst [])) := Gr.side wd.sub hr
  have hq : upd H r (.lst []) q = some (.lst xs) := by rw [upd_ne ne]; exact hh
  have sub : Ex F (upd H r (.lst [])) := (wd.gr g).sub
  refine ⟨.list ds, .list [], .lst (SqL.of hq) (DpAll.ex sub (dds_dp dd (by have := SeqAt.canLay_of_shaped hsh; simpa [PyData.canLay0] using this))), .lst (SqL.of upd_same) .nil, hsh, by decide, ?_⟩
  have e : (!PyData.eqv (.list ds) (.list [])) = !ds.isEmpty := by
    cases ds <;> rfl
  rw [e]
  exact kk F _ ρ _ _ g.stp (wd.gr g) sl (.bl _) h
theorem tw_neLO (C : Cxt P w K mg base sc N vs ls k X W) [sx : Slot N x i] {q : Addr} {ds : List PyData} {Q : Rho → Bool → Prop} (hs : ρ[i]? = some (some (.own q (.lst ds)))) (hv : vs[i]? = some true) (hsh : SeqAt.shaped (.list ds) = true) (h : Q ρ (!ds.isEmpty))
    (hd : (x == ("__debug__" : Str)) = false := by decide) (hcd : (x == ("__classdict__" : Str)) = false := by decide) (hm : behindInMarks .NotEq (.List [] p2) = false := by with_unfolding_all rfl) : TW X W (.Compare (.Name x p) [.NotEq] [.List [] p2] pos) ρ Q E := by
  intro F H σ R wd sl kx kk
  refine of_pt (pt_cmpR (op_neD C.room.units) (pv_of C hv hd hcd) (pe_lst pa_nil) hm) ?_
  obtain ⟨v, h1, h2⟩ := sl.get i _ hs
  cases (show v = .ref q from h2)
  obtain ⟨f1, ho, hh, xs, rfl, dd⟩ := wd.own i q _ hs
  refine ⟨_, h1, ⟨by rw [sizeLine_eq]; exact Nat.zero_le _, fun r hr => ?_⟩⟩
  have ne : q ≠ r := fun z => by
    subst z
    rw [hh] at hr
    cases hr
  have g : Gr F H F (upd H r (.lst [])) := Gr.side wd.sub hr
  have hq : upd H r (.lst []) q = some (.lst xs) := by rw [upd_ne ne]; exact hh
  have sub : Ex F (upd H r (.lst [])) := (wd.gr g).sub
  refine ⟨.list ds, .list [], .lst (SqL.of hq) (DpAll.ex sub (dds_dp dd (by have := SeqAt.canLay_of_shaped hsh; simpa [PyData.canLay0] using this))), .lst (SqL.of upd_same) .nil, hsh, by decide, ?_⟩
  have e : (!PyData.eqv (.list ds) (.list [])) = !ds.isEmpty := by
    cases ds <;> rfl
  rw [e]
  exact ⟨_, rfl, kk F _ ρ _ g.stp (wd.gr g) sl h⟩
/-- xs.pop() -/
theorem ew_popO (C : Cxt P w K mg base sc N vs ls k X W) [sx : Slot N x i] {q : Addr} {ds : List PyData} {d : PyData} (hs : ρ[i]? = some (some (.own q (.lst (ds ++ [d]))))) (hv : vs[i]? = some true) (h : Q (ρ.set i (some (.own q (.lst ds)))) d)
    (hd : (x == ("__debug__" : Str)) = false := by decide) (hcd : (x == ("__classdict__" : Str)) = false := by decide)
    (hbm : PE X (.Name x p) (tVar i) → PE X (.Call (.Attribute (.Name x p) "pop" p2) [] [] pos) (tBM X.K "list" rPop (tVar i) tNil) := by intro h1; exact pe_bm0 PySem.F.plainAttrs_list PySem.F.slot_list_pop PySem.F.type_list_pop mt_pop h1 (by with_unfolding_all rfl) (by with_unfolding_all rfl)) : EW X W (.Call (.Attribute (.Name x p) "pop" p2) [] [] pos) ρ Q E := by
  intro F H σ R wd sl kx kk
  refine of_pe (hbm (pv_of C hv hd hcd)) ?_
  obtain ⟨v, h1, h2⟩ := sl.get i _ hs
  cases (show v = .ref q from h2)
  refine ⟨_, h1, ty_list wd hs, ?_⟩
  obtain ⟨f1, ho, hh, xs, rfl, dd⟩ := wd.own i q _ hs
  have hl : xs.length = ds.length + 1 := by rw [dd.length, List.length_append]; rfl
  obtain ⟨u, u1, u2⟩ := dd.get (show (ds ++ [d])[ds.length]? = some d by simp)
  have dd' : DDs X.K F xs.dropLast ds := by
    have := dd.take ds.length
    rw [show (ds ++ [d]).take ds.length = ds by simp] at this
    rw [List.dropLast_eq_take, hl]
    exact this
  obtain ⟨s2, w2, l2⟩ := own_upd wd sl hs f1 hh dd'
  exact ⟨q, xs, u, rfl, rfl, hh, by rw [hl]; exact u1, kk F _ _ u d s2 w2 l2 u2 h⟩
end
end Bp

namespace Bp
open PySem PySem.Spec PyProof.Rows L2
/-! ### set(xs) of a list of ints: sorted and counted -/
abbrev set0 (w : World) : Obj := { cls := .type "set", dict := none, data := .set #[] 0 (.fresh 0 0 (!w.params.followText "set-order")) }
section
variable {P : Program} {w : World} {A : Around} {E : Value → Shared → Prop} {s : Shared}
/-- the new set takes the list's ints -/
theorem set_fill {A2 : Around} {l S : Addr} {items : Array Value} (ns : List Int) {Q : Shared → Prop} (hh : A2.handled = none) (hl : s.heap.IsList l items) (hi : IntsAre items.toList ns) (hb : ns.length + 1 < scanBound)
    (ho : s.heap.get? S = some (set0 w)) (ne : l ≠ S) (k : ∀ h' tk c, SetR w h' S (fun j => decide (j ∈ ns)) c → (∀ b o, b ≠ S → s.heap.get? b = some o → h'.get? b = some o) → Q { s with heap := h', toks := tk }) :
    wpAny (model P w) A2 (Builtin.«set.__init__» ⟨[.ref S, .ref l], []⟩) (fun fin s' => ∃ r, fin = .done (.ret r) ∧ r = .none ∧ Q s') E s := by
  have n : items.size = ns.length := by
    have := IntsAre.length hi
    rwa [Array.length_toList] at this
  obtain ⟨o, eo, ec, m, ed⟩ := id hl
  obtain ⟨cls, dct, dat, slots⟩ := o
  cases ec
  cases ed
  have x1 := F.sub_list_set
  have x2 := F.sub_list_frozenset
  have x3 : (Value.type "list" == Value.type "dict") = false := by decide
  unfold Builtin.«set.__init__» noKeywords Builtin.Frozenset.updateFrom
  generalize hI : pyIter = I
  wp_walk
  subst hI
  refine wpAny_pyIter_list hl ?_
  refine wpAny_bind (wpAny_runValue ?_)
  have lt : ∀ b o, s.heap.get? b = some o → b ≠ s.heap.objs.size := fun b o e => Nat.ne_of_lt (Heap.lt_size e)
  have lS := lt S _ ho
  have ll := lt l _ eo
  refine set_update_ints ((Walks.list (by simp [hh]) _ l ll items).toS) S (by simp only [List.mem_cons, List.not_mem_nil, or_false, not_or]; exact ⟨lS, fun z => ne z.symm⟩) ns n hb (fun i v hv => ?_) items.size 0 _ rfl (Nat.zero_le _) ⟨⟨_, Heap.get?_push_size _ rfl, rfl, rfl⟩, hl.push _⟩ ⟨0, Nat.le_refl 0, setR_new_at (Heap.get?_push_of_some _ ho)⟩ fun s' c hm hc hS => ?_
  · have hi' : i < ns.length := by rw [← n]; exact (Array.getElem?_eq_some_iff.mp hv).1
    obtain ⟨t, e⟩ := IntsAre.int_at hi i v (by rw [Array.getElem?_toList]; exact hv)
    exact ⟨ns.getD i 0, t, by simp [hi'], e⟩
  · obtain ⟨h', g, d, tk, os⟩ := s'
    cases (show g = s.gens from hm.gens)
    cases (show d = s.drawn from hm.drawn)
    cases (show os = s.os from hm.os)
    refine wpAny_pure (wpAny_pure ⟨_, rfl, rfl, k h' tk c hS fun b o hb e => ?_⟩)
    exact hm.heap b o (by simp only [List.mem_cons, List.not_mem_nil, or_false, not_or]; exact ⟨hb, lt b o e⟩) (Heap.get?_push_of_some _ e)
/-- T(args): what T.__new__ made is handed to T.__init__, whose call is checked by a road of its own -/
theorem type_made {T newId initId : String} {Bi : Builtin} {args : List Value} {Q Q1 : Value → Shared → Prop} (ft : TypeCalled T newId initId) (hct : checkTypeCall T ⟨args, []⟩ = pure ()) (ei : entryFor table initId = some Bi)
    (hn : codeAny (model P w) A.in1 (.call (.builtin newId) ⟨.type T :: args, []⟩) (wants Q1 E) s)
    (hx : ∀ obj s1, Q1 obj s1 → s1.TypeIs obj T ∧ (∀ (A' : Around) (E' : Value → Shared → Prop) (Q' : Unit → Shared → Prop), Q' () s1 → wpAny (model P w) A' (checkBuiltinCall initId ⟨obj :: args, []⟩) Q' E' s1) ∧ ∀ A2 : Around, A2.handled = A.handled → ∀ E' : Value → Shared → Prop, wpAny (model P w) A2 (Bi ⟨obj :: args, []⟩) (fun fin s' => ∃ r, fin = .done (.ret r) ∧ r = .none ∧ Q obj s') E' s1) :
    wpAny (model P w) A (call (.type T) args) Q E s := by
  obtain ⟨c, tl, hm⟩ := ft.mro
  have y1 := ft.made
  have y2 := ft.sub
  have y3 := ft.notType
  have y4 := ft.canCreate
  refine wpAny_call (codeAny_of_tree ?_)
  show wpAny _ _ (callAny (.type T) _) _ _ _
  refine wpAny_pure ⟨Code.quiet_builtin _ (by decide +kernel), codeAny_builtin F.entry_type_call ?_⟩
  rw [Around.under_plain (weight_type_call_type T args []) rfl]
  repeat (any_goals (first | assumption | wp_step))
  refine codeAny_mono hn fun r s1 hr => ?_
  rcases r with e | fl
  · exact hr
  · cases fl with
    | ret obj =>
      obtain ⟨hT, hc, hb⟩ := hx _ _ hr
      have y5 := ft.init.lookup
      have y6 := ft.init.bind obj
      repeat (any_goals (first | assumption | wp_step))
      refine codeAny_mono (codeAny_call_builtin (R := wants (fun r s2 => r = .none ∧ Q obj s2) E) ft.init.plain ei (hc _ _ _ (wpAny_mono (hb A.in1.in1 rfl (fun e s' => E e s')) (fun fin s' hf => ?_) fun _ _ he => he))) fun r2 s2 h2 => ?_
      · obtain ⟨r, rfl, er, hq⟩ := hf
        exact ⟨er, hq⟩
      · rcases r2 with e | fl2
        · exact h2
        · cases fl2 with
          | ret r =>
            obtain ⟨rfl, hq⟩ := h2
            repeat (any_goals (first | assumption | wp_step))
          | _ => exact h2.elim
    | _ => exact hr.elim
theorem set_made {l : Addr} {items : Array Value} (ns : List Int) {Q : Value → Shared → Prop} (hh : A.handled = none) (hl : s.heap.IsList l items) (hi : IntsAre items.toList ns) (hb : ns.length + 1 < scanBound)
    (k : ∀ h' tk c, SetR w h' s.heap.objs.size (fun j => decide (j ∈ ns)) c → (∀ b o, s.heap.get? b = some o → h'.get? b = some o) → Q (.ref s.heap.objs.size) { s with heap := h', toks := tk }) :
    wpAny (model P w) A (call (.type "set") [.ref l]) Q E s := by
  refine type_made F.called_set (F.typeCall_set_1 _) F.entry_set_init (Q1 := fun obj s1 => obj = .ref s.heap.objs.size ∧ s1 = { s with heap := s.heap.push (set0 w) }) (code_set_led1 _ ⟨rfl, rfl⟩) ?_
  rintro obj s1 ⟨rfl, rfl⟩
  have ho : (s.heap.push (set0 w)).get? s.heap.objs.size = some (set0 w) := Heap.get?_push_size _ rfl
  obtain ⟨o, eo, _⟩ := id hl
  have lt : ∀ b o, s.heap.get? b = some o → b ≠ s.heap.objs.size := fun b o e => Nat.ne_of_lt (Heap.lt_size e)
  refine ⟨⟨_, ho, rfl⟩, fun A' E' Q' q => check_set_init_1 ⟨_, ho, rfl⟩ q, fun A2 h2 E' => set_fill (s := { s with heap := s.heap.push (set0 w) }) ns (h2.trans hh) (hl.push _) hi hb ho (lt l o eo) fun h' tk c R kp => ?_⟩
  exact k h' tk c R fun b o e => kp b o (lt b o e) (Heap.get?_push_of_some _ e)
end
section
variable {X : Cx}
/-- the members of a set of ints, once each -/
def rSetL (K : PySem.W.Frag) (w : World) : List V → Hp → VK → Prop := fun xs H Q => ∃ (l : Addr) (ns : List Int), xs = [V.ref l] ∧ SqL K H l (ns.map V.int) ∧ ns.length + 1 < scanBound ∧ ∀ (p : Addr) (us : List Int), H p = none → us.Nodup → (∀ k, k ∈ us ↔ k ∈ ns) → Q (.ref p) (upd H p (SetO w p (fun j => decide (j ∈ ns)) us.length))
theorem cr_setL (hc : X.calm = true) : CallR X (.type "set") (rSetL X.K X.w) := by
  intro pins s σ H xs us Q I r h
  obtain ⟨l, ns, rfl, hl, hb, q⟩ := h
  rw [Vals.ref1 r]
  obtain ⟨its, rv, pl, hz⟩ := I.list hl
  have hn : H s.heap.objs.size = none := I.hok.fresh (Nat.le_refl _)
  refine set_made (P := X.prog) (w := X.w) ns (I.ok.hd hc) pl.isList (by simpa using ints_of_vals rv) hb fun h' tk c R kp => ?_
  obtain ⟨o, es, ep, t, _, _, _, _, nd, mem, _, _, e, _⟩ := id R
  refine ⟨.ref s.heap.objs.size, upd H s.heap.objs.size (SetO X.w s.heap.objs.size (fun j => decide (j ∈ ns)) c), I.laid (t' := tk) kp (Nat.le_refl _) (setO_new R), rfl, ?_⟩
  have := q s.heap.objs.size (es.toList.map keyOf) hn nd fun k => by rw [← mem]; simp
  rw [List.length_map, Array.length_toList, e] at this
  exact this
theorem cr_lenSet : CallR X (.builtin "len") (fun xs H Q => ∃ a S n, xs = [V.ref a] ∧ H a = some (SetO X.w a S n) ∧ Q (.int (n : Nat)) H) := by
  intro pins s σ H xs us Q I r h
  obtain ⟨a, S, n, rfl, ha, q⟩ := h
  rw [Vals.ref1 r]
  obtain ⟨o, es, ep, t, ho, hx, hd, _, _, _, hs, hf, e, _⟩ := setO_get I ha
  refine call_len_set ho hx hd hf (by unfold scanBound at hs; omega) ?_
  exact ⟨.int (n : Nat), H, I.tok _, ⟨_, by rw [e]⟩, q⟩
end
section
variable {P : Program} {w : World} {K : PySem.W.Frag} {mg : Str → Option Value} {base : Heap} {sc scope : Scope} {N : List Str} {vs ls vb lb : List Bool} {k : Nat} {X : Cx} {W : WX} {ρ : Rho} {Q : Rho → PyData → Prop} {E : XQ} {Nx : Rho → Prop} {R : Rho → Ret → Prop} {a b c e elt iter : Expr} {pos p p2 p3 px py pt apos cpos spos : Pos} {x y z : Str} {i j l kt kt2 : Nat}
theorem ddL_ints {F : Hp} : ∀ {us : List V} {ns : List Int}, DDs K F us (ns.map PyData.int) → us = ns.map V.int
  | [], [], _ => rfl
  | _ :: _, [], h => by cases h
  | [], _ :: _, h => by cases h
  | u :: us, n :: ns, h => by
    cases h with
    | cons h1 h2 =>
      cases h1
      rw [ddL_ints h2]
      rfl
theorem intsDD {F : Hp} : ∀ ns : List Int, DDs K F (ns.map V.int) (ns.map PyData.int)
  | [] => .nil
  | n :: ns => .cons (.int n) (intsDD ns)
/-- sorted(set(e)), fewer than 64 members -/
theorem ew_sortSet (C : Cxt P w K mg base sc N vs ls k X W) (B : Blt mg) (h : EW X W e ρ (fun ρ1 d => ∃ ns : List Int, d = .list (ns.map PyData.int) ∧ ns.length ≤ 4000 ∧ (∀ us : List Int, us.Nodup → (∀ k ∈ us, k ∈ ns) → us.length < 64) ∧ ∀ us : List Int, us.Pairwise (· < ·) → (∀ k, k ∈ us ↔ k ∈ ns) → Q ρ1 (.list (us.map PyData.int))) E)
    (hg : sc.names.lookup ("sorted" : Str) = some .globalImplicit := by decide +kernel) (hg2 : sc.names.lookup ("set" : Str) = some .globalImplicit := by decide +kernel)
    (he : starEach [Expr.Call (.Name "set" p2) [e] [] p3] X.env = (false, eval (Expr.Call (.Name "set" p2) [e] [] p3) X.env) :: starEach [] X.env := by with_unfolding_all rfl) (he2 : starEach [e] X.env = (false, eval e X.env) :: starEach [] X.env := by with_unfolding_all rfl) : EW X W (.Call (.Name "sorted" p) [.Call (.Name "set" p2) [e] [] p3] [] pos) ρ Q E := by
  intro F H σ R wd sl kx kk
  refine of_pe (pe_callB (cr_sortedSet C.calm) (C.gl hg) (by rw [C.eg]; exact B.sorted) PyProof.Rows.boot_sorted (pa_cons (pe_callTy (cr_setL C.calm) (C.gl hg2) (by rw [C.eg]; exact B.set) (by decide +kernel) (pa_cons pe_w pa_nil he2) (by decide) (by decide) he2 (by with_unfolding_all rfl)) pa_nil he) (by decide) (by decide) he (by with_unfolding_all rfl)) ?_
  refine h F H σ _ wd sl kx fun F1 H1 ρ1 v x st1 wd1 sl1 dd1 z1 => ?_
  obtain ⟨ns, rfl, hl, hs, q⟩ := z1
  cases dd1 with
  | @lst aa xs ds hf dd =>
    obtain rfl := ddL_ints dd
    refine ⟨aa, ns, rfl, SqL.of (wd1.sub _ _ hf), by unfold scanBound; omega, fun t us ht nd mem => ?_⟩
    have g1 : Gr F1 H1 F1 (upd H1 t (SetO X.w t (fun j => decide (j ∈ ns)) us.length)) := Gr.side wd1.sub ht
    refine ⟨t, _, _, rfl, upd_same, hs us nd fun k hk => (mem k).mp hk, fun ms p2 srt mm _ hp => ?_⟩
    have g2 := Gr.new (o := .lst (ms.map V.int)) g1.sub hp
    have g := g1.trans g2
    exact kk _ _ ρ1 _ _ (st1.trans g.stp) (wd1.gr g) (sl1.mono g.ex) (.lst upd_same (intsDD ms)) (q ms srt fun k => by rw [mm]; simp)
/-- len(set(e)) -/
theorem ew_lenSetL (C : Cxt P w K mg base sc N vs ls k X W) (B : Blt mg) (h : EW X W e ρ (fun ρ1 d => ∃ ns : List Int, d = .list (ns.map PyData.int) ∧ ns.length ≤ 4000 ∧ ∀ us : List Int, us.Nodup → (∀ k, k ∈ us ↔ k ∈ ns) → Q ρ1 (.int (us.length : Nat))) E)
    (hg : sc.names.lookup ("len" : Str) = some .globalImplicit := by decide +kernel) (hg2 : sc.names.lookup ("set" : Str) = some .globalImplicit := by decide +kernel)
    (he : starEach [Expr.Call (.Name "set" p2) [e] [] p3] X.env = (false, eval (Expr.Call (.Name "set" p2) [e] [] p3) X.env) :: starEach [] X.env := by with_unfolding_all rfl) (he2 : starEach [e] X.env = (false, eval e X.env) :: starEach [] X.env := by with_unfolding_all rfl) : EW X W (.Call (.Name "len" p) [.Call (.Name "set" p2) [e] [] p3] [] pos) ρ Q E := by
  intro F H σ R wd sl kx kk
  refine of_pe (pe_callB cr_lenSet (C.gl hg) (by rw [C.eg]; exact B.len) PySem.boot_len (pa_cons (pe_callTy (cr_setL C.calm) (C.gl hg2) (by rw [C.eg]; exact B.set) (by decide +kernel) (pa_cons pe_w pa_nil he2) (by decide) (by decide) he2 (by with_unfolding_all rfl)) pa_nil he) (by decide) (by decide) he (by with_unfolding_all rfl)) ?_
  refine h F H σ _ wd sl kx fun F1 H1 ρ1 v x st1 wd1 sl1 dd1 z1 => ?_
  obtain ⟨ns, rfl, hl, q⟩ := z1
  cases dd1 with
  | @lst aa xs ds hf dd =>
    obtain rfl := ddL_ints dd
    refine ⟨aa, ns, rfl, SqL.of (wd1.sub _ _ hf), by unfold scanBound; omega, fun t us ht nd mem => ?_⟩
    have g1 : Gr F1 H1 F1 (upd H1 t (SetO X.w t (fun j => decide (j ∈ ns)) us.length)) := Gr.side wd1.sub ht
    exact ⟨t, _, _, rfl, upd_same, kk _ _ ρ1 _ _ (st1.trans g1.stp) (wd1.gr g1) sl1 (.int _) (q us nd mem)⟩
/-- xs.count(e) -/
theorem ew_cntL (C : Cxt P w K mg base sc N vs ls k X W) (h : EW X W a ρ (fun ρ1 d => ∃ ns : List Int, d = .list (ns.map PyData.int) ∧ EW X W b ρ1 (fun ρ2 d2 => ∃ k : Int, d2 = .int k ∧ Q ρ2 (.int (ns.count k : Nat))) E) E)
    (hbm : PE X a (WEx X a) → PA X [b] (tCons (WEx X b) tNil) → PE X (.Call (.Attribute a "count" p2) [b] [] pos) (tBM X.K "list" (rCntI X.K) (WEx X a) (tCons (WEx X b) tNil)) := by intro h1 h2; exact pe_bm PySem.F.plainAttrs_list PySem.F.slot_list_count PySem.F.type_list_count mt_lcount h1 h2 (by with_unfolding_all rfl) (by with_unfolding_all rfl) (by with_unfolding_all rfl))
    (he : starEach [b] X.env = (false, eval b X.env) :: starEach [] X.env := by with_unfolding_all rfl) : EW X W (.Call (.Attribute a "count" p2) [b] [] pos) ρ Q E := by
  intro F H σ R wd sl kx kk
  refine of_pe (hbm pe_w (pa_cons pe_w pa_nil he)) ?_
  refine h F H σ _ wd sl kx fun F1 H1 ρ1 v x st1 wd1 sl1 dd1 z1 => ?_
  obtain ⟨ns, rfl, h1⟩ := z1
  cases dd1 with
  | @lst aa xs ds hf dd =>
    obtain rfl := ddL_ints dd
    refine ⟨.inl ⟨rfl, _, SqL.of (wd1.sub _ _ hf)⟩, ?_⟩
    refine h1 F1 H1 σ _ wd1 sl1 (kx.step st1) fun F2 H2 ρ2 u y st2 wd2 sl2 dd2 z2 => ?_
    obtain ⟨k, rfl, q⟩ := z2
    cases dd2
    exact ⟨aa, ns, k, rfl, rfl, SqL.of (wd2.sub _ _ (st2.ex _ _ hf)), kk F2 H2 ρ2 _ _ (st1.trans st2) wd2 sl2 (.int _) q⟩
theorem pg_three {pz : Pos} (C : Cxt P w K mg base sc N vs ls k X W) [sx : Slot N x i] [sy : Slot N y j] [sz : Slot N z l] (hl : ls[i]? = some true) (hl2 : ls[j]? = some true) (hl3 : ls[l]? = some true) :
    PG X (.Tuple [.Name x px, .Name y py, .Name z pz] kt pt) (fun v σ H Q => ∃ p a b c, v = .ref p ∧ SqT X.K H p [a, b, c] ∧ Q (((σ.set i (some a)).set j (some b)).set l (some c)) H) := by
  have nd : X.N.Nodup := by rw [C.eN]; exact C.nd
  have pg := pg_tup (pos := pt) (k := kt) C.calm (pgs_cons (pg_name (pos := px) (i := i) nd (by rw [C.eN]; exact sx.get) (C.lo sx.get hl) (C.st sx.get hl)) (pgs_cons (pg_name (pos := py) (i := j) nd (by rw [C.eN]; exact sy.get) (C.lo sy.get hl2) (C.st sy.get hl2)) (pgs_cons (pg_name (pos := pz) (i := l) nd (by rw [C.eN]; exact sz.get) (C.lo sz.get hl3) (C.st sz.get hl3)) pgs_nil)))
  refine ⟨fun pins s σ H v u Q I r h => pg.run pins s σ H v u Q I r ?_⟩
  obtain ⟨q, a, b, c, rfl, hq, h⟩ := h
  exact ⟨_, _, rfl, hq, rfl, _, _, rfl, _, _, rfl, _, _, rfl, rfl, h⟩
theorem s1_tupA3 {pz pt2 : Pos} {k2 : Nat} (C : Cxt P w K mg base sc N vs ls k X W) [sx : Slot N x i] [sy : Slot N y j] [sz : Slot N z l] (hl : ls[i]? = some true) (hl2 : ls[j]? = some true) (hl3 : ls[l]? = some true) (h : AO X W [a, b, c] ρ (fun ρ1 ss => ∃ s t r, ss = [s, t, r] ∧ Nx (((ρ1.set i (some s)).set j (some t)).set l (some r))) E)
    (hw : swappedStores [.Tuple [.Name x px, .Name y py, .Name z pz] kt pt] (.Tuple [a, b, c] k2 pt2) (envOf sc) = pure none := by with_unfolding_all rfl)
    (hs : swapsWithSole [.Tuple [.Name x px, .Name y py, .Name z pz] kt pt] (.Tuple [a, b, c] k2 pt2) pos.line X.env = pure false := by with_unfolding_all rfl)
    (h1 : (assignEach [.Tuple [.Name x px, .Name y py, .Name z pz] kt pt] X.env).map (·.2) = [assign (.Tuple [.Name x px, .Name y py, .Name z pz] kt pt) X.env] := by with_unfolding_all rfl) :
    S1 X W (.Assign [.Tuple [.Name x px, .Name y py, .Name z pz] kt pt] (.Tuple [a, b, c] k2 pt2) pos) ρ Nx R E := by
  intro F H σ D wd sl kx kn kr
  refine of_ps (ps_asg (pe_tup pa_w) (pg_three C hl hl2 hl3) hs (by rw [swapped_eq C]; exact hw) h1) ?_
  refine h F H σ _ wd sl kx fun F1 H1 ρ1 vs ss st1 wd1 sl1 nw q => ?_
  obtain ⟨s, t, r, rfl, q⟩ := q
  cases nw with
  | @cons w1 _ _ _ n1 f1 d1 r1 =>
    cases r1 with
    | @cons w2 _ _ _ n2 f2 d2 r2 =>
      cases r2 with
      | @cons w3 _ _ _ n3 f3 d3 r3 =>
        cases r3
        refine ⟨by rw [sizeLine_eq]; show 3 ≤ 16777216; omega, fun T hT => ?_⟩
        have g : Gr F1 H1 F1 (upd H1 T (.tup [w1, w2, w3])) := Gr.side wd1.sub hT
        have st2 := st1.trans g.stp
        have m1 := n1.step g.stp
        have rr : NewS X.K F1 (upd H1 T (.tup [w1, w2, w3])) H ρ1 [_, _] [_, _] := .cons (n2.step g.stp) f2 d2 (.cons (n3.step g.stp) f3 d3 .nil)
        have rr1 := rr.set (i := i) d1
        cases rr1 with
        | cons a1 b1 c1 rr1 =>
          have rr2 := rr1.set (i := j) c1
          cases rr2 with
          | cons a2 b2 c2 rr2 =>
            cases rr2
            exact ⟨T, _, _, _, rfl, .inl (.inl upd_same), kn F1 _ _ _ (((st2.setS f1).setS b1).setS b2) (a2.wd (a1.wd (m1.wd (wd1.gr g)))) (a2.sl (a1.sl (m1.sl sl1))) q⟩
end
end Bp

namespace Bp
open PySem PySem.Spec PyProof.Rows L2
/-! ### texts -/
section
variable {X : Cx} {Q : PyData → Prop}
theorem bc_strI {i : Int} (hz : i.natAbs.log2 < 1920) (q : Q (.str (toString i : String))) : BC X (.type "str") [.int i] Q := by
  intro F H vs R e hx k
  cases hx with
  | cons h hs =>
    cases hs
    cases h
    exact wca_of call_str_int ⟨i, rfl, hz, k F H _ _ (Gr.refl e) (.str _) q⟩
theorem bc_intS {a : Str} {n : Int} (hn : PySem.intText? a = some n) (hl : a.length ≤ 640) (q : Q (.int n)) : BC X (.type "int") [.str a] Q := by
  intro F H vs R e hx k
  cases hx with
  | cons h hs =>
    cases hs
    cases h
    exact wca_of call_int_str ⟨a, n, rfl, hn, hl, k F H _ _ (Gr.refl e) (.int _) q⟩
theorem bw_inS {c : Nat} {z : Str} (q : Q (.bool (decide (c ∈ z.cps.toList)))) : BW X (compareOp .In) (.str ⟨#[c]⟩) (.str z) Q := by
  intro F H vx vy R e hx hy k
  cases hx
  cases hy
  exact wop_of op_inS ⟨c, z, rfl, rfl, k F H _ _ (Gr.refl e) (.bl _) q⟩
theorem strsDD {K : PySem.W.Frag} {F : Hp} : ∀ ns : List Str, DDs K F (ns.map V.str) (ns.map PyData.str)
  | [] => .nil
  | n :: ns => .cons (.str n) (strsDD ns)
theorem ddL_strs {K : PySem.W.Frag} {F : Hp} : ∀ {us : List V} {ns : List Str}, DDs K F us (ns.map PyData.str) → us = ns.map V.str
  | [], [], _ => rfl
  | _ :: _, [], h => by cases h
  | [], _ :: _, h => by cases h
  | u :: us, n :: ns, h => by
    cases h with
    | cons h1 h2 =>
      cases h1
      rw [ddL_strs h2]
      rfl
theorem inV_str (x : Str) : ∀ ns : List Str, inV (.str x) (ns.map V.str) = decide (x ∈ ns)
  | [] => rfl
  | n :: ns => by
    show (eqV (.str n) (.str x) || inV (.str x) (ns.map V.str)) = _
    rw [inV_str x ns]
    show ((n == x) || decide (x ∈ ns)) = _
    by_cases c : n = x
    · subst c
      simp
    · have : x ≠ n := fun z => c z.symm
      simp [c, this]
theorem inV_int (x : Int) : ∀ ns : List Int, inV (.int x) (ns.map V.int) = decide (x ∈ ns)
  | [] => rfl
  | n :: ns => by
    show (eqV (.int n) (.int x) || inV (.int x) (ns.map V.int)) = _
    rw [inV_int x ns]
    show ((n == x) || decide (x ∈ ns)) = _
    by_cases c : n = x
    · subst c
      simp
    · have : x ≠ n := fun z => c z.symm
      simp [c, this]
end
def chrD (z : Str) : List PyData := z.cps.toList.map fun c => PyData.str ⟨#[c]⟩
section
variable {P : Program} {w : World} {K : PySem.W.Frag} {mg : Str → Option Value} {base : Heap} {sc scope : Scope} {N : List Str} {vs ls vb lb : List Bool} {k : Nat} {X : Cx} {W : WX} {ρ : Rho} {Q : Rho → PyData → Prop} {E : XQ} {Nx : Rho → Prop} {R : Rho → Ret → Prop} {a b c e elt iter : Expr} {pos p p2 p3 px py pt apos cpos spos : Pos} {x y z : Str} {i j l kt kt2 : Nat}
/-- sep.join(e) -/
theorem ew_join (h : EW X W a ρ (fun ρ1 d => ∃ s : Str, d = .str s ∧ EW X W b ρ1 (fun ρ2 d2 => ∃ ys : List Str, d2 = .list (ys.map PyData.str) ∧ (ys.map (·.length)).sum + ys.length * s.length ≤ 16777216 ∧ Q ρ2 (.str (Txt.join s ys))) E) E)
    (hs : starEach [b] X.env = [(false, eval b X.env)] := by with_unfolding_all rfl) (hbase : attributeBase a "join" X.env (eval a X.env) = eval a X.env := by with_unfolding_all rfl) (hline : (apos.endLine == pos.line) = true := by with_unfolding_all rfl) : EW X W (.Call (.Attribute a "join" apos) [b] [] pos) ρ Q E := by
  intro F H σ R wd sl kx kk
  refine of_pe (pe_join pe_w pe_w hs hbase hline) ?_
  refine h F H σ _ wd sl kx fun F1 H1 ρ1 v d st1 wd1 sl1 dd1 z1 => ?_
  obtain ⟨s, rfl, h1⟩ := z1
  cases dd1
  refine ⟨⟨s, rfl⟩, ?_⟩
  refine h1 F1 H1 σ _ wd1 sl1 (kx.step st1) fun F2 H2 ρ2 u y st2 wd2 sl2 dd2 z2 => ?_
  obtain ⟨ys, rfl, hz, q⟩ := z2
  cases dd2 with
  | @lst aa xs ds hf dd =>
    obtain rfl := ddL_strs dd
    exact ⟨s, aa, ys, rfl, rfl, .inl (SqL.of (wd2.sub _ _ hf)), hz, kk F2 H2 ρ2 _ _ (st1.trans st2) wd2 sl2 (.str _) q⟩
/-- e.split(sep) -/
theorem ew_split (h : EW X W a ρ (fun ρ1 d => ∃ s : Str, d = .str s ∧ EW X W b ρ1 (fun ρ2 d2 => ∃ t : Str, d2 = .str t ∧ (t.length == 0) = false ∧ s.length + 2 ≤ 16777216 ∧ Q ρ2 (.list ((Txt.split s t).map PyData.str))) E) E)
    (hs : starEach [b] X.env = [(false, eval b X.env)] := by with_unfolding_all rfl) (hbase : attributeBase a "split" X.env (eval a X.env) = eval a X.env := by with_unfolding_all rfl) (hline : (apos.endLine == pos.line) = true := by with_unfolding_all rfl) : EW X W (.Call (.Attribute a "split" apos) [b] [] pos) ρ Q E := by
  intro F H σ R wd sl kx kk
  refine of_pe (pe_split pe_w pe_w hs hbase hline) ?_
  refine h F H σ _ wd sl kx fun F1 H1 ρ1 v d st1 wd1 sl1 dd1 z1 => ?_
  obtain ⟨s, rfl, h1⟩ := z1
  cases dd1
  refine ⟨⟨s, rfl⟩, ?_⟩
  refine h1 F1 H1 σ _ wd1 sl1 (kx.step st1) fun F2 H2 ρ2 u y st2 wd2 sl2 dd2 z2 => ?_
  obtain ⟨t, rfl, h0, hl, q⟩ := z2
  cases dd2
  refine ⟨s, t, rfl, rfl, h0, by rw [sizeLine_eq]; exact hl, fun p hp => ?_⟩
  have g := Gr.new (o := .lst ((Txt.split s t).map V.str)) wd2.sub hp
  exact kk _ _ ρ2 _ _ ((st1.trans st2).trans g.stp) (wd2.gr g) (sl2.mono g.ex) (.lst upd_same (strsDD _)) q
/-- for c in a text -/
theorem itd_str {F : Hp} (z : Str) : ItD K F (Its z) (chrD z) where
  go := fun F' H i e s hl => by
    unfold chrD at hl
    rw [List.length_map, Array.length_toList] at hl
    exact hl
  yld := fun F' H i y H' d e s hd hy => by
    obtain ⟨rfl, c, hc, rfl⟩ := hy
    unfold chrD at hd
    rw [List.getElem?_map, Array.getElem?_toList, hc] at hd
    cases hd
    exact ⟨F', Gr.refl s, .str _⟩
  stop := fun F' H e s => by
    unfold chrD
    rw [List.length_map, Array.length_toList]
    exact Nat.le_refl _
theorem iw_str {tg iter : Expr} {Q : Rho → List PyData → Prop} (h : EW X W iter ρ (fun ρ1 d => ∃ z : Str, d = .str z ∧ Q ρ1 (chrD z)) E) : IW X W tg iter ρ Q E := by
  intro F H σ R wd sl kx kk
  refine of_pi (pi_str pe_w) ?_
  refine h F H σ _ wd sl kx fun F1 H1 ρ1 v d st1 wd1 sl1 dd q => ?_
  obtain ⟨z, rfl, q⟩ := q
  cases dd
  exact ⟨z, rfl, kk F1 H1 ρ1 _ _ st1 wd1 sl1 (itd_str z) q⟩
/-- e not in a module's tuple of texts -/
theorem tw_notInG (C : Cxt P w K mg base sc N vs ls k X W) {ad : Addr} {ns : List Str} {Q : Rho → Bool → Prop} (hm : mg x = some (.ref ad)) (hT : ∀ H, SqT K H ad (ns.map V.str)) (h : EW X W a ρ (fun ρ1 d => ∃ s : Str, d = .str s ∧ Q ρ1 (!decide (s ∈ ns))) E)
    (hg : sc.names.lookup x = some .globalImplicit := by decide +kernel) (hd : (x == ("__debug__" : Str)) = false := by decide) (hb : behindInMarks .NotIn (.Name x p) = false := by with_unfolding_all rfl) : TW X W (.Compare a [.NotIn] [.Name x p] pos) ρ Q E := by
  intro F H σ R wd sl kx kk
  refine of_pt (pt_cmpR op_notIn_seq pe_w (pe_glob (C.gl hg) (by rw [C.eg]; exact hm) (v := .ref ad) rfl hd) hb) ?_
  refine h F H σ _ wd sl kx fun F1 H1 ρ1 v d st1 wd1 sl1 dd1 z1 => ?_
  obtain ⟨s, rfl, q⟩ := z1
  cases dd1
  refine ⟨ad, ns.map V.str, rfl, .inr (by rw [C.eK]; exact hT H1), rfl, by rw [List.all_map]; exact List.all_eq_true.mpr fun _ _ => rfl, ?_⟩
  refine ⟨_, rfl, ?_⟩
  rw [inV_str]
  exact kk F1 H1 ρ1 _ st1 wd1 sl1 q
/-- e in a list of ints that a slot owns -/
theorem tw_inLO (C : Cxt P w K mg base sc N vs ls k X W) [sx : Slot N x i] {q : Addr} {ns0 : List Int} {Q : Rho → Bool → Prop} (hs : ρ[i]? = some (some (.own q (.lst (ns0.map PyData.int))))) (hv : vs[i]? = some true) (h : EW X W b ρ (fun ρ1 d => ∃ (m : Int) (ns : List Int), d = .int m ∧ ρ1[i]? = some (some (.own q (.lst (ns.map PyData.int)))) ∧ Q ρ1 (decide (m ∈ ns))) E)
    (hd : (x == ("__debug__" : Str)) = false := by decide) (hcd : (x == ("__classdict__" : Str)) = false := by decide) (hm : behindInMarks .In (.Name x p) = false := by with_unfolding_all rfl) : TW X W (.Compare b [.In] [.Name x p] pos) ρ Q E := by
  intro F H σ R wd sl kx kk
  refine of_pt (pt_cmpR op_in_seq pe_w (pv_of C hv hd hcd) hm) ?_
  refine h F H σ _ wd sl kx fun F1 H1 ρ1 v d st1 wd1 sl1 dd1 z1 => ?_
  obtain ⟨m, ns, rfl, hq, qq⟩ := z1
  cases dd1
  obtain ⟨u, h1, h2⟩ := sl1.get i _ hq
  cases (show u = .ref q from h2)
  obtain ⟨f1, ho, hh, xs, rfl, dd⟩ := wd1.own i q _ hq
  obtain rfl := ddL_ints dd
  refine ⟨_, h1, q, ns.map V.int, rfl, .inl (SqL.of hh), rfl, by rw [List.all_map]; exact List.all_eq_true.mpr fun _ _ => rfl, ?_⟩
  refine ⟨_, rfl, ?_⟩
  rw [inV_int]
  exact kk F1 H1 ρ1 _ st1 wd1 sl1 qq
end
end Bp

namespace Bp
open PySem PySem.Spec PyProof.Rows L2
/-! ### for x, y in a list of pairs that a slot owns (and keeps) -/
abbrev prsD (es : List (PyData × PyData)) : List PyData := es.map fun q => PyData.tuple [q.1, q.2]
section
variable {P : Program} {w : World} {K : PySem.W.Frag} {mg : Str → Option Value} {base : Heap} {sc scope : Scope} {N : List Str} {vs ls vb lb : List Bool} {k : Nat} {X : Cx} {W : WX} {ρ : Rho} {E : XQ} {Nx : Rho → Prop} {R : Rho → Ret → Prop} {e elt iter : Expr} {ifs : List Expr} {pos p px py pz pt spos : Pos} {x y z : Str} {i j l kt : Nat}
theorem s1_for2O (C : Cxt P w K mg base sc N vs ls k X W) [sx : Slot N x i] [sy : Slot N y j] [sz : Slot N z l] {body : List Stmt} {q : Addr} {es : List (PyData × PyData)} (hl : ls[i]? = some true) (hl2 : ls[j]? = some true) (hv : vs[l]? = some true) (hs0 : ρ[l]? = some (some (.own q (.lst (prsD es)))))
    (I : Nat → Rho → Prop) (i0 : I 0 ρ) (keep : ∀ n ρ2, I n ρ2 → ρ2[l]? = some (some (.own q (.lst (prsD es))))) (turn : ∀ n d ρ2, es[n]? = some d → I n ρ2 → SW X W body ((ρ2.set i (some (.d d.1))).set j (some (.d d.2))) (I (n + 1)) R E) (fin : ∀ ρ2, I es.length ρ2 → Nx ρ2)
    (hd : (z == ("__debug__" : Str)) = false := by decide) (hcd : (z == ("__classdict__" : Str)) = false := by decide) (hs : ∀ x, foldedSetIterable (.Name z pz) X.env x = pure x := by intro _; with_unfolding_all rfl) : S1 X W (.For (.Tuple [.Name x px, .Name y py] kt pt) (.Name z pz) body [] pos) ρ Nx R E := by
  intro F H σ D wd sl kx kn kr
  refine of_ps (ps_for C.po C.calm (pi_seq (pv_of C hv hd hcd)) (pg_pair C hl hl2) pss_w hs) ?_
  obtain ⟨v, h1, h2⟩ := sl.get l _ hs0
  cases (show v = .ref q from h2)
  obtain ⟨_, ho, hh, xs, rfl, dd⟩ := wd.own l q _ hs0
  refine ⟨_, h1, q, rfl, .inl ⟨⟨_, SqL.of hh⟩, ?_⟩⟩
  refine ⟨fun n m σ2 H2 => m = es.length - n ∧ n ≤ es.length ∧ ∃ F2 ρ2, Stp ρ ρ2 F H F2 H2 ∧ Wd X.K F2 H2 ρ2 ∧ Sl X.K F2 σ2 ρ2 ∧ I n ρ2, ⟨_, rfl, Nat.zero_le _, F, ρ, Stp.refl, wd, sl, i0⟩, ?_⟩
  rintro n m σ2 H2 ⟨rfl, hn, F2, ρ2, st2, wd2, sl2, i2⟩
  obtain ⟨_, ho2, hh2, xs2, rfl, dd2⟩ := wd2.own l q _ (keep n ρ2 i2)
  have len : xs2.length = es.length := by rw [dd2.length, List.length_map]
  by_cases hlt : n < es.length
  · have hd : es[n]? = some es[n] := List.getElem?_eq_getElem hlt
    obtain ⟨u, u1, u2⟩ := dd2.get (show (prsD es)[n]? = some (.tuple [es[n].1, es[n].2]) by rw [List.getElem?_map, hd]; rfl)
    refine .inr ⟨⟨xs2, u, SqL.of hh2, u1⟩, fun σ3 H3 => ∃ F3 ρ3, Stp ρ ρ3 F H F3 H3 ∧ Wd X.K F3 H3 ρ3 ∧ Sl X.K F3 σ3 ρ3 ∧ I (n + 1) ρ3, fun σ3 H3 hh => ⟨_, by omega, rfl, hlt, hh⟩, fun y H3 hy => ?_⟩
    obtain ⟨eH, hy⟩ := hy
    subst eH
    have e := hy xs2 (SqL.of hh2)
    rw [u1] at e
    cases e
    cases u2 with
    | @tup ad ws ds hq _ hs =>
      cases hs with
      | @cons a _ _ _ da hs =>
        cases hs with
        | @cons b _ _ _ db hs =>
          cases hs
          have s4 : Stp ρ2 ((ρ2.set i (some (.d es[n].1))).set j (some (.d es[n].2))) F2 H3 F2 H3 := (Stp.set noD).trans (Stp.set noD)
          refine ⟨ad, a, b, rfl, wd2.sub.sqt hq, ?_⟩
          exact turn n _ ρ2 hd i2 F2 H3 _ _ ((wd2.set noD).set noD) ((sl2.set da).set db) (kx.step (st2.trans s4)) (fun F5 H5 σ5 ρ5 st5 wd5 sl5 i5 => ⟨F5, ρ5, (st2.trans s4).trans st5, wd5, sl5, i5⟩) (fun F5 H5 ρ5 v d st5 wd5 dd5 r => kr F5 H5 ρ5 v d ((st2.trans s4).trans st5) wd5 (dd5.back (st2.trans s4)) r)
  · have e : n = es.length := by omega
    subst e
    exact .inl ⟨⟨xs2, SqL.of hh2, by rw [len]; exact Nat.le_refl _⟩, kn F2 H2 σ2 ρ2 st2 wd2 sl2 (fin ρ2 i2)⟩
end
end Bp

namespace Bp
open PySem PySem.Spec PyProof.Rows L2
/-! ### texts cut; a sign that is not in a text -/
section
variable {X : Cx} {Q : PyData → Prop}
theorem bw_notInS {c : Nat} {z : Str} (q : Q (.bool (!decide (c ∈ z.cps.toList)))) : BW X (compareOp .NotIn) (.str ⟨#[c]⟩) (.str z) Q := by
  intro F H vx vy R e hx hy k
  cases hx
  cases hy
  exact wop_of op_notInS ⟨c, z, rfl, rfl, k F H _ _ (Gr.refl e) (.bl _) q⟩
end
section
variable {P : Program} {w : World} {K : PySem.W.Frag} {mg : Str → Option Value} {base : Heap} {sc scope : Scope} {N : List Str} {vs ls vb lb : List Bool} {k : Nat} {X : Cx} {W : WX} {ρ : Rho} {Q : Rho → PyData → Prop} {E : XQ} {a b c l e : Expr} {pos p p2 p3 : Pos}
theorem ew_txH (h : EW X W a ρ (fun ρ1 x => ∃ z : Str, x = .str z ∧ z.length ≤ 16777216 ∧ EW X W b ρ1 (fun ρ2 y => ∃ n : Int, y = .int n ∧ Q ρ2 (.str (cutS z none (some n)))) E) E) : EW X W (.Subscript a (.Slice none (some b) none p2) pos) ρ Q E := by
  intro F H σ R wd sl kx kk
  refine of_pe (pe_slice sl_str pe_w po_none (po_some pe_w)) ?_
  refine h F H σ _ wd sl kx fun F1 H1 ρ1 x dx st1 wd1 sl1 dd1 h1 => ?_
  obtain ⟨z, rfl, hz, h1⟩ := h1
  cases dd1
  refine h1 F1 H1 σ _ wd1 sl1 (kx.step st1) fun F2 H2 ρ2 y dy st2 wd2 sl2 dd2 h2 => ?_
  obtain ⟨n, rfl, q⟩ := h2
  cases dd2
  exact ⟨n, rfl, z, rfl, by rw [sizeLine_eq]; exact hz, kk F2 H2 ρ2 _ _ (st1.trans st2) wd2 sl2 (.str _) q⟩
theorem ew_txL (h : EW X W a ρ (fun ρ1 x => ∃ z : Str, x = .str z ∧ z.length ≤ 16777216 ∧ EW X W b ρ1 (fun ρ2 y => ∃ n : Int, y = .int n ∧ Q ρ2 (.str (cutS z (some n) none))) E) E) : EW X W (.Subscript a (.Slice (some b) none none p2) pos) ρ Q E := by
  intro F H σ R wd sl kx kk
  refine of_pe (pe_slice sl_str pe_w (po_some pe_w) po_none) ?_
  refine h F H σ _ wd sl kx fun F1 H1 ρ1 x dx st1 wd1 sl1 dd1 h1 => ?_
  obtain ⟨z, rfl, hz, h1⟩ := h1
  cases dd1
  refine h1 F1 H1 σ _ wd1 sl1 (kx.step st1) fun F2 H2 ρ2 y dy st2 wd2 sl2 dd2 h2 => ?_
  obtain ⟨n, rfl, q⟩ := h2
  cases dd2
  exact ⟨n, rfl, z, rfl, by rw [sizeLine_eq]; exact hz, kk F2 H2 ρ2 _ _ (st1.trans st2) wd2 sl2 (.str _) q⟩
theorem ew_tx2 (h : EW X W a ρ (fun ρ1 x => ∃ z : Str, x = .str z ∧ z.length ≤ 16777216 ∧ EW X W l ρ1 (fun ρ2 y => ∃ m : Int, y = .int m ∧ EW X W b ρ2 (fun ρ3 y => ∃ n : Int, y = .int n ∧ Q ρ3 (.str (cutS z (some m) (some n)))) E) E) E) : EW X W (.Subscript a (.Slice (some l) (some b) none p2) pos) ρ Q E := by
  intro F H σ R wd sl kx kk
  refine of_pe (pe_slice sl_str pe_w (po_some pe_w) (po_some pe_w)) ?_
  refine h F H σ _ wd sl kx fun F1 H1 ρ1 x dx st1 wd1 sl1 dd1 h1 => ?_
  obtain ⟨z, rfl, hz, h1⟩ := h1
  cases dd1
  refine h1 F1 H1 σ _ wd1 sl1 (kx.step st1) fun F2 H2 ρ2 y dy st2 wd2 sl2 dd2 h2 => ?_
  obtain ⟨m, rfl, h2⟩ := h2
  cases dd2
  refine ⟨m, rfl, ?_⟩
  refine h2 F2 H2 σ _ wd2 sl2 ((kx.step st1).step st2) fun F3 H3 ρ3 y dy st3 wd3 sl3 dd3 h3 => ?_
  obtain ⟨n, rfl, q⟩ := h3
  cases dd3
  exact ⟨n, rfl, z, rfl, by rw [sizeLine_eq]; exact hz, kk F3 H3 ρ3 _ _ ((st1.trans st2).trans st3) wd3 sl3 (.str _) q⟩
end
/-! ### list(a text) -/
section
variable {X : Cx} {Q : PyData → Prop}
theorem cr_listS (hc : X.calm = true) : CallR X (.type "list") (fun xs H Q => ∃ x : Str, xs = [V.str x] ∧ x.length ≤ sizeLine ∧ ∀ l, H l = none → Q (.ref l) (upd H l (.lst (x.cps.toList.map fun c => V.str ⟨#[c]⟩)))) := by
  intro pins s σ H xs us Q I rv hw
  obtain ⟨x, rfl, hx, q⟩ := hw
  obtain ⟨u, rfl, t, rfl⟩ := vals1 rv
  refine call_list_str (I.ok.hd hc) x t (hn := hx) fun h' tk acc' c' hk hS hacc => ?_
  have lw : (x.cps.toList.map fun c => V.str ⟨#[c]⟩).length = x.cps.size := by rw [List.length_map, Array.length_toList]
  refine ⟨.ref s.heap.objs.size, upd H s.heap.objs.size (.lst (x.cps.toList.map fun c => V.str ⟨#[c]⟩)), I.laid hk (Nat.le_refl _) (show ObjOk X.prog X.w _ _ _ (.lst (x.cps.toList.map fun c => V.str ⟨#[c]⟩)) from ⟨by rw [lw]; exact hx, acc'.toList, c', ?_, by simpa using hS⟩), rfl, q _ (I.hok.fresh (Nat.le_refl _))⟩
  have ea : acc'.toList.length = acc'.size := by simp
  refine vals_of_at (by rw [lw, ea, hacc.1]) fun j v wv h1 h2 => ?_
  obtain ⟨c, u, hc, rfl⟩ := hacc.2 j wv (by rw [← Array.getElem?_toList]; exact h2)
  rw [List.getElem?_map, Array.getElem?_toList, hc] at h1
  cases h1
  exact ⟨u, rfl⟩
theorem chrDD {K : PySem.W.Frag} {F : Hp} : ∀ cs : List Nat, DDs K F (cs.map fun c => V.str ⟨#[c]⟩) (cs.map fun c => PyData.str ⟨#[c]⟩)
  | [] => .nil
  | c :: cs => .cons (.str _) (chrDD cs)
theorem bc_listS (hc : X.calm = true) {z : Str} (hl : z.length ≤ 16777216) (q : Q (.list (chrD z))) : BC X (.type "list") [.str z] Q := by
  intro F H vs R e hx k
  cases hx with
  | cons h hs =>
    cases hs
    cases h
    refine wca_of (cr_listS hc) ⟨z, rfl, by rw [sizeLine_eq]; exact hl, fun l hl => ?_⟩
    have g := Gr.new (o := .lst (z.cps.toList.map fun c => V.str ⟨#[c]⟩)) e hl
    exact k _ _ _ _ g (.lst upd_same (chrDD _)) q
theorem bw_notInL {x : Str} {ns : List Str} (q : Q (.bool (!decide (x ∈ ns)))) : BW X (compareOp .NotIn) (.str x) (.list (ns.map PyData.str)) Q := by
  intro F H vx vy R e hx hy k
  cases hx
  cases hy with
  | @lst aa xs ds hf dd =>
    obtain rfl := ddL_strs dd
    refine wop_of op_notIn_seq ⟨aa, ns.map V.str, rfl, .inl (SqL.of (e _ _ hf)), rfl, by rw [List.all_map]; exact List.all_eq_true.mpr fun _ _ => rfl, ?_⟩
    show R (.bl (!inV (.str x) (ns.map V.str))) H
    rw [inV_str]
    exact k F H _ _ (Gr.refl e) (.bl _) q
end
end Bp

namespace Bp
open PySem PySem.Spec PyProof.Rows L2
/-! ### a text, so many times -/
section
variable {X : Cx} {Q : PyData → Prop}
theorem op_mul_tx : OpR X (binaryOp .Mult) (fun x y H Q => ∃ z n, x = .str z ∧ y = .int n ∧ MulOk z n ∧ Q (.str (Txt.mul z n)) H) := by
  intro pins s σ H x y v u Q I rx ry h
  obtain ⟨z, n, rfl, rfl, hz, q⟩ := h
  obtain ⟨t, rfl⟩ := rx
  obtain ⟨t', rfl⟩ := ry
  exact SB.mul hz fun t' tk => ⟨.str (Txt.mul z n), H, I.tok _, ⟨_, rfl⟩, q⟩
theorem bw_mulX {z : Str} {n : Int} (h : MulOk z n) (q : Q (.str (Txt.mul z n))) : BW X (binaryOp .Mult) (.str z) (.int n) Q := by
  intro F H vx vy R e hx hy k
  cases hx
  cases hy
  exact wop_of op_mul_tx ⟨_, _, rfl, rfl, h, k F H _ _ (Gr.refl e) (.str _) q⟩
theorem fold_rep (c : Nat) : ∀ (n : Nat) (a : Array Nat), (List.replicate n #[c]).foldl (· ++ ·) a = a ++ (List.replicate n c).toArray
  | 0, a => by simp
  | n + 1, a => by
    rw [List.replicate_succ, List.foldl_cons, fold_rep c n, List.replicate_succ, Array.append_assoc]
    congr 1
    simp
end
end Bp

namespace Bp
open PySem PySem.Spec PyProof.Rows L2
/-! ### t.count(None) -/
def lnO : Option Int → PyData
  | none => .none
  | some i => .int i
def isNV : Value → Bool
  | .none => true
  | _ => false
theorem ln_vals {K : PySem.W.Frag} {F : Hp} : ∀ {os : List (Option Int)} {xs : List V} {us : List Value}, DDs K F xs (os.map lnO) → Vals xs us → (∀ (A : Around) (s : Shared), ∀ y ∈ us, SeqAt.EqAt A s y .none (isNV y)) ∧ us.countP isNV = os.countP (fun o => o.isNone)
  | [], _, _, .nil, .nil => ⟨(fun _ _ y hy => nomatch hy), rfl⟩
  | none :: os, _, _, .cons h hs, .cons r rs => by
    obtain ⟨i1, i2⟩ := ln_vals hs rs
    cases h
    cases (show _ = Value.none from r)
    refine ⟨fun A s y hy => ?_, ?_⟩
    · rcases List.mem_cons.mp hy with rfl | hy
      · exact SeqAt.EqAt.same _
      · exact i1 A s y hy
    · rw [List.countP_cons, List.countP_cons, i2]
      rfl
  | some i :: os, _, _, .cons h hs, .cons r rs => by
    obtain ⟨i1, i2⟩ := ln_vals hs rs
    cases h
    obtain ⟨t, rfl⟩ := r
    refine ⟨fun A s y hy => ?_, ?_⟩
    · rcases List.mem_cons.mp hy with rfl | hy
      · exact SeqAt.EqAt.int_none _ _
      · exact i1 A s y hy
    · rw [List.countP_cons, List.countP_cons, i2]
      rfl
section
variable {P : Program} {w : World} {K : PySem.W.Frag} {mg : Str → Option Value} {base : Heap} {sc : Scope} {N : List Str} {vs ls : List Bool} {k : Nat} {X : Cx} {W : WX} {ρ : Rho} {Q : Rho → PyData → Prop} {E : XQ} {a b c e o : Expr} {es : List Expr} {pos p apos cpos : Pos} {x y z : Str} {i j l : Nat}
theorem ew_cntN (h : EW X W o ρ (fun ρ1 d => ∃ os : List (Option Int), d = .tuple (os.map lnO) ∧ EW X W e ρ1 (fun ρ2 d2 => d2 = .none ∧ Q ρ2 (.int (os.countP (fun o => o.isNone) : Nat))) E) E)
    (hbase : attributeBase o "count" X.env (eval o X.env) = eval o X.env := by with_unfolding_all rfl)
    (hfew : ((backTo cpos (starEach [e] X.env)).all (fun x => !x.1) && (backToKw cpos (keywordEach [] X.env)).all (fun x => x.1.isSome)
      && decide ([e].length + ([] : List Keyword).length + (if ([] : List Keyword).isEmpty then 0 else 1) < 30)) = true := by with_unfolding_all rfl)
    (hline : (apos.endLine == cpos.line) = true := by with_unfolding_all rfl) (hs : starEach [e] X.env = (false, eval e X.env) :: starEach [] X.env := by with_unfolding_all rfl) :
    EW X W (.Call (.Attribute o "count" apos) [e] [] cpos) ρ Q E := by
  intro F H σ R wd sl kx kk pins s I
  refine wpAny_Call_method_late hbase hfew hline rfl (thn (h F H σ (fun v H1 => ∃ F1 ρ1 d, Stp ρ ρ1 F H F1 H1 ∧ Wd X.K F1 H1 ρ1 ∧ Sl X.K F1 σ ρ1 ∧ DD X.K F1 v d ∧ ∃ os : List (Option Int), d = .tuple (os.map lnO) ∧ EW X W e ρ1 (fun ρ2 d2 => d2 = .none ∧ Q ρ2 (.int (os.countP (fun o => o.isNone) : Nat))) E) wd sl kx (fun F1 H1 ρ1 v d st1 wd1 sl1 dd q => ⟨F1, ρ1, d, st1, wd1, sl1, dd, q⟩) pins s I) fun v s1 ⟨x, H1, I1, r1, F1, ρ1, d, st1, wd1, sl1, dd, os, ed, h1⟩ => ?_)
  subst ed
  cases dd with
  | @tup a xs _ sq nd ds =>
    cases r1
    obtain ⟨ob, u, hf, hd⟩ := nd
    have hob : s1.heap.get? a = some ob := (I1.hok a _ (wd1.sub _ _ hf)).1
    obtain ⟨its, rv, pt, hz⟩ := I1.tuple (wd1.sub.sqt sq)
    have hty : s1.TypeIs (.ref a) "tuple" := by
      obtain ⟨o', ho', hc', _⟩ := pt
      exact ⟨o', ho', hc'⟩
    refine ⟨"tuple", "tuple.count", PySem.F.plainAttrs_tuple, PySem.F.slot_tuple_count, PySem.F.type_tuple_count, hty, fun a' e' => ?_, ?_⟩
    · cases e'
      exact ⟨ob, hob, hd⟩
    have hA := (pa_cons (X := X) pe_w pa_nil hs).run cpos pins s1 σ H1 (fun vs H2 => ∃ F2 ρ2, vs = [V.non] ∧ Stp ρ1 ρ2 F1 H1 F2 H2 ∧ Wd X.K F2 H2 ρ2 ∧ Sl X.K F2 σ ρ2 ∧ Q ρ2 (.int (os.countP (fun o => o.isNone) : Nat))) I1
      (h1 F1 H1 σ _ wd1 sl1 (kx.step st1) fun F2 H2 ρ2 v2 d2 st2 wd2 sl2 dd2 q2 => by
        obtain ⟨rfl, q2⟩ := q2
        cases dd2
        exact ⟨F2, ρ2, rfl, st2, wd2, sl2, q2⟩)
    rw [hs] at hA ⊢
    refine Calls.callWith_builtin rfl (Calls.evalArgs_plain ?_)
    refine thn hA fun us s2 ⟨vs, H2, I2, r2, F2, ρ2, ev, st2, wd2, sl2, q2⟩ => ?_
    subst ev
    obtain ⟨u1, rfl, ru⟩ := vals1 r2
    cases (show u1 = Value.none from ru)
    obtain ⟨its2, rv2, ⟨⟨cls, dd, data, sl'⟩, ho, hc, n, hdt⟩, hz2⟩ := I2.tuple (wd2.sub.sqt (st2.ex.sqt sq))
    simp only at hc hdt
    subst hc hdt
    obtain ⟨e1, e2⟩ := ln_vals ds rv2
    refine call_meets PySem.F.slot_tuple_count ⟨_, ho, rfl⟩ PySem.F.entry_tuple_count (PySem.F.args_tuple_count_2 _ _) (SeqAt.tuple_countAt a its2.toArray n dd sl' .none isNV) ⟨ho, fun y hy => e1 _ _ y (by simpa using hy), ?_⟩
    refine ⟨.int (os.countP (fun o => o.isNone) : Nat), H2, I2.tok _, ⟨s2.toks, ?_⟩, kk F2 H2 ρ2 _ _ (st1.trans st2) wd2 sl2 (.int _) q2⟩
    show Value.int ((its2.toArray.toList.countP isNV : Nat) : Int) s2.toks = Value.int _ s2.toks
    rw [show its2.toArray.toList = its2 by simp, e2]
/-! ### dict(pairs) -/
theorem merge_new : ∀ {more acc : List (Key × V)}, ((acc ++ more).map (·.1)).Nodup → mergeK acc more = acc ++ more
  | [], acc, _ => by
    rw [List.append_nil]
    rfl
  | p :: r, acc, h => by
    show mergeK (putK acc p.1 p.2) r = _
    have e : putK acc p.1 p.2 = acc ++ [p] := by
      unfold putK
      rw [if_neg]
      intro z
      obtain ⟨q, hq, e⟩ := List.any_eq_true.mp z
      have e := of_decide_eq_true e
      rw [List.map_append, List.nodup_append] at h
      exact h.2.2 q.1 (List.mem_map.mpr ⟨q, hq, rfl⟩) p.1 (List.mem_map.mpr ⟨p, List.mem_cons_self, rfl⟩) e
    rw [e, merge_new (by rw [List.append_assoc]; exact h), List.append_assoc]
    rfl
theorem refs_of {F : Hp} : ∀ {us : List I2} {xs : List V}, DDs K F xs (us.map prD) → ∃ ps : List Addr, xs = ps.map V.ref ∧ Paired (fun p (kv : Key × V) => SqT K F p [kV kv.1, kv.2]) ps (us.map fun u => (Sum.inl u.1, V.int u.2))
  | [], _, .nil => ⟨[], rfl, .nil⟩
  | u :: us, _, .cons h hs => by
    obtain ⟨ps, rfl, r⟩ := refs_of hs
    cases h with
    | @tup a xs _ sq nd ds =>
      cases ds with
      | cons d1 ds =>
        cases ds with
        | cons d2 ds =>
          cases ds
          cases d1
          cases d2
          exact ⟨a :: ps, rfl, .cons sq r⟩
theorem pr_mono {F H : Hp} (e : Ex F H) : ∀ {ps : List Addr} {kvs : List (Key × V)}, Paired (fun p (kv : Key × V) => SqT K F p [kV kv.1, kv.2]) ps kvs → Paired (fun p (kv : Key × V) => SqT K H p [kV kv.1, kv.2]) ps kvs
  | _, _, .nil => .nil
  | _, _, .cons h t => .cons (e.sqt h) (pr_mono e t)
theorem eo_dictP (C : Cxt P w K mg base sc N vs ls k X W) (B : Blt mg) {Q : Rho → O → Prop} (h : EW X W e ρ (fun ρ1 d => ∃ us : List I2, d = .list (us.map prD) ∧ (us.map (·.1)).Nodup ∧ Q ρ1 (.dic (us.map fun u => (Sum.inl u.1, PyData.int u.2)))) E)
    (hg : sc.names.lookup ("dict" : Str) = some .globalImplicit := by decide +kernel) (he : starEach [e] X.env = (false, eval e X.env) :: starEach [] X.env := by with_unfolding_all rfl) (hpl : (backTo pos (starEach [] X.env)).any (·.1) = false := by with_unfolding_all rfl) :
    EO X W (.Call (.Name "dict" p) [e] [] pos) ρ Q E := by
  intro F H σ R wd sl kx kk
  refine of_pe (pe_callTy (call_dictP C.calm) (C.gl hg) (by rw [C.eg]; exact B.dict) PyProof.Rows.boot_dict (pa_cons pe_w pa_nil he) (by decide) (by decide) he hpl) ?_
  refine h F H σ _ wd sl kx fun F1 H1 ρ1 v d st1 wd1 sl1 dd1 h1 => ?_
  obtain ⟨us, rfl, nd, q⟩ := h1
  cases dd1 with
  | @lst a xs ds hf dd =>
    obtain ⟨ps, rfl, hp⟩ := refs_of dd
    refine ⟨a, ps, _, rfl, SqL.of (wd1.sub _ _ hf), pr_mono wd1.sub hp, fun p hp => ?_⟩
    have em : mergeK [] (us.map fun u => ((Sum.inl u.1 : Key), V.int u.2)) = us.map fun u => ((Sum.inl u.1 : Key), V.int u.2) := by
      refine merge_new ?_
      rw [List.nil_append, List.map_map]
      rw [show ((fun (kv : Key × V) => kv.1) ∘ fun (u : I2) => ((Sum.inl u.1 : Key), V.int u.2)) = (fun i => (Sum.inl i : Key)) ∘ (fun (u : I2) => u.1) from rfl, ← List.map_map]
      rw [List.Nodup, List.pairwise_map]
      exact List.Pairwise.imp (fun {a b} ne e => ne (Sum.inl.inj e)) nd
    rw [em]
    have g : Gr F1 H1 F1 (upd H1 p (.dK (us.map fun u => ((Sum.inl u.1 : Key), V.int u.2)))) := Gr.side wd1.sub hp
    refine kk F1 _ ρ1 p _ (.dic (us.map fun u => (Sum.inl u.1, PyData.int u.2))) (st1.trans g.stp) (wd1.gr g) sl1 (st1.all p hp) (wd1.sub.none hp) (fun ⟨j, o, z⟩ => ?_) upd_same ⟨_, rfl, ?_, ?_⟩ q
    · obtain ⟨_, ho, z2, _⟩ := wd1.own j p o z
      rw [hp] at z2
      cases z2
    · rw [List.map_map, List.map_map]
      rfl
    · rw [List.map_map, List.map_map]
      have := DDs.ofInts (K := X.K) (F := F1) (us.map (·.2))
      rw [List.map_map, List.map_map] at this
      exact this
end
section
variable {X : Cx} {Q : PyData → Prop}
theorem bw_isB {a b : Bool} (q : Q (.bool (decide (a = b)))) : BW X (compareOp .Is) (.bool a) (.bool b) Q := by
  intro F H vx vy R e hx hy k
  cases hx
  cases hy
  exact wop_of op_is_bl ⟨_, _, rfl, rfl, k F H _ _ (Gr.refl e) (.bl _) q⟩
end
end Bp

namespace Bp
open PySem PySem.Spec PyProof.Rows L2
/-! ### new lists of new lists -/
section
variable {K : PySem.W.Frag} {F H F' H' H0 H1 : Hp} {ρ ρ' : Rho} {σ : L2.St} {i : Nat} {v : V} {s : S} {vs us : List V} {ss ts : List S}
theorem NewS.step (h : NewS K F H H0 ρ vs ss) (st : Stp ρ ρ' F H F' H') : NewS K F' H' H0 ρ' vs ss := by
  induction h with
  | nil => exact .nil
  | cons n f d r ih => exact .cons (n.step st) f d ih
theorem NewS.app (h : NewS K F H H0 ρ vs ss) (g : NewS K F H H0 ρ us ts) (dis : ∀ s ∈ ss, ∀ a, ownA s a → ∀ t ∈ ts, ¬ ownA t a) : NewS K F H H0 ρ (vs ++ us) (ss ++ ts) := by
  induction h with
  | nil => exact g
  | @cons v vs s ss n f d r ih =>
    refine .cons n f (fun a ha t ht => ?_) (ih fun s hs => dis s (List.mem_cons_of_mem _ hs))
    rcases List.mem_append.mp ht with ht | ht
    · exact d a ha t ht
    · exact dis _ List.mem_cons_self a ha t ht
/-- what is owned stands -/
theorem NewS.stands (h : NewS K F H H0 ρ vs ss) : ∀ s ∈ ss, ∀ a, ownA s a → ∃ ho, H a = some ho := by
  induction h with
  | nil => exact fun s hs => (nomatch hs)
  | @cons v vs s ss n f d r ih =>
    intro t ht a ha
    rcases List.mem_cons.mp ht with rfl | ht
    · cases t with
      | own q o =>
        obtain ⟨_, _, _, ho, hh, _⟩ := n
        exact ⟨ho, by rw [show a = q from ha]; exact hh⟩
      | d d => exact ha.elim
      | scr ns => exact ha.elim
    · exact ih t ht a ha
def LsOf (ss : List S) (dss : List (List PyData)) : Prop := Paired (fun s ds => ∃ q, s = S.own q (.lst ds)) ss dss
theorem LsOf.app {ss ts : List S} {a b : List (List PyData)} (h : LsOf ss a) (g : LsOf ts b) : LsOf (ss ++ ts) (a ++ b) := by
  unfold LsOf at h g ⊢
  induction h with
  | nil => exact g
  | cons x y ih => exact .cons x ih
theorem NewS.nest (h : NewS K F H H0 ρ vs ss) : ∀ {dss : List (List PyData)}, LsOf ss dss → ∃ as : List Addr, vs = as.map V.ref ∧ as.Nodup ∧ as.length = dss.length ∧ (∀ a ∈ as, ∃ s ∈ ss, ownA s a) ∧
    ∀ (i : Nat) a ds, as[i]? = some a → dss[i]? = some ds → H0 a = none ∧ F a = none ∧ ¬ Owns ρ a ∧ ∃ xs, H a = some (.lst xs) ∧ DDs K F xs ds := by
  induction h with
  | nil =>
    intro dss l
    cases l
    exact ⟨[], rfl, List.nodup_nil, rfl, (fun a h => nomatch h), fun i a ds z => by simp at z⟩
  | @cons v vs s ss n f d r ih =>
    intro dss l
    cases l with
    | @cons _ ds _ dss hq l =>
      obtain ⟨q, rfl⟩ := hq
      obtain ⟨as, rfl, nd, hl, own, each⟩ := ih l
      obtain ⟨rfl, fq, nq, ho, hh, xs, rfl, dd⟩ := n
      refine ⟨q :: as, rfl, List.nodup_cons.mpr ⟨fun z => ?_, nd⟩, by rw [List.length_cons, List.length_cons, hl], fun a ha => ?_, fun i a ds' ha hd => ?_⟩
      · obtain ⟨t, ht, e⟩ := own q z
        exact d q rfl t ht e
      · rcases List.mem_cons.mp ha with rfl | ha
        · exact ⟨_, List.mem_cons_self, rfl⟩
        · obtain ⟨t, ht, e⟩ := own a ha
          exact ⟨t, List.mem_cons_of_mem _ ht, e⟩
      · cases i with
        | zero =>
          cases ha
          cases hd
          exact ⟨f q rfl, fq, nq, xs, hh, dd⟩
        | succ i => exact each i a ds' (by simpa using ha) (by simpa using hd)
theorem Sl.gone (h : Sl K F σ ρ) : Sl K F (σ.set i (some v)) (ρ.set i none) where
  len := by rw [List.length_set, List.length_set]; exact h.len
  get := fun j z q => by
    rw [List.getElem?_set] at q ⊢
    split at q
    · split at q
      · cases (Option.some.inj q)
      · cases q
    · rename_i e
      rw [if_neg e]
      exact h.get j z q
theorem Sl.drop (h : Sl K F σ ρ) : Sl K F σ (ρ.set i none) where
  len := by rw [List.length_set]; exact h.len
  get := fun j z q => by
    rw [List.getElem?_set] at q
    split at q
    · split at q
      · cases (Option.some.inj q)
      · cases q
    · exact h.get j z q
theorem owns_gone {a : Addr} (h : Owns (ρ.set i none) a) : Owns ρ a := by
  obtain ⟨j, o, q⟩ := h
  exact ⟨j, o, set_own noN q⟩
theorem no_owns (wd : Wd K F H ρ) {a : Addr} (h : H a = none) : ¬ Owns ρ a := fun ⟨j, o, z⟩ => by
  obtain ⟨_, _, z2, _⟩ := wd.own j a o z
  rw [h] at z2
  cases z2
/-- a new list stays as it is from here on -/
theorem frz0 {p : Addr} {xs : List V} (st : Stp ρ ρ' F H F' H') (wd : Wd K F' H' ρ') (hp : H p = none) (fp : F' p = none) (np : ¬ Owns ρ' p) (hh : H' p = some (.lst xs)) :
    Stp ρ ρ' F H (upd F' p (.lst xs)) H' ∧ Wd K (upd F' p (.lst xs)) H' ρ' ∧ Ex F' (upd F' p (.lst xs)) := by
  have ex : Ex F' (upd F' p (.lst xs)) := Ex.new fp
  refine ⟨⟨st.ex.trans ex, st.keep, fun a o f h n => ?_, st.own, st.all⟩, ⟨fun a o q => ?_, fun j a o q => ?_, wd.dis⟩, ex⟩
  · rw [upd_ne (ne_of_none h hp)]
    exact st.fr a o f h n
  · by_cases z : a = p
    · subst z
      rw [upd_same] at q
      rw [hh, q]
    · rw [upd_ne z] at q
      exact wd.sub a o q
  · obtain ⟨h1, ho, h2, h3⟩ := wd.own j a o q
    have ne : a ≠ p := fun z => np (z ▸ ⟨j, o, q⟩)
    exact ⟨by rw [upd_ne ne]; exact h1, ho, h2, h3.mono ex⟩
end
section
variable {P : Program} {w : World} {K : PySem.W.Frag} {mg : Str → Option Value} {base : Heap} {sc : Scope} {N : List Str} {vs ls : List Bool} {k : Nat} {X : Cx} {W : WX} {ρ : Rho} {Q : Rho → PyData → Prop} {E : XQ} {Nx : Rho → Prop} {R : Rho → Ret → Prop} {a b c e e1 e2 e3 e4 e5 e6 : Expr} {es : List Expr} {pos pos2 pos3 p p2 p3 p4 p5 p6 px py pz pt pt2 : Pos} {x y z : Str} {i j l kt k2 : Nat} {body sts : List Stmt}
/-- xs = [a, b, c]; xs = xs + [d, e, f]; return xs: new lists in a new list -/
theorem sw_lists (C : Cxt P w K mg base sc N vs ls k X W) [sx : Slot N x i] (hl : ls[i]? = some true) (hv : vs[i]? = some true) (hi : i < ρ.length)
    (h : AO X W [e1, e2, e3] ρ (fun ρ1 ss => ∃ d1 d2 d3, LsOf ss [d1, d2, d3] ∧ AO X W [e4, e5, e6] (ρ1.set i none) (fun ρ2 ts => ∃ d4 d5 d6, LsOf ts [d4, d5, d6] ∧ R ρ2 (.nest [d1, d2, d3, d4, d5, d6])) E) E)
    (hd : (x == ("__debug__" : Str)) = false := by decide) (hcd : (x == ("__classdict__" : Str)) = false := by decide)
    (hs : swapsWith (.List [e1, e2, e3] p) (some (.Name x px)) pos.line X.env = pure false := by with_unfolding_all rfl) (hs2 : swapsWith (.BinOp (.Name x p2) .Add (.List [e4, e5, e6] p3) p4) (some (.Name x py)) pos2.line X.env = pure false := by with_unfolding_all rfl) :
    SW X W [.Assign [.Name x px] (.List [e1, e2, e3] p) pos, .Assign [.Name x py] (.BinOp (.Name x p2) .Add (.List [e4, e5, e6] p3) p4) pos2, .Return (some (.Name x p5)) pos3] ρ Nx R E := by
  intro F H σ D wd sl kx kn kr
  have nd : X.N.Nodup := by rw [C.eN]; exact C.nd
  have gt : X.N[i]? = some x := by rw [C.eN]; exact sx.get
  have iσ : i < σ.length := by rw [sl.len]; exact hi
  have gσ : ∀ {σ' : L2.St} {u : V}, σ'.length = σ.length → (σ'.set i (some u))[i]? = some (some u) := fun {σ' u} z => by
    rw [List.getElem?_set_self (by rw [z]; exact iσ)]
  refine of_pss (pss_cons ps_w pss_w) ?_
  refine of_ps (ps_set (i := i) nd gt (C.lo sx.get hl) (pe_lst pa_w) hs (C.st sx.get hl)) ?_
  refine h F H σ _ wd sl kx fun F1 H1 ρ1 us ss st1 wd1 sl1 nw q => ?_
  obtain ⟨d1, d2, d3, l1, h2⟩ := q
  obtain ⟨as0, eu0, _, ln0, _, _⟩ := nw.nest l1
  have ln0 : us.length = 3 := by rw [eu0, List.length_map]; exact ln0
  refine ⟨by rw [ln0, sizeLine_eq]; decide, fun pa hpa => ?_⟩
  have g1 : Gr F1 H1 F1 (upd H1 pa (.lst us)) := Gr.side wd1.sub hpa
  have npa := no_owns wd1 hpa
  have sA : Stp ρ (ρ1.set i none) F H F1 (upd H1 pa (.lst us)) := (st1.trans g1.stp).trans (Stp.set noN)
  have wA : Wd X.K F1 (upd H1 pa (.lst us)) (ρ1.set i none) := (wd1.gr g1).set noN
  have lA : Sl X.K F1 (σ.set i (some (.ref pa))) (ρ1.set i none) := sl1.gone
  have nA : NewS X.K F1 (upd H1 pa (.lst us)) H (ρ1.set i none) us ss := (nw.step g1.stp).step (Stp.set noN)
  refine of_pss (pss_cons ps_w pss_w) ?_
  refine of_ps (ps_set (i := i) nd gt (C.lo sx.get hl) (pe_op op_cat (pv_of C hv hd hcd) (pe_lst pa_w)) hs2 (C.st sx.get hl)) ?_
  refine ⟨_, gσ rfl, ?_⟩
  refine h2 F1 _ _ _ wA lA (kx.step sA) fun F3 H3 ρ3 ws ts st3 wd3 sl3 nw3 q3 => ?_
  obtain ⟨d4, d5, d6, l3, r⟩ := q3
  obtain ⟨as1, eu1, _, ln1, _, _⟩ := nw3.nest l3
  have ln1 : ws.length = 3 := by rw [eu1, List.length_map]; exact ln1
  refine ⟨by rw [ln1, sizeLine_eq]; decide, fun pb hpb => ?_⟩
  have hpa3 : H3 pa = some (.lst us) := st3.keep pa _ upd_same fun z => npa (owns_gone z)
  have g2 : Gr F3 H3 F3 (upd H3 pb (.lst ws)) := Gr.side wd3.sub hpb
  have nab : pa ≠ pb := ne_of_none hpa3 hpb
  refine ⟨pa, pb, us, ws, rfl, rfl, by rw [upd_ne nab]; exact hpa3, upd_same, by rw [ln0, ln1, sizeLine_eq]; decide, fun pc hpc => ?_⟩
  have g3 : Gr F3 (upd H3 pb (.lst ws)) F3 (upd (upd H3 pb (.lst ws)) pc (.lst (us ++ ws))) := Gr.side (wd3.gr g2).sub hpc
  have sB := (st3.trans g2.stp).trans g3.stp
  have wB := (wd3.gr g2).gr g3
  have n1 := nA.step sB
  have n2 : NewS X.K F3 (upd (upd H3 pb (.lst ws)) pc (.lst (us ++ ws))) H ρ3 ws ts := ((nw3.step g2.stp).step g3.stp).back sA.all
  have nn := n1.app n2 fun s hs a ha t ht z => by
    obtain ⟨ho, hh⟩ := nA.stands s hs a ha
    have := nw3.fresh t ht a z
    rw [hh] at this
    cases this
  have npc := no_owns (wd3.gr g2) hpc
  have hpc0 : H pc = none := sA.all pc (st3.all pc (g2.exH.none hpc))
  obtain ⟨as, ea, nds, lna, own, each⟩ := nn.nest (dss := [d1, d2, d3, d4, d5, d6]) (l1.app l3)
  refine of_pss (pss_cons ps_w pss_w) ?_
  refine of_ps (ps_ret (pv_of C hv hd hcd)) ?_
  refine ⟨_, gσ (by rw [List.length_set]), ?_⟩
  refine kr F3 _ ρ3 _ (.nest [d1, d2, d3, d4, d5, d6]) (sA.trans sB) wB ⟨pc, as, rfl, hpc0, (wd3.gr g2).sub.none hpc, npc, by rw [← ea]; exact upd_same, List.nodup_cons.mpr ⟨fun z => ?_, nds⟩, lna, each⟩ r
  obtain ⟨s, hs, ha⟩ := own pc z
  rcases List.mem_append.mp hs with hs | hs
  · obtain ⟨ho, hh⟩ := (nA.step (st3.trans g2.stp)).stands s hs pc ha
    rw [hpc] at hh
    cases hh
  · obtain ⟨ho, hh⟩ := (nw3.step g2.stp).stands s hs pc ha
    rw [hpc] at hh
    cases hh
/-! ### a call that hands back a new list of new lists -/
def EL (X : Cx) (W : WX) (e : Expr) (ρ : Rho) (Q : Rho → List (List PyData) → Prop) (E : XQ) : Prop := ∀ F H σ (R : VK), Wd X.K F H ρ → Sl X.K F σ ρ → Kx X.K W ρ F H E →
  (∀ F' H' ρ' v dss, Stp ρ ρ' F H F' H' → Wd X.K F' H' ρ' → Sl X.K F' σ ρ' → Nest X.K H F' H' ρ' v dss → Q ρ' dss → R v H') → WEx X e σ H R
theorem el_call (C : Cxt P w K mg base sc N vs ls k X W) {j : Nat} {Pf : PF} {Q : Rho → List (List PyData) → Prop} (G : Fn P w K mg base j x Pf) (h : AW X W (e :: es) ρ (fun ρ1 ds => Pf ds (fun r => ∃ dss, r = .nest dss ∧ Q ρ1 dss) (E ρ1)) E) (hj : j ≤ k := by decide) (hg : sc.names.lookup x = some .globalImplicit := by decide +kernel)
    (hdb : (x == ("__debug__" : Str)) = false := by decide) (he : starEach (e :: es) X.env = (false, eval e X.env) :: starEach es X.env := by with_unfolding_all rfl) (hpl : (backTo pos (starEach es X.env)).any (·.1) = false := by with_unfolding_all rfl) :
    EL X W (.Call (.Name x p) (e :: es) [] pos) ρ Q E := by
  intro F H σ R wd sl kx kk
  obtain ⟨f, fd, ps, ok, hm, kp, bd⟩ := G
  have hgl := C.gl hg
  have hr : Room j X.A := C.room.mono hj
  obtain ⟨rfl, rfl, rfl, rfl, rfl⟩ : X.prog = P ∧ X.w = w ∧ X.K = K ∧ X.mg = mg ∧ X.base = base := ⟨C.eP, C.ew, C.eK, C.eg, C.eb⟩
  refine of_pe (pe_callS ok hr hgl hm kp bd (fun σ => passAt C.tk σ) pa_w hdb he hpl) ?_
  refine h F H σ _ wd sl kx fun F1 H1 ρ1 vs ds st1 wd1 sl1 dd1 h1 => ?_
  refine ⟨F1, ds, _, _, wd1.sub, dd1, h1, fun F' H' v r g rt q => ?_, fun F' H' y xd g xa q => kx F' H' σ ρ1 y xd (st1.trans g.stp) (wd1.gr g) (sl1.mono g.ex) xa q⟩
  obtain ⟨dss, rfl, q⟩ := q
  obtain ⟨pa, as, rfl, h0, f', _, hh, nd, hl, each⟩ := rt
  refine kk F' H' ρ1 _ dss (st1.trans g.stp) (wd1.gr g) (sl1.mono g.ex) ⟨pa, as, rfl, st1.all pa h0, f', no_owns wd1 h0, hh, nd, hl, fun i a ds ha hd => ?_⟩ q
  obtain ⟨g0, g1, _, g2⟩ := each i a ds ha hd
  exact ⟨st1.all a g0, g1, no_owns wd1 g0, g2⟩
/-- xs.reverse() -/
theorem ew_revO (C : Cxt P w K mg base sc N vs ls k X W) [sx : Slot N x i] {q : Addr} {ds : List PyData} (hs : ρ[i]? = some (some (.own q (.lst ds)))) (hv : vs[i]? = some true) (h : Q (ρ.set i (some (.own q (.lst ds.reverse)))) .none)
    (hd : (x == ("__debug__" : Str)) = false := by decide) (hcd : (x == ("__classdict__" : Str)) = false := by decide)
    (hbm : PE X (.Name x p) (tVar i) → PE X (.Call (.Attribute (.Name x p) "reverse" p2) [] [] pos) (tBM X.K "list" rReverse (tVar i) tNil) := by intro h1; exact pe_bm0 PySem.F.plainAttrs_list PySem.F.slot_list_reverse PySem.F.type_list_reverse mt_reverse h1 (by with_unfolding_all rfl) (by with_unfolding_all rfl)) : EW X W (.Call (.Attribute (.Name x p) "reverse" p2) [] [] pos) ρ Q E := by
  intro F H σ R wd sl kx kk
  refine of_pe (hbm (pv_of C hv hd hcd)) ?_
  obtain ⟨v, h1, h2⟩ := sl.get i _ hs
  cases (show v = .ref q from h2)
  refine ⟨_, h1, ty_list wd hs, ?_⟩
  obtain ⟨f1, ho, hh, xs, rfl, dd⟩ := wd.own i q _ hs
  have rv : ∀ {us : List V} {es : List PyData}, DDs X.K F us es → DDs X.K F us.reverse es.reverse := by
    intro us es h
    induction us generalizing es with
    | nil =>
      cases h
      exact .nil
    | cons u us ih =>
      cases h with
      | cons a b =>
        rw [List.reverse_cons, List.reverse_cons]
        exact (ih b).append (.cons a .nil)
  obtain ⟨s2, w2, l2⟩ := own_upd wd sl hs f1 hh (rv dd)
  exact ⟨q, xs, rfl, rfl, hh, kk F _ _ _ _ s2 w2 l2 .non h⟩
/-- xs, ys = f(..), g(..), xs new lists in a new list; then each of them is changed in turn -/
theorem sw_some (C : Cxt P w K mg base sc N vs ls k X W) [sx : Slot N x i] [sy : Slot N y j] [sz : Slot N z l] (hv : vs[i]? = some true) (hll : ls[l]? = some true) (hi : i < ρ.length)
    (h : EL X W a ρ (fun ρ1 dss => EW X W b ρ1 (fun ρ2 d2 => (∀ q ds, ds ∈ dss → SW X W body ((((ρ2.set i none).set j (some (.d d2))).set l none).set l (some (.own q (.lst ds)))) (fun ρ' => ∃ s, ρ' = (((ρ2.set i none).set j (some (.d d2))).set l none).set l s) R E) ∧ SW X W sts (((ρ2.set i none).set j (some (.d d2))).set l none) Nx R E) E) E)
    (hij : i ≠ j := by decide) (hx : sc.names.lookup x = some .local := by decide +kernel) (hy : sc.names.lookup y = some .local := by decide +kernel) (hd : (x == ("__debug__" : Str)) = false := by decide) (hcd : (x == ("__classdict__" : Str)) = false := by decide)
    (hw : swappedStores [.Tuple [.Name x px, .Name y py] kt pt] (.Tuple [a, b] k2 pt2) (envOf sc) = pure (some [x, y]) := by with_unfolding_all rfl)
    (hs : swapsWithSole [.Tuple [.Name x px, .Name y py] kt pt] (.Tuple [a, b] k2 pt2) pos.line X.env = pure false := by with_unfolding_all rfl)
    (he : starEach [a, b] X.env = (false, eval a X.env) :: starEach [b] X.env := by with_unfolding_all rfl) (he2 : starEach [b] X.env = (false, eval b X.env) :: starEach [] X.env := by with_unfolding_all rfl)
    (hf : ∀ u, foldedSetIterable (.Name x p3) X.env u = pure u := by intro _; with_unfolding_all rfl) :
    SW X W (.Assign [.Tuple [.Name x px, .Name y py] kt pt] (.Tuple [a, b] k2 pt2) pos :: .For (.Name z pz) (.Name x p3) body [] pos2 :: sts) ρ Nx R E := by
  intro F H σ D wd sl kx kn kr
  have nd : X.N.Nodup := by rw [C.eN]; exact C.nd
  have iσ : i < σ.length := by rw [sl.len]; exact hi
  refine of_pss (pss_cons ps_w pss_w) ?_
  refine of_ps (ps_par (i := i) (j := j) C.calm nd (by rw [C.eN]; exact sx.get) (by rw [C.eN]; exact sy.get) hij (by rw [C.es]; exact hx) (by rw [C.es]; exact hy) (pa_cons pe_w (pa_cons pe_w pa_nil he2) he) (by rw [swapped_eq C]; exact hw) hs) ?_
  refine h F H σ _ wd sl kx fun F1 H1 ρ1 v dss st1 wd1 sl1 ns h1 => ?_
  refine h1 F1 H1 σ _ wd1 sl1 (kx.step st1) fun F2 H2 ρ2 u d2 st2 wd2 sl2 dd2 h2 => ?_
  obtain ⟨hbody, hrest⟩ := h2
  obtain ⟨pa, as, rfl, hp0, fp1, np1, hp1, ndup, hlen, each⟩ := ns
  -- the outer list stays as it is
  have sT := st1.trans st2
  have hp2 : H2 pa = some (.lst (as.map V.ref)) := st2.keep pa _ hp1 np1
  have fp2 : F2 pa = none := st2.fr pa _ fp1 hp1 np1
  have np2 : ¬ Owns ρ2 pa := fun z => (st2.own pa z).elim np1 fun z => by
    rw [hp1] at z
    cases z
  obtain ⟨sT', wT, exT⟩ := frz0 sT wd2 hp0 fp2 np2 hp2
  have nda := List.nodup_cons.mp ndup
  -- the inner lists stand as they were
  have inn : ∀ (n : Nat) c ds, as[n]? = some c → dss[n]? = some ds → upd F2 pa (.lst (as.map V.ref)) c = none ∧ ¬ Owns ρ2 c ∧ ∃ xs, H2 c = some (.lst xs) ∧ DDs X.K (upd F2 pa (.lst (as.map V.ref))) xs ds := fun n c ds hc hds => by
    obtain ⟨g0, g1, g2, xs, g3, g4⟩ := each n c ds hc hds
    have ne : c ≠ pa := fun e => nda.1 (e ▸ List.mem_of_getElem? hc)
    refine ⟨by rw [upd_ne ne]; exact st2.fr c _ g1 g3 g2, fun z => (st2.own c z).elim g2 fun z => ?_, xs, st2.keep c _ g3 g2, (g4.mono st2.ex).mono exT⟩
    rw [g3] at z
    cases z
  refine ⟨_, _, rfl, ?_⟩
  refine of_pss (pss_cons ps_w pss_w) ?_
  refine of_ps (ps_for C.po C.calm pi_w pg_w pss_w hf) ?_
  refine of_pi (pi_seq (pv_of C hv hd hcd)) ?_
  have gσ : (((σ.set i (some (.ref pa))).set j (some u)))[i]? = some (some (.ref pa)) := by
    rw [List.getElem?_set_ne (Ne.symm hij), List.getElem?_set_self iσ]
  refine ⟨_, gσ, pa, rfl, .inl ⟨⟨_, SqL.of hp2⟩, ?_⟩⟩
  -- the turns
  let G : Hp := upd F2 pa (.lst (as.map V.ref))
  let r0 : Rho := ((ρ2.set i none).set j (some (.d d2))).set l none
  have s0 : Stp ρ2 r0 G H2 G H2 := ((Stp.set noN).trans (Stp.set noD)).trans (Stp.set noN)
  have w0 : Wd X.K G H2 r0 := ((wT.set noN).set noD).set noN
  have l0 : Sl X.K G ((σ.set i (some (.ref pa))).set j (some u)) r0 := (((sl2.mono exT).gone).set (dd2.mono exT)).drop
  have sS : Stp ρ r0 F H G H2 := sT'.trans s0
  have rr : ∀ s : Option S, (r0.set l s).set l none = r0 := fun s => by
    show ((((ρ2.set i none).set j (some (.d d2))).set l none).set l s).set l none = _
    rw [List.set_set, List.set_set]
  have fr0 : ∀ c ∈ as, H c = none := fun c hc => by
    obtain ⟨n, hn, e⟩ := List.getElem_of_mem hc
    exact (each n c (dss[n]'(by omega)) (by rw [List.getElem?_eq_getElem hn, e]) (List.getElem?_eq_getElem (by omega))).1
  refine ⟨fun n m σ5 H5 => m = as.length - n ∧ n ≤ as.length ∧ ∃ F5, Ex G F5 ∧ Stp ρ r0 F H F5 H5 ∧ Wd X.K F5 H5 r0 ∧ Sl X.K F5 σ5 r0 ∧ ∀ (t : Nat) c ds, n ≤ t → as[t]? = some c → dss[t]? = some ds → F5 c = none ∧ ¬ Owns r0 c ∧ ∃ xs, H5 c = some (.lst xs) ∧ DDs X.K F5 xs ds, ⟨_, rfl, Nat.zero_le _, G, Ex.refl _, sS, w0, l0, fun t c ds _ hc hds => ?_⟩, ?_⟩
  · obtain ⟨i1, i2, i3⟩ := inn t c ds hc hds
    refine ⟨i1, fun z => (s0.own c z).elim i2 fun z => ?_, i3⟩
    obtain ⟨xs, i3, _⟩ := i3
    rw [i3] at z
    cases z
  rintro n m σ5 H5 ⟨rfl, hn, F5, ex5, st5, wd5, sl5, side⟩
  have hpa5 : H5 pa = some (.lst (as.map V.ref)) := wd5.sub _ _ (ex5 _ _ upd_same)
  by_cases hlt : n < as.length
  · have hc : as[n]? = some as[n] := List.getElem?_eq_getElem hlt
    have hdl : n < dss.length := by omega
    have hds : dss[n]? = some dss[n] := List.getElem?_eq_getElem hdl
    refine .inr ⟨⟨_, .ref as[n], SqL.of hpa5, by rw [List.getElem?_map, hc]; rfl⟩, fun σ6 H6 => ∃ F6, Ex G F6 ∧ Stp ρ r0 F H F6 H6 ∧ Wd X.K F6 H6 r0 ∧ Sl X.K F6 σ6 r0 ∧ ∀ (t : Nat) c ds, n + 1 ≤ t → as[t]? = some c → dss[t]? = some ds → F6 c = none ∧ ¬ Owns r0 c ∧ ∃ xs, H6 c = some (.lst xs) ∧ DDs X.K F6 xs ds, fun σ6 H6 hh => ⟨_, by omega, rfl, hlt, hh⟩, fun y' H6 hy' => ?_⟩
    obtain ⟨rfl, hy'⟩ := hy'
    have ey := hy' _ (SqL.of hpa5)
    rw [List.getElem?_map, hc] at ey
    cases ey
    refine of_pg (pg_name (i := l) nd (by rw [C.eN]; exact sz.get) (C.lo sz.get hll) (C.st sz.get hll)) ?_
    obtain ⟨f6, n6, xs, h6, dd6⟩ := side n _ _ (Nat.le_refl _) hc hds
    have wd6 : Wd X.K F5 H6 (r0.set l (some (.own as[n] (.lst dss[n])))) := wd5.own_set f6 n6 h6 ⟨xs, rfl, dd6⟩
    have sl6 : Sl X.K F5 (σ5.set l (some (.ref as[n]))) (r0.set l (some (.own as[n] (.lst dss[n])))) := sl5.own_set
    have st6 : Stp ρ (r0.set l (some (.own as[n] (.lst dss[n])))) F H F5 H6 := st5.setS fun c hc' => by
      rw [show c = as[n] from hc']
      exact fr0 _ (List.getElem_mem hlt)
    refine hbody as[n] dss[n] (List.getElem_mem hdl) F5 H6 _ _ wd6 sl6 (kx.step st6) (fun F7 H7 σ7 ρ7 st7 wd7 sl7 hs7 => ?_) (fun F7 H7 ρ7 v d st7 wd7 dd7 r => kr F7 H7 ρ7 v d (st6.trans st7) wd7 (dd7.back st6) r)
    obtain ⟨s7, rfl⟩ := hs7
    have e7 := rr s7
    have stA := (st6.trans st7).trans (Stp.set (i := l) noN)
    have wdA := wd7.set (i := l) noN
    have slA := sl7.drop (i := l)
    have e7' : ((((ρ2.set i none).set j (some (.d d2))).set l none).set l s7).set l none = r0 := e7
    rw [e7'] at stA wdA slA
    refine ⟨F7, ex5.trans st7.ex, stA, wdA, slA, fun t c ds ht hct hdt => ?_⟩
    obtain ⟨g1, g2, ys, g3, g4⟩ := side t c ds (by omega) hct hdt
    have ne : c ≠ as[n] := fun e => by
      have h1 := List.getElem?_eq_some_iff.mp hct
      have := (List.getElem_inj nda.2).mp (show as[t]'h1.1 = as[n] by rw [h1.2, e])
      omega
    have nc : ¬ Owns (r0.set l (some (.own as[n] (.lst dss[n])))) c := fun z => by
      rcases owns_set z with z | z
      · exact g2 z
      · exact ne z
    exact ⟨st7.fr c _ g1 g3 nc, g2, ys, st7.keep c _ g3 nc, g4.mono st7.ex⟩
  · have e : n = as.length := by omega
    subst e
    refine .inl ⟨⟨_, SqL.of hpa5, by rw [List.length_map]; exact Nat.le_refl _⟩, ?_⟩
    exact hrest F5 H5 σ5 D wd5 sl5 (kx.step st5) (fun F6 H6 σ6 ρ6 st6 wd6 sl6 nx => kn F6 H6 σ6 ρ6 (st5.trans st6) wd6 sl6 nx) (fun F6 H6 ρ6 v d st6 wd6 dd6 r => kr F6 H6 ρ6 v d (st5.trans st6) wd6 (dd6.back st5) r)
end
end Bp

namespace Bp
open PySem PySem.Spec PyProof.Rows L2
/-! ### built-in functions that make new lists; tuple(range(n)) -/
/-- f(ds) is a new list of Q's items -/
def BN (X : Cx) (f : Value) (xs : List PyData) (Q : List PyData → Prop) : Prop := ∀ F H vs (R : VK), Ex F H → DDs X.K F vs xs → (∀ p us es, H p = none → DDs X.K F us es → Q es → R (.ref p) (upd H p (.lst us))) → wCa X f vs H R
section
variable {P : Program} {w : World} {K : PySem.W.Frag} {mg : Str → Option Value} {base : Heap} {sc : Scope} {N : List Str} {vs ls : List Bool} {k : Nat} {X : Cx} {W : WX} {ρ : Rho} {E : XQ} {a e : Expr} {es : List Expr} {pos p p2 p3 : Pos} {x : Str}
theorem en_callB (C : Cxt P w K mg base sc N vs ls k X W) {id : String} {Q : Rho → List PyData → Prop} (hv : bootBuiltins x = some (.builtin id)) (hm : mg x = none) (h : AW X W (e :: es) ρ (fun ρ1 ds => BN X (.builtin id) ds (Q ρ1)) E) (hg : sc.names.lookup x = some .globalImplicit := by decide +kernel)
    (hn : x ≠ "__name__" := by decide) (hdb : (x == ("__debug__" : Str)) = false := by decide) (he : starEach (e :: es) X.env = (false, eval e X.env) :: starEach es X.env := by with_unfolding_all rfl) (hpl : (backTo pos (starEach es X.env)).any (·.1) = false := by with_unfolding_all rfl) :
    EN X W (.Call (.Name x p) (e :: es) [] pos) ρ Q E := by
  intro F H σ R wd sl kx kk
  refine of_pe (pe_callB wca_self (C.gl hg) (by rw [C.eg]; exact hm) hv pa_w hn hdb he hpl) ?_
  refine h F H σ _ wd sl kx fun F1 H1 ρ1 vs ds st1 wd1 sl1 dd1 h1 => ?_
  exact h1 F1 H1 vs R wd1.sub dd1 fun p us es hp dd q => en_fin kk st1 wd1 sl1 hp dd q
/-- tuple(range(..)), the new one known to the object -/
theorem pe_tupRgF {te : L2.St → Hp → (Int → Int → Hp → Prop) → Prop} (hc : X.calm = true) (g : Gl X "tuple") (m : X.mg "tuple" = none) (he : PRg X e te) (na : starEach [e] X.env = (false, eval e X.env) :: starEach [] X.env) :
    PE X (.Call (.Name "tuple" p) [e] [] pos) (fun σ H Q => te σ H fun lo hi H1 => RgOk lo hi ∧ ∀ (l : Addr) (o : Obj), H1 l = none → o.dict = none → Q (.ref l) (upd H1 l (.frz o (.tup (rgV lo hi))))) := by
  refine ⟨fun pins s σ H Q I h => Call_ (ld_blt I g m boot_tuple (PyProof.Rows.callWith_type1 (args_cons (thn (he pins s σ H _ I h) fun x s1 z => args_nil ?_) na) na))⟩
  obtain ⟨r, lo, hi, t, u, v, H1, rfl, hr, J, ⟨c1, c2, c3, c4, c5⟩, q⟩ := z
  refine call_tuple_range (n := (hi - lo).toNat) (J.ok.hd hc) hr (small_one c1 c2 c3 c4) (rangeSize_nat lo hi) c5 fun h' tk acc hk its => ?_
  have J2 : Inv X pins σ H1 { s1 with heap := h', toks := tk } := J.kept hk
  have ok : ObjOk X.prog X.w (upd H1 h'.objs.size (.frz { cls := .type "tuple", data := .seq acc } (.tup (rgV lo hi)))) (h'.push { cls := .type "tuple", data := .seq acc }) h'.objs.size (.frz { cls := .type "tuple", data := .seq acc } (.tup (rgV lo hi))) :=
    ⟨Heap.get?_push_size _ rfl, by rw [rgV_length, sizeLine_eq]; omega, acc.toList, vals_rg its, by rw [Array.toArray_toList]; exact IsTup.new _ _⟩
  have J3 := J2.laid (t' := tk) (fun b o z => Heap.get?_push_of_some _ z) (Nat.le_refl _) ok
  exact ⟨.ref h'.objs.size, _, J3, rfl, q _ _ (J2.hok.fresh (Nat.le_refl _)) rfl⟩
theorem ew_tupRg (C : Cxt P w K mg base sc N vs ls k X W) (B : Blt mg) {Q : Rho → PyData → Prop} (h : EW X W a ρ (fun ρ1 d => ∃ n, d = .int n ∧ RgOk 0 n ∧ Q ρ1 (.tuple (rgD 0 n))) E) (hg : sc.names.lookup ("tuple" : Str) = some .globalImplicit := by decide +kernel) (hg2 : sc.names.lookup ("range" : Str) = some .globalImplicit := by decide +kernel)
    (na : starEach [a] X.env = (false, eval a X.env) :: starEach [] X.env := by with_unfolding_all rfl) (nb : starEach [.Call (.Name "range" p2) [a] [] p3] X.env = (false, eval (.Call (.Name "range" p2) [a] [] p3) X.env) :: starEach [] X.env := by with_unfolding_all rfl) :
    EW X W (.Call (.Name "tuple" p) [.Call (.Name "range" p2) [a] [] p3] [] pos) ρ Q E := by
  intro F H σ R wd sl kx kk
  refine of_pe (pe_tupRgF C.calm (C.gl hg) (by rw [C.eg]; exact B.tuple) (prg_1 (C.gl hg2) (by rw [C.eg]; exact B.range) pe_w na) nb) ?_
  refine h F H σ _ wd sl kx fun F1 H1 ρ1 v d st1 wd1 sl1 dd1 q1 => ?_
  obtain ⟨n, rfl, ok, q⟩ := q1
  cases dd1
  refine ⟨n, rfl, ok, fun l o hl ho => ?_⟩
  have g := Gr.new (o := .frz o (.tup (rgV 0 n))) wd1.sub hl
  exact kk _ _ ρ1 _ _ (st1.trans g.stp) (wd1.gr g) (sl1.mono g.ex) (.tup (.inl (.inr ⟨o, upd_same⟩)) ⟨o, _, upd_same, ho⟩ dds_rg) q
end
section
variable {X : Cx}
theorem bn_sortP {Q : List PyData → Prop} {us : List I2} (q : Q ((srtP us).map prD)) : BN X (.builtin "sorted") [.list (us.map prD)] Q := by
  intro F H vs R e hx kk pins s σ uv I rr
  cases hx with
  | cons h hs =>
    cases hs
    cases h with
    | @lst a xs _ hh dd =>
      have hlen : xs.length = us.length := by rw [dd.length, List.length_map]
      have hat : ∀ {i : Nat} {x : V} {p : I2}, xs[i]? = some x → us[i]? = some p → DD X.K F x (prD p) := fun {i x p} hx hp => by
        obtain ⟨d, h1, h2⟩ := dd.getV hx
        rw [List.getElem?_map, hp] at h1
        cases h1
        exact h2
      have kat : ∀ {i : Nat} {x : V} {p : I2}, xs[i]? = some x → us[i]? = some p → us.getD (xs.idxOf x) (0, 0) = p := fun {i x p} hx hp => by
        have hm : x ∈ xs := List.mem_of_getElem? hx
        have hi := List.idxOf_lt_length_of_mem hm
        have hj : xs.idxOf x < us.length := by omega
        have hxx : xs[xs.idxOf x]? = some x := by
          rw [List.getElem?_eq_getElem hi, List.getElem_idxOf hi]
        have hpp : us[xs.idxOf x]? = some us[xs.idxOf x] := List.getElem?_eq_getElem hj
        rw [List.getD_eq_getElem?_getD, hpp]
        exact dd_pair I e (hat hxx hpp) (hat hx hp)
      have kmap : xs.map (fun x => us.getD (xs.idxOf x) (0, 0)) = us := by
        refine List.ext_getElem? fun i => ?_
        rw [List.getElem?_map]
        cases hx : xs[i]? with
        | none =>
          rw [List.getElem?_eq_none_iff] at hx
          rw [List.getElem?_eq_none (by omega)]
          rfl
        | some x =>
          have hi := (List.getElem?_eq_some_iff.mp hx).1
          have hp : us[i]? = some us[i] := List.getElem?_eq_getElem (by omega)
          rw [hp]
          exact congrArg some (kat hx hp)
      have dk : ∀ x ∈ xs, DD X.K F x (prD (us.getD (xs.idxOf x) (0, 0))) := fun x hm => by
        obtain ⟨i, hi, rfl⟩ := List.mem_iff_getElem.mp hm
        have hx : xs[i]? = some xs[i] := List.getElem?_eq_getElem hi
        have hp : us[i]? = some us[i] := List.getElem?_eq_getElem (by omega)
        rw [kat hx hp]
        exact hat hx hp
      refine wca_of cr_sortQ ⟨a, xs, fun x => us.getD (xs.idxOf x) (0, 0), rfl, SqL.of (e _ _ hh), fun x hm => ?_, fun ys p srt pm hp => ?_⟩ pins s σ uv I rr
      · cases dk x hm with
        | @tup t ws _ sq nd ds =>
          cases ds with
          | cons a1 r1 =>
            cases r1 with
            | cons b1 t1 =>
              cases t1
              cases a1
              cases b1
              exact ⟨t, rfl, e.sqt sq⟩
      · have dys : DDs X.K F ys ((ys.map fun x => us.getD (xs.idxOf x) (0, 0)).map prD) := by
          have : ∀ zs : List V, (∀ z ∈ zs, z ∈ xs) → DDs X.K F zs ((zs.map fun x => us.getD (xs.idxOf x) (0, 0)).map prD) := by
            intro zs
            induction zs with
            | nil => exact fun _ => .nil
            | cons z zs ih => exact fun hz => .cons (dk z (hz z List.mem_cons_self)) (ih fun y hy => hz y (List.mem_cons_of_mem _ hy))
          exact this ys fun z hz => pm.mem_iff.mp hz
        have es : ys.map (fun x => us.getD (xs.idxOf x) (0, 0)) = srtP us := by
          refine srtP_uniq ?_ ?_ (srtP_sorted us)
          · have := pm.map (fun x => us.getD (xs.idxOf x) (0, 0))
            rw [kmap] at this
            exact this.trans (srtP_perm us).symm
          · rw [List.pairwise_map]
            refine List.Pairwise.imp (fun {x y} h => ?_) srt
            have := SrtO.lexB_no.mp h
            dsimp only at this
            unfold leP
            omega
        rw [es] at dys
        exact kk p ys _ hp dys q
theorem bn_sortPE {Q : List PyData → Prop} {ds : List PyData} {us : List I2} (ed : ds = us.map prD) (q : Q ((srtP us).map prD)) : BN X (.builtin "sorted") [.list ds] Q := by
  subst ed
  exact bn_sortP q
end
end Bp

namespace T
open PySem Spec PyProof.Rows L2 Bp
def top (i : Nat) : Stmt := PySem.Challenge.pw_burstsapart_k22_answers_are_new.main.body.getD i (.Pass ⟨0, 0, 0, 0⟩)
abbrev s_BadWords_init : Stmt := inClass (top 7) 0
abbrev N_BadWords_init : List Str := ["self", "index"]
abbrev ps_BadWords_init : List Str := ["self", "index"]
abbrev vs_BadWords_init : List Bool := [true, true]
theorem sc_BadWords_init : FnScope N_BadWords_init ps_BadWords_init (defScope s_BadWords_init) := ⟨rfl, rfl, rfl, by decide +kernel, rfl, by decide +kernel, by decide +kernel⟩
/- slots of BadWords_init: 0 self, 1 index -/
abbrev s_BadLine_init : Stmt := inClass (top 8) 0
abbrev N_BadLine_init : List Str := ["self", "index"]
abbrev ps_BadLine_init : List Str := ["self", "index"]
abbrev vs_BadLine_init : List Bool := [true, true]
theorem sc_BadLine_init : FnScope N_BadLine_init ps_BadLine_init (defScope s_BadLine_init) := ⟨rfl, rfl, rfl, by decide +kernel, rfl, by decide +kernel, by decide +kernel⟩
/- slots of BadLine_init: 0 self, 1 index -/
abbrev s_is_integer : Stmt := top 13
abbrev N_is_integer : List Str := ["value"]
abbrev ps_is_integer : List Str := ["value"]
abbrev vs_is_integer : List Bool := [true]
theorem sc_is_integer : FnScope N_is_integer ps_is_integer (defScope s_is_integer) := ⟨rfl, rfl, rfl, by decide +kernel, rfl, by decide +kernel, by decide +kernel⟩
theorem bd_is_integer : Bd "is_integer" s_is_integer ps_is_integer := bd_of fun _ _ _ _ _ _ us hl => match us, hl with | [_], _ => rfl
/- slots of is_integer: 0 value -/
abbrev s_is_from : Stmt := top 14
abbrev N_is_from : List Str := ["value", "low", "high"]
abbrev ps_is_from : List Str := ["value", "low", "high"]
abbrev vs_is_from : List Bool := [true, true, true]
theorem sc_is_from : FnScope N_is_from ps_is_from (defScope s_is_from) := ⟨rfl, rfl, rfl, by decide +kernel, rfl, by decide +kernel, by decide +kernel⟩
theorem bd_is_from : Bd "is_from" s_is_from ps_is_from := bd_of fun _ _ _ _ _ _ us hl => match us, hl with | [_, _, _], _ => rfl
/- slots of is_from: 0 value, 1 low, 2 high -/
abbrev s_are_places : Stmt := top 15
abbrev N_are_places : List Str := ["value", "place"]
abbrev ps_are_places : List Str := ["value"]
abbrev vs_are_places : List Bool := [true, false]
theorem sc_are_places : FnScope N_are_places ps_are_places (defScope s_are_places) := ⟨rfl, rfl, rfl, by decide +kernel, rfl, by decide +kernel, by decide +kernel⟩
theorem bd_are_places : Bd "are_places" s_are_places ps_are_places := bd_of fun _ _ _ _ _ _ us hl => match us, hl with | [_], _ => rfl
abbrev vb_are_places_0 : List Bool := [true, true]
abbrev lb_are_places_0 : List Bool := [false, true]
/- slots of are_places: 0 value, 1 place -/
abbrev s_is_way : Stmt := top 16
abbrev N_is_way : List Str := ["value"]
abbrev ps_is_way : List Str := ["value"]
abbrev vs_is_way : List Bool := [true]
theorem sc_is_way : FnScope N_is_way ps_is_way (defScope s_is_way) := ⟨rfl, rfl, rfl, by decide +kernel, rfl, by decide +kernel, by decide +kernel⟩
theorem bd_is_way : Bd "is_way" s_is_way ps_is_way := bd_of fun _ _ _ _ _ _ us hl => match us, hl with | [_], _ => rfl
/- slots of is_way: 0 value -/
abbrev s_check_way : Stmt := top 17
abbrev N_check_way : List Str := ["way"]
abbrev ps_check_way : List Str := ["way"]
abbrev vs_check_way : List Bool := [true]
theorem sc_check_way : FnScope N_check_way ps_check_way (defScope s_check_way) := ⟨rfl, rfl, rfl, by decide +kernel, rfl, by decide +kernel, by decide +kernel⟩
theorem bd_check_way : Bd "check_way" s_check_way ps_check_way := bd_of fun _ _ _ _ _ _ us hl => match us, hl with | [_], _ => rfl
/- slots of check_way: 0 way -/
abbrev s_signs_of : Stmt := top 18
abbrev N_signs_of : List Str := ["way"]
abbrev ps_signs_of : List Str := ["way"]
abbrev vs_signs_of : List Bool := [true]
theorem sc_signs_of : FnScope N_signs_of ps_signs_of (defScope s_signs_of) := ⟨rfl, rfl, rfl, by decide +kernel, rfl, by decide +kernel, by decide +kernel⟩
theorem bd_signs_of : Bd "signs_of" s_signs_of ps_signs_of := bd_of fun _ _ _ _ _ _ us hl => match us, hl with | [_], _ => rfl
/- slots of signs_of: 0 way -/
abbrev s_words_of : Stmt := top 19
abbrev N_words_of : List Str := ["way"]
abbrev ps_words_of : List Str := ["way"]
abbrev vs_words_of : List Bool := [true]
theorem sc_words_of : FnScope N_words_of ps_words_of (defScope s_words_of) := ⟨rfl, rfl, rfl, by decide +kernel, rfl, by decide +kernel, by decide +kernel⟩
theorem bd_words_of : Bd "words_of" s_words_of ps_words_of := bd_of fun _ _ _ _ _ _ us hl => match us, hl with | [_], _ => rfl
/- slots of words_of: 0 way -/
abbrev s_goes_by : Stmt := top 20
abbrev N_goes_by : List Str := ["way", "word", "sign", "some", "signs", "begin"]
abbrev ps_goes_by : List Str := ["way", "word", "sign"]
abbrev vs_goes_by : List Bool := [true, true, true, true, true, true]
theorem sc_goes_by : FnScope N_goes_by ps_goes_by (defScope s_goes_by) := ⟨rfl, rfl, rfl, by decide +kernel, rfl, by decide +kernel, by decide +kernel⟩
theorem bd_goes_by : Bd "goes_by" s_goes_by ps_goes_by := bd_of fun _ _ _ _ _ _ us hl => match us, hl with | [_, _, _], _ => rfl
/- slots of goes_by: 0 way, 1 word, 2 sign, 3 some, 4 signs, 5 begin -/
abbrev s_comes_by : Stmt := top 21
abbrev N_comes_by : List Str := ["way", "place", "frame", "sign", "some", "signs", "first", "rest", "own"]
abbrev ps_comes_by : List Str := ["way", "place"]
abbrev vs_comes_by : List Bool := [true, true, true, true, true, true, true, true, true]
theorem sc_comes_by : FnScope N_comes_by ps_comes_by (defScope s_comes_by) := ⟨rfl, rfl, rfl, by decide +kernel, rfl, by decide +kernel, by decide +kernel⟩
theorem bd_comes_by : Bd "comes_by" s_comes_by ps_comes_by := bd_of fun _ _ _ _ _ _ us hl => match us, hl with | [_, _], _ => rfl
/- slots of comes_by: 0 way, 1 place, 2 frame, 3 sign, 4 some, 5 signs, 6 first, 7 rest, 8 own -/
abbrev s_check_length : Stmt := top 24
abbrev N_check_length : List Str := ["length", "most"]
abbrev ps_check_length : List Str := ["length", "most"]
abbrev vs_check_length : List Bool := [true, true]
theorem sc_check_length : FnScope N_check_length ps_check_length (defScope s_check_length) := ⟨rfl, rfl, rfl, by decide +kernel, rfl, by decide +kernel, by decide +kernel⟩
theorem bd_check_length : Bd "check_length" s_check_length ps_check_length := bd_of fun _ _ _ _ _ _ us hl => match us, hl with | [_, _], _ => rfl
/- slots of check_length: 0 length, 1 most -/
abbrev s_spacing : Stmt := top 25
abbrev N_spacing : List Str := ["way"]
abbrev ps_spacing : List Str := ["way"]
abbrev vs_spacing : List Bool := [true]
theorem sc_spacing : FnScope N_spacing ps_spacing (defScope s_spacing) := ⟨rfl, rfl, rfl, by decide +kernel, rfl, by decide +kernel, by decide +kernel⟩
theorem bd_spacing : Bd "spacing" s_spacing ps_spacing := bd_of fun _ _ _ _ _ _ us hl => match us, hl with | [_], _ => rfl
/- slots of spacing: 0 way -/
abbrev s_parts_of : Stmt := top 26
abbrev N_parts_of : List Str := ["number", "size"]
abbrev ps_parts_of : List Str := ["number", "size"]
abbrev vs_parts_of : List Bool := [true, true]
theorem sc_parts_of : FnScope N_parts_of ps_parts_of (defScope s_parts_of) := ⟨rfl, rfl, rfl, by decide +kernel, rfl, by decide +kernel, by decide +kernel⟩
theorem bd_parts_of : Bd "parts_of" s_parts_of ps_parts_of := bd_of fun _ _ _ _ _ _ us hl => match us, hl with | [_, _], _ => rfl
/- slots of parts_of: 0 number, 1 size -/
abbrev s_rows_of : Stmt := top 27
abbrev N_rows_of : List Str := ["way", "signs", "word", "sign"]
abbrev ps_rows_of : List Str := ["way"]
abbrev vs_rows_of : List Bool := [true, true, false, false]
theorem sc_rows_of : FnScope N_rows_of ps_rows_of (defScope s_rows_of) := ⟨rfl, rfl, rfl, by decide +kernel, rfl, by decide +kernel, by decide +kernel⟩
theorem bd_rows_of : Bd "rows_of" s_rows_of ps_rows_of := bd_of fun _ _ _ _ _ _ us hl => match us, hl with | [_], _ => rfl
abbrev vb_rows_of_0 : List Bool := [true, true, true, false]
abbrev lb_rows_of_0 : List Bool := [false, false, true, false]
abbrev vb_rows_of_1 : List Bool := [true, false, true, true]
abbrev lb_rows_of_1 : List Bool := [false, false, false, true]
/- slots of rows_of: 0 way, 1 signs, 2 word, 3 sign -/
abbrev s_inside : Stmt := top 28
abbrev N_inside : List Str := ["row", "begin", "length", "place"]
abbrev ps_inside : List Str := ["row", "begin", "length"]
abbrev vs_inside : List Bool := [true, true, true, false]
theorem sc_inside : FnScope N_inside ps_inside (defScope s_inside) := ⟨rfl, rfl, rfl, by decide +kernel, rfl, by decide +kernel, by decide +kernel⟩
theorem bd_inside : Bd "inside" s_inside ps_inside := bd_of fun _ _ _ _ _ _ us hl => match us, hl with | [_, _, _], _ => rfl
abbrev vb_inside_0 : List Bool := [false, true, true, true]
abbrev lb_inside_0 : List Bool := [false, false, false, true]
/- slots of inside: 0 row, 1 begin, 2 length, 3 place -/
abbrev s_most_by : Stmt := top 29
abbrev N_most_by : List Str := ["way", "length", "row", "place"]
abbrev ps_most_by : List Str := ["way", "length"]
abbrev vs_most_by : List Bool := [true, true, false, false]
theorem sc_most_by : FnScope N_most_by ps_most_by (defScope s_most_by) := ⟨rfl, rfl, rfl, by decide +kernel, rfl, by decide +kernel, by decide +kernel⟩
theorem bd_most_by : Bd "most_by" s_most_by ps_most_by := bd_of fun _ _ _ _ _ _ us hl => match us, hl with | [_, _], _ => rfl
abbrev vb_most_by_0 : List Bool := [false, true, true, true]
abbrev lb_most_by_0 : List Bool := [false, false, true, true]
/- slots of most_by: 0 way, 1 length, 2 row, 3 place -/
abbrev s_hits : Stmt := top 30
abbrev N_hits : List Str := ["way", "begin", "length", "found", "place", "told", "word"]
abbrev ps_hits : List Str := ["way", "begin", "length"]
abbrev vs_hits : List Bool := [true, true, true, true, true, true, false]
theorem sc_hits : FnScope N_hits ps_hits (defScope s_hits) := ⟨rfl, rfl, rfl, by decide +kernel, rfl, by decide +kernel, by decide +kernel⟩
theorem bd_hits : Bd "hits" s_hits ps_hits := bd_of fun _ _ _ _ _ _ us hl => match us, hl with | [_, _, _], _ => rfl
abbrev vb_hits_0 : List Bool := [false, false, false, true, false, false, true]
abbrev lb_hits_0 : List Bool := [false, false, false, false, false, false, true]
/- slots of hits: 0 way, 1 begin, 2 length, 3 found, 4 place, 5 told, 6 word -/
abbrev s_never_worse : Stmt := top 32
abbrev N_never_worse : List Str := ["one", "other", "most", "way", "length"]
abbrev ps_never_worse : List Str := ["one", "other"]
abbrev vs_never_worse : List Bool := [true, true, true, false, false]
theorem sc_never_worse : FnScope N_never_worse ps_never_worse (defScope s_never_worse) := ⟨rfl, rfl, rfl, by decide +kernel, rfl, by decide +kernel, by decide +kernel⟩
theorem bd_never_worse : Bd "never_worse" s_never_worse ps_never_worse := bd_of fun _ _ _ _ _ _ us hl => match us, hl with | [_, _], _ => rfl
abbrev vb_never_worse_0 : List Bool := [false, false, false, true, false]
abbrev lb_never_worse_0 : List Bool := [false, false, false, true, false]
abbrev vb_never_worse_1 : List Bool := [true, true, false, false, true]
abbrev lb_never_worse_1 : List Bool := [false, false, false, false, true]
/- slots of never_worse: 0 one, 1 other, 2 most, 3 way, 4 length -/
abbrev s_is_beaten : Stmt := top 36
abbrev N_is_beaten : List Str := ["ways", "index", "own", "other"]
abbrev ps_is_beaten : List Str := ["ways", "index"]
abbrev vs_is_beaten : List Bool := [true, true, true, false]
theorem sc_is_beaten : FnScope N_is_beaten ps_is_beaten (defScope s_is_beaten) := ⟨rfl, rfl, rfl, by decide +kernel, rfl, by decide +kernel, by decide +kernel⟩
theorem bd_is_beaten : Bd "is_beaten" s_is_beaten ps_is_beaten := bd_of fun _ _ _ _ _ _ us hl => match us, hl with | [_, _], _ => rfl
abbrev vb_is_beaten_0 : List Bool := [false, false, true, true]
abbrev lb_is_beaten_0 : List Bool := [false, false, false, true]
/- slots of is_beaten: 0 ways, 1 index, 2 own, 3 other -/
abbrev s_best_ways : Stmt := top 37
abbrev N_best_ways : List Str := ["ways", "way", "index"]
abbrev ps_best_ways : List Str := ["ways"]
abbrev vs_best_ways : List Bool := [true, true, false]
theorem sc_best_ways : FnScope N_best_ways ps_best_ways (defScope s_best_ways) := ⟨rfl, rfl, rfl, by decide +kernel, rfl, by decide +kernel, by decide +kernel⟩
theorem bd_best_ways : Bd "best_ways" s_best_ways ps_best_ways := bd_of fun _ _ _ _ _ _ us hl => match us, hl with | [_], _ => rfl
abbrev vb_best_ways_0 : List Bool := [true, false, true]
abbrev lb_best_ways_0 : List Bool := [false, false, true]
/- slots of best_ways: 0 ways, 1 way, 2 index -/
abbrev s_period_of : Stmt := top 38
abbrev N_period_of : List Str := ["way"]
abbrev ps_period_of : List Str := ["way"]
abbrev vs_period_of : List Bool := [true]
theorem sc_period_of : FnScope N_period_of ps_period_of (defScope s_period_of) := ⟨rfl, rfl, rfl, by decide +kernel, rfl, by decide +kernel, by decide +kernel⟩
theorem bd_period_of : Bd "period_of" s_period_of ps_period_of := bd_of fun _ _ _ _ _ _ us hl => match us, hl with | [_], _ => rfl
/- slots of period_of: 0 way -/
abbrev s_check_period : Stmt := top 39
abbrev N_check_period : List Str := ["way", "length"]
abbrev ps_check_period : List Str := ["way", "length"]
abbrev vs_check_period : List Bool := [true, true]
theorem sc_check_period : FnScope N_check_period ps_check_period (defScope s_check_period) := ⟨rfl, rfl, rfl, by decide +kernel, rfl, by decide +kernel, by decide +kernel⟩
theorem bd_check_period : Bd "check_period" s_check_period ps_check_period := bd_of fun _ _ _ _ _ _ us hl => match us, hl with | [_, _], _ => rfl
/- slots of check_period: 0 way, 1 length -/
abbrev s_far_begin : Stmt := top 40
abbrev N_far_begin : List Str := ["way"]
abbrev ps_far_begin : List Str := ["way"]
abbrev vs_far_begin : List Bool := [true]
theorem sc_far_begin : FnScope N_far_begin ps_far_begin (defScope s_far_begin) := ⟨rfl, rfl, rfl, by decide +kernel, rfl, by decide +kernel, by decide +kernel⟩
theorem bd_far_begin : Bd "far_begin" s_far_begin ps_far_begin := bd_of fun _ _ _ _ _ _ us hl => match us, hl with | [_], _ => rfl
/- slots of far_begin: 0 way -/
abbrev s_counted : Stmt := top 41
abbrev N_counted : List Str := ["way", "begin", "length", "found", "place", "word"]
abbrev ps_counted : List Str := ["way", "begin", "length"]
abbrev vs_counted : List Bool := [true, true, true, true, true, true]
theorem sc_counted : FnScope N_counted ps_counted (defScope s_counted) := ⟨rfl, rfl, rfl, by decide +kernel, rfl, by decide +kernel, by decide +kernel⟩
theorem bd_counted : Bd "counted" s_counted ps_counted := bd_of fun _ _ _ _ _ _ us hl => match us, hl with | [_, _, _], _ => rfl
/- slots of counted: 0 way, 1 begin, 2 length, 3 found, 4 place, 5 word -/
abbrev s_burst_spread : Stmt := top 42
abbrev N_burst_spread : List Str := ["way", "length", "begin", "found", "place", "most"]
abbrev ps_burst_spread : List Str := ["way", "length"]
abbrev vs_burst_spread : List Bool := [true, true, true, true, true, true]
theorem sc_burst_spread : FnScope N_burst_spread ps_burst_spread (defScope s_burst_spread) := ⟨rfl, rfl, rfl, by decide +kernel, rfl, by decide +kernel, by decide +kernel⟩
theorem bd_burst_spread : Bd "burst_spread" s_burst_spread ps_burst_spread := bd_of fun _ _ _ _ _ _ us hl => match us, hl with | [_, _], _ => rfl
abbrev vb_burst_spread_0 : List Bool := [false, false, false, true, false, true]
abbrev lb_burst_spread_0 : List Bool := [false, false, false, false, false, true]
/- slots of burst_spread: 0 way, 1 length, 2 begin, 3 found, 4 place, 5 most -/
abbrev s_words_hit : Stmt := top 43
abbrev N_words_hit : List Str := ["way", "length", "begin", "found", "place", "many"]
abbrev ps_words_hit : List Str := ["way", "length"]
abbrev vs_words_hit : List Bool := [true, true, true, true, true, true]
theorem sc_words_hit : FnScope N_words_hit ps_words_hit (defScope s_words_hit) := ⟨rfl, rfl, rfl, by decide +kernel, rfl, by decide +kernel, by decide +kernel⟩
theorem bd_words_hit : Bd "words_hit" s_words_hit ps_words_hit := bd_of fun _ _ _ _ _ _ us hl => match us, hl with | [_, _], _ => rfl
abbrev vb_words_hit_0 : List Bool := [false, false, false, true, false, true]
abbrev lb_words_hit_0 : List Bool := [false, false, false, false, false, true]
/- slots of words_hit: 0 way, 1 length, 2 begin, 3 found, 4 place, 5 many -/
abbrev s_check_sent : Stmt := top 48
abbrev N_check_sent : List Str := ["way", "many"]
abbrev ps_check_sent : List Str := ["way", "many"]
abbrev vs_check_sent : List Bool := [true, true]
theorem sc_check_sent : FnScope N_check_sent ps_check_sent (defScope s_check_sent) := ⟨rfl, rfl, rfl, by decide +kernel, rfl, by decide +kernel, by decide +kernel⟩
theorem bd_check_sent : Bd "check_sent" s_check_sent ps_check_sent := bd_of fun _ _ _ _ _ _ us hl => match us, hl with | [_, _], _ => rfl
/- slots of check_sent: 0 way, 1 many -/
abbrev s_ends_at : Stmt := top 49
abbrev N_ends_at : List Str := ["way", "many", "found", "word", "sign"]
abbrev ps_ends_at : List Str := ["way", "many"]
abbrev vs_ends_at : List Bool := [true, true, true, true, false]
theorem sc_ends_at : FnScope N_ends_at ps_ends_at (defScope s_ends_at) := ⟨rfl, rfl, rfl, by decide +kernel, rfl, by decide +kernel, by decide +kernel⟩
theorem bd_ends_at : Bd "ends_at" s_ends_at ps_ends_at := bd_of fun _ _ _ _ _ _ us hl => match us, hl with | [_, _], _ => rfl
abbrev vb_ends_at_0 : List Bool := [true, false, false, true, true]
abbrev lb_ends_at_0 : List Bool := [false, false, false, false, true]
/- slots of ends_at: 0 way, 1 many, 2 found, 3 word, 4 sign -/
abbrev s_check_words : Stmt := top 50
abbrev N_check_words : List Str := ["way", "words", "index", "word", "sign"]
abbrev ps_check_words : List Str := ["way", "words"]
abbrev vs_check_words : List Bool := [true, true, true, true, false]
theorem sc_check_words : FnScope N_check_words ps_check_words (defScope s_check_words) := ⟨rfl, rfl, rfl, by decide +kernel, rfl, by decide +kernel, by decide +kernel⟩
theorem bd_check_words : Bd "check_words" s_check_words ps_check_words := bd_of fun _ _ _ _ _ _ us hl => match us, hl with | [_, _], _ => rfl
abbrev vb_check_words_0 : List Bool := [false, false, false, false, true]
abbrev lb_check_words_0 : List Bool := [false, false, false, false, true]
/- slots of check_words: 0 way, 1 words, 2 index, 3 word, 4 sign -/
abbrev s_sent : Stmt := top 51
abbrev N_sent : List Str := ["way", "words", "found", "word", "signs", "sign", "told"]
abbrev ps_sent : List Str := ["way", "words"]
abbrev vs_sent : List Bool := [true, true, true, true, true, true, true]
theorem sc_sent : FnScope N_sent ps_sent (defScope s_sent) := ⟨rfl, rfl, rfl, by decide +kernel, rfl, by decide +kernel, by decide +kernel⟩
theorem bd_sent : Bd "sent" s_sent ps_sent := bd_of fun _ _ _ _ _ _ us hl => match us, hl with | [_, _], _ => rfl
/- slots of sent: 0 way, 1 words, 2 found, 3 word, 4 signs, 5 sign, 6 told -/
abbrev s_put_together : Stmt := top 52
abbrev N_put_together : List Str := ["way", "many", "line", "index", "sign", "found", "word", "places", "place"]
abbrev ps_put_together : List Str := ["way", "many", "line"]
abbrev vs_put_together : List Bool := [true, true, true, true, true, true, true, true, false]
theorem sc_put_together : FnScope N_put_together ps_put_together (defScope s_put_together) := ⟨rfl, rfl, rfl, by decide +kernel, rfl, by decide +kernel, by decide +kernel⟩
theorem bd_put_together : Bd "put_together" s_put_together ps_put_together := bd_of fun _ _ _ _ _ _ us hl => match us, hl with | [_, _, _], _ => rfl
abbrev vb_put_together_0 : List Bool := [true, false, false, false, true, false, true, false, false]
abbrev lb_put_together_0 : List Bool := [false, false, false, false, true, false, false, false, false]
abbrev vb_put_together_1 : List Bool := [false, false, true, false, false, false, false, false, true]
abbrev lb_put_together_1 : List Bool := [false, false, false, false, false, false, false, false, true]
/- slots of put_together: 0 way, 1 many, 2 line, 3 index, 4 sign, 5 found, 6 word, 7 places, 8 place -/
abbrev s_law_random : Stmt := top 54
abbrev N_law_random : List Str := ["_law_script", "_law_salt", "_law_seed", "_law_cell"]
abbrev ps_law_random : List Str := ["_law_script", "_law_salt"]
abbrev vs_law_random : List Bool := [true, true, true, true]
theorem sc_law_random : FnScope N_law_random ps_law_random (defScope s_law_random) := ⟨rfl, rfl, rfl, by decide +kernel, rfl, by decide +kernel, by decide +kernel⟩
theorem bd_law_random : Bd "_law_random" s_law_random ps_law_random := bd_of fun _ _ _ _ _ _ us hl => match us, hl with | [_, _], _ => rfl
abbrev vb_law_random_0 : List Bool := [false, false, false, true]
abbrev lb_law_random_0 : List Bool := [false, false, false, true]
/- slots of law_random: 0 _law_script, 1 _law_salt, 2 _law_seed, 3 _law_cell -/
abbrev s_law_below : Stmt := top 55
abbrev N_law_below : List Str := ["_law_d", "_law_size", "_law_result"]
abbrev ps_law_below : List Str := ["_law_d", "_law_size"]
abbrev vs_law_below : List Bool := [true, true, true]
theorem sc_law_below : FnScope N_law_below ps_law_below (defScope s_law_below) := ⟨rfl, rfl, rfl, by decide +kernel, rfl, by decide +kernel, by decide +kernel⟩
theorem bd_law_below : Bd "_law_below" s_law_below ps_law_below := bd_of fun _ _ _ _ _ _ us hl => match us, hl with | [_, _], _ => rfl
/- slots of law_below: 0 _law_d, 1 _law_size, 2 _law_result -/
abbrev s_law_pick : Stmt := top 56
abbrev N_law_pick : List Str := ["_law_d", "_law_items"]
abbrev ps_law_pick : List Str := ["_law_d", "_law_items"]
abbrev vs_law_pick : List Bool := [true, true]
theorem sc_law_pick : FnScope N_law_pick ps_law_pick (defScope s_law_pick) := ⟨rfl, rfl, rfl, by decide +kernel, rfl, by decide +kernel, by decide +kernel⟩
theorem bd_law_pick : Bd "_law_pick" s_law_pick ps_law_pick := bd_of fun _ _ _ _ _ _ us hl => match us, hl with | [_, _], _ => rfl
/- slots of law_pick: 0 _law_d, 1 _law_items -/
abbrev s_law_way : Stmt := top 57
abbrev N_law_way : List Str := ["_law_d", "_law_most", "_law_kind", "_law_signs_so", "_law_many", "_law_left", "_law_found", "_law_k", "_law_place", "_law_one"]
abbrev ps_law_way : List Str := ["_law_d", "_law_most"]
abbrev vs_law_way : List Bool := [true, true, true, true, true, true, true, true, true, false]
theorem sc_law_way : FnScope N_law_way ps_law_way (defScope s_law_way) := ⟨rfl, rfl, rfl, by decide +kernel, rfl, by decide +kernel, by decide +kernel⟩
theorem bd_law_way : Bd "_law_way" s_law_way ps_law_way := bd_of fun _ _ _ _ _ _ us hl => match us, hl with | [_, _], _ => rfl
abbrev vb_law_way_0 : List Bool := [false, false, false, false, false, false, false, false, true, true]
abbrev lb_law_way_0 : List Bool := [false, false, false, false, false, false, false, false, false, true]
/- slots of law_way: 0 _law_d, 1 _law_most, 2 _law_kind, 3 _law_signs_so, 4 _law_many, 5 _law_left, 6 _law_found, 7 _law_k, 8 _law_place, 9 _law_one -/
abbrev s_law_signs : Stmt := top 58
abbrev N_law_signs : List Str := ["_law_way_here"]
abbrev ps_law_signs : List Str := ["_law_way_here"]
abbrev vs_law_signs : List Bool := [true]
theorem sc_law_signs : FnScope N_law_signs ps_law_signs (defScope s_law_signs) := ⟨rfl, rfl, rfl, by decide +kernel, rfl, by decide +kernel, by decide +kernel⟩
theorem bd_law_signs : Bd "_law_signs" s_law_signs ps_law_signs := bd_of fun _ _ _ _ _ _ us hl => match us, hl with | [_], _ => rfl
/- slots of law_signs: 0 _law_way_here -/
abbrev s_law_lists : Stmt := top 59
abbrev N_law_lists : List Str := ["_law_things", "_law_way_here", "_law_found"]
abbrev ps_law_lists : List Str := ["_law_things"]
abbrev vs_law_lists : List Bool := [true, true, true]
theorem sc_law_lists : FnScope N_law_lists ps_law_lists (defScope s_law_lists) := ⟨rfl, rfl, rfl, by decide +kernel, rfl, by decide +kernel, by decide +kernel⟩
theorem bd_law_lists : Bd "_law_lists" s_law_lists ps_law_lists := bd_of fun _ _ _ _ _ _ us hl => match us, hl with | [_], _ => rfl
/- slots of law_lists: 0 _law_things, 1 _law_way_here, 2 _law_found -/
abbrev s_law : Stmt := top 60
abbrev N_law : List Str := ["_law_script", "_law_d", "_law_way_here", "_law_things", "_law_known", "_law_one", "_law_some", "_law_rest"]
abbrev ps_law : List Str := ["_law_script"]
abbrev vs_law : List Bool := [true, true, true, true, true, true, true, true]
theorem sc_law : FnScope N_law ps_law (defScope s_law) := ⟨rfl, rfl, rfl, by decide +kernel, rfl, by decide +kernel, by decide +kernel⟩
theorem bd_law : Bd "law" s_law ps_law := bd_of fun _ _ _ _ _ _ us hl => match us, hl with | [_], _ => rfl
abbrev vb_law_0 : List Bool := [false, false, false, false, false, true, false, false]
abbrev lb_law_0 : List Bool := [false, false, false, false, false, true, false, false]
abbrev vb_law_1 : List Bool := [false, false, false, false, false, true, false, false]
abbrev lb_law_1 : List Bool := [false, false, false, false, false, true, false, false]
abbrev vb_law_2 : List Bool := [false, false, false, false, false, true, false, false]
abbrev lb_law_2 : List Bool := [false, false, false, false, false, true, false, false]
/- slots of law: 0 _law_script, 1 _law_d, 2 _law_way_here, 3 _law_things, 4 _law_known, 5 _law_one, 6 _law_some, 7 _law_rest -/
set_option hygiene false in
local macro_rules | `(tactic| walk_at "ew") => `(tactic| first
  | (show EW _ _ (.Name _ _) _ _ _; first | refine ew_var C (by with_unfolding_all rfl) (by with_unfolding_all rfl) ?_ | refine ew_globI C (by assumption) ?_)
  | (show EW _ _ (.Constant _ _ _) _ _ _; first | refine ew_int ?_ | refine ew_str ?_ | refine ew_bl ?_ | refine ew_non ?_)
  | (show EW _ _ (.Subscript _ _ _) _ _ _; first | refine ew_slH ?_ | refine ew_sl2 ?_ | refine ew_dgetO C (by with_unfolding_all rfl) (by with_unfolding_all rfl) ?_ | refine ew_ixO C (by with_unfolding_all rfl) (by with_unfolding_all rfl) ?_ | refine ew_ix ?_)
  | (show EW _ _ (.BinOp _ _ _ _) _ _ _; first | refine ew_bin ?_)
  | (show EW _ _ (.Compare _ _ _ _) _ _ _; first | refine ew_nin C (by with_unfolding_all rfl) (by with_unfolding_all rfl) ?_ | refine ew_cmp ?_ | refine ew_chain ?_)
  | (show EW _ _ (.Call (.Attribute (.Name _ _) "get" _) _ _ _) _ _ _; refine ew_getO C (by with_unfolding_all rfl) (by with_unfolding_all rfl) ?_)
  | (show EW _ _ (.Call (.Name "len" _) _ _ _) _ _ _; first | refine ew_lenDO C B (by with_unfolding_all rfl) (by with_unfolding_all rfl) ?_ | refine ew_lenO C B (by with_unfolding_all rfl) (by with_unfolding_all rfl) ?_ | refine ew_callB C (id := "len") PySem.boot_len B.len ?_)
  | (show EW _ _ (.Dict [] [] _) _ _ _; refine ew_dict ?_)
  | (show EW _ _ (.Call (.Name "list" _) _ _ _) _ _ _; first | refine ew_keysO C B (by with_unfolding_all rfl) (by with_unfolding_all rfl) ?_ | refine ew_listRg1 C B ?_ | refine ew_listRg2 C B ?_ | refine ew_callT C (T := "list") (by decide +kernel) B.list ?_)
  | (show EW _ _ (.Call (.Name "tuple" _) _ _ _) _ _ _; refine ew_callT C (T := "tuple") (by decide +kernel) B.tuple ?_)
  | (show EW _ _ (.Call (.Name "int" _) _ _ _) _ _ _; first | refine ew_callT C (T := "int") (by decide +kernel) B.int ?_)
  | (show EW _ _ (.Call (.Name "all" _) _ _ _) _ _ _; refine ew_callB C (id := "all") PyProof.Rows.boot_all B.all ?_)
  | (show EW _ _ (.Call (.Name "max" _) _ _ _) _ _ _; refine ew_callB C (id := "max") PyProof.Rows.boot_max B.max ?_)
  | (show EW _ _ (.Call (.Name "min" _) _ _ _) _ _ _; refine ew_callB C (id := "min") PyProof.Rows.boot_min B.min ?_)
  | (show EW _ _ (.Call (.Name "sorted" _) _ _ _) _ _ _; refine ew_callB C (id := "sorted") PyProof.Rows.boot_sorted B.sorted ?_)
  | (show EW _ _ (.Call (.Name "abs" _) _ _ _) _ _ _; first | refine ew_callB C (id := "abs") (by decide +kernel) B.abs ?_)
  | (show EW _ _ (.Call (.Name "isinstance" _) _ _ _) _ _ _; first | refine ew_isInt C B ?_ | refine ew_isBool C B ?_ | refine ew_isStr C B ?_ | refine ew_isTup C B ?_ | refine ew_isLst C B ?_ | refine ew_isDic C B ?_ | refine ew_isSeq C B ?_)
  | (show EW _ _ (.Call (.Name _ _) _ _ _) _ _ _; first | refine ew_call C (by assumption) ?_ | refine ew_draw C (by assumption) (by with_unfolding_all rfl) (by with_unfolding_all rfl) ?_)
  | (show EW _ _ (.IfExp _ _ _ _) _ _ _; first | refine ew_ite ?_)
  | (show EW _ _ (.BoolOp _ _ _) _ _ _; first | refine ew_and ?_ | refine ew_or ?_ | refine ew_one ?_)
  | (show EW _ _ (.UnaryOp _ _ _) _ _ _; first | refine ew_not ?_ | refine ew_un ?_)
  | (show EW _ _ (.Tuple _ _ _) _ _ _; first | refine ew_tup ?_)
  | (show EW _ _ (.List _ _) _ _ _; first | refine ew_lst ?_))
set_option hygiene false in
local macro_rules | `(tactic| walk_at "ev1") => `(tactic| with_reducible first
  | (show EW _ _ _ _ _ _; walk_at "ew")
  | (show BW _ _ _ _ _; first | refine bw_add ?_ | refine bw_addL (by with_unfolding_all exact Nat.le_of_ble_eq_true rfl) ?_ | refine bw_sub ?_ | refine bw_lt ?_ | refine bw_le ?_ | refine bw_gt ?_ | refine bw_ge ?_ | refine bw_eqS ?_ | refine bw_eqI ?_ | refine bw_eqB C ?_ | refine bw_neB C ?_ | refine bw_neS ?_ | refine bw_neI ?_ | refine bw_isN ?_ | refine bw_notN ?_)
  | (show AW _ _ _ _ _ _; first | refine aw_cons ?_ | refine aw_nil ?_)
  | (show BI _ _ _ _; first | refine bi_tup (by with_unfolding_all rfl) ?_)
  | (show BC _ _ _ _; first | refine bc_int1 ?_ | refine bc_tuple (.inl rfl) ?_ | refine bc_tuple (.inr rfl) ?_ | refine bc_list (.inl rfl) ?_ | refine bc_list (.inr rfl) ?_ | refine bc_abs ?_ | refine bc_lenL ?_ | refine bc_lenT ?_)
  | (show TW _ _ _ _ _ _; first | refine tw_neE C (by with_unfolding_all rfl) (by with_unfolding_all rfl) ?_ | refine tw_nin C (by with_unfolding_all rfl) (by with_unfolding_all rfl) ?_ | refine tw_in C (by with_unfolding_all rfl) (by with_unfolding_all rfl) ?_ | refine tw_cmp ?_ | refine tw_not ?_ | refine tw_bop ?_ | refine tw_chain ?_ | refine tw_val ?_)
  | (show PWW _ _ _ _ _ _; first | refine pww_and ?_ | refine pww_or ?_ | refine pww_and1 ?_ | refine pww_or1 ?_)
  | (show SW _ _ _ _ _ _ _; first | refine sw_cons ?_ | refine sw_nil ?_)
  | (show S1 _ _ _ _ _ _ _; first | refine s1_ret ?_ | refine s1_if ?_ | refine s1_set C (by with_unfolding_all rfl) ?_ | refine s1_raise0 C (by assumption) ?_ | refine s1_expr ?_ | refine s1_par2 C ?_ | refine s1_par3 C ?_ | (show S1 _ _ (.Assign [.Tuple _ _ _] _ _) _ _ _ _; refine s1_asgG C ?_) | refine s1_augAdd C (by with_unfolding_all rfl) (by with_unfolding_all rfl) ?_)
  | (show BU _ _ _ _; first | refine bu_neg ?_)
  | (show GW _ _ _ _ _; first | refine gw_name C (by with_unfolding_all rfl) ?_ | refine gw_pair C (by with_unfolding_all rfl) (by with_unfolding_all rfl) ?_ | refine gw_trip C (by with_unfolding_all rfl) (by with_unfolding_all rfl) (by with_unfolding_all rfl) ?_)
  | (show List.length _ ≤ 16777216 ∧ _; refine And.intro (by with_unfolding_all exact Nat.le_of_ble_eq_true rfl) ?_)
  | refine Exists.intro _ (And.intro rfl ?_))
local macro_rules | `(tactic| walk_at "ev") => `(tactic| repeat (walk_at "ev1"))
local macro_rules | `(tactic| walk_at "go") => `(tactic| (refine sw_cons ?_; repeat (walk_at "ev1")))
local macro_rules | `(tactic| walk_at "bt") => `(tactic| first
  | with_reducible rfl
  | (simp only [Bool.not_not, Bool.not_eq_true', Bool.not_eq_false', decide_eq_true_eq, decide_eq_false_iff_not, Bool.not_true, Bool.not_false]; done)
  | (simp only [Bool.not_not, Bool.not_eq_true', Bool.not_eq_false', decide_eq_true_eq, decide_eq_false_iff_not]; first | assumption | omega)
  | decide +kernel
  | with_unfolding_all exact rfl)
local macro_rules | `(tactic| walk_at "br") => `(tactic| first
  | refine brT (by walk_at "bt") ?_
  | refine brF (by walk_at "bt") ?_
  | refine brT' (by walk_at "bt") ?_
  | refine brF' (by walk_at "bt") ?_)
local macro_rules | `(tactic| walk_at "run") => `(tactic| repeat (first | walk_at "ev1" | walk_at "br"))

/-! ### is_integer, is_from, are_places, is_way, check_way -/
def isIntD : PyData → Bool
  | .int _ => true
  | _ => false
def pIsInt : PF := fun ds Q _ => ∃ d, ds = [d] ∧ Q (.d (.bool (isIntD d)))
def isFromD (d : PyData) (lo hi : Int) : Bool := match d with
  | .int i => decide (lo ≤ i) && decide (i ≤ hi)
  | _ => false
def pIsFrom : PF := fun ds Q _ => ∃ d lo hi, ds = [d, .int lo, .int hi] ∧ Q (.d (.bool (isFromD d lo hi)))
def toI : PyData → Int
  | .int i => i
  | _ => 0
def arePlaces : PyData → Bool
  | .tuple ds => (decide (1 ≤ ds.length) && decide (ds.length ≤ 60)) && (ds.all (fun x => isFromD x 0 (ds.length - 1)) && decide (ds.map toI).Nodup)
  | _ => false
def lenD : PyData → Int
  | .tuple ds => ds.length
  | _ => 0
def isWayD : PyData → Bool
  | .tuple [.str s, b, c] =>
    if s = "told" then isFromD b 1 60 && (arePlaces c && decide (lenD c % toI b = 0))
    else if s = "table" ∨ s = "delays" then isFromD c 1 (10 ^ 15) && isFromD b (if s = "table" then 1 else 0) (10 ^ 15) else false
  | _ => false
theorem isWay_len {ds : List PyData} (h : ds.length ≠ 3) : isWayD (.tuple ds) = false := by
  unfold isWayD
  split
  · rename_i e
    cases e
    exact absurd rfl h
  · rfl
theorem toI_map {ds : List PyData} (h : ∀ d ∈ ds, isIntD d = true) : ds = (ds.map toI).map PyData.int := by
  induction ds with
  | nil => rfl
  | cons d r ih =>
    have h1 := h d (List.mem_cons_self)
    rw [List.map_cons, List.map_cons, ← ih fun z hz => h z (List.mem_cons_of_mem _ hz)]
    cases d <;> first | rfl | cases h1
theorem from_int {d : PyData} {lo hi : Int} (h : isFromD d lo hi = true) : isIntD d = true ∧ lo ≤ toI d ∧ toI d ≤ hi := by
  cases d with
  | int i =>
    have h2 := Bool.and_eq_true_iff.mp h
    exact ⟨rfl, of_decide_eq_true h2.1, of_decide_eq_true h2.2⟩
  | _ => cases h
/-- a list without doubles has no more members than any list with the same ones -/
theorem nd_le : ∀ {a b : List Int}, a.Nodup → (∀ z, z ∈ a → z ∈ b) → a.length ≤ b.length
  | [], _, _, _ => Nat.zero_le _
  | x :: r, b, nd, hs => by
    have hx : x ∈ b := hs x List.mem_cons_self
    have nx := List.nodup_cons.mp nd
    have ih := nd_le (a := r) (b := b.erase x) nx.2 fun z hz => (List.mem_erase_of_ne fun (e : z = x) => nx.1 (by rw [← e]; exact hz)).mpr (hs z (List.mem_cons_of_mem _ hz))
    rw [List.length_erase_of_mem hx] at ih
    have : 0 < b.length := List.length_pos_of_mem hx
    rw [List.length_cons]
    omega
theorem dup_mem : ∀ {ns : List Int}, ¬ ns.Nodup → ∃ x, x ∈ ns.erase x
  | [], h => absurd List.nodup_nil h
  | a :: r, h => by
    by_cases ha : a ∈ r
    · refine ⟨a, ?_⟩
      rw [List.erase_cons_head]
      exact ha
    · obtain ⟨x, hx⟩ := dup_mem (ns := r) fun z => h (List.nodup_cons.mpr ⟨ha, z⟩)
      refine ⟨x, ?_⟩
      by_cases e : a = x
      · subst e
        rw [List.erase_cons_head]
        exact List.mem_of_mem_erase hx
      · rw [List.erase_cons_tail (by simpa using e)]
        exact List.mem_cons_of_mem _ hx
theorem nodup_len {ns out : List Int} (nd : out.Nodup) (h : ∀ z, z ∈ out ↔ z ∈ ns) : decide ((out.length : Int) = ns.length) = decide ns.Nodup := by
  have h1 := nd_le nd fun z hz => (h z).mp hz
  by_cases hn : ns.Nodup
  · have h2 := nd_le hn fun z hz => (h z).mpr hz
    rw [decide_eq_true hn]
    exact decide_eq_true (by omega)
  · rw [decide_eq_false hn]
    refine decide_eq_false fun e => ?_
    obtain ⟨x, hx⟩ := dup_mem hn
    have h3 := nd_le (b := ns.erase x) nd fun z hz => by
      by_cases e : z = x
      · rw [e]
        exact hx
      · exact (List.mem_erase_of_ne e).mpr ((h z).mp hz)
    have hm := List.mem_of_mem_erase hx
    have hp := List.length_pos_of_mem hm
    rw [List.length_erase_of_mem hm] at h3
    omega
section
variable {P : Program} {w : World} {K : PySem.W.Frag} {mg : Str → Option Value} {base : Heap}
theorem fn_is_integer (A : At K mg "is_integer" s_is_integer) (B : Blt mg) : Fn P w K mg base 1 "is_integer" pIsInt := by
  refine fn_def (vs := vs_is_integer) A sc_is_integer bd_is_integer ?_ (by decide +kernel) ?_
  · rintro ds Q E ⟨d, rfl, _⟩
    rfl
  · rintro X W C - ds Q E ⟨d, rfl, q⟩
    refine sw_cons (s1_ret ?_)
    walk_at "ev"
    cases d <;> first | refine brF rfl ?_ | (refine brT rfl ?_; walk_at "ev")
    all_goals exact q
theorem fn_is_from (A : At K mg "is_from" s_is_from) (B : Blt mg) (G1 : Fn P w K mg base 1 "is_integer" pIsInt) : Fn P w K mg base 2 "is_from" pIsFrom := by
  refine fn_def (vs := vs_is_from) A sc_is_from bd_is_from ?_ (by decide +kernel) ?_
  · rintro ds Q E ⟨d, lo, hi, rfl, _⟩
    rfl
  · rintro X W C - ds Q E ⟨d, lo, hi, rfl, q⟩
    refine sw_cons (s1_ret ?_)
    walk_at "ev"
    refine ⟨d, rfl, _, rfl, _, rfl, ?_⟩
    cases d with
    | int i =>
      refine brT rfl ?_
      walk_at "ev"
      refine ⟨fun h => ?_, fun h => ?_⟩
      · walk_at "ev"
        rw [show isFromD (.int i) lo hi = (decide (lo ≤ i) && decide (i ≤ hi)) from rfl, h] at q
        exact q
      · rw [show isFromD (.int i) lo hi = (decide (lo ≤ i) && decide (i ≤ hi)) from rfl, h] at q
        exact q
    | _ => exact brF rfl q
def pArePlaces : PF := fun ds Q _ => ∃ d, ds = [d] ∧ Q (.d (.bool (arePlaces d)))
theorem fn_are_places (A : At K mg "are_places" s_are_places) (B : Blt mg) (I1 : GI mg "MOST_TOLD" 60) (G1 : Fn P w K mg base 2 "is_from" pIsFrom) : Fn P w K mg base 3 "are_places" pArePlaces := by
  refine fn_def (vs := vs_are_places) A sc_are_places bd_are_places ?_ (by decide +kernel) ?_
  · rintro ds Q E ⟨d, rfl, _⟩
    rfl
  · rintro X W C - ds Q E ⟨d, rfl, q⟩
    walk_at "go"
    cases d with
    | tuple ds =>
      refine brF' rfl ?_
      walk_at "ev"
      have qe : arePlaces (.tuple ds) = ((decide (1 ≤ ds.length) && decide (ds.length ≤ 60)) && (ds.all (fun x => isFromD x 0 (ds.length - 1)) && decide (ds.map toI).Nodup)) := rfl
      by_cases h1 : 1 ≤ ds.length
      · by_cases h2 : ds.length ≤ 60
        · rw [qe, decide_eq_true h1, decide_eq_true h2] at q
          walk_at "run"
          -- all([..])
          refine ew_lc C (vb := vb_are_places_0) (lb := lb_are_places_0) ?_
          refine iw_seq ?_
          walk_at "ev"
          refine ⟨ds, .inr rfl, by omega, noOwn_of rfl, ?_⟩
          refine lc_map (xs := ds) (enc := id) (f := fun x => .bool (isFromD x 0 (ds.length - 1))) (List.map_id ds).symm (fun a _ X C => ?_) ?_
          · walk_at "ev"
            exact ⟨a, 0, _, rfl, _, rfl, rfl, rfl⟩
          · walk_at "ev"
            refine bc_all C.calm (bs := ds.map fun x => isFromD x 0 (ds.length - 1)) (by rw [List.map_map]; rfl) ?_
            refine ⟨_, rfl, fun ha => ?_, fun ha => ?_⟩
            · have hall : ∀ x ∈ ds, isFromD x 0 (ds.length - 1) = true := by
                rw [List.all_map] at ha
                exact fun x hx => List.all_eq_true.mp ha x hx
              have hi := toI_map fun d hd => (from_int (hall d hd)).1
              refine ew_one (ew_cmp (ew_lenSet C B ?_))
              walk_at "ev"
              refine ⟨ds.map toI, congrArg PyData.tuple hi, by rw [List.length_map]; omega, fun out nd hm => ?_⟩
              walk_at "ev"
              have hn := nodup_len nd hm
              rw [List.length_map] at hn
              rw [hn]
              rw [List.all_map] at ha
              rw [show ds.all (fun x => isFromD x 0 (ds.length - 1)) = true from ha] at q
              exact q
            · rw [List.all_map] at ha
              rw [show ds.all (fun x => isFromD x 0 (ds.length - 1)) = false from ha] at q
              exact q
        · rw [qe, decide_eq_true h1, decide_eq_false h2] at q
          walk_at "run"
          exact q
      · rw [qe, decide_eq_false h1] at q
        walk_at "run"
        exact q
    | _ =>
      refine brT' rfl (brT rfl ?_)
      walk_at "ev"
      exact q
def pIsWay : PF := fun ds Q _ => ∃ d, ds = [d] ∧ Q (.d (.bool (isWayD d)))
theorem fn_is_way (A : At K mg "is_way" s_is_way) (B : Blt mg) (I1 : GI mg "MOST_TOLD" 60) (I2 : GI mg "MOST_NUMBER" (10 ^ 15)) (G1 : Fn P w K mg base 2 "is_from" pIsFrom) (G2 : Fn P w K mg base 3 "are_places" pArePlaces) : Fn P w K mg base 4 "is_way" pIsWay := by
  refine fn_def (vs := vs_is_way) A sc_is_way bd_is_way ?_ (by decide +kernel) ?_
  · rintro ds Q E ⟨d, rfl, _⟩
    rfl
  · rintro X W C - ds Q E ⟨d, rfl, q⟩
    walk_at "go"
    cases d with
    | tuple ds =>
      refine brF' rfl ?_
      walk_at "ev"
      match ds, q with
      | [a, b, c], q =>
        refine brF' (by rfl) ?_
        walk_at "ev"
        cases a with
        | str s =>
          refine brF rfl ?_
          walk_at "ev"
          refine ⟨fun h => ?_, fun h => ?_⟩
          · have hs : s = "told" := of_decide_eq_true h
            subst hs
            rw [show isWayD (.tuple [.str "told", b, c]) = (isFromD b 1 60 && (arePlaces c && decide (lenD c % toI b = 0))) from rfl] at q
            walk_at "ev"
            refine ⟨b, 1, 60, rfl, _, rfl, _, rfl, fun h1 => ?_, fun h1 => ?_⟩
            · rw [h1] at q
              walk_at "ev"
              refine ⟨c, rfl, _, rfl, _, rfl, fun h2 => ?_, fun h2 => ?_⟩
              · rw [h2] at q
                walk_at "ev"
                cases c with
                | tuple cs =>
                  walk_at "ev"
                  obtain ⟨hb, b1, b2⟩ := from_int h1
                  cases b with
                  | int i =>
                    refine bw_mod (show (0 : Int) < i by have : (1 : Int) ≤ i := b1; omega) ?_
                    walk_at "ev"
                    exact q
                  | _ => cases hb
                | _ => cases h2
              · rw [h2] at q
                exact q
            · rw [h1] at q
              exact q
          · have hs : s ≠ "told" := of_decide_eq_false h
            have qe : isWayD (.tuple [.str s, b, c]) = if s = "table" ∨ s = "delays" then isFromD c 1 (10 ^ 15) && isFromD b (if s = "table" then 1 else 0) (10 ^ 15) else false := if_neg hs
            rw [qe] at q
            walk_at "ev"
            refine bw_notIn (ds := [.str "table", .str "delays"]) (.inr rfl) rfl rfl ?_
            walk_at "ev"
            have ein : inD (.str s) [.str "table", .str "delays"] = decide (s = "table" ∨ s = "delays") := by
              show (("table" : Str) == s || (("delays" : Str) == s || false)) = _
              by_cases h1 : s = "table"
              · subst h1
                decide +kernel
              · by_cases h2 : s = "delays"
                · subst h2
                  decide +kernel
                · rw [decide_eq_false (by rintro (z | z); exact h1 z; exact h2 z), beq_eq_false_iff_ne.mpr (Ne.symm h1), beq_eq_false_iff_ne.mpr (Ne.symm h2)]
                  rfl
            rw [ein]
            refine ⟨fun h1 => ?_, fun h1 => ?_⟩
            · have h1 : s = "table" ∨ s = "delays" := of_decide_eq_true (by rw [Bool.not_eq_false'] at h1; exact h1)
              rw [if_pos h1] at q
              walk_at "ev"
              refine ⟨c, 1, 10 ^ 15, rfl, _, rfl, _, rfl, ?_⟩
              cases hc : isFromD c 1 (10 ^ 15) with
              | true =>
                rw [hc] at q
                refine brF rfl ?_
                walk_at "ev"
                by_cases ht : s = "table"
                · rw [if_pos ht] at q
                  refine brT (decide_eq_true ht) ?_
                  walk_at "ev"
                  exact ⟨b, 1, 10 ^ 15, rfl, _, rfl, q⟩
                · rw [if_neg ht] at q
                  refine brF (decide_eq_false ht) ?_
                  walk_at "ev"
                  exact ⟨b, 0, 10 ^ 15, rfl, _, rfl, q⟩
              | false =>
                rw [hc] at q
                refine brT rfl ?_
                walk_at "ev"
                exact q
            · have h1 : ¬ (s = "table" ∨ s = "delays") := of_decide_eq_false (by rw [Bool.not_eq_true'] at h1; exact h1)
              rw [if_neg h1] at q
              refine brT rfl ?_
              walk_at "ev"
              exact q
        | _ =>
          refine brT rfl ?_
          walk_at "ev"
          exact q
      | [], q =>
        refine brT' (by rfl) (brT rfl ?_)
        walk_at "ev"
        exact q
      | [_], q =>
        rw [isWay_len (by simp)] at q
        refine brT' (by rfl) (brT rfl ?_)
        walk_at "ev"
        exact q
      | [_, _], q =>
        rw [isWay_len (by simp)] at q
        refine brT' (by rfl) (brT rfl ?_)
        walk_at "ev"
        exact q
      | _ :: _ :: _ :: _ :: r, q =>
        rw [isWay_len (by simp)] at q
        refine brT' ?_ (brT rfl ?_)
        · simp only [List.length_cons, Bool.not_eq_true', decide_eq_false_iff_not]
          omega
        · walk_at "ev"
          exact q
    | _ =>
      refine brT' rfl (brT rfl ?_)
      walk_at "ev"
      exact q
def pCheckWay (K : PySem.W.Frag) : PF := fun ds Q E => ∃ d, ds = [d] ∧ (isWayD d = true → Q (.d .none)) ∧ (isWayD d = false → E ⟨cA K "BadWay", none⟩)
theorem fn_check_way (A : At K mg "check_way" s_check_way) (X1 : ExC K mg "BadWay" (cA K "BadWay")) (G1 : Fn P w K mg base 4 "is_way" pIsWay) : Fn P w K mg base 5 "check_way" (pCheckWay K) := by
  refine fn_def (vs := vs_check_way) A sc_check_way bd_check_way ?_ (by decide +kernel) ?_
  · rintro ds Q E ⟨d, rfl, _⟩
    rfl
  · rintro X W C - ds Q E ⟨d, rfl, q1, q2⟩
    walk_at "go"
    refine ⟨d, rfl, _, rfl, _, rfl, ?_⟩
    cases h : isWayD d with
    | true =>
      refine brF rfl ?_
      walk_at "ev"
      exact q1 h
    | false =>
      refine brT rfl ?_
      walk_at "ev"
      exact q2 h
end

/-! ### the draws: _law_random, _law_below, _law_pick -/
theorem at0 {a : PyData} {l : List PyData} : atI (a :: l) 0 = some a := by
  unfold atI ixN
  rw [if_pos (by omega), if_pos (by simp)]
  rfl
theorem at1 {a b : PyData} {l : List PyData} : atI (a :: b :: l) 1 = some b := by
  unfold atI ixN
  rw [if_pos (by omega), if_pos (by simp; omega)]
  rfl
theorem ix0 {n : Nat} : ixN (n + 1) 0 = some 0 := by
  unfold ixN
  rw [if_pos (by omega), if_pos (by omega)]
  rfl
theorem ix1 {n : Nat} : ixN (n + 2) 1 = some 1 := by
  unfold ixN
  rw [if_pos (by omega), if_pos (by omega)]
  rfl
def pBelow : PDr := fun ds Q => ∃ n : Int, ds = [.int n] ∧ 1 ≤ n ∧ n < 2 ^ 200 ∧ ∀ r : Int, 0 ≤ r → r < n → Q (.int r)
def pPick : PDr := fun ds Q => ∃ l : List PyData, ds = [.list l] ∧ 1 ≤ l.length ∧ l.length ≤ 1000 ∧ ∀ x ∈ l, Q x
theorem cdiv_of {i j : Int} (h0 : 0 < j) (h1 : j < 2 ^ 200) : CDivW i j := wide_div h0 (b := 200) (by omega) (by decide) (by decide)
theorem mod_range {a b : Int} (h : 0 < b) : 0 ≤ a % b ∧ a % b < b := ⟨Int.emod_nonneg a (by omega), Int.emod_lt_of_pos a h⟩
section
variable {P : Program} {w : World} {K : PySem.W.Frag} {mg : Str → Option Value} {base : Heap}
theorem fn_law_random (A : At K mg "_law_random" s_law_random) (B : Blt mg) : FnR P w K mg base 1 "_law_random" := by
  refine fn_random (vs := vs_law_random) A sc_law_random bd_law_random (by decide +kernel) ?_
  intro X W C _ ns salt hl s0 s1
  walk_at "go"
  refine s1_for C (iw_scr C (by with_unfolding_all rfl) rfl ⟨fun n ρ => ∃ (z : Option PyData) (s : Int), ρ = [some (.scr ns), some (.d (.int salt)), some (.d (.int s)), z.map S.d] ∧ 0 ≤ s ∧ s < 2147483647, ⟨none, salt, rfl, s0, s1⟩, ?_, ?_⟩)
  · rintro n d ρ hd ⟨z, s, rfl, h0, h1⟩
    rw [List.getElem?_map] at hd
    cases e : ns[n]? with
    | none =>
      rw [e] at hd
      cases hd
    | some c =>
      rw [e] at hd
      cases hd
      refine gw_name C rfl ?_
      walk_at "ev"
      refine bw_mul (wide_mul (a := 31) (b := 5) (by omega) (by decide) (by decide) (by decide) (by decide)) ?_
      walk_at "ev"
      refine bw_mod (by decide) ?_
      have hm := mod_range (a := s * 31 + if c < 0 then -c else c) (b := 2147483647) (by decide)
      exact sw_nil ⟨some (.int c), _, rfl, hm.1, hm.2⟩
  · rintro ρ ⟨z, s, rfl, h0, h1⟩
    refine sw_cons (s1_retE (eo_en (en_add ?_)))
    walk_at "ev"
    refine ew_lc C (vb := vb_law_random_0) (lb := lb_law_random_0) (iw_scr C (by with_unfolding_all rfl) rfl ?_)
    refine ⟨by rw [List.length_map]; omega, noOwn_of (by cases z <;> rfl), ?_⟩
    refine lc_fil (xs := ns) (enc := PyData.int) (f := PyData.int) (pr := fun c => decide (10 ^ 18 ≤ c)) rfl (fun a _ X C => ?_) (fun a _ _ X C => ?_) ?_
    · walk_at "ev"
      refine bw_pow ⟨by decide, by decide, by decide⟩ ?_
      walk_at "ev"
      exact ⟨rfl, rfl⟩
    · walk_at "ev"
      exact ⟨rfl, rfl⟩
    · refine ⟨_, rfl, ?_, (s :: 0 :: ns.filter fun c => decide (10 ^ 18 ≤ c)), ?_, s, 0, _, rfl, h0, by decide, fun x hx => ?_⟩
      · have h2 := List.length_filter_le (fun c : Int => decide (10 ^ 18 ≤ c)) ns
        rw [List.length_map]
        show 2 + _ ≤ _
        omega
      · rfl
      · have := of_decide_eq_true (List.mem_filter.mp hx).2
        omega
theorem fn_law_below (A : At K mg "_law_below" s_law_below) (B : Blt mg) : FnO P w K mg base 1 "_law_below" (pD pBelow) := by
  refine fn_draw (vs := vs_law_below) A sc_law_below bd_law_below ?_ (by decide +kernel) ?_
  · rintro ds Q ⟨n, rfl, _⟩
    rfl
  · rintro X W C - q ds Q ⟨n, rfl, n0, n1, hq⟩
    refine sw_open (i := 0) rfl ?_
    rintro ms ⟨s, c, r, rfl, s0, c0, r0⟩
    -- the state at hand: behind the first statement
    have step : ∀ (c : Int) (r : List Int) (z : Option S), 0 ≤ c → (∀ x ∈ r, (0 : Int) ≤ x) → SW X W (defBody s_law_below).tail [some (.own q (.lst ((s :: c :: r).map PyData.int))), some (.d (.int n)), z] (fun _ => False)
        (fun ρ' r => ∃ ms' d, ρ'[0]? = some (some (.own q (.lst (ms'.map PyData.int)))) ∧ RS ms' ∧ r = .d d ∧ ∃ d', (ρ'.set 0 (some (.own q .rs)))[0]? = some (some (.own q .rs)) ∧ (Ret.d d).toD = some d' ∧ Q d') noX := by
      intro c r z c0 r0
      walk_at "go"
      refine ⟨1, _, _, rfl, rfl, at1, ?_⟩
      walk_at "ev"
      refine ⟨fun h => ?_, fun h => ?_⟩
      · have hc : 0 < c := of_decide_eq_true h
        walk_at "ev"
        refine ⟨1, _, _, rfl, rfl, at1, ?_⟩
        walk_at "ev"
        refine bw_mod (by omega) ?_
        walk_at "ev"
        refine s1_setIxO C (by with_unfolding_all rfl) rfl ?_
        walk_at "ev"
        refine ⟨1, _, _, rfl, rfl, at1, ?_⟩
        walk_at "ev"
        refine bw_div (cdiv_of (by omega) n1) ?_
        walk_at "ev"
        refine ⟨1, _, 1, rfl, rfl, ix1, ?_⟩
        walk_at "ev"
        have hm := mod_range (a := c) (b := n) (by omega)
        exact ⟨s :: c / n :: r, _, rfl, ⟨s, c / n, r, rfl, s0, Int.ediv_nonneg c0 (by omega), r0⟩, rfl, _, rfl, rfl, hq _ hm.1 hm.2⟩
      · walk_at "ev"
        refine s1_setIxO C (by with_unfolding_all rfl) rfl ?_
        walk_at "ev"
        refine ⟨0, _, _, rfl, rfl, at0, ?_⟩
        walk_at "ev"
        refine bw_mulS (.inr (by decide)) ?_
        walk_at "ev"
        refine bw_mod (by decide) ?_
        walk_at "ev"
        refine ⟨0, _, 0, rfl, rfl, ix0, ?_⟩
        walk_at "ev"
        refine ⟨0, _, _, rfl, rfl, at0, ?_⟩
        walk_at "ev"
        refine bw_div (cdiv_of (by decide) (by decide)) ?_
        walk_at "ev"
        refine bw_mod (by omega) ?_
        have h1 := mod_range (a := s * 48271 + 11) (b := 2147483647) (by decide)
        have hm := mod_range (a := (s * 48271 + 11) % 2147483647 / 64) (b := n) (by omega)
        exact ⟨(s * 48271 + 11) % 2147483647 :: c :: r, _, rfl, ⟨_, c, r, rfl, h1.1, c0, r0⟩, rfl, _, rfl, rfl, hq _ hm.1 hm.2⟩
    refine sw_cons ?_
    walk_at "ev"
    refine ⟨1, _, _, rfl, rfl, at1, ?_⟩
    walk_at "ev"
    refine ⟨fun h => ?_, fun h => ?_⟩
    · walk_at "ev"
      refine ⟨fun h2 => ?_, fun h2 => ?_⟩
      · have h2 : (2 : Int) < (((s :: c :: r).map PyData.int).length : Nat) := of_decide_eq_true h2
        match r, r0, h2 with
        | [], _, h2 => exact absurd h2 (by simp)
        | y :: r, r0, h2 =>
          walk_at "ev"
          refine s1_setIxO C (by with_unfolding_all rfl) rfl ?_
          refine ew_popAtO C (by with_unfolding_all rfl) rfl ?_
          walk_at "ev"
          refine ⟨2, _, 2, .int y, rfl, rfl, by decide, by decide, ?_, rfl, ?_⟩
          · unfold seqIndex?
            simp
            omega
          refine ⟨_, rfl, ?_⟩
          walk_at "ev"
          refine ⟨1, _, 1, rfl, rfl, ix1, sw_nil ?_⟩
          exact step y r _ (r0 y List.mem_cons_self) fun x hx => r0 x (List.mem_cons_of_mem _ hx)
      · exact sw_nil (step c r _ c0 r0)
    · refine ⟨fun z => (nomatch z), fun _ => sw_nil ?_⟩
      exact step c r _ c0 r0
theorem fn_law_pick (A : At K mg "_law_pick" s_law_pick) (B : Blt mg) (G1 : FnO P w K mg base 1 "_law_below" (pD pBelow)) : FnO P w K mg base 2 "_law_pick" (pD pPick) := by
  refine fn_draw (vs := vs_law_pick) A sc_law_pick bd_law_pick ?_ (by decide +kernel) ?_
  · rintro ds Q ⟨n, rfl, _⟩
    rfl
  · rintro X W C - q ds Q ⟨l, rfl, n0, n1, hq⟩
    walk_at "go"
    refine ⟨rfl, l.length, rfl, by omega, by omega, fun r r0 r1 => ?_⟩
    have hr : r.toNat < l.length := by omega
    have e : atI l r = some l[r.toNat] := by
      unfold atI ixN
      rw [if_pos r0, if_pos r1]
      exact List.getElem?_eq_getElem hr
    refine bi_lst e ?_
    exact ⟨_, rfl, rfl, hq _ (List.getElem_mem hr)⟩
end

/-! ### _law_equal, of a thing with itself -/
def fine : Nat → PyData → Bool
  | 0, _ => false
  | _ + 1, .none => true
  | _ + 1, .bool _ => true
  | _ + 1, .int _ => true
  | _ + 1, .str _ => true
  | n + 1, .tuple ds => decide (ds.length ≤ 16777216) && ds.all (fine n)
  | n + 1, .list ds => decide (ds.length ≤ 16777216) && ds.all (fine n)
  | _ + 1, .dict _ => false
def pSame (n : Nat) : PF := fun ds Q _ => ∃ a b, ds = [a, b] ∧ a = b ∧ fine n b = true ∧ Q (.d (.bool true))
theorem all_true {α : Type} (xs : List α) : (xs.map fun _ => true).all id = true := by
  rw [List.all_eq_true]
  intro x hx
  obtain ⟨_, _, rfl⟩ := List.mem_map.mp hx
  rfl
theorem at_int {l : List PyData} {a : Nat} (h : a < l.length) : atI l (0 + (a : Int)) = some l[a] := by
  unfold atI ixN
  rw [if_pos (by omega), if_pos (by omega)]
  simp [h]
section
variable {P : Program} {w : World} {K : PySem.W.Frag} {mg : Str → Option Value} {base : Heap}
end

/-! ### ways -/
inductive Way where
  | table (a s : Int)
  | delays (a s : Int)
  | told (s : Int) (ps : List Int)
namespace Way
abbrev d : Way → PyData
  | .table a s => .tuple [.str "table", .int a, .int s]
  | .delays a s => .tuple [.str "delays", .int a, .int s]
  | .told s ps => .tuple [.str "told", .int s, .tuple (ps.map PyData.int)]
def Ok : Way → Prop
  | .table a s => 1 ≤ a ∧ a ≤ 10 ^ 15 ∧ 1 ≤ s ∧ s ≤ 10 ^ 15
  | .delays a s => 0 ≤ a ∧ a ≤ 10 ^ 15 ∧ 1 ≤ s ∧ s ≤ 10 ^ 15
  | .told s ps => 1 ≤ s ∧ s ≤ 60 ∧ 1 ≤ ps.length ∧ ps.length ≤ 60 ∧ (∀ p ∈ ps, 0 ≤ p ∧ p < ps.length) ∧ ps.Nodup ∧ (ps.length : Int) % s = 0
def signs : Way → Int
  | .table _ s => s
  | .delays _ s => s
  | .told s _ => s
def words : Way → Int
  | .table a _ => a
  | .delays _ _ => 1
  | .told s ps => (ps.length : Int) / s
def goes (wd k : Int) : Way → Int
  | .table a s => wd / a * a * s + k * a + wd % a
  | .delays a s => (wd + k * a) * s + k
  | .told s ps => wd / ((ps.length : Int) / s) * ((ps.length : Int) / s) * s + ps.getD (wd % ((ps.length : Int) / s) * s + k).toNat 0
def comes (p : Int) : Way → Option (Int × Int)
  | .table a s => some (p / (a * s) * a + p % (a * s) % a, p % (a * s) / a)
  | .delays a s => if p % s * a ≤ p / s then some (p / s - p % s * a, p % s) else none
  | .told s ps => some (p / ((ps.length : Int) / s * s) * ((ps.length : Int) / s) + (ps.idxOf (p % ((ps.length : Int) / s * s)) : Int) / s, (ps.idxOf (p % ((ps.length : Int) / s * s)) : Int) % s)
def isTold : Way → Bool
  | .told _ _ => true
  | _ => false
theorem signs_pos {wy : Way} (h : wy.Ok) : 1 ≤ wy.signs := by
  cases wy with
  | table a s => exact h.2.2.1
  | delays a s => exact h.2.2.1
  | told s ps => exact h.1
theorem signs_le {wy : Way} (h : wy.Ok) : wy.signs ≤ 10 ^ 15 := by
  cases wy with
  | table a s => exact h.2.2.2
  | delays a s => exact h.2.2.2
  | told s ps =>
    have := h.2.1
    show s ≤ 10 ^ 15
    omega
theorem isWay {wy : Way} (h : wy.Ok) : isWayD wy.d = true := by
  cases wy with
  | table a s =>
    obtain ⟨h1, h2, h3, h4⟩ := h
    show (isFromD (.int s) 1 (10 ^ 15) && isFromD (.int a) 1 (10 ^ 15)) = true
    rw [show isFromD (.int s) 1 (10 ^ 15) = true by simp [isFromD, isIntD, toI]; omega, show isFromD (.int a) 1 (10 ^ 15) = true by simp [isFromD, isIntD, toI]; omega]
    rfl
  | delays a s =>
    obtain ⟨h1, h2, h3, h4⟩ := h
    show (isFromD (.int s) 1 (10 ^ 15) && isFromD (.int a) 0 (10 ^ 15)) = true
    rw [show isFromD (.int s) 1 (10 ^ 15) = true by simp [isFromD, isIntD, toI]; omega, show isFromD (.int a) 0 (10 ^ 15) = true by simp [isFromD, isIntD, toI]; omega]
    rfl
  | told s ps =>
    obtain ⟨h1, h2, h3, h4, h5, h6, h7⟩ := h
    show (isFromD (.int s) 1 60 && (arePlaces (.tuple (ps.map PyData.int)) && decide (lenD (.tuple (ps.map PyData.int)) % toI (.int s) = 0))) = true
    rw [show isFromD (.int s) 1 60 = true by simp [isFromD, isIntD, toI]; omega]
    have e1 : (ps.map PyData.int).length = ps.length := List.length_map ..
    have e2 : (ps.map PyData.int).map toI = ps := by rw [List.map_map]; exact List.map_id ps
    have e3 : arePlaces (.tuple (ps.map PyData.int)) = true := by
      show ((decide (1 ≤ (ps.map PyData.int).length) && decide ((ps.map PyData.int).length ≤ 60)) && ((ps.map PyData.int).all (fun x => isFromD x 0 ((ps.map PyData.int).length - 1)) && decide ((ps.map PyData.int).map toI).Nodup)) = true
      rw [e1, e2, decide_eq_true h3, decide_eq_true h4, decide_eq_true h6, Bool.and_true, Bool.and_true, Bool.true_and, List.all_map]
      refine List.all_eq_true.mpr fun p hp => ?_
      have := h5 p hp
      simp [isFromD, isIntD, toI]
      omega
    rw [e3]
    have e4 : lenD (.tuple (ps.map PyData.int)) % toI (.int s) = 0 := by
      show (((ps.map PyData.int).length : Nat) : Int) % s = 0
      rw [e1]
      exact h7
    rw [decide_eq_true e4]
    rfl
end Way
theorem from_true {i lo hi : Int} (h1 : lo ≤ i) (h2 : i ≤ hi) : isFromD (.int i) lo hi = true := by simp [isFromD, isIntD, toI, h1, h2]
theorem from_at {d : PyData} {lo hi : Int} (h : isFromD d lo hi = true) : ∃ i, d = .int i ∧ lo ≤ i ∧ i ≤ hi := by
  cases d with
  | int i =>
    have h2 := Bool.and_eq_true_iff.mp h
    exact ⟨i, rfl, of_decide_eq_true h2.1, of_decide_eq_true h2.2⟩
  | _ => cases h
def pSigns : PF := fun ds Q _ => ∃ wy : Way, ds = [wy.d] ∧ Q (.d (.int wy.signs))
def pWords : PF := fun ds Q _ => ∃ wy : Way, ds = [wy.d] ∧ wy.Ok ∧ Q (.d (.int wy.words))
def pGoesBy : PF := fun ds Q _ => ∃ (wy : Way) (wd k : Int), ds = [wy.d, .int wd, .int k] ∧ wy.Ok ∧ 0 ≤ wd ∧ 0 ≤ k ∧ k < wy.signs ∧ Q (.d (.int (wy.goes wd k)))
abbrev pairD : Option (Int × Int) → PyData
  | some (a, b) => .tuple [.int a, .int b]
  | none => .none
def pComesBy (ok : Way → Prop) : PF := fun ds Q _ => ∃ (wy : Way) (p : Int), ds = [wy.d, .int p] ∧ wy.Ok ∧ ok wy ∧ 0 ≤ p ∧ Q (.d (pairD (wy.comes p)))
section
variable {P : Program} {w : World} {K : PySem.W.Frag} {mg : Str → Option Value} {base : Heap}
theorem fn_signs_of (A : At K mg "signs_of" s_signs_of) (B : Blt mg) : Fn P w K mg base 1 "signs_of" pSigns := by
  refine fn_def (vs := vs_signs_of) A sc_signs_of bd_signs_of ?_ (by decide +kernel) ?_
  · rintro ds Q E ⟨wy, rfl, _⟩
    rfl
  · rintro X W C - ds Q E ⟨wy, rfl, q⟩
    cases wy with
    | table a s =>
      walk_at "go"
      walk_at "run"
      exact q
    | delays a s =>
      walk_at "go"
      walk_at "run"
      exact q
    | told s ps =>
      walk_at "go"
      walk_at "run"
      exact q
theorem fn_words_of (A : At K mg "words_of" s_words_of) (B : Blt mg) : Fn P w K mg base 1 "words_of" pWords := by
  refine fn_def (vs := vs_words_of) A sc_words_of bd_words_of ?_ (by decide +kernel) ?_
  · rintro ds Q E ⟨wy, rfl, _⟩
    rfl
  · rintro X W C - ds Q E ⟨wy, rfl, h, q⟩
    cases wy with
    | table a s =>
      walk_at "go"
      walk_at "run"
      exact q
    | delays a s =>
      walk_at "go"
      walk_at "run"
      exact q
    | told s ps =>
      walk_at "go"
      walk_at "run"
      have h1 := h.1
      have h2 := h.2.1
      refine bw_div (cdiv_of (by omega) (by omega)) ?_
      rw [List.length_map]
      exact q
end

section
variable {P : Program} {w : World} {K : PySem.W.Frag} {mg : Str → Option Value} {base : Heap}
theorem mul64 {i j : Int} (h0 : 0 ≤ j) (h1 : j ≤ 10 ^ 16) : CMul i j := .inr ⟨by omega, by omega⟩
theorem told_size {s : Int} {ps : List Int} (h : (Way.told s ps).Ok) : 1 ≤ (ps.length : Int) / s ∧ (ps.length : Int) / s ≤ 60 ∧ (ps.length : Int) / s * s = ps.length := by
  obtain ⟨h1, h2, h3, h4, h5, h6, h7⟩ := h
  have e : (ps.length : Int) / s * s = ps.length := by
    exact Int.ediv_mul_cancel_of_emod_eq_zero h7
  have hp : 1 ≤ (ps.length : Int) / s := by
    by_cases z : 1 ≤ (ps.length : Int) / s
    · exact z
    · have z0 : (ps.length : Int) / s ≤ 0 := by omega
      have := Int.mul_le_mul_of_nonneg_right z0 (show 0 ≤ s by omega)
      omega
  refine ⟨hp, ?_, e⟩
  have := Int.ediv_le_self (a := (ps.length : Int)) s (by omega)
  omega
theorem told_at {s wd k : Int} {ps : List Int} (h : (Way.told s ps).Ok) (h0 : 0 ≤ wd) (k0 : 0 ≤ k) (k1 : k < s) : 0 ≤ wd % ((ps.length : Int) / s) * s + k ∧ wd % ((ps.length : Int) / s) * s + k < ps.length := by
  obtain ⟨m1, m2, m3⟩ := told_size h
  have hs := h.1
  obtain ⟨r0, r1⟩ := mod_range (a := wd) (b := (ps.length : Int) / s) (by omega)
  have a1 : 0 ≤ wd % ((ps.length : Int) / s) * s := Int.mul_nonneg r0 (by omega)
  have a2 : (wd % ((ps.length : Int) / s) + 1) * s ≤ (ps.length : Int) / s * s := Int.mul_le_mul_of_nonneg_right (by omega) (by omega)
  rw [Int.add_mul, Int.one_mul, m3] at a2
  omega
theorem at_ints {ps : List Int} {i : Int} (h0 : 0 ≤ i) (h1 : i < ps.length) : atI (ps.map PyData.int) i = some (.int (ps.getD i.toNat 0)) := by
  unfold atI ixN
  rw [List.length_map, if_pos h0, if_pos h1]
  have : i.toNat < ps.length := by omega
  simp [this]
theorem fn_goes_by (A : At K mg "goes_by" s_goes_by) (B : Blt mg) (G1 : Fn P w K mg base 1 "signs_of" pSigns) (G2 : Fn P w K mg base 1 "words_of" pWords) : Fn P w K mg base 2 "goes_by" pGoesBy := by
  refine fn_def (vs := vs_goes_by) A sc_goes_by bd_goes_by ?_ (by decide +kernel) ?_
  · rintro ds Q E ⟨wy, wd, k, rfl, _⟩
    rfl
  · rintro X W C - ds Q E ⟨wy, wd, k, rfl, h, w0, k0, k1, q⟩
    cases wy with
    | delays a s =>
      have ho := h
      obtain ⟨a0, a1, s0, s1⟩ := ho
      walk_at "go"
      walk_at "run"
      refine bw_mulS (mul64 a0 (by omega)) ?_
      walk_at "ev"
      refine bw_mulS (mul64 (by omega) (by omega)) ?_
      walk_at "ev"
      exact q
    | table a s =>
      have ho := h
      obtain ⟨a0, a1, s0, s1⟩ := ho
      walk_at "go"
      walk_at "run"
      refine ⟨.table a s, rfl, h, ?_⟩
      walk_at "ev"
      refine ⟨.table a s, rfl, ?_⟩
      walk_at "ev"
      refine bw_div (cdiv_of (show 0 < a by omega) (show a < _ by omega)) ?_
      walk_at "ev"
      refine bw_mulS (show CMul _ (a) from mul64 (by omega) (by omega)) ?_
      walk_at "ev"
      refine bw_mulS (show CMul _ (s) from mul64 (by omega) (by omega)) ?_
      walk_at "run"
      refine bw_mulS (show CMul _ (a) from mul64 (by omega) (by omega)) ?_
      walk_at "ev"
      refine bw_mod (show 0 < a by omega) ?_
      walk_at "ev"
      exact q
    | told s ps =>
      obtain ⟨m1, m2, m3⟩ := told_size h
      have s0 := h.1
      have s1 := h.2.1
      obtain ⟨i0, i1⟩ := told_at h w0 k0 k1
      walk_at "go"
      walk_at "run"
      refine ⟨.told s ps, rfl, h, ?_⟩
      walk_at "ev"
      refine ⟨.told s ps, rfl, ?_⟩
      walk_at "ev"
      refine bw_div (cdiv_of (show 0 < (ps.length : Int) / s by omega) (show (ps.length : Int) / s < _ by omega)) ?_
      walk_at "ev"
      refine bw_mulS (show CMul _ ((ps.length : Int) / s) from mul64 (by omega) (by omega)) ?_
      walk_at "ev"
      refine bw_mulS (show CMul _ (s) from mul64 (by omega) (by omega)) ?_
      walk_at "run"
      refine bw_mod (show 0 < (ps.length : Int) / s by omega) ?_
      walk_at "ev"
      refine bw_mulS (show CMul _ (s) from mul64 (by omega) (by omega)) ?_
      walk_at "ev"
      refine bi_tup (at_ints i0 i1) ?_
      walk_at "ev"
      exact q
theorem fn_comes_by0 (A : At K mg "comes_by" s_comes_by) (B : Blt mg) (G1 : Fn P w K mg base 1 "signs_of" pSigns) (G2 : Fn P w K mg base 1 "words_of" pWords) : Fn P w K mg base 2 "comes_by" (pComesBy fun wy => wy.isTold = false) := by
  refine fn_def (vs := vs_comes_by) A sc_comes_by bd_comes_by ?_ (by decide +kernel) ?_
  · rintro ds Q E ⟨wy, p, rfl, _⟩
    rfl
  · rintro X W C - ds Q E ⟨wy, p, rfl, h, ht, p0, q⟩
    cases wy with
    | delays a s =>
      have ho := h
      obtain ⟨a0, a1, s0, s1⟩ := ho
      walk_at "go"
      walk_at "run"
      refine bw_div (cdiv_of (show 0 < s by omega) (show s < _ by omega)) ?_
      walk_at "ev"
      refine bw_mod (show 0 < s by omega) ?_
      walk_at "ev"
      refine bw_mulS (show CMul _ (a) from mul64 (by omega) (by omega)) ?_
      walk_at "ev"
      by_cases z : p % s * a ≤ p / s
      · refine brT (decide_eq_true z) ?_
        walk_at "ev"
        refine bw_mulS (show CMul _ (a) from mul64 (by omega) (by omega)) ?_
        walk_at "ev"
        rw [show (Way.delays a s).comes p = some (p / s - p % s * a, p % s) from if_pos z] at q
        exact q
      · refine brF (decide_eq_false z) ?_
        walk_at "ev"
        rw [show (Way.delays a s).comes p = none from if_neg z] at q
        exact q
    | table a s =>
      have ho := h
      obtain ⟨a0, a1, s0, s1⟩ := ho
      have as : 0 < a * s := Int.mul_pos (by omega) (by omega)
      have as2 : a * s ≤ 10 ^ 15 * 10 ^ 15 := Int.mul_le_mul a1 s1 (by omega) (by omega)
      walk_at "go"
      walk_at "run"
      refine ⟨.table a s, rfl, h, ?_⟩
      walk_at "ev"
      refine ⟨.table a s, rfl, ?_⟩
      walk_at "ev"
      refine bw_mulS (show CMul _ (s) from mul64 (by omega) (by omega)) ?_
      walk_at "ev"
      refine bw_div (cdiv_of as (show a * s < _ by omega)) ?_
      walk_at "ev"
      refine bw_mulS (show CMul _ (a) from mul64 (by omega) (by omega)) ?_
      walk_at "ev"
      refine bw_mulS (show CMul _ (s) from mul64 (by omega) (by omega)) ?_
      walk_at "ev"
      refine bw_mod as ?_
      walk_at "run"
      refine bw_mod (show 0 < a by omega) ?_
      walk_at "ev"
      refine bw_div (cdiv_of (show 0 < a by omega) (show a < _ by omega)) ?_
      walk_at "ev"
      exact q
    | told s ps => cases ht
end

theorem dm {a b q r : Int} (h : a = q * b + r) (r0 : 0 ≤ r) (r1 : r < b) : a / b = q ∧ a % b = r := by
  subst h
  constructor
  · rw [Int.add_comm, Int.add_mul_ediv_right _ _ (by omega), Int.ediv_eq_zero_of_lt r0 r1, Int.zero_add]
  · rw [Int.add_comm, Int.add_mul_emod_self_right, Int.emod_eq_of_lt r0 r1]
theorem dm_eq (a b : Int) : a / b * b + a % b = a := Int.ediv_mul_add_emod a b
theorem comes_goes {wy : Way} (h : wy.Ok) (ht : wy.isTold = false) {wd k : Int} (w0 : 0 ≤ wd) (k0 : 0 ≤ k) (k1 : k < wy.signs) : wy.comes (wy.goes wd k) = some (wd, k) := by
  cases wy with
  | table a s =>
    obtain ⟨a0, a1, s0, s1⟩ := h
    have k1 : k < s := k1
    obtain ⟨r0, r1⟩ := mod_range (a := wd) (b := a) (by omega)
    have b1 : 0 ≤ k * a := Int.mul_nonneg k0 (by omega)
    have b2 : (k + 1) * a ≤ s * a := Int.mul_le_mul_of_nonneg_right (by omega) (by omega)
    rw [Int.add_mul, Int.one_mul, Int.mul_comm s a] at b2
    obtain ⟨e1, e2⟩ := dm (a := wd / a * a * s + k * a + wd % a) (b := a * s) (q := wd / a) (r := k * a + wd % a) (by rw [Int.mul_assoc, Int.add_assoc]) (by omega) (by omega)
    obtain ⟨e3, e4⟩ := dm (a := k * a + wd % a) (b := a) (q := k) (r := wd % a) rfl r0 r1
    show some ((wd / a * a * s + k * a + wd % a) / (a * s) * a + (wd / a * a * s + k * a + wd % a) % (a * s) % a, (wd / a * a * s + k * a + wd % a) % (a * s) / a) = some (wd, k)
    rw [e1, e2, e3, e4, dm_eq]
  | delays a s =>
    obtain ⟨a0, a1, s0, s1⟩ := h
    have k1 : k < s := k1
    obtain ⟨e1, e2⟩ := dm (a := (wd + k * a) * s + k) (b := s) (q := wd + k * a) (r := k) rfl k0 k1
    show (if ((wd + k * a) * s + k) % s * a ≤ ((wd + k * a) * s + k) / s then some (((wd + k * a) * s + k) / s - ((wd + k * a) * s + k) % s * a, ((wd + k * a) * s + k) % s) else none) = some (wd, k)
    rw [e1, e2, if_pos (by omega), Int.add_sub_cancel]
  | told s ps => cases ht
theorem goes_comes {wy : Way} (h : wy.Ok) (ht : wy.isTold = false) {p wd k : Int} (p0 : 0 ≤ p) (e : wy.comes p = some (wd, k)) : 0 ≤ wd ∧ 0 ≤ k ∧ k < wy.signs ∧ wy.goes wd k = p := by
  cases wy with
  | table a s =>
    obtain ⟨a0, a1, s0, s1⟩ := h
    have as : 0 < a * s := Int.mul_pos (by omega) (by omega)
    have e : some (p / (a * s) * a + p % (a * s) % a, p % (a * s) / a) = some (wd, k) := e
    have e1 : p / (a * s) * a + p % (a * s) % a = wd := congrArg Prod.fst (Option.some.inj e)
    have e2 : p % (a * s) / a = k := congrArg Prod.snd (Option.some.inj e)
    obtain ⟨r0, r1⟩ := mod_range (a := p) (b := a * s) as
    obtain ⟨t0, t1⟩ := mod_range (a := p % (a * s)) (b := a) (by omega)
    have q0 : 0 ≤ p / (a * s) := Int.ediv_nonneg p0 (by omega)
    have k0 : 0 ≤ k := by rw [← e2]; exact Int.ediv_nonneg r0 (by omega)
    have k1 : k < s := by rw [← e2]; exact Int.ediv_lt_of_lt_mul (by omega) (by rw [Int.mul_comm s a]; exact r1)
    have f1 := dm_eq (p % (a * s)) a
    have f2 := dm_eq p (a * s)
    have w0 : 0 ≤ p / (a * s) * a := Int.mul_nonneg q0 (by omega)
    obtain ⟨g1, g2⟩ := dm (a := wd) (b := a) (q := p / (a * s)) (r := p % (a * s) % a) e1.symm t0 t1
    refine ⟨by omega, k0, k1, ?_⟩
    show wd / a * a * s + k * a + wd % a = p
    rw [g1, g2, Int.mul_assoc, ← e2]
    omega
  | delays a s =>
    obtain ⟨a0, a1, s0, s1⟩ := h
    have e : (if p % s * a ≤ p / s then some (p / s - p % s * a, p % s) else none) = some (wd, k) := e
    by_cases z : p % s * a ≤ p / s
    · rw [if_pos z] at e
      have e1 : p / s - p % s * a = wd := congrArg Prod.fst (Option.some.inj e)
      have e2 : p % s = k := congrArg Prod.snd (Option.some.inj e)
      obtain ⟨r0, r1⟩ := mod_range (a := p) (b := s) (by omega)
      subst e2
      refine ⟨by omega, r0, r1, ?_⟩
      show (wd + p % s * a) * s + p % s = p
      rw [← e1, Int.sub_add_cancel]
      exact dm_eq p s
    · rw [if_neg z] at e
      cases e
  | told s ps => cases ht
theorem goes_nonneg {wy : Way} (h : wy.Ok) (ht : wy.isTold = false) {wd k : Int} (w0 : 0 ≤ wd) (k0 : 0 ≤ k) : 0 ≤ wy.goes wd k := by
  cases wy with
  | table a s =>
    obtain ⟨a0, a1, s0, s1⟩ := h
    have r0 := (mod_range (a := wd) (b := a) (by omega)).1
    have b1 : 0 ≤ k * a := Int.mul_nonneg k0 (by omega)
    have b2 : 0 ≤ wd / a * a * s := Int.mul_nonneg (Int.mul_nonneg (Int.ediv_nonneg w0 (by omega)) (by omega)) (by omega)
    show 0 ≤ wd / a * a * s + k * a + wd % a
    omega
  | delays a s =>
    obtain ⟨a0, a1, s0, s1⟩ := h
    have b1 : 0 ≤ k * a := Int.mul_nonneg k0 (by omega)
    have b2 : 0 ≤ (wd + k * a) * s := Int.mul_nonneg (by omega) (by omega)
    show 0 ≤ (wd + k * a) * s + k
    omega
  | told s ps => cases ht

/-! ### bursts: tables and delays -/
def Way.space : Way → Int
  | .table a _ => a
  | .delays a s => a * s + 1
  | .told s ps => s * (ps.length : Int) + 1
def Way.most0 (l : Int) (wy : Way) : Int := min wy.signs ((l + wy.space - 1) / wy.space)
theorem Way.space_pos {wy : Way} (h : wy.Ok) (ht : wy.isTold = false) : 1 ≤ wy.space ∧ wy.space ≤ 10 ^ 30 + 1 := by
  cases wy with
  | table a s =>
    have h1 := h.1
    have h2 := h.2.1
    show 1 ≤ a ∧ a ≤ 10 ^ 30 + 1
    omega
  | delays a s =>
    obtain ⟨a0, a1, s0, s1⟩ := h
    have b1 : 0 ≤ a * s := Int.mul_nonneg a0 (by omega)
    have b2 : a * s ≤ 10 ^ 15 * 10 ^ 15 := Int.mul_le_mul a1 s1 (by omega) (by omega)
    show 1 ≤ a * s + 1 ∧ a * s + 1 ≤ 10 ^ 30 + 1
    omega
  | told s ps => cases ht
def pCheckLength (K : PySem.W.Frag) : PF := fun ds Q E => ∃ (a : PyData) (m : Int), ds = [a, .int m] ∧ (isFromD a 0 m = true → Q (.d .none)) ∧ (isFromD a 0 m = false → E ⟨cA K "BadLength", none⟩)
def pCheckMany (K : PySem.W.Frag) : PF := fun ds Q E => ∃ (a : PyData), ds = [a] ∧ (isFromD a 0 (10 ^ 15) = true → Q (.d .none)) ∧ (isFromD a 0 (10 ^ 15) = false → E ⟨cA K "BadMany", none⟩)
def pSpacing : PF := fun ds Q _ => ∃ wy : Way, ds = [wy.d] ∧ wy.Ok ∧ wy.isTold = false ∧ Q (.d (.int wy.space))
def pParts : PF := fun ds Q _ => ∃ n s : Int, ds = [.int n, .int s] ∧ 0 < s ∧ s < 2 ^ 200 ∧ Q (.d (.int ((n + s - 1) / s)))
/-- f: what most_by tells, ok: of which ways -/
def pMostBy (ok : Way → Prop) (f : Int → Way → Int) : PF := fun ds Q _ => ∃ (wy : Way) (l : Int), ds = [wy.d, .int l] ∧ wy.Ok ∧ ok wy ∧ 0 ≤ l ∧ Q (.d (.int (f l wy)))
def pMostHit (K : PySem.W.Frag) (ok : Way → Prop) (f : Int → Way → Int) : PF := fun ds Q E => ∃ (wy : Way) (a : PyData), ds = [wy.d, a] ∧ wy.Ok ∧ ok wy ∧ (isFromD a 0 (10 ^ 30) = false → E ⟨cA K "BadLength", none⟩) ∧
  ∀ l, a = .int l → 0 ≤ l → l ≤ 10 ^ 30 → Q (.d (.int (f l wy)))
def pWorst0 (K : PySem.W.Frag) : PF := fun ds Q E => ∃ (wy : Way) (a : PyData), ds = [wy.d, a] ∧ wy.Ok ∧ wy.isTold = false ∧ (isFromD a 0 (10 ^ 30) = false → E ⟨cA K "BadLength", none⟩) ∧
  (isFromD a 0 (10 ^ 30) = true → Q (.d (.tuple [.int 0, .int 0])))
abbrev optI : Option Int → PyData
  | some i => .int i
  | none => .none
def Way.longest0 (m : Int) (wy : Way) : Option Int := if wy.signs ≤ m then none else some (m * wy.space)
def pLongestBy (ok : Way → Prop) (f : Int → Way → Option Int) : PF := fun ds Q _ => ∃ (wy : Way) (m : Int), ds = [wy.d, .int m] ∧ wy.Ok ∧ ok wy ∧ 0 ≤ m ∧ m ≤ 10 ^ 15 ∧ Q (.d (optI (f m wy)))
def pLongest (K : PySem.W.Frag) (ok : Way → Prop) (f : Int → Way → Option Int) : PF := fun ds Q E => ∃ (wy : Way) (a : PyData), ds = [wy.d, a] ∧ wy.Ok ∧ ok wy ∧ (isFromD a 0 (10 ^ 15) = false → E ⟨cA K "BadMany", none⟩) ∧
  ∀ m, a = .int m → 0 ≤ m → m ≤ 10 ^ 15 → Q (.d (optI (f m wy)))
def pStands (K : PySem.W.Frag) (ok : Way → Prop) (f : Int → Way → Int) : PF := fun ds Q E => ∃ (wy : Way) (a b : PyData), ds = [wy.d, a, b] ∧ wy.Ok ∧ ok wy ∧ (isFromD a 0 (10 ^ 30) = false → E ⟨cA K "BadLength", none⟩) ∧
  ∀ l, a = .int l → 0 ≤ l → l ≤ 10 ^ 30 → (isFromD b 0 (10 ^ 15) = false → E ⟨cA K "BadMany", none⟩) ∧ ∀ m, b = .int m → 0 ≤ m → m ≤ 10 ^ 15 → Q (.d (.bool (decide (f l wy ≤ m))))
abbrev noTold (wy : Way) : Prop := wy.isTold = false
section
variable {P : Program} {w : World} {K : PySem.W.Frag} {mg : Str → Option Value} {base : Heap}
theorem fn_check_length (A : At K mg "check_length" s_check_length) (B : Blt mg) (X1 : ExC K mg "BadLength" (cA K "BadLength")) (G2 : Fn P w K mg base 2 "is_from" pIsFrom) : Fn P w K mg base 3 "check_length" (pCheckLength K) := by
  refine fn_def (vs := vs_check_length) A sc_check_length bd_check_length ?_ (by decide +kernel) ?_
  · rintro ds Q E ⟨a, m, rfl, _⟩
    rfl
  · rintro X W C - ds Q E ⟨a, m, rfl, h1, h2⟩
    walk_at "go"
    refine ⟨_, _, _, rfl, _, rfl, _, rfl, fun z => ?_, fun z => ?_⟩
    · walk_at "ev"
      exact h2 (by simpa using z)
    · walk_at "ev"
      exact h1 (by simpa using z)
theorem fn_spacing (A : At K mg "spacing" s_spacing) (B : Blt mg) : Fn P w K mg base 1 "spacing" pSpacing := by
  refine fn_def (vs := vs_spacing) A sc_spacing bd_spacing ?_ (by decide +kernel) ?_
  · rintro ds Q E ⟨wy, rfl, _⟩
    rfl
  · rintro X W C - ds Q E ⟨wy, rfl, h, ht, q⟩
    cases wy with
    | table a s =>
      walk_at "go"
      walk_at "run"
      exact q
    | delays a s =>
      have ho := h
      obtain ⟨a0, a1, s0, s1⟩ := ho
      walk_at "go"
      walk_at "run"
      refine bw_mulS (show CMul _ s from mul64 (by omega) (by omega)) ?_
      walk_at "ev"
      exact q
    | told s ps => cases ht
theorem fn_parts_of (A : At K mg "parts_of" s_parts_of) (B : Blt mg) : Fn P w K mg base 1 "parts_of" pParts := by
  refine fn_def (vs := vs_parts_of) A sc_parts_of bd_parts_of ?_ (by decide +kernel) ?_
  · rintro ds Q E ⟨n, s, rfl, _⟩
    rfl
  · rintro X W C - ds Q E ⟨n, s, rfl, s0, s1, q⟩
    walk_at "go"
    refine bw_div (cdiv_of s0 s1) ?_
    exact q
theorem fn_most_by0 (A : At K mg "most_by" s_most_by) (B : Blt mg) (G1 : Fn P w K mg base 1 "signs_of" pSigns) (G2 : Fn P w K mg base 1 "spacing" pSpacing) (G3 : Fn P w K mg base 1 "parts_of" pParts) : Fn P w K mg base 4 "most_by" (pMostBy noTold Way.most0) := by
  refine fn_def (vs := vs_most_by) A sc_most_by bd_most_by ?_ (by decide +kernel) ?_
  · rintro ds Q E ⟨wy, l, rfl, _⟩
    rfl
  · rintro X W C - ds Q E ⟨wy, l, rfl, h, ht, l0, q⟩
    obtain ⟨p0, p1⟩ := Way.space_pos h ht
    have nt : ∃ s b c, wy.d = .tuple [.str s, b, c] ∧ s ≠ "told" := by
      cases wy with
      | table a s => exact ⟨_, _, _, rfl, by decide⟩
      | delays a s => exact ⟨_, _, _, rfl, by decide⟩
      | told s ps => cases ht
    obtain ⟨s, b, c, ed, hs⟩ := nt
    refine sw_same ?_ ?_
    · rw [ed]
      walk_at "ev"
      refine brF (decide_eq_false hs) ?_
      exact sw_nil rfl
    walk_at "go"
    refine ⟨wy, rfl, ?_⟩
    walk_at "ev"
    refine ⟨wy, rfl, h, ht, ?_⟩
    walk_at "ev"
    refine ⟨_, _, rfl, by omega, by omega, ?_⟩
    walk_at "ev"
    refine bc_min2 C.calm ?_
    exact q
end

/-! ### _law_way: a drawn way -/
def Way.Small (m sm : Int) : Way → Prop
  | .table a s => a ≤ m ∧ s ≤ 6
  | .delays a s => a < m ∧ s ≤ 6
  | .told s _ => s ≤ sm
def pLawWay (sm : Int) : PDr := fun ds Q => ∃ m : Int, ds = [.int m] ∧ 1 ≤ m ∧ m ≤ 1000 ∧ ∀ wy : Way, wy.Ok → wy.Small m sm → Q wy.d
theorem perm_take {p : Int} : ∀ {l : List Int}, l.Nodup → p ∈ l → l.Perm (p :: l.filter fun o => !decide (o = p))
  | [], _, h => nomatch h
  | a :: r, nd, h => by
    have nd2 := List.nodup_cons.mp nd
    by_cases e : a = p
    · subst e
      have : r.filter (fun o => !decide (o = a)) = r := List.filter_eq_self.mpr fun z hz => by
        have : z ≠ a := fun e => nd2.1 (e ▸ hz)
        simp [this]
      rw [List.filter_cons_of_neg (by simp), this]
    · have hr : p ∈ r := by
        rcases List.mem_cons.mp h with z | z
        · exact absurd z.symm e
        · exact z
      rw [List.filter_cons_of_pos (by simp [e])]
      exact ((perm_take nd2.2 hr).cons a).trans (.swap p a _)
theorem rng_nodup (n : Nat) : ((List.range n).map fun (i : Nat) => (i : Int)).Nodup := by
  refine List.nodup_iff_pairwise_ne.mpr (List.pairwise_map.mpr ((List.nodup_iff_pairwise_ne.mp List.nodup_range).imp fun h e => h (by exact Int.ofNat.inj e)))
section
variable {P : Program} {w : World} {K : PySem.W.Frag} {mg : Str → Option Value} {base : Heap}
theorem fn_law_way (A : At K mg "_law_way" s_law_way) (B : Blt mg) (G1 : FnO P w K mg base 1 "_law_below" (pD pBelow)) (G2 : FnO P w K mg base 2 "_law_pick" (pD pPick)) : FnO P w K mg base 3 "_law_way" (pD (pLawWay 20)) := by
  refine fn_draw (vs := vs_law_way) A sc_law_way bd_law_way ?_ (by decide +kernel) ?_
  · rintro ds Q ⟨m, rfl, _⟩
    rfl
  · rintro X W C - q ds Q ⟨m, rfl, m0, m1, hq⟩
    walk_at "go"
    refine ⟨rfl, 3, rfl, by decide, by decide, fun kd k0 k1 => ?_⟩
    walk_at "ev"
    refine ⟨rfl, _, rfl, by with_unfolding_all exact Nat.le_of_ble_eq_true rfl, by with_unfolding_all exact Nat.le_of_ble_eq_true rfl, fun x hx => ?_⟩
    obtain ⟨r, rfl, r0, r1⟩ := from_at (mem_all (p := fun x => isFromD x 1 6) (by decide) hx)
    walk_at "ev"
    refine ⟨rfl, _, rfl, r0, by omega, fun s' s0 s1 => ?_⟩
    walk_at "ev"
    obtain ⟨s, hs⟩ : ∃ s, s = 1 + s' := ⟨_, rfl⟩
    rw [← hs]
    refine ⟨fun z => ?_, fun z => ?_⟩
    · walk_at "ev"
      refine ⟨rfl, m, rfl, m0, by omega, fun a a0 a1 => ?_⟩
      walk_at "ev"
      exact ⟨_, rfl, rfl, hq (.table (1 + a) s) ⟨by omega, by omega, by omega, by omega⟩ ⟨by omega, by omega⟩⟩
    walk_at "ev"
    refine ⟨fun z => ?_, fun z => ?_⟩
    · walk_at "ev"
      refine ⟨rfl, m, rfl, m0, by omega, fun a a0 a1 => ?_⟩
      walk_at "ev"
      exact ⟨_, rfl, rfl, hq (.delays a s) ⟨by omega, by omega, by omega, by omega⟩ ⟨by omega, by omega⟩⟩
    refine sw_nil ?_
    refine sw_via (fun ρ' => ∃ s : Int, 1 ≤ s ∧ s ≤ 20 ∧ ρ' = [some (.own q .rs), some (.d (.int m)), some (.d (.int kd)), some (.d (.int s)), none, none, none, none, none, none]) ?_ ?_
    · walk_at "ev"
      refine ⟨rfl, 4, rfl, by decide, by decide, fun r4 a0 a1 => ?_⟩
      walk_at "ev"
      refine ⟨fun z => ?_, fun z => ?_⟩
      · walk_at "ev"
        refine ⟨rfl, _, rfl, by with_unfolding_all exact Nat.le_of_ble_eq_true rfl, by with_unfolding_all exact Nat.le_of_ble_eq_true rfl, fun x hx => ?_⟩
        obtain ⟨r, rfl, r0, r1⟩ := from_at (mem_all (p := fun x => isFromD x 1 20) (by decide) hx)
        refine sw_nil ⟨r, r0, r1, rfl⟩
      · exact sw_nil ⟨s, by omega, by omega, rfl⟩
    rintro ρ' ⟨s, s0, s1, rfl⟩
    refine sw_via (fun ρ' => ∃ many : Int, 1 ≤ many ∧ many ≤ 60 ∧ many % s = 0 ∧ ρ' = [some (.own q .rs), some (.d (.int m)), some (.d (.int kd)), some (.d (.int s)), some (.d (.int many)), none, none, none, none, none]) ?_ ?_
    · walk_at "ev"
      refine bw_div (cdiv_of (by omega) (by omega)) ?_
      walk_at "ev"
      refine ⟨rfl, _, rfl, by with_unfolding_all exact Nat.le_of_ble_eq_true rfl, by with_unfolding_all exact Nat.le_of_ble_eq_true rfl, fun x hx => ?_⟩
      obtain ⟨r, rfl, r0, r1⟩ := from_at (mem_all (p := fun x => isFromD x 1 60) (by decide) hx)
      walk_at "ev"
      refine bc_minE C.calm (ns := [60 / s, r]) rfl (by simp) ?_
      have d1 : 1 ≤ 60 / s := by
        refine (Int.le_ediv_iff_mul_le (by omega)).mpr ?_
        omega
      obtain ⟨t, ht⟩ : ∃ t, t = minI [60 / s, r] := ⟨_, rfl⟩
      rw [← ht]
      have t0 : 1 ≤ t := by
        have := minI_mem (l := [60 / s, r]) (by simp)
        rw [← ht] at this
        rcases List.mem_cons.mp this with z | z
        · omega
        · have := List.mem_singleton.mp z
          omega
      have t1 : t ≤ 60 / s := by
        rw [ht]
        exact minI_le List.mem_cons_self
      have t2 : 60 / s ≤ 60 := Int.ediv_le_self s (by omega)
      walk_at "ev"
      refine ⟨rfl, t, rfl, t0, by omega, fun u u0 u1 => ?_⟩
      walk_at "ev"
      refine bw_mulS (mul64 (by omega) (by omega)) ?_
      have e1 : s * (1 + u) ≤ s * (60 / s) := Int.mul_le_mul_of_nonneg_left (by omega) (by omega)
      have e2 : s * (60 / s) ≤ 60 := Int.mul_ediv_self_le (by omega)
      have e3 : s * 1 ≤ s * (1 + u) := Int.mul_le_mul_of_nonneg_left (by omega) (by omega)
      exact ⟨s * (1 + u), by omega, by omega, Int.mul_emod_right _ _, rfl⟩
    rintro ρ' ⟨many, y0, y1, y2, rfl⟩
    refine sw_cons (s1_par2O C ?_)
    walk_at "ev"
    refine ⟨⟨by omega, by omega, by omega⟩, eo_en (en_lst ?_)⟩
    walk_at "ev"
    intro qf
    rw [rgD_zero]
    refine sw_cons (s1_for C (iw_range1 C B.range ?_))
    walk_at "ev"
    refine ⟨by omega, by omega, fun n ρ => ∃ (left found : List Int) (z7 z8 : Option S), ρ = [some (.own q .rs), some (.d (.int m)), some (.d (.int kd)), some (.d (.int s)), some (.d (.int many)), some (.d (.list (left.map PyData.int))), some (.own qf (.lst (found.map PyData.int))), z7, z8, none] ∧ (found ++ left).Perm ((List.range many.toNat).map fun (i : Nat) => (i : Int)) ∧ found.length = n, ⟨_, [], none, none, rfl, .refl _, rfl⟩, ?_, ?_⟩
    · rintro n d ρ hd ⟨left, found, z7, z8, rfl, pm, hn⟩
      obtain ⟨hlt, rfl⟩ := rangeD_get hd
      refine gw_name C rfl ?_
      have hlen := pm.length_eq
      rw [List.length_append, List.length_map, List.length_range] at hlen
      have hll : 1 ≤ left.length := by omega
      have nd : left.Nodup := (List.nodup_append.mp (pm.nodup_iff.mpr (rng_nodup _))).2.1
      refine sw_via (fun ρ' => ∃ pl ∈ left, ρ' = [some (.own q .rs), some (.d (.int m)), some (.d (.int kd)), some (.d (.int s)), some (.d (.int many)), some (.d (.list (left.map PyData.int))), some (.own qf (.lst (found.map PyData.int))), some (.d (.int (0 + (n : Nat)))), some (.d (.int pl)), none]) ?_ ?_
      · walk_at "ev"
        refine ⟨rfl, 3, rfl, by decide, by decide, fun r4 a0 a1 => ?_⟩
        walk_at "ev"
        refine ⟨fun z => ?_, fun z => ?_⟩
        · walk_at "ev"
          rw [List.length_map]
          refine ⟨rfl, _, rfl, by omega, by omega, fun r b0 b1 => ?_⟩
          refine bi_lst (at_ints b0 b1) ?_
          refine ⟨_, ?_, rfl⟩
          have : r.toNat < left.length := by omega
          rw [List.getD_eq_getElem?_getD, List.getElem?_eq_getElem this]
          exact List.getElem_mem this
        · walk_at "ev"
          refine bi_lst (at_ints (by decide) (by omega)) ?_
          refine ⟨_, ?_, rfl⟩
          have : 0 < left.length := by omega
          show left.getD 0 0 ∈ left
          rw [List.getD_eq_getElem?_getD, List.getElem?_eq_getElem this]
          exact List.getElem_mem this
      rintro ρ' ⟨pl, hpl, rfl⟩
      refine sw_cons (s1_setLc C (vb := vb_law_way_0) (lb := lb_law_way_0) (iw_seq ?_))
      walk_at "ev"
      refine ⟨_, .inl rfl, by rw [List.length_map]; omega, noOwn_of rfl, ?_⟩
      refine lc_fil (xs := left) (enc := PyData.int) (f := PyData.int) (pr := fun o => !decide (o = pl)) rfl (fun a _ X C => ?_) (fun a _ _ X C => ?_) ?_
      · walk_at "ev"
        exact ⟨rfl, rfl⟩
      · walk_at "ev"
        exact ⟨rfl, rfl⟩
      refine sw_cons (s1_expr (ew_appO C (by with_unfolding_all rfl) rfl ?_))
      walk_at "ev"
      refine ⟨by rw [List.length_map]; omega, sw_nil ?_⟩
      refine ⟨left.filter fun o => !decide (o = pl), found ++ [pl], _, _, by rw [List.map_append]; rfl, ?_, by rw [List.length_append, hn]; rfl⟩
      refine .trans ?_ pm
      rw [List.append_assoc]
      exact ((perm_take nd hpl).symm).append_left found
    · rintro ρ ⟨left, found, z7, z8, rfl, pm, hn⟩
      rw [rangeD_len] at hn
      have hlen := pm.length_eq
      rw [List.length_append, List.length_map, List.length_range] at hlen
      have hl0 : left = [] := List.length_eq_zero_iff.mp (by omega)
      subst hl0
      rw [List.append_nil] at pm
      walk_at "go"
      refine ew_varF C (by with_unfolding_all rfl) rfl ?_
      walk_at "ev"
      refine ⟨_, rfl, rfl, hq (.told s found) ⟨by omega, by omega, by omega, by omega, fun p hp => ?_, pm.nodup_iff.mpr (rng_nodup _), ?_⟩ (by show s ≤ _; omega)⟩
      · obtain ⟨t, ht, rfl⟩ := List.mem_map.mp (pm.mem_iff.mp hp)
        have := List.mem_range.mp ht
        omega
      · have : (found.length : Int) = many := by omega
        rw [this]
        exact y2
theorem fn_law_signs (A : At K mg "_law_signs" s_law_signs) (B : Blt mg) : Fn P w K mg base 1 "_law_signs" pSigns := by
  refine fn_def (vs := vs_law_signs) A sc_law_signs bd_law_signs ?_ (by decide +kernel) ?_
  · rintro ds Q E ⟨wy, rfl, _⟩
    rfl
  · rintro X W C - ds Q E ⟨wy, rfl, q⟩
    cases wy with
    | table a s =>
      walk_at "go"
      walk_at "run"
      exact q
    | delays a s =>
      walk_at "go"
      walk_at "run"
      exact q
    | told s ps =>
      walk_at "go"
      walk_at "run"
      exact q
end

/-! ### _law_places, _law_hit, _law_most -/
def Way.row (wd : Int) (wy : Way) : List Int := (List.range wy.signs.toNat).map fun (k : Nat) => wy.goes wd k
theorem row_map (wy : Way) (wd : Int) : (wy.row wd).map PyData.int = (List.range wy.signs.toNat).map fun (k : Nat) => PyData.int (wy.goes wd k) := List.map_map ..
theorem row_len (wy : Way) (wd : Int) : (wy.row wd).length = wy.signs.toNat := by
  unfold Way.row
  rw [List.length_map, List.length_range]
def pLawPlaces : PF := fun ds Q _ => ∃ (wy : Way) (wd : Int), ds = [wy.d, .int wd] ∧ wy.Ok ∧ 0 ≤ wd ∧ wy.signs ≤ 1000000 ∧ Q (.d (.list ((wy.row wd).map PyData.int)))
def hitN (ns : List Int) (b l : Int) : Int := ((ns.filter fun p => decide (b ≤ p) && decide (p < b + l)).length : Nat)
theorem hitN_le (ns : List Int) (b l : Int) : 0 ≤ hitN ns b l ∧ hitN ns b l ≤ ns.length := by
  unfold hitN
  have := List.length_filter_le (fun p => decide (b ≤ p) && decide (p < b + l)) ns
  omega
def pLawHit : PF := fun ds Q _ => ∃ (ns : List Int) (b l : Int), ds = [.list (ns.map PyData.int), .int b, .int l] ∧ ns.length ≤ 16777216 ∧ Q (.d (.int (hitN ns b l)))
def Way.mostUpTo (l : Int) (n : Nat) (wy : Way) : Int := (List.range n).foldl (fun m (x : Nat) => maxI (m :: (wy.row x).map fun p => hitN (wy.row x) p l)) 0
def Way.lawMost (l : Int) (wy : Way) : Int := wy.mostUpTo l wy.words.toNat
theorem mostUpTo_succ (l : Int) (n : Nat) (wy : Way) : wy.mostUpTo l (n + 1) = maxI (wy.mostUpTo l n :: (wy.row n).map fun p => hitN (wy.row n) p l) := by
  unfold Way.mostUpTo
  rw [List.range_succ, List.foldl_append]
  rfl
theorem words_pos {wy : Way} (h : wy.Ok) : 1 ≤ wy.words ∧ wy.words ≤ 10 ^ 15 := by
  cases wy with
  | table a s => exact ⟨h.1, h.2.1⟩
  | delays a s => exact ⟨show (1 : Int) ≤ 1 by decide, show (1 : Int) ≤ 10 ^ 15 by decide⟩
  | told s ps =>
    obtain ⟨m1, m2, m3⟩ := told_size h
    exact ⟨m1, by show (ps.length : Int) / s ≤ _; omega⟩
def pLawMost : PF := fun ds Q _ => ∃ (wy : Way) (l : Int), ds = [wy.d, .int l] ∧ wy.Ok ∧ wy.signs ≤ 1000000 ∧ Q (.d (.int (wy.lawMost l)))
section
variable {P : Program} {w : World} {K : PySem.W.Frag} {mg : Str → Option Value} {base : Heap}
end

/-! ### how many signs a burst hits: plain -/
theorem cnt_range (a b : Nat) : ∀ n : Nat, ((List.range n).filter fun i => decide (a ≤ i) && decide (i < b)).length = min n b - a
  | 0 => by simp
  | n + 1 => by
    rw [List.range_succ, List.filter_append, List.length_append, cnt_range a b n]
    by_cases h : a ≤ n ∧ n < b
    · rw [List.filter_cons_of_pos (by simp [h.1, h.2])]
      show _ + 1 = _
      omega
    · rw [List.filter_cons_of_neg (by simp; omega)]
      show _ + 0 = _
      omega
theorem goes_lin {wy : Way} (ht : wy.isTold = false) (wd k : Int) : wy.goes wd k = wy.goes wd 0 + k * wy.space := by
  cases wy with
  | table a s =>
    show wd / a * a * s + k * a + wd % a = wd / a * a * s + 0 * a + wd % a + k * a
    omega
  | delays a s =>
    show (wd + k * a) * s + k = (wd + 0 * a) * s + 0 + k * (a * s + 1)
    rw [Int.zero_mul, Int.add_zero, Int.add_zero, Int.add_mul, Int.mul_add, Int.mul_one, Int.mul_assoc, Int.add_assoc]
  | told s ps => cases ht
theorem lt_parts {d sp l : Int} (h : 1 ≤ sp) : d * sp < l ↔ d < (l + sp - 1) / sp := by
  have e : d < (l + sp - 1) / sp ↔ (d + 1) * sp ≤ l + sp - 1 := by
    rw [← Int.le_ediv_iff_mul_le (by omega)]
    omega
  rw [e, Int.add_mul, Int.one_mul]
  omega
theorem hit_row {wy : Way} (h : wy.Ok) (ht : wy.isTold = false) {wd l : Int} {k : Nat} (l0 : 0 ≤ l) (hk : k < wy.signs.toNat) : hitN (wy.row wd) (wy.goes wd k) l = min (wy.signs - k) ((l + wy.space - 1) / wy.space) := by
  obtain ⟨p0, p1⟩ := Way.space_pos h ht
  have s0 := Way.signs_pos h
  have q0 : 0 ≤ (l + wy.space - 1) / wy.space := Int.ediv_nonneg (by omega) (by omega)
  unfold hitN Way.row
  rw [List.filter_map, List.length_map]
  have e : (List.range wy.signs.toNat).filter ((fun p => decide (wy.goes wd k ≤ p) && decide (p < wy.goes wd k + l)) ∘ fun (j : Nat) => wy.goes wd j) = (List.range wy.signs.toNat).filter fun i => decide (k ≤ i) && decide (i < k + ((l + wy.space - 1) / wy.space).toNat) := by
    refine List.filter_congr fun i _ => ?_
    show (decide (wy.goes wd k ≤ wy.goes wd i) && decide (wy.goes wd i < wy.goes wd k + l)) = _
    rw [goes_lin ht wd k, goes_lin ht wd i]
    have a1 : (wy.goes wd 0 + (k : Int) * wy.space ≤ wy.goes wd 0 + (i : Int) * wy.space) ↔ k ≤ i := by
      rw [Int.add_le_add_iff_left]
      constructor
      · intro z
        have := Int.le_of_mul_le_mul_right z (by omega)
        omega
      · intro z
        exact Int.mul_le_mul_of_nonneg_right (by omega) (by omega)
    have a2 : (wy.goes wd 0 + (i : Int) * wy.space < wy.goes wd 0 + (k : Int) * wy.space + l) ↔ i < k + ((l + wy.space - 1) / wy.space).toNat := by
      have : ((i : Int) - k) * wy.space < l ↔ (i : Int) - k < (l + wy.space - 1) / wy.space := lt_parts p0
      rw [Int.sub_mul] at this
      constructor
      · intro z
        have := this.mp (by omega)
        omega
      · intro z
        have := this.mpr (by omega)
        omega
    rw [decide_eq_decide.mpr a1, decide_eq_decide.mpr a2]
  rw [e, cnt_range]
  omega
theorem mostUpTo_le {wy : Way} {l M : Int} (h0 : 0 ≤ M) : ∀ {n : Nat}, (∀ x < n, ∀ p ∈ wy.row x, hitN (wy.row x) p l ≤ M) → wy.mostUpTo l n ≤ M
  | 0, _ => h0
  | n + 1, h => by
    rw [mostUpTo_succ]
    have ih := mostUpTo_le (wy := wy) (l := l) h0 (n := n) fun x hx => h x (by omega)
    have hm := maxI_mem (l := wy.mostUpTo l n :: (wy.row n).map fun p => hitN (wy.row n) p l) (by simp)
    rcases List.mem_cons.mp hm with z | z
    · omega
    · obtain ⟨p, hp, e⟩ := List.mem_map.mp z
      rw [← e]
      exact h n (by omega) p hp
theorem le_mostUpTo {wy : Way} {l : Int} : ∀ {n : Nat} {x : Nat} {p : Int}, x < n → p ∈ wy.row x → hitN (wy.row x) p l ≤ wy.mostUpTo l n
  | 0, _, _, h, _ => absurd h (Nat.not_lt_zero _)
  | n + 1, x, p, h, hp => by
    rw [mostUpTo_succ]
    by_cases e : x = n
    · subst e
      exact le_maxI (List.mem_cons_of_mem _ (List.mem_map.mpr ⟨p, hp, rfl⟩))
    · exact Int.le_trans (le_mostUpTo (n := n) (by omega) hp) (le_maxI List.mem_cons_self)
theorem mem_row {wy : Way} {wd p : Int} : p ∈ wy.row wd ↔ ∃ k : Nat, k < wy.signs.toNat ∧ wy.goes wd k = p := by
  unfold Way.row
  rw [List.mem_map]
  exact ⟨fun ⟨k, h, e⟩ => ⟨k, List.mem_range.mp h, e⟩, fun ⟨k, h, e⟩ => ⟨k, List.mem_range.mpr h, e⟩⟩
theorem lawMost0 {wy : Way} (h : wy.Ok) (ht : wy.isTold = false) {l : Int} (l0 : 0 ≤ l) : wy.lawMost l = wy.most0 l := by
  obtain ⟨p0, p1⟩ := Way.space_pos h ht
  have s0 := Way.signs_pos h
  obtain ⟨n1, _⟩ := words_pos h
  have q0 : 0 ≤ (l + wy.space - 1) / wy.space := Int.ediv_nonneg (by omega) (by omega)
  unfold Way.lawMost Way.most0
  refine Int.le_antisymm (mostUpTo_le (by omega) fun x hx p hp => ?_) ?_
  · obtain ⟨k, hk, rfl⟩ := mem_row.mp hp
    rw [hit_row h ht l0 hk]
    omega
  · have z := le_mostUpTo (wy := wy) (l := l) (n := wy.words.toNat) (x := 0) (p := wy.goes 0 (0 : Nat)) (by omega) (mem_row.mpr ⟨0, by omega, rfl⟩)
    have e := hit_row (wd := ((0 : Nat) : Int)) h ht (k := 0) l0 (by omega)
    rw [show (((0 : Nat) : Nat) : Int) = 0 from rfl] at e z
    omega
/-! told ways -/
def Way.rows (wy : Way) : List (List Int) := (List.range wy.words.toNat).map fun (x : Nat) => srtI (wy.row x)
def Way.mostT (l : Int) (wy : Way) : Int := maxI (wy.rows.flatMap fun r => r.map fun p => hitN r p l)
theorem hitN_perm {a b : List Int} (h : a.Perm b) (x l : Int) : hitN a x l = hitN b x l := by
  unfold hitN
  rw [(h.filter _).length_eq]
theorem mem_rows {wy : Way} {r : List Int} : r ∈ wy.rows ↔ ∃ x : Nat, x < wy.words.toNat ∧ srtI (wy.row x) = r := by
  unfold Way.rows
  rw [List.mem_map]
  exact ⟨fun ⟨k, h, e⟩ => ⟨k, List.mem_range.mp h, e⟩, fun ⟨k, h, e⟩ => ⟨k, List.mem_range.mpr h, e⟩⟩
theorem lawMostT {wy : Way} (h : wy.Ok) {l : Int} : wy.lawMost l = wy.mostT l := by
  have s0 := Way.signs_pos h
  obtain ⟨n1, _⟩ := words_pos h
  have mem : ∀ {m : Int}, m ∈ (wy.rows.flatMap fun r => r.map fun p => hitN r p l) ↔ ∃ (x : Nat) (p : Int), x < wy.words.toNat ∧ p ∈ wy.row x ∧ hitN (wy.row x) p l = m := by
    intro m
    rw [List.mem_flatMap]
    constructor
    · rintro ⟨r, hr, hm⟩
      obtain ⟨x, hx, rfl⟩ := mem_rows.mp hr
      obtain ⟨p, hp, e⟩ := List.mem_map.mp hm
      exact ⟨x, p, hx, (srtI_perm _).mem_iff.mp hp, by rw [← e, hitN_perm (srtI_perm _)]⟩
    · rintro ⟨x, p, hx, hp, e⟩
      exact ⟨_, mem_rows.mpr ⟨x, hx, rfl⟩, List.mem_map.mpr ⟨p, (srtI_perm _).mem_iff.mpr hp, by rw [hitN_perm (srtI_perm _), e]⟩⟩
  have m0 := mem.mpr ⟨0, wy.goes 0 (0 : Nat), by omega, mem_row.mpr ⟨0, by omega, rfl⟩, rfl⟩
  unfold Way.lawMost Way.mostT
  refine Int.le_antisymm (mostUpTo_le ?_ fun x hx p hp => le_maxI (mem.mpr ⟨x, p, hx, hp, rfl⟩)) ?_
  · exact Int.le_trans (hitN_le _ _ _).1 (le_maxI m0)
  · obtain ⟨x, p, hx, hp, e⟩ := mem.mp (maxI_mem (List.length_pos_of_mem m0))
    rw [← e]
    exact le_mostUpTo hx hp
def Way.most (l : Int) (wy : Way) : Int := if wy.isTold = true then wy.mostT l else wy.most0 l
theorem lawMost_eq {wy : Way} (h : wy.Ok) {l : Int} (l0 : 0 ≤ l) : wy.lawMost l = wy.most l := by
  unfold Way.most
  split
  · exact lawMostT h
  · rename_i e
    exact lawMost0 h (by simpa using e) l0

/-! ### bursts: all ways -/
abbrev rowsD (rs : List (List Int)) : List PyData := rs.map fun r => PyData.list (r.map PyData.int)
def pRows : PF := fun ds Q _ => ∃ wy : Way, ds = [wy.d] ∧ wy.Ok ∧ wy.signs ≤ 1000000 ∧ wy.words ≤ 1000000 ∧ Q (.d (.list (rowsD wy.rows)))
abbrev anyWay (_ : Way) : Prop := True
theorem rows_get {wy : Way} {n : Nat} {d : PyData} (h : (rowsD wy.rows)[n]? = some d) : ∃ r, wy.rows[n]? = some r ∧ d = .list (r.map PyData.int) ∧ r.length = wy.signs.toNat := by
  unfold rowsD at h
  rw [List.getElem?_map] at h
  cases e : wy.rows[n]? with
  | none =>
    rw [e] at h
    cases h
  | some r =>
    rw [e] at h
    cases h
    refine ⟨r, rfl, rfl, ?_⟩
    obtain ⟨x, _, rfl⟩ := mem_rows.mp (List.mem_of_getElem? e)
    rw [(srtI_perm _).length_eq, row_len]
theorem rows_len (wy : Way) : wy.rows.length = wy.words.toNat := by
  unfold Way.rows
  rw [List.length_map, List.length_range]
theorem flat_take {α β : Type} {f : α → List β} {l : List α} {n : Nat} {x : α} (h : l[n]? = some x) : (l.take (n + 1)).flatMap f = (l.take n).flatMap f ++ f x := by
  rw [take_more h, List.flatMap_append, List.flatMap_cons, List.flatMap_nil, List.append_nil]
theorem flat_len {α β : Type} {f : α → List β} {b : Nat} : ∀ {l : List α}, (∀ x ∈ l, (f x).length ≤ b) → (l.flatMap f).length ≤ l.length * b
  | [], _ => by simp
  | x :: l, h => by
    rw [List.flatMap_cons, List.length_append, List.length_cons, Nat.succ_mul]
    have h1 := h x List.mem_cons_self
    have h2 := flat_len (f := f) (b := b) (l := l) fun y hy => h y (List.mem_cons_of_mem _ hy)
    omega
section
variable {P : Program} {w : World} {K : PySem.W.Frag} {mg : Str → Option Value} {base : Heap}
theorem fn_rows_of (A : At K mg "rows_of" s_rows_of) (B : Blt mg) (G1 : Fn P w K mg base 1 "signs_of" pSigns) (G2 : Fn P w K mg base 1 "words_of" pWords) (G3 : Fn P w K mg base 2 "goes_by" pGoesBy) : Fn P w K mg base 3 "rows_of" pRows := by
  refine fn_def (vs := vs_rows_of) A sc_rows_of bd_rows_of ?_ (by decide +kernel) ?_
  · rintro ds Q E ⟨wy, rfl, _⟩
    rfl
  · rintro X W C - ds Q E ⟨wy, rfl, h, s9, n9, q⟩
    have s0 := Way.signs_pos h
    have n0 := (words_pos h).1
    walk_at "go"
    refine ⟨wy, rfl, ?_⟩
    walk_at "ev"
    refine ew_lc C (vb := vb_rows_of_0) (lb := lb_rows_of_0) (iw_range1 C B.range ?_)
    walk_at "ev"
    refine ⟨wy, rfl, h, ?_⟩
    walk_at "ev"
    refine ⟨by omega, by omega, by rw [rangeD_len]; omega, noOwn_of rfl, ?_⟩
    refine lc_map (xs := List.range wy.words.toNat) (enc := fun (x : Nat) => PyData.int (x : Int)) (f := fun (x : Nat) => PyData.list ((srtI (wy.row x)).map PyData.int)) (rangeD_zero _) (fun x hx X C => ?_) ?_
    · walk_at "ev"
      refine ew_lc C (vb := vb_rows_of_1) (lb := lb_rows_of_1) (iw_range1 C B.range ?_)
      walk_at "ev"
      refine ⟨by omega, by omega, by rw [rangeD_len]; omega, noOwn_of rfl, ?_⟩
      refine lc_map (xs := List.range wy.signs.toNat) (enc := fun (k : Nat) => PyData.int (k : Int)) (f := fun (k : Nat) => PyData.int (wy.goes x k)) (rangeD_zero _) (fun k hk X C => ?_) ?_
      · have := List.mem_range.mp hk
        walk_at "ev"
        exact ⟨wy, _, _, rfl, h, by omega, by omega, by omega, _, rfl, rfl, rfl⟩
      · walk_at "ev"
        refine bc_sortedE (ns := wy.row x) (row_map wy x).symm ?_
        exact ⟨rfl, rfl⟩
    · have e : rowsD wy.rows = (List.range wy.words.toNat).map fun (x : Nat) => PyData.list ((srtI (wy.row x)).map PyData.int) := List.map_map ..
      rw [e] at q
      exact q
theorem fn_inside (A : At K mg "inside" s_inside) (B : Blt mg) : Fn P w K mg base 1 "inside" pLawHit := by
  refine fn_def (vs := vs_inside) A sc_inside bd_inside ?_ (by decide +kernel) ?_
  · rintro ds Q E ⟨ns, b, l, rfl, _⟩
    rfl
  · rintro X W C - ds Q E ⟨ns, b, l, rfl, hl, q⟩
    walk_at "go"
    refine ew_lc C (vb := vb_inside_0) (lb := lb_inside_0) (iw_seq ?_)
    walk_at "ev"
    refine ⟨_, .inl rfl, by rw [List.length_map]; exact hl, noOwn_of rfl, ?_⟩
    refine lc_fil (xs := ns) (enc := PyData.int) (f := PyData.int) (pr := fun p => decide (b ≤ p) && decide (p < b + l)) rfl (fun a _ X C => ?_) (fun a _ _ X C => ?_) ?_
    · walk_at "ev"
      refine ⟨fun z => ?_, fun z => ?_⟩
      · walk_at "ev"
        exact ⟨rfl, by rw [z]; rfl⟩
      · exact ⟨rfl, by rw [z]; rfl⟩
    · walk_at "ev"
      exact ⟨rfl, rfl⟩
    · walk_at "ev"
      rw [List.length_map]
      exact q
theorem fn_most_by (A : At K mg "most_by" s_most_by) (B : Blt mg) (G1 : Fn P w K mg base 1 "signs_of" pSigns) (G2 : Fn P w K mg base 1 "spacing" pSpacing) (G3 : Fn P w K mg base 1 "parts_of" pParts) (G4 : Fn P w K mg base 3 "rows_of" pRows) (G5 : Fn P w K mg base 1 "inside" pLawHit) : Fn P w K mg base 4 "most_by" (pMostBy anyWay Way.most) := by
  refine fn_def (vs := vs_most_by) A sc_most_by bd_most_by ?_ (by decide +kernel) ?_
  · rintro ds Q E ⟨wy, l, rfl, _⟩
    rfl
  · rintro X W C - ds Q E ⟨wy, l, rfl, h, -, l0, q⟩
    by_cases ht : wy.isTold = true
    · rw [show wy.most l = wy.mostT l from if_pos ht] at q
      cases wy with
      | told s ps =>
        obtain ⟨m1, m2, m3⟩ := told_size h
        have s0 := h.1
        have s1 := h.2.1
        walk_at "go"
        walk_at "run"
        refine ew_lc2 C (vb := vb_most_by_0) (lb := lb_most_by_0) (iw_seq ?_)
        walk_at "ev"
        refine ⟨.told s ps, rfl, h, by show s ≤ _; omega, by show (ps.length : Int) / s ≤ _; omega, _, rfl, _, .inl rfl, noOwn_of rfl, noOwn_of rfl, ?_⟩
        generalize hwy : Way.told s ps = wy at *
        have sg : wy.signs = s := by rw [← hwy]; rfl
        have wn : wy.rows.length ≤ 60 := by
          rw [rows_len, ← hwy]
          show ((ps.length : Int) / s).toNat ≤ 60
          omega
        have rl : ∀ r ∈ wy.rows, r.length ≤ 60 := fun r hr => by
          obtain ⟨x, _, rfl⟩ := mem_rows.mp hr
          rw [(srtI_perm _).length_eq, row_len, sg]
          omega
        refine ⟨fun n acc => acc = (wy.rows.take n).flatMap fun r => r.map fun p => PyData.int (hitN r p l), rfl, ?_, ?_⟩
        · rintro n d acc hd rfl X C
          obtain ⟨r, hr, rfl, hl⟩ := rows_get hd
          have hrl := rl r (List.mem_of_getElem? hr)
          have hn : n < 60 := by
            have := (List.getElem?_eq_some_iff.mp hr).1
            omega
          refine iw_seq ?_
          walk_at "ev"
          refine ⟨_, .inl rfl, rfl, fun m acc' => acc' = ((wy.rows.take n).flatMap fun r => r.map fun p => PyData.int (hitN r p l)) ++ (r.take m).map fun p => PyData.int (hitN r p l), by simp, ?_, ?_⟩
          · rintro m e acc' he rfl
            rw [List.getElem?_map] at he
            cases ep : r[m]? with
            | none =>
              rw [ep] at he
              cases he
            | some p =>
              rw [ep] at he
              cases he
              refine ⟨?_, fun X C => ?_⟩
              · have h1 := flat_len (f := fun r : List Int => r.map fun p => PyData.int (hitN r p l)) (b := 60) (l := wy.rows.take n) fun r hr => by
                  rw [List.length_map]
                  exact rl r (List.mem_of_mem_take hr)
                have h2 : (wy.rows.take n).length ≤ n := List.length_take_le _ _
                have h3 : ((r.take m).map fun p => PyData.int (hitN r p l)).length ≤ 60 := by
                  rw [List.length_map, List.length_take]
                  omega
                have h4 : (wy.rows.take n).length * 60 ≤ 60 * 60 := Nat.mul_le_mul_right _ (by omega)
                rw [List.length_append]
                omega
              · walk_at "ev"
                refine ⟨_, _, _, rfl, by omega, _, rfl, rfl, ?_⟩
                show _ ++ [_] = _ ++ List.map _ (List.take (m + 1) r)
                rw [take_more ep, List.map_append, List.append_assoc]
                rfl
          · rintro acc' rfl
            show _ = _
            rw [List.length_map, List.take_length, flat_take hr]
        · rintro acc rfl
          have ea : ((wy.rows.take (rowsD wy.rows).length).flatMap fun r => r.map fun p => PyData.int (hitN r p l)) = (wy.rows.flatMap fun r => r.map fun p => hitN r p l).map PyData.int := by
            rw [show (rowsD wy.rows).length = wy.rows.length from List.length_map .., List.take_length, List.map_flatMap]
            congr 1
            funext r
            rw [List.map_map]
            rfl
          rw [ea]
          walk_at "ev"
          refine bc_max C.calm ?_ ?_
          · have n0 : 0 < wy.rows.length := by
              rw [rows_len, ← hwy]
              show 0 < ((ps.length : Int) / s).toNat
              omega
            have e0 : wy.rows[0]? = some wy.rows[0] := List.getElem?_eq_getElem n0
            have l0 : 0 < (wy.rows[0]).length := by
              obtain ⟨x, _, e⟩ := mem_rows.mp (List.getElem_mem n0)
              rw [← e, (srtI_perm _).length_eq, row_len, sg]
              omega
            exact List.length_pos_of_mem (List.mem_flatMap.mpr ⟨_, List.getElem_mem n0, List.mem_map.mpr ⟨_, List.getElem_mem l0, rfl⟩⟩)
          · exact q
      | _ => cases ht
    · have ht : wy.isTold = false := by simpa using ht
      rw [show wy.most l = wy.most0 l from if_neg (by rw [ht]; decide)] at q
      obtain ⟨p0, p1⟩ := Way.space_pos h ht
      have nt : ∃ s b c, wy.d = .tuple [.str s, b, c] ∧ s ≠ "told" := by
        cases wy with
        | table a s => exact ⟨_, _, _, rfl, by decide⟩
        | delays a s => exact ⟨_, _, _, rfl, by decide⟩
        | told s ps => cases ht
      obtain ⟨s, b, c, ed, hs⟩ := nt
      refine sw_same ?_ ?_
      · rw [ed]
        walk_at "ev"
        refine brF (decide_eq_false hs) ?_
        exact sw_nil rfl
      walk_at "go"
      refine ⟨wy, rfl, ?_⟩
      walk_at "ev"
      refine ⟨wy, rfl, h, ht, ?_⟩
      walk_at "ev"
      refine ⟨_, _, rfl, by omega, by omega, ?_⟩
      walk_at "ev"
      refine bc_min2 C.calm ?_
      exact q
end

def pGoes (K : PySem.W.Frag) : PF := fun ds Q E => ∃ (wy : Way) (a b : PyData), ds = [wy.d, a, b] ∧ wy.Ok ∧ (isFromD a 0 (10 ^ 15) = false → E ⟨cA K "BadWord", none⟩) ∧
  ∀ wd, a = .int wd → 0 ≤ wd → wd ≤ 10 ^ 15 → (isFromD b 0 (wy.signs - 1) = false → E ⟨cA K "BadSign", none⟩) ∧ ∀ k, b = .int k → 0 ≤ k → k < wy.signs → Q (.d (.int (wy.goes wd k)))
def pComes (K : PySem.W.Frag) (ok : Way → Prop) : PF := fun ds Q E => ∃ (wy : Way) (a : PyData), ds = [wy.d, a] ∧ wy.Ok ∧ ok wy ∧ (isFromD a 0 (10 ^ 30) = false → E ⟨cA K "BadPlace", none⟩) ∧
  ∀ p, a = .int p → 0 ≤ p → p ≤ 10 ^ 30 → Q (.d (pairD (wy.comes p)))
def Way.lag0 : Way → Int
  | .table a s => (s - 1) * (a - 1)
  | .delays a s => (s - 1) * a * s
  | .told _ _ => 0
def pLag0 : PF := fun ds Q _ => ∃ wy : Way, ds = [wy.d] ∧ wy.Ok ∧ wy.isTold = false ∧ Q (.d (.int wy.lag0))
section
variable {P : Program} {w : World} {K : PySem.W.Frag} {mg : Str → Option Value} {base : Heap}
end

/-! ### comes_by, lag: all ways -/
theorem mem_perm {ps : List Int} (h1 : ∀ p ∈ ps, 0 ≤ p ∧ p < ps.length) (h2 : ps.Nodup) {r : Int} (r0 : 0 ≤ r) (r1 : r < ps.length) : r ∈ ps := by
  refine Decidable.byContradiction fun hn => ?_
  have hs : ∀ z, z ∈ (r :: ps) → z ∈ (List.range ps.length).map fun (i : Nat) => (i : Int) := fun z hz => by
    refine List.mem_map.mpr ⟨z.toNat, List.mem_range.mpr ?_, ?_⟩
    · rcases List.mem_cons.mp hz with e | hz
      · omega
      · have := h1 z hz
        omega
    · rcases List.mem_cons.mp hz with e | hz
      · omega
      · have := h1 z hz
        omega
  have := nd_le (List.nodup_cons.mpr ⟨hn, h2⟩) hs
  rw [List.length_map, List.length_range, List.length_cons] at this
  omega
theorem idx_at : ∀ {l : List Int} {i : Nat} {x : Int}, l.Nodup → l[i]? = some x → l.idxOf x = i
  | [], i, x, _, h => by simp at h
  | a :: r, 0, x, _, h => by
    simp at h
    rw [h, List.idxOf_cons_self]
  | a :: r, i + 1, x, nd, h => by
    have h : r[i]? = some x := by simpa using h
    have n2 := List.nodup_cons.mp nd
    have ne : a ≠ x := fun e => n2.1 (e ▸ List.mem_of_getElem? h)
    rw [List.idxOf_cons, cond_eq_ite, if_neg (by simpa using ne), idx_at n2.2 h]
theorem idx_get {ps : List Int} (h2 : ps.Nodup) {i : Nat} (hi : i < ps.length) : ps.idxOf (ps.getD i 0) = i := by
  rw [List.getD_eq_getElem?_getD, List.getElem?_eq_getElem hi]
  exact idx_at h2 (List.getElem?_eq_getElem hi)
theorem get_idx {ps : List Int} {r : Int} (h : r ∈ ps) : ps.idxOf r < ps.length ∧ ps.getD (ps.idxOf r) 0 = r := by
  have hl := List.idxOf_lt_length_of_mem h
  refine ⟨hl, ?_⟩
  rw [List.getD_eq_getElem?_getD, List.getElem?_eq_getElem hl]
  exact List.getElem_idxOf hl
theorem told_mul {s : Int} {ps : List Int} (h : (Way.told s ps).Ok) : (ps.length : Int) / s * s = ps.length := (told_size h).2.2
theorem comes_goesA {wy : Way} (h : wy.Ok) {wd k : Int} (w0 : 0 ≤ wd) (k0 : 0 ≤ k) (k1 : k < wy.signs) : wy.comes (wy.goes wd k) = some (wd, k) := by
  cases wy with
  | told s ps =>
    obtain ⟨m1, m2, m3⟩ := told_size h
    have k1 : k < s := k1
    have s0 := h.1
    obtain ⟨i0, i1⟩ := told_at h w0 k0 k1
    have nd := h.2.2.2.2.2.1
    have hl : (wd % ((ps.length : Int) / s) * s + k).toNat < ps.length := by omega
    have hm : ps.getD (wd % ((ps.length : Int) / s) * s + k).toNat 0 ∈ ps := by
      rw [List.getD_eq_getElem?_getD, List.getElem?_eq_getElem hl]
      exact List.getElem_mem hl
    have hr := h.2.2.2.2.1 _ hm
    obtain ⟨r0, r1⟩ := mod_range (a := wd) (b := (ps.length : Int) / s) (by omega)
    show some ((wd / ((ps.length : Int) / s) * ((ps.length : Int) / s) * s + ps.getD (wd % ((ps.length : Int) / s) * s + k).toNat 0) / ((ps.length : Int) / s * s) * ((ps.length : Int) / s) + (ps.idxOf ((wd / ((ps.length : Int) / s) * ((ps.length : Int) / s) * s + ps.getD (wd % ((ps.length : Int) / s) * s + k).toNat 0) % ((ps.length : Int) / s * s)) : Int) / s, (ps.idxOf ((wd / ((ps.length : Int) / s) * ((ps.length : Int) / s) * s + ps.getD (wd % ((ps.length : Int) / s) * s + k).toNat 0) % ((ps.length : Int) / s * s)) : Int) % s) = some (wd, k)
    obtain ⟨e1, e2⟩ := dm (a := wd / ((ps.length : Int) / s) * ((ps.length : Int) / s) * s + ps.getD (wd % ((ps.length : Int) / s) * s + k).toNat 0) (b := (ps.length : Int) / s * s) (q := wd / ((ps.length : Int) / s)) (r := ps.getD (wd % ((ps.length : Int) / s) * s + k).toNat 0) (by rw [Int.mul_assoc]) hr.1 (by rw [m3]; exact hr.2)
    rw [e1, e2, idx_get nd hl, Int.toNat_of_nonneg i0]
    obtain ⟨e3, e4⟩ := dm (a := wd % ((ps.length : Int) / s) * s + k) (b := s) (q := wd % ((ps.length : Int) / s)) (r := k) rfl k0 k1
    rw [e3, e4, dm_eq]
  | table a s => exact comes_goes h rfl w0 k0 k1
  | delays a s => exact comes_goes h rfl w0 k0 k1
theorem goes_comesA {wy : Way} (h : wy.Ok) {p wd k : Int} (p0 : 0 ≤ p) (e : wy.comes p = some (wd, k)) : 0 ≤ wd ∧ 0 ≤ k ∧ k < wy.signs ∧ wy.goes wd k = p := by
  cases wy with
  | told s ps =>
    obtain ⟨m1, m2, m3⟩ := told_size h
    have s0 := h.1
    have lp := h.2.2.1
    have nd := h.2.2.2.2.2.1
    have e : some (p / ((ps.length : Int) / s * s) * ((ps.length : Int) / s) + (ps.idxOf (p % ((ps.length : Int) / s * s)) : Int) / s, (ps.idxOf (p % ((ps.length : Int) / s * s)) : Int) % s) = some (wd, k) := e
    have e1 := congrArg Prod.fst (Option.some.inj e)
    have e2 := congrArg Prod.snd (Option.some.inj e)
    have e1 : p / ((ps.length : Int) / s * s) * ((ps.length : Int) / s) + (ps.idxOf (p % ((ps.length : Int) / s * s)) : Int) / s = wd := e1
    have e2 : (ps.idxOf (p % ((ps.length : Int) / s * s)) : Int) % s = k := e2
    rw [m3] at e1 e2
    obtain ⟨r0, r1⟩ := mod_range (a := p) (b := (ps.length : Int)) (by omega)
    obtain ⟨i1, i2⟩ := get_idx (mem_perm h.2.2.2.2.1 nd r0 r1)
    have q0 : 0 ≤ p / (ps.length : Int) := Int.ediv_nonneg p0 (by omega)
    obtain ⟨k0, k1⟩ := mod_range (a := (ps.idxOf (p % (ps.length : Int)) : Int)) (b := s) (by omega)
    have j0 : 0 ≤ (ps.idxOf (p % (ps.length : Int)) : Int) / s := Int.ediv_nonneg (by omega) (by omega)
    have j1 : (ps.idxOf (p % (ps.length : Int)) : Int) / s < (ps.length : Int) / s := Int.ediv_lt_of_lt_mul (by omega) (by rw [m3]; omega)
    have f1 := dm_eq (ps.idxOf (p % (ps.length : Int)) : Int) s
    have f2 := dm_eq p (ps.length : Int)
    have w0 : 0 ≤ p / (ps.length : Int) * ((ps.length : Int) / s) := Int.mul_nonneg q0 (by omega)
    obtain ⟨g1, g2⟩ := dm (a := wd) (b := (ps.length : Int) / s) (q := p / (ps.length : Int)) (r := (ps.idxOf (p % (ps.length : Int)) : Int) / s) e1.symm j0 j1
    refine ⟨by omega, by rw [← e2]; exact k0, by rw [← e2]; exact k1, ?_⟩
    show wd / ((ps.length : Int) / s) * ((ps.length : Int) / s) * s + ps.getD (wd % ((ps.length : Int) / s) * s + k).toNat 0 = p
    rw [g1, g2, Int.mul_assoc, m3, ← e2, f1, Int.toNat_natCast, i2]
    exact f2
  | table a s => exact goes_comes h rfl p0 e
  | delays a s => exact goes_comes h rfl p0 e
theorem goes_nonnegA {wy : Way} (h : wy.Ok) {wd k : Int} (w0 : 0 ≤ wd) (k0 : 0 ≤ k) (k1 : k < wy.signs) : 0 ≤ wy.goes wd k := by
  cases wy with
  | told s ps =>
    obtain ⟨m1, m2, m3⟩ := told_size h
    have k1 : k < s := k1
    have s0 := h.1
    obtain ⟨i0, i1⟩ := told_at h w0 k0 k1
    have hl : (wd % ((ps.length : Int) / s) * s + k).toNat < ps.length := by omega
    have hm : ps.getD (wd % ((ps.length : Int) / s) * s + k).toNat 0 ∈ ps := by
      rw [List.getD_eq_getElem?_getD, List.getElem?_eq_getElem hl]
      exact List.getElem_mem hl
    have hr := h.2.2.2.2.1 _ hm
    have b2 : 0 ≤ wd / ((ps.length : Int) / s) * ((ps.length : Int) / s) * s := Int.mul_nonneg (Int.mul_nonneg (Int.ediv_nonneg w0 (by omega)) (by omega)) (by omega)
    show 0 ≤ wd / ((ps.length : Int) / s) * ((ps.length : Int) / s) * s + ps.getD (wd % ((ps.length : Int) / s) * s + k).toNat 0
    omega
  | table a s => exact goes_nonneg h rfl w0 k0
  | delays a s => exact goes_nonneg h rfl w0 k0
def Way.lag : Way → Int
  | .told _ ps => maxI (ps.zipIdx.map fun q => q.1 - (q.2 : Nat))
  | wy => wy.lag0
def pLag : PF := fun ds Q _ => ∃ wy : Way, ds = [wy.d] ∧ wy.Ok ∧ Q (.d (.int wy.lag))
section
variable {P : Program} {w : World} {K : PySem.W.Frag} {mg : Str → Option Value} {base : Heap}
theorem fn_comes_by (A : At K mg "comes_by" s_comes_by) (B : Blt mg) (G1 : Fn P w K mg base 1 "signs_of" pSigns) (G2 : Fn P w K mg base 1 "words_of" pWords) : Fn P w K mg base 2 "comes_by" (pComesBy fun _ => True) := by
  refine fn_def (vs := vs_comes_by) A sc_comes_by bd_comes_by ?_ (by decide +kernel) ?_
  · rintro ds Q E ⟨wy, p, rfl, _⟩
    rfl
  · rintro X W C - ds Q E ⟨wy, p, rfl, h, -, p0, q⟩
    cases wy with
    | delays a s =>
      have ho := h
      obtain ⟨a0, a1, s0, s1⟩ := ho
      walk_at "go"
      walk_at "run"
      refine bw_div (cdiv_of (show 0 < s by omega) (show s < _ by omega)) ?_
      walk_at "ev"
      refine bw_mod (show 0 < s by omega) ?_
      walk_at "ev"
      refine bw_mulS (show CMul _ (a) from mul64 (by omega) (by omega)) ?_
      walk_at "ev"
      by_cases z : p % s * a ≤ p / s
      · refine brT (decide_eq_true z) ?_
        walk_at "ev"
        refine bw_mulS (show CMul _ (a) from mul64 (by omega) (by omega)) ?_
        walk_at "ev"
        rw [show (Way.delays a s).comes p = some (p / s - p % s * a, p % s) from if_pos z] at q
        exact q
      · refine brF (decide_eq_false z) ?_
        walk_at "ev"
        rw [show (Way.delays a s).comes p = none from if_neg z] at q
        exact q
    | table a s =>
      have ho := h
      obtain ⟨a0, a1, s0, s1⟩ := ho
      have as : 0 < a * s := Int.mul_pos (by omega) (by omega)
      have as2 : a * s ≤ 10 ^ 15 * 10 ^ 15 := Int.mul_le_mul a1 s1 (by omega) (by omega)
      walk_at "go"
      walk_at "run"
      refine ⟨.table a s, rfl, h, ?_⟩
      walk_at "ev"
      refine ⟨.table a s, rfl, ?_⟩
      walk_at "ev"
      refine bw_mulS (show CMul _ (s) from mul64 (by omega) (by omega)) ?_
      walk_at "ev"
      refine bw_div (cdiv_of as (show a * s < _ by omega)) ?_
      walk_at "ev"
      refine bw_mulS (show CMul _ (a) from mul64 (by omega) (by omega)) ?_
      walk_at "ev"
      refine bw_mulS (show CMul _ (s) from mul64 (by omega) (by omega)) ?_
      walk_at "ev"
      refine bw_mod as ?_
      walk_at "run"
      refine bw_mod (show 0 < a by omega) ?_
      walk_at "ev"
      refine bw_div (cdiv_of (show 0 < a by omega) (show a < _ by omega)) ?_
      walk_at "ev"
      exact q
    | told s ps =>
      obtain ⟨m1, m2, m3⟩ := told_size h
      have s0 := h.1
      have s1 := h.2.1
      have lp := h.2.2.1
      have lq := h.2.2.2.1
      obtain ⟨r0, r1⟩ := mod_range (a := p) (b := (ps.length : Int) / s * s) (by omega)
      walk_at "go"
      walk_at "run"
      refine ⟨.told s ps, rfl, h, ?_⟩
      walk_at "ev"
      refine ⟨.told s ps, rfl, ?_⟩
      walk_at "ev"
      refine bw_mulS (show CMul _ (s) from mul64 (by omega) (by omega)) ?_
      walk_at "ev"
      refine bw_div (cdiv_of (show 0 < (ps.length : Int) / s * s by omega) (show (ps.length : Int) / s * s < _ by omega)) ?_
      walk_at "ev"
      refine bw_mulS (show CMul _ ((ps.length : Int) / s) from mul64 (by omega) (by omega)) ?_
      walk_at "ev"
      refine bw_mulS (show CMul _ (s) from mul64 (by omega) (by omega)) ?_
      walk_at "ev"
      refine bw_mod (show 0 < (ps.length : Int) / s * s by omega) ?_
      walk_at "run"
      refine ew_idxT ?_
      walk_at "ev"
      refine ⟨mem_perm h.2.2.2.2.1 h.2.2.2.2.2.1 r0 (by show p % ((ps.length : Int) / s * s) < _; omega), ?_⟩
      walk_at "ev"
      refine bw_div (cdiv_of (show 0 < s by omega) (show s < _ by omega)) ?_
      walk_at "ev"
      refine bw_mod (show 0 < s by omega) ?_
      walk_at "ev"
      exact q
end

/-! ### never_worse -/
def Way.len : Way → Int
  | .told _ ps => (ps.length : Int)
  | _ => 0
def Way.lens (o t : Way) : List Int := ([o, t].filter Way.isTold).map Way.len
def Way.never (o t : Way) : Bool := if t.signs < o.signs then false else if o.isTold = false ∧ t.isTold = false then decide (o.signs = 1) || decide (t.space ≤ o.space)
  else (List.range (maxI (o.lens t)).toNat).all fun (i : Nat) => decide (o.most (1 + (i : Int)) ≤ t.most (1 + (i : Int)))
theorem way_parts (wy : Way) : ∃ nm b c, wy.d = .tuple [.str nm, b, c] ∧ decide (nm = "told") = wy.isTold := by
  cases wy with
  | table a s => exact ⟨_, _, _, rfl, (by decide : decide (("table" : Str) = "told") = false)⟩
  | delays a s => exact ⟨_, _, _, rfl, (by decide : decide (("delays" : Str) = "told") = false)⟩
  | told s ps => exact ⟨_, _, _, rfl, (by decide : decide (("told" : Str) = "told") = true)⟩
theorem lens_le {o t : Way} (h : o.Ok) (h' : t.Ok) {n : Int} (hn : n ∈ o.lens t) : 1 ≤ n ∧ n ≤ 60 := by
  obtain ⟨wy, hw, rfl⟩ := List.mem_map.mp hn
  have hm := List.mem_filter.mp hw
  have ok : wy.Ok := by
    rcases List.mem_cons.mp hm.1 with e | e
    · rw [e]; exact h
    · rw [List.mem_singleton.mp e]; exact h'
  cases wy with
  | told s ps =>
    have := ok.2.2.1
    have := ok.2.2.2.1
    show 1 ≤ (ps.length : Int) ∧ (ps.length : Int) ≤ 60
    omega
  | _ => cases hm.2
theorem lens_pos {o t : Way} (h : ¬ (o.isTold = false ∧ t.isTold = false)) : 0 < (o.lens t).length := by
  unfold Way.lens
  rw [List.length_map]
  cases e1 : o.isTold with
  | true => exact List.length_pos_of_mem (List.mem_filter.mpr ⟨List.mem_cons_self, e1⟩)
  | false =>
    cases e2 : t.isTold with
    | true => exact List.length_pos_of_mem (List.mem_filter.mpr ⟨List.mem_cons_of_mem _ List.mem_cons_self, e2⟩)
    | false => exact absurd ⟨e1, e2⟩ h
def pNever : PF := fun ds Q _ => ∃ o t : Way, ds = [o.d, t.d] ∧ o.Ok ∧ t.Ok ∧ Q (.d (.bool (o.never t)))
section
variable {P : Program} {w : World} {K : PySem.W.Frag} {mg : Str → Option Value} {base : Heap}
theorem fn_never_worse (A : At K mg "never_worse" s_never_worse) (B : Blt mg) (G1 : Fn P w K mg base 5 "check_way" (pCheckWay K)) (G2 : Fn P w K mg base 1 "signs_of" pSigns) (G3 : Fn P w K mg base 1 "spacing" pSpacing) (G4 : Fn P w K mg base 4 "most_by" (pMostBy anyWay Way.most)) : Fn P w K mg base 6 "never_worse" pNever := by
  refine fn_def (vs := vs_never_worse) A sc_never_worse bd_never_worse ?_ (by decide +kernel) ?_
  · rintro ds Q E ⟨o, t, rfl, _⟩
    rfl
  · rintro X W C - ds Q E ⟨o, t, rfl, h, h', q⟩
    walk_at "go"
    refine ⟨_, rfl, fun _ => ?_, fun z => absurd (z.symm.trans (Way.isWay h)) (by decide)⟩
    walk_at "ev"
    refine ⟨_, rfl, fun _ => ?_, fun z => absurd (z.symm.trans (Way.isWay h')) (by decide)⟩
    walk_at "ev"
    refine ⟨o, rfl, ?_⟩
    walk_at "ev"
    refine ⟨t, rfl, ?_⟩
    walk_at "ev"
    refine ⟨fun z => ?_, fun z => ?_⟩
    · rw [show o.never t = false from if_pos (of_decide_eq_true z)] at q
      walk_at "ev"
      exact q
    have z := of_decide_eq_false z
    unfold Way.never at q
    rw [if_neg z] at q
    refine sw_nil ?_
    obtain ⟨n1, b1, c1, e1, k1⟩ := way_parts o
    obtain ⟨n2, b2, c2, e2, k2⟩ := way_parts t
    by_cases hb : o.isTold = false ∧ t.isTold = false
    · rw [if_pos hb] at q
      refine sw_cons ?_
      rw [e1, e2]
      walk_at "ev"
      rw [k1, hb.1]
      walk_at "run"
      rw [k2, hb.2]
      walk_at "run"
      refine ⟨o, by rw [e1], ?_⟩
      walk_at "ev"
      refine ⟨fun y => ?_, fun y => ?_⟩
      · walk_at "ev"
        refine ⟨o, by rw [e1], h, hb.1, ?_⟩
        walk_at "ev"
        refine ⟨t, by rw [e2], h', hb.2, ?_⟩
        walk_at "ev"
        rw [y] at q
        exact q
      · rw [y] at q
        exact q
    · rw [if_neg hb] at q
      refine sw_same ?_ ?_
      · rw [e1, e2]
        walk_at "ev"
        rw [k1]
        cases y1 : o.isTold with
        | true =>
          walk_at "run"
          rfl
        | false =>
          walk_at "run"
          rw [k2]
          cases y2 : t.isTold with
          | true =>
            walk_at "run"
            rfl
          | false => exact absurd ⟨y1, y2⟩ hb
      refine sw_via (fun ρ' => ∃ z3 : Option S, ρ' = [some (.d o.d), some (.d t.d), some (.d (.int (maxI (o.lens t)))), none, none]) ?_ ?_
      · walk_at "ev"
        refine ew_lc C (vb := vb_never_worse_0) (lb := lb_never_worse_0) (iw_seq ?_)
        walk_at "ev"
        refine ⟨_, .inr rfl, by show 2 ≤ 16777216; omega, noOwn_of rfl, ?_⟩
        refine lc_fil (xs := [o, t]) (enc := Way.d) (f := fun wy => .int wy.len) (pr := Way.isTold) rfl (fun a _ X C => ?_) (fun a _ ha X C => ?_) ?_
        · cases a with
          | table a s =>
            walk_at "ev"
            exact ⟨rfl, (by decide : decide (("table" : Str) = "told") = false)⟩
          | delays a s =>
            walk_at "ev"
            exact ⟨rfl, (by decide : decide (("delays" : Str) = "told") = false)⟩
          | told s ps =>
            walk_at "ev"
            exact ⟨rfl, (by decide : decide (("told" : Str) = "told") = true)⟩
        · cases a with
          | told s ps =>
            walk_at "ev"
            rw [List.length_map]
            exact ⟨rfl, rfl⟩
          | _ => cases ha
        walk_at "ev"
        refine bc_maxE C.calm (ns := o.lens t) (by unfold Way.lens; rw [List.map_map]; rfl) (lens_pos hb) ?_
        exact ⟨none, rfl⟩
      rintro ρ' ⟨z3, rfl⟩
      obtain ⟨x1, x2⟩ := lens_le h h' (maxI_mem (lens_pos hb))
      generalize maxI (o.lens t) = L at q x1 x2 ⊢
      walk_at "go"
      refine ew_lc C (vb := vb_never_worse_1) (lb := lb_never_worse_1) (iw_range2 C B.range ?_)
      walk_at "ev"
      refine ⟨⟨by omega, by omega, by omega, by omega⟩, by rw [rangeD_len]; omega, noOwn_of rfl, ?_⟩
      refine lc_map (xs := List.range (L + 1 - 1).toNat) (enc := fun (i : Nat) => PyData.int (1 + (i : Int))) (f := fun (i : Nat) => PyData.bool (decide (o.most (1 + (i : Int)) ≤ t.most (1 + (i : Int))))) rfl (fun i hi X C => ?_) ?_
      · walk_at "ev"
        refine ⟨o, _, rfl, h, trivial, by omega, ?_⟩
        walk_at "ev"
        refine ⟨t, _, rfl, h', trivial, by omega, ?_⟩
        walk_at "ev"
        exact ⟨rfl, rfl⟩
      · walk_at "ev"
        refine bc_all C.calm (bs := (List.range (L + 1 - 1).toNat).map fun (i : Nat) => decide (o.most (1 + (i : Int)) ≤ t.most (1 + (i : Int)))) (by rw [List.map_map]; rfl) ?_
        rw [List.all_map, show L + 1 - 1 = L by omega]
        exact q
end

/-! ### longer bursts hit more, long ones all -/
theorem hitN_mono {ns : List Int} {b l l' : Int} (h : l ≤ l') : hitN ns b l ≤ hitN ns b l' := by
  unfold hitN
  have : ((ns.filter fun p => decide (b ≤ p) && decide (p < b + l)).length) ≤ (ns.filter fun p => decide (b ≤ p) && decide (p < b + l')).length := by
    rw [← List.countP_eq_length_filter, ← List.countP_eq_length_filter]
    refine List.countP_mono_left fun x _ hx => ?_
    have h2 := Bool.and_eq_true_iff.mp hx
    have a := of_decide_eq_true h2.2
    rw [h2.1, decide_eq_true (by omega)]
    rfl
  omega
theorem lawMost_mono {wy : Way} {l l' : Int} (h : l ≤ l') : wy.lawMost l ≤ wy.lawMost l' := by
  unfold Way.lawMost
  refine mostUpTo_le ?_ fun x hx p hp => Int.le_trans (hitN_mono h) (le_mostUpTo hx hp)
  have : ∀ n, 0 ≤ wy.mostUpTo l' n := by
    intro n
    induction n with
    | zero => exact Int.le_refl _
    | succ n ih =>
      rw [mostUpTo_succ]
      exact Int.le_trans ih (le_maxI List.mem_cons_self)
  exact this _
theorem lawMost_signs {wy : Way} (h : wy.Ok) {l : Int} : wy.lawMost l ≤ wy.signs := by
  have s0 := Way.signs_pos h
  refine mostUpTo_le (by omega) fun x hx p hp => ?_
  have := (hitN_le (wy.row x) p l).2
  rw [row_len] at this
  omega
theorem most_mono {wy : Way} (h : wy.Ok) {l l' : Int} (l0 : 0 ≤ l) (hl : l ≤ l') : wy.most l ≤ wy.most l' := by
  rw [← lawMost_eq h l0, ← lawMost_eq h (by omega)]
  exact lawMost_mono hl
theorem most_signs {wy : Way} (h : wy.Ok) {l : Int} (l0 : 0 ≤ l) : wy.most l ≤ wy.signs := by
  rw [← lawMost_eq h l0]
  exact lawMost_signs h
/-- how far the signs of a word lie from one another, at most -/
def Way.span : Way → Int
  | .told _ ps => (ps.length : Int)
  | wy => (wy.signs - 1) * wy.space + 1
theorem told_in {s : Int} {ps : List Int} (h : (Way.told s ps).Ok) {x k : Int} (x0 : 0 ≤ x) (x1 : x < (Way.told s ps).words) (k0 : 0 ≤ k) (k1 : k < s) : 0 ≤ (Way.told s ps).goes x k ∧ (Way.told s ps).goes x k < ps.length ∧ (Way.told s ps).goes x k = ps.getD (x * s + k).toNat 0 := by
  obtain ⟨m1, m2, m3⟩ := told_size h
  have x1 : x < (ps.length : Int) / s := x1
  obtain ⟨i0, i1⟩ := told_at h x0 k0 k1
  have e1 : x / ((ps.length : Int) / s) = 0 := Int.ediv_eq_zero_of_lt x0 x1
  have e2 : x % ((ps.length : Int) / s) = x := Int.emod_eq_of_lt x0 x1
  rw [e2] at i0 i1
  have e : (Way.told s ps).goes x k = ps.getD (x * s + k).toNat 0 := by
    show x / ((ps.length : Int) / s) * ((ps.length : Int) / s) * s + ps.getD (x % ((ps.length : Int) / s) * s + k).toNat 0 = _
    rw [e1, e2]
    simp
  have hm : ps.getD (x * s + k).toNat 0 ∈ ps := by
    have hi : (x * s + k).toNat < ps.length := by omega
    rw [List.getD_eq_getElem?_getD, List.getElem?_eq_getElem hi]
    exact List.getElem_mem hi
  have := h.2.2.2.2.1 _ hm
  rw [e]
  exact ⟨this.1, this.2, rfl⟩
theorem hit_all {ns : List Int} {b l : Int} (h : ∀ p ∈ ns, b ≤ p ∧ p < b + l) : hitN ns b l = ns.length := by
  unfold hitN
  rw [List.filter_eq_self.mpr fun p hp => by
    have := h p hp
    rw [decide_eq_true this.1, decide_eq_true this.2]
    rfl]
theorem most_span {wy : Way} (h : wy.Ok) {l : Int} (hl : wy.span ≤ l) : wy.most l = wy.signs := by
  have s0 := Way.signs_pos h
  by_cases ht : wy.isTold = true
  · cases wy with
    | told s ps =>
      have hl : (ps.length : Int) ≤ l := hl
      have n1 := (words_pos h).1
      rw [← lawMost_eq h (by omega)]
      refine Int.le_antisymm (lawMost_signs h) ?_
      have hr : 0 < (srtI ((Way.told s ps).row 0)).length := by
        rw [(srtI_perm _).length_eq, row_len]
        omega
      -- from the least place on
      have hmn := minI_mem (l := (Way.told s ps).row 0) (by rw [row_len]; omega)
      have z := le_mostUpTo (wy := .told s ps) (l := l) (n := (Way.told s ps).words.toNat) (x := 0) (p := minI ((Way.told s ps).row 0)) (by omega) hmn
      have all : hitN ((Way.told s ps).row 0) (minI ((Way.told s ps).row 0)) l = ((Way.told s ps).row 0).length := by
        refine hit_all fun p hp => ⟨minI_le hp, ?_⟩
        obtain ⟨k, hk, rfl⟩ := mem_row.mp hp
        obtain ⟨k', hk', e'⟩ := mem_row.mp hmn
        have hk : k < s.toNat := hk
        have hk' : k' < s.toNat := hk'
        have a := told_in h (x := 0) (by omega) (by omega) (k := (k : Int)) (by omega) (by omega)
        have a' := told_in h (x := 0) (by omega) (by omega) (k := (k' : Int)) (by omega) (by omega)
        rw [← e']
        omega
      rw [row_len] at all
      unfold Way.lawMost
      rw [show (((0 : Nat) : Nat) : Int) = 0 from rfl] at z
      omega
    | _ => cases ht
  · have ht : wy.isTold = false := by simpa using ht
    rw [show wy.most l = wy.most0 l from if_neg (by rw [ht]; decide)]
    have e : wy.span = (wy.signs - 1) * wy.space + 1 := by
      cases wy with
      | told s ps => cases ht
      | _ => rfl
    obtain ⟨p0, p1⟩ := Way.space_pos h ht
    have q := (lt_parts (d := wy.signs - 1) (sp := wy.space) (l := l) p0).mp (by omega)
    unfold Way.most0
    omega
theorem most_none {wy : Way} (h : wy.Ok) : wy.most 0 = 0 := by
  rw [← lawMost_eq h (by omega)]
  refine Int.le_antisymm (mostUpTo_le (by omega) fun x _ p _ => ?_) ?_
  · unfold hitN
    rw [List.filter_eq_nil_iff.mpr fun a _ => by simp <;> omega]
    decide
  · have z := le_mostUpTo (wy := wy) (l := 0) (n := wy.words.toNat) (x := 0) (p := wy.goes 0 (0 : Nat)) (by have := (words_pos h).1; omega) (mem_row.mpr ⟨0, by have := Way.signs_pos h; omega, rfl⟩)
    exact Int.le_trans (hitN_le _ _ _).1 z
theorem most_one {wy : Way} (h : wy.Ok) {l : Int} (hl : 1 ≤ l) : 1 ≤ wy.most l := by
  rw [← lawMost_eq h (by omega)]
  have hm : wy.goes 0 (0 : Nat) ∈ wy.row 0 := mem_row.mpr ⟨0, by have := Way.signs_pos h; omega, rfl⟩
  have z := le_mostUpTo (wy := wy) (l := l) (n := wy.words.toNat) (x := 0) (p := wy.goes 0 (0 : Nat)) (by have := (words_pos h).1; omega) hm
  refine Int.le_trans ?_ z
  unfold hitN
  have : wy.goes 0 (0 : Nat) ∈ ((wy.row ((0 : Nat) : Int)).filter fun p => decide (wy.goes 0 (0 : Nat) ≤ p) && decide (p < wy.goes 0 (0 : Nat) + l)) := List.mem_filter.mpr ⟨hm, by simp <;> omega⟩
  have := List.length_pos_of_mem this
  omega

/-! ### never_worse, plain -/
theorem parts_anti {l a b : Int} (l0 : 0 ≤ l) (a0 : 1 ≤ a) (h : a ≤ b) : (l + b - 1) / b ≤ (l + a - 1) / a := by
  refine Int.not_lt.mp fun q => ?_
  have d0 : 0 ≤ (l + a - 1) / a := Int.ediv_nonneg (by omega) (by omega)
  have e1 := (lt_parts (d := (l + a - 1) / a) (sp := b) (l := l) (by omega)).mpr q
  have e2 := Int.mul_le_mul_of_nonneg_left h d0
  have e3 := (lt_parts (d := (l + a - 1) / a) (sp := a) (l := l) a0).mp (by omega)
  omega
theorem most_not {wy : Way} (ht : wy.isTold = false) (l : Int) : wy.most l = wy.most0 l := if_neg (by rw [ht]; decide)
theorem len_in {o t : Way} {wy : Way} (h : wy = o ∨ wy = t) (ht : wy.isTold = true) : wy.len ≤ maxI (o.lens t) := by
  refine le_maxI (List.mem_map.mpr ⟨wy, List.mem_filter.mpr ⟨?_, ht⟩, rfl⟩)
  rcases h with rfl | rfl
  · exact List.mem_cons_self
  · exact List.mem_cons_of_mem _ List.mem_cons_self
theorem span_told {wy : Way} (ht : wy.isTold = true) : wy.span = wy.len := by
  cases wy with
  | told s ps => rfl
  | _ => cases ht
theorem never_all {o t : Way} (h : o.Ok) (h' : t.Ok) (hn : o.never t = true) {l : Int} (l1 : 1 ≤ l) : o.most l ≤ t.most l := by
  unfold Way.never at hn
  by_cases c : t.signs < o.signs
  · rw [if_pos c] at hn
    cases hn
  rw [if_neg c] at hn
  by_cases hb : o.isTold = false ∧ t.isTold = false
  · rw [if_pos hb] at hn
    obtain ⟨p0, p1⟩ := Way.space_pos h hb.1
    obtain ⟨q0, q1⟩ := Way.space_pos h' hb.2
    by_cases s1 : o.signs = 1
    · have a := most_signs h (l := l) (by omega)
      have b := most_one h' l1
      omega
    · rw [decide_eq_false s1, Bool.false_or] at hn
      have hs := of_decide_eq_true hn
      have := parts_anti (l := l) (by omega) q0 hs
      rw [most_not hb.1, most_not hb.2]
      unfold Way.most0
      omega
  · rw [if_neg hb] at hn
    obtain ⟨x1, x2⟩ := lens_le h h' (maxI_mem (lens_pos hb))
    have all : ∀ l : Int, 1 ≤ l → l ≤ maxI (o.lens t) → o.most l ≤ t.most l := fun l a b => by
      have := List.all_eq_true.mp hn (l - 1).toNat (List.mem_range.mpr (by omega))
      have := of_decide_eq_true this
      rw [show (1 + (((l - 1).toNat : Nat) : Int)) = l by omega] at this
      exact this
    by_cases hl : l ≤ maxI (o.lens t)
    · exact all l l1 hl
    · have aL := all (maxI (o.lens t)) x1 (Int.le_refl _)
      cases to : o.isTold with
      | true =>
        have e := most_span h (l := maxI (o.lens t)) (by rw [span_told to]; exact len_in (.inl rfl) to)
        have a := most_signs h (l := l) (by omega)
        have b := most_mono h' (l := maxI (o.lens t)) (l' := l) (by omega) (by omega)
        omega
      | false =>
        have tt : t.isTold = true := by
          cases y : t.isTold with
          | true => rfl
          | false => exact absurd ⟨to, y⟩ hb
        have e := most_span h' (l := l) (by
          rw [span_told tt]
          exact Int.le_trans (len_in (o := o) (t := t) (.inr rfl) tt) (by omega))
        have a := most_signs h (l := l) (by omega)
        omega
/-- where it is worse, it is so at a length up to its span -/
theorem never_not {o t : Way} (h : o.Ok) (h' : t.Ok) {B : Int} (hB : o.span ≤ B) (hB1 : 1 ≤ B) (all : ∀ l : Int, 1 ≤ l → l ≤ B → o.most l ≤ t.most l) (hB60 : 60 ≤ B) : o.never t = true := by
  unfold Way.never
  have hs : ¬ t.signs < o.signs := fun c => by
    have e := most_span h hB
    have a := all B hB1 (Int.le_refl _)
    have b := most_signs h' (l := B) (by omega)
    omega
  rw [if_neg hs]
  by_cases hb : o.isTold = false ∧ t.isTold = false
  · rw [if_pos hb]
    obtain ⟨p0, p1⟩ := Way.space_pos h hb.1
    obtain ⟨q0, q1⟩ := Way.space_pos h' hb.2
    by_cases s1 : o.signs = 1
    · rw [decide_eq_true s1]
      rfl
    · rw [decide_eq_false s1, Bool.false_or]
      refine decide_eq_true (Int.not_lt.mp fun c => ?_)
      have s0 := Way.signs_pos h
      have sp : o.span = (o.signs - 1) * o.space + 1 := by
        cases o with
        | told s ps => cases hb.1
        | _ => rfl
      have m1 : 1 * o.space ≤ (o.signs - 1) * o.space := Int.mul_le_mul_of_nonneg_right (by omega) (by omega)
      have a := all (o.space + 1) (by omega) (by omega)
      rw [most_not hb.1, most_not hb.2] at a
      have e1 := (lt_parts (d := 1) (sp := o.space) (l := o.space + 1) p0).mp (by omega)
      have e2 := fun q => (lt_parts (d := 1) (sp := t.space) (l := o.space + 1) q0).mpr q
      have e3 : ¬ 1 < (o.space + 1 + t.space - 1) / t.space := fun q => by
        have := e2 q
        omega
      unfold Way.most0 at a
      omega
  · rw [if_neg hb]
    obtain ⟨x1, x2⟩ := lens_le h h' (maxI_mem (lens_pos hb))
    refine List.all_eq_true.mpr fun i hi => decide_eq_true (all _ (by omega) ?_)
    have := List.mem_range.mp hi
    omega
theorem small_span {wy : Way} {m sm B : Int} (h : wy.Ok) (hs : wy.Small m sm) (hm : m ≤ 6) (hB : 160 ≤ B) : wy.span ≤ B := by
  cases wy with
  | table a s =>
    obtain ⟨a0, a1, s0, s1⟩ := h
    obtain ⟨b1, b2⟩ := hs
    show (s - 1) * a + 1 ≤ B
    have : (s - 1) * a ≤ 5 * 6 := Int.mul_le_mul (by omega) (by omega) (by omega) (by omega)
    omega
  | delays a s =>
    obtain ⟨a0, a1, s0, s1⟩ := h
    obtain ⟨b1, b2⟩ := hs
    show (s - 1) * (a * s + 1) + 1 ≤ B
    have e1 : a * s ≤ 5 * 6 := Int.mul_le_mul (by omega) (by omega) (by omega) (by omega)
    have e0 : 0 ≤ a * s := Int.mul_nonneg a0 (by omega)
    have : (s - 1) * (a * s + 1) ≤ 5 * 31 := Int.mul_le_mul (by omega) (by omega) (by omega) (by omega)
    omega
  | told s ps =>
    have := h.2.2.2.1
    show (ps.length : Int) ≤ B
    omega
theorem small_signs {wy : Way} {m sm : Int} (h : wy.Ok) (hs : wy.Small m sm) : wy.signs ≤ 60 := by
  cases wy with
  | table a s =>
    have := hs.2
    show s ≤ 60
    omega
  | delays a s =>
    have := hs.2
    show s ≤ 60
    omega
  | told s ps => exact h.2.1
theorem never_yes {o t : Way} (h : o.signs ≤ t.signs) (ho : o.isTold = false) (ht : t.isTold = false) (hs : t.space ≤ o.space) : o.never t = true := by
  unfold Way.never
  rw [if_neg (by omega), if_pos ⟨ho, ht⟩, decide_eq_true hs, Bool.or_true]
theorem never_one {o t : Way} (h : o.signs ≤ t.signs) (ho : o.isTold = false) (ht : t.isTold = false) (hs : o.signs = 1) : o.never t = true := by
  unfold Way.never
  rw [if_neg (by omega), if_pos ⟨ho, ht⟩, decide_eq_true hs, Bool.true_or]
theorem never_no {o t : Way} (h : t.signs < o.signs) : o.never t = false := by
  unfold Way.never
  rw [if_pos h]
theorem never_wide {o t : Way} (h : o.signs ≤ t.signs) (ho : o.isTold = false) (ht : t.isTold = false) (h1 : o.signs ≠ 1) (hs : o.space < t.space) : o.never t = false := by
  unfold Way.never
  rw [if_neg (by omega), if_pos ⟨ho, ht⟩, decide_eq_false h1, decide_eq_false (by omega)]
  rfl

/-! ### best_ways -/
def beatB (ws : List Way) (own : Way) : Bool := ws.any fun o => o.never own && !own.never o
def wayAt (ws : List Way) (k : Nat) : Way := ws.getD k (.table 1 1)
def bestI (ws : List Way) : List Nat := (List.range ws.length).filter fun k => !beatB ws (wayAt ws k)
def pBeaten : PF := fun ds Q _ => ∃ (v : PyData) (ws : List Way) (k : Nat), ds = [v, .int (k : Int)] ∧ (v = .list (ws.map Way.d) ∨ v = .tuple (ws.map Way.d)) ∧ (∀ wy ∈ ws, wy.Ok) ∧ ws.length ≤ 1000 ∧ k < ws.length ∧ Q (.d (.bool (beatB ws (wayAt ws k))))
def pBest (K : PySem.W.Frag) : PF := fun ds Q E => ∃ (v : PyData) (l : List PyData), ds = [v] ∧ (v = .list l ∨ v = .tuple l) ∧ ((∃ ws : List Way, l = ws.map Way.d ∧ (∀ wy ∈ ws, wy.Ok) ∧ ws.length ≤ 1000 ∧ Q (.new (.lst ((bestI ws).map fun (k : Nat) => PyData.int (k : Int))))) ∨ ((∃ d ∈ l, isWayD d = false) ∧ E ⟨cA K "BadWay", none⟩))
theorem ways_at {ws : List Way} {k : Nat} (hk : k < ws.length) : atI (ws.map Way.d) (k : Int) = some (wayAt ws k).d := by
  unfold atI ixN wayAt
  rw [List.length_map, if_pos (by omega), if_pos (by omega)]
  simp [hk]
theorem wayAt_mem {ws : List Way} {k : Nat} (hk : k < ws.length) : wayAt ws k ∈ ws := by
  unfold wayAt
  rw [List.getD_eq_getElem?_getD, List.getElem?_eq_getElem hk]
  exact List.getElem_mem hk
section
variable {P : Program} {w : World} {K : PySem.W.Frag} {mg : Str → Option Value} {base : Heap}
theorem fn_is_beaten (A : At K mg "is_beaten" s_is_beaten) (B : Blt mg) (G1 : Fn P w K mg base 6 "never_worse" pNever) : Fn P w K mg base 7 "is_beaten" pBeaten := by
  refine fn_def (vs := vs_is_beaten) A sc_is_beaten bd_is_beaten ?_ (by decide +kernel) ?_
  · rintro ds Q E ⟨v, ws, k, rfl, _⟩
    rfl
  · rintro X W C - ds Q E ⟨v, ws, k, rfl, hv, hok, hl, hk, q⟩
    have ho := hok _ (wayAt_mem hk)
    refine sw_via (fun ρ' => ρ' = [some (.d v), some (.d (.int k)), some (.d (wayAt ws k).d), none]) ?_ ?_
    · rcases hv with rfl | rfl
      · walk_at "ev"
        refine bi_lst (ways_at hk) ?_
        rfl
      · walk_at "ev"
        refine bi_tup (ways_at hk) ?_
        rfl
    rintro ρ' rfl
    walk_at "go"
    refine ew_callB C (id := "any") PyProof.Rows.boot_any B.any ?_
    walk_at "ev"
    refine ew_lc C (vb := vb_is_beaten_0) (lb := lb_is_beaten_0) (iw_seq ?_)
    walk_at "ev"
    refine ⟨_, hv, by rw [List.length_map]; omega, noOwn_of rfl, ?_⟩
    refine lc_map (xs := ws) (enc := Way.d) (f := fun o => .bool (o.never (wayAt ws k) && !(wayAt ws k).never o)) rfl (fun o hw X C => ?_) ?_
    · walk_at "ev"
      refine ⟨o, _, rfl, hok o hw, ho, _, rfl, _, rfl, fun z => ?_, fun z => ?_⟩
      · walk_at "ev"
        refine ⟨_, o, rfl, ho, hok o hw, ?_⟩
        walk_at "ev"
        rw [z]
        exact ⟨rfl, rfl⟩
      · rw [z]
        exact ⟨rfl, rfl⟩
    · walk_at "ev"
      refine bc_any C.calm (bs := ws.map fun o => o.never (wayAt ws k) && !(wayAt ws k).never o) (by rw [List.map_map]; rfl) ?_
      rw [List.any_map]
      exact q
theorem fn_best_ways (A : At K mg "best_ways" s_best_ways) (B : Blt mg) (G1 : Fn P w K mg base 5 "check_way" (pCheckWay K)) (G2 : Fn P w K mg base 7 "is_beaten" pBeaten) : Fn P w K mg base 8 "best_ways" (pBest K) := by
  refine fn_def (vs := vs_best_ways) A sc_best_ways bd_best_ways ?_ (by decide +kernel) ?_
  · rintro ds Q E ⟨v, l, rfl, _⟩
    rfl
  · rintro X W C - ds Q E ⟨v, l, rfl, hv, h⟩
    refine sw_cons (s1_for C (iw_seq ?_))
    walk_at "ev"
    refine ⟨l, hv, fun n ρ => ∃ z1, (∀ d ∈ l.take n, isWayD d = true) ∧ ρ = [some (.d v), z1, none], ⟨_, fun d hd => (nomatch hd), rfl⟩, ?_, ?_⟩
    · rintro n d ρ hd ⟨z1, hw, rfl⟩
      refine gw_name C rfl ?_
      walk_at "go"
      refine ⟨d, rfl, fun z => ⟨_, rfl, sw_nil ⟨_, fun d' hd' => ?_, rfl⟩⟩, fun z => ?_⟩
      · rw [take_more hd] at hd'
        rcases List.mem_append.mp hd' with y | y
        · exact hw d' y
        · rw [List.mem_singleton.mp y]
          exact z
      · rcases h with ⟨ws, rfl, hok, _⟩ | ⟨_, e⟩
        · obtain ⟨wy, hwy, rfl⟩ := List.mem_map.mp (List.mem_of_getElem? hd)
          exact absurd (z.symm.trans (Way.isWay (hok wy hwy))) (by decide)
        · exact e
    · rintro ρ ⟨z1, hw, rfl⟩
      rw [List.take_length] at hw
      rcases h with ⟨ws, rfl, hok, hl, q⟩ | ⟨⟨d, hd, hn⟩, _⟩
      · have hlen : ∀ {Q' : PyData → Prop}, Q' (.int (ws.length : Nat)) → BC X (.builtin "len") [v] Q' := fun {Q'} hq => by
          rcases hv with rfl | rfl
          · refine bc_lenL ?_
            rw [List.length_map]
            exact hq
          · refine bc_lenT ?_
            rw [List.length_map]
            exact hq
        refine sw_cons (s1_retE (eo_en (en_lc C (vb := vb_best_ways_0) (lb := lb_best_ways_0) (iw_range1 C B.range (ew_callB C (id := "len") PySem.boot_len B.len ?_)))))
        walk_at "ev"
        refine hlen ?_
        refine ⟨_, rfl, by omega, by omega, by rw [rangeD_len]; omega, noOwn_of rfl, ?_⟩
        refine lc_fil (xs := List.range ((ws.length : Nat) : Int).toNat) (enc := fun (k : Nat) => PyData.int (k : Int)) (f := fun (k : Nat) => PyData.int (k : Int)) (pr := fun k => !beatB ws (wayAt ws k)) (rangeD_zero _) (fun k hk X C => ?_) (fun k _ _ X C => ?_) ?_
        · have hk := List.mem_range.mp hk
          walk_at "ev"
          refine ⟨v, ws, k, rfl, hv, hok, hl, by omega, ?_⟩
          walk_at "ev"
          exact ⟨rfl, rfl⟩
        · walk_at "ev"
          exact ⟨rfl, rfl⟩
        · rw [Int.toNat_natCast]
          exact q
      · exact absurd (hn.symm.trans (hw d hd)) (by decide)
theorem fn_law_pickO (A : At K mg "_law_pick" s_law_pick) (B : Blt mg) (G1 : FnO P w K mg base 1 "_law_below" (pD pBelow)) : FnPk P w K mg base 2 "_law_pick" := by
  refine fn_pk (vs := vs_law_pick) A sc_law_pick bd_law_pick (by decide +kernel) ?_
  intro X W C _ q1 q2 ds l1 l2
  walk_at "go"
  refine ⟨rfl, ds.length, rfl, by omega, by omega, fun r r0 r1 => ?_⟩
  have hr : r.toNat < ds.length := by omega
  have e : atI ds r = some ds[r.toNat] := by
    unfold atI ixN
    rw [if_pos r0, if_pos r1]
    exact List.getElem?_eq_getElem hr
  exact ⟨r, _, _, rfl, rfl, e, _, rfl, rfl, List.getElem_mem hr⟩
end

/-! ### hits -/
def Way.cnt (b : Int) (n : Nat) (x : Int) (wy : Way) : Nat := ((List.range n).filter fun (i : Nat) => decide ((wy.comes (b + (i : Int))).map (·.1) = some x)).length
theorem cnt_succ (wy : Way) (b : Int) (n : Nat) (x : Int) : wy.cnt b (n + 1) x = wy.cnt b n x + if (wy.comes (b + (n : Int))).map (·.1) = some x then 1 else 0 := by
  unfold Way.cnt
  rw [List.range_succ, List.filter_append, List.length_append]
  by_cases h : (wy.comes (b + (n : Int))).map (·.1) = some x
  · rw [if_pos h, List.filter_cons_of_pos (by simpa using h)]
    rfl
  · rw [if_neg h, List.filter_cons_of_neg (by simpa using h)]
    rfl
def kvC (wy : Way) (b : Int) (n : Nat) (ks : List Int) : List (Key × PyData) := ks.map fun x => (.inl x, .int (wy.cnt b n x : Nat))
structure InH (wy : Way) (b : Int) (n : Nat) (ks : List Int) : Prop where
  nd : ks.Nodup
  mem : ∀ x, x ∈ ks ↔ 0 < wy.cnt b n x
  len : ks.length ≤ n
theorem inH_0 (wy : Way) (b : Int) : InH wy b 0 [] := ⟨List.nodup_nil, fun x => ⟨fun z => (nomatch z), fun z => (Nat.lt_irrefl 0 z).elim⟩, Nat.le_refl _⟩
theorem kvC_any (wy : Way) (b : Int) (n : Nat) (x : Int) (ks : List Int) : ((kvC wy b n ks).any fun kv => decide (kv.1 = .inl x)) = decide (x ∈ ks) := by
  unfold kvC
  rw [List.any_map]
  induction ks with
  | nil => rfl
  | cons a r ih =>
    rw [List.any_cons, ih]
    by_cases e : a = x
    · subst e
      simp
    · have : x ≠ a := fun z => e z.symm
      simp [e, this]
theorem kvC_val (wy : Way) (b : Int) (n : Nat) (x : Int) (ks : List Int) : valD (kvC wy b n ks) (.inl x) = if x ∈ ks then some (.int (wy.cnt b n x : Nat)) else none := by
  unfold kvC
  induction ks with
  | nil => rfl
  | cons a r ih =>
    rw [List.map_cons, valD_cons, ih]
    by_cases e : a = x
    · subst e
      simp
    · have : x ≠ a := fun z => e z.symm
      simp [e, this]
theorem inH_none {wy : Way} {b : Int} {n : Nat} {ks : List Int} (h : InH wy b n ks) (e : wy.comes (b + (n : Int)) = none) : InH wy b (n + 1) ks ∧ kvC wy b (n + 1) ks = kvC wy b n ks := by
  have c : ∀ x, wy.cnt b (n + 1) x = wy.cnt b n x := fun x => by
    rw [cnt_succ, e, if_neg (by simp)]
    rfl
  refine ⟨⟨h.nd, fun x => by rw [c]; exact h.mem x, by have := h.len; omega⟩, ?_⟩
  unfold kvC
  exact List.map_congr_left fun x _ => by rw [c]
theorem inH_some {wy : Way} {b : Int} {n : Nat} {ks : List Int} {x k : Int} (h : InH wy b n ks) (e : wy.comes (b + (n : Int)) = some (x, k)) : ∃ ks', InH wy b (n + 1) ks' ∧ ∃ v : Int, v = (wy.cnt b n x : Nat) ∧ (valD (kvC wy b n ks) (.inl x)).getD (.int 0) = .int v ∧ kvC wy b (n + 1) ks' = putD (kvC wy b n ks) (.inl x) (.int (v + 1)) := by
  have c : ∀ y, wy.cnt b (n + 1) y = wy.cnt b n y + if x = y then 1 else 0 := fun y => by
    rw [cnt_succ, e]
    simp
  have cx : ((wy.cnt b (n + 1) x : Nat) : Int) = (wy.cnt b n x : Nat) + 1 := by
    rw [c, if_pos rfl]
    omega
  by_cases hm : x ∈ ks
  · refine ⟨ks, ⟨h.nd, fun y => ?_, by have := h.len; omega⟩, _, rfl, by rw [kvC_val, if_pos hm]; rfl, ?_⟩
    · rw [c, h.mem]
      by_cases e2 : x = y
      · subst e2
        have := (h.mem x).mp hm
        rw [if_pos rfl]
        omega
      · rw [if_neg e2]
        rfl
    · unfold putD
      rw [kvC_any, decide_eq_true hm, if_pos rfl]
      unfold kvC
      rw [List.map_map]
      refine List.map_congr_left fun y _ => ?_
      show (Sum.inl y, PyData.int _) = if (Sum.inl y : Key) = Sum.inl x then _ else _
      by_cases e2 : y = x
      · subst e2
        rw [if_pos rfl, cx]
      · rw [if_neg (fun z => e2 (Sum.inl.inj z)), c, if_neg (fun z => e2 z.symm)]
        rfl
  · have z0 : wy.cnt b n x = 0 := by
      have := h.mem x
      have : ¬ 0 < wy.cnt b n x := fun z => hm (this.mpr z)
      omega
    refine ⟨ks ++ [x], ⟨?_, fun y => ?_, by rw [List.length_append]; have := h.len; show _ + 1 ≤ _; omega⟩, _, rfl, by rw [kvC_val, if_neg hm, z0]; rfl, ?_⟩
    · rw [List.nodup_append]
      refine ⟨h.nd, by simp, fun a ha b hb e => hm ?_⟩
      rw [List.mem_singleton.mp hb] at e
      exact e ▸ ha
    · rw [c, List.mem_append, h.mem, List.mem_singleton]
      by_cases e2 : x = y
      · subst e2
        rw [if_pos rfl]
        exact ⟨fun _ => by omega, fun _ => .inr rfl⟩
      · rw [if_neg e2]
        exact ⟨fun z => z.elim (fun z => z) (fun z => absurd z.symm e2), fun z => .inl z⟩
    · unfold putD
      rw [kvC_any, decide_eq_false hm, if_neg (by decide)]
      unfold kvC
      rw [List.map_append]
      congr 1
      · refine List.map_congr_left fun y hy => ?_
        rw [c, if_neg (fun (z : x = y) => hm (by rw [z]; exact hy))]
        rfl
      · show [(Sum.inl x, PyData.int _)] = [(Sum.inl x, PyData.int _)]
        rw [cx]
/-- what hits tells: an ascending list of words and numbers -/
def pairsD (l : List (Int × Int)) : PyData := .list (l.map fun p => .tuple [.int p.1, .int p.2])
structure Way.Hits (b l : Int) (us : List (Int × Int)) (wy : Way) : Prop where
  up : (us.map (·.1)).Pairwise (· < ·)
  mem : ∀ x, x ∈ us.map (·.1) ↔ 0 < wy.cnt b l.toNat x
  at_ : ∀ p ∈ us, p.2 = (wy.cnt b l.toNat p.1 : Nat)
  len : us.length ≤ l.toNat
def pHits (K : PySem.W.Frag) : PF := fun ds Q E => ∃ (wy : Way) (a c : PyData), ds = [wy.d, a, c] ∧ wy.Ok ∧ (isFromD a 0 (10 ^ 30) = false → E ⟨cA K "BadPlace", none⟩) ∧
  ∀ b, a = .int b → 0 ≤ b → b ≤ 10 ^ 30 → (isFromD c 0 500 = false → E ⟨cA K "BadLength", none⟩) ∧ ∀ l, c = .int l → 0 ≤ l → l ≤ 500 → ∀ us, wy.Hits b l us → Q (.new (.lst (us.map fun p => PyData.tuple [.int p.1, .int p.2])))
theorem lt_of_srt {l : List Int} (h : l.Pairwise (· ≤ ·)) (nd : l.Nodup) : l.Pairwise (· < ·) := by
  induction l with
  | nil => exact .nil
  | cons a r ih =>
    have h1 := List.pairwise_cons.mp h
    have h2 := List.nodup_cons.mp nd
    refine List.pairwise_cons.mpr ⟨fun b hb => ?_, ih h1.2 h2.2⟩
    have := h1.1 b hb
    have : a ≠ b := fun e => h2.1 (e ▸ hb)
    omega
section
variable {P : Program} {w : World} {K : PySem.W.Frag} {mg : Str → Option Value} {base : Heap}
theorem fn_hits (A : At K mg "hits" s_hits) (B : Blt mg) (I1 : GI mg "MOST_PLACE" (10 ^ 30)) (I2 : GI mg "MOST_HIT" 500) (X1 : ExC K mg "BadPlace" (cA K "BadPlace")) (G1 : Fn P w K mg base 5 "check_way" (pCheckWay K)) (G2 : Fn P w K mg base 2 "is_from" pIsFrom) (G3 : Fn P w K mg base 3 "check_length" (pCheckLength K)) (G4 : Fn P w K mg base 2 "comes_by" (pComesBy fun _ => True)) : Fn P w K mg base 6 "hits" (pHits K) := by
  refine fn_def (vs := vs_hits) A sc_hits bd_hits ?_ (by decide +kernel) ?_
  · rintro ds Q E ⟨wy, a, c, rfl, _⟩
    rfl
  · rintro X W C - ds Q E ⟨wy, a, c, rfl, h, e1, q⟩
    refine sw_same ?_ ?_
    · walk_at "ev"
      refine ⟨_, rfl, fun _ => ?_, fun z => absurd (z.symm.trans (Way.isWay h)) (by decide)⟩
      walk_at "ev"
      rfl
    refine sw_via (fun ρ' => isFromD a 0 (10 ^ 30) = true ∧ ρ' = [some (.d wy.d), some (.d a), some (.d c), none, none, none, none]) ?_ ?_
    · walk_at "ev"
      refine ⟨_, _, _, rfl, _, rfl, _, rfl, fun z => ?_, fun z => ?_⟩
      · walk_at "ev"
        exact e1 (by simpa using z)
      exact sw_nil ⟨by simpa using z, rfl⟩
    rintro ρ' ⟨z, rfl⟩
    obtain ⟨b, rfl, b0, b1⟩ := from_at z
    obtain ⟨e2, q⟩ := q b rfl b0 b1
    refine sw_via (fun ρ' => isFromD c 0 500 = true ∧ ρ' = [some (.d wy.d), some (.d (.int b)), some (.d c), none, none, none, none]) ?_ ?_
    · walk_at "ev"
      exact ⟨_, _, rfl, fun z => ⟨_, rfl, z, rfl⟩, fun z => e2 z⟩
    rintro ρ' ⟨z, rfl⟩
    obtain ⟨l, rfl, l0, l1⟩ := from_at z
    have q := q l rfl l0 l1
    refine sw_cons (s1_ownO C rfl (eo_dict fun qf => ?_))
    refine sw_via (fun ρ' => ∃ ks z4 z5, InH wy b l.toNat ks ∧ ρ' = [some (.d wy.d), some (.d (.int b)), some (.d (.int l)), some (.own qf (.dic (kvC wy b l.toNat ks))), z4, z5, none]) (s1_for C (iw_rangeB C B.range ?_)) ?_
    · walk_at "ev"
      refine ⟨fun n ρ' => ∃ ks z4 z5, InH wy b n ks ∧ ρ' = [some (.d wy.d), some (.d (.int b)), some (.d (.int l)), some (.own qf (.dic (kvC wy b n ks))), z4, z5, none], ⟨_, _, _, inH_0 wy b, rfl⟩, ?_, fun ρ' z => ?_⟩
      · rintro n dn ρ hn ⟨ks, z4, z5, hi, rfl⟩
        obtain ⟨hn, rfl⟩ := rangeD_get hn
        refine gw_name C rfl ?_
        refine sw_via (fun ρ' => ρ' = [some (.d wy.d), some (.d (.int b)), some (.d (.int l)), some (.own qf (.dic (kvC wy b n ks))), some (.d (.int (b + n))), some (.d (pairD (wy.comes (b + n)))), none]) ?_ ?_
        · walk_at "ev"
          exact ⟨wy, _, rfl, h, trivial, by omega, _, rfl, rfl⟩
        rintro ρ' rfl
        cases ec : wy.comes (b + n) with
        | none =>
          obtain ⟨h1, h2⟩ := inH_none hi ec
          rw [← h2]
          walk_at "go"
          walk_at "run"
          exact ⟨_, _, _, h1, rfl⟩
        | some t =>
          obtain ⟨x, k⟩ := t
          obtain ⟨ks', h1, v, -, h2, h3⟩ := inH_some hi ec
          walk_at "go"
          walk_at "br"
          refine sw_cons (s1_putO C (by with_unfolding_all rfl) rfl ?_)
          walk_at "ev"
          refine ⟨.inl x, _, rfl, rfl, ?_⟩
          rw [h2]
          walk_at "ev"
          refine ⟨.inl x, _, rfl, rfl, ?_, ?_⟩
          · unfold kvC
            rw [List.length_map]
            have := hi.len
            omega
          rw [← h3]
          exact sw_nil (sw_nil ⟨_, _, _, h1, rfl⟩)
      · rw [rangeD_len, show (b + l - b).toNat = l.toNat by omega] at z
        exact z
    rintro ρ' ⟨ks, z4, z5, hi, rfl⟩
    refine sw_cons (s1_retE (eo_en (en_lc C (vb := vb_hits_0) (lb := lb_hits_0) (iw_seq ?_))))
    walk_at "ev"
    refine bc_sortedE (ns := ks) (by unfold kvC; rw [List.map_map]; rfl) ?_
    walk_at "ev"
    refine ⟨_, .inl rfl, ?_, noOwn_of rfl, ?_⟩
    · rw [List.length_map, (srtI_perm ks).length_eq]
      have := hi.len
      omega
    refine lc_map (xs := srtI ks) (enc := PyData.int) (f := fun x => PyData.tuple [.int x, .int (wy.cnt b l.toNat x : Nat)]) rfl (fun x hx X C => ?_) ?_
    · walk_at "ev"
      refine ⟨.inl x, _, _, rfl, rfl, by rw [kvC_val, if_pos ((srtI_perm ks).mem_iff.mp hx)], ?_⟩
      walk_at "ev"
      exact ⟨rfl, rfl⟩
    have sm : ((srtI ks).map fun x => (x, ((wy.cnt b l.toNat x : Nat) : Int))).map (·.1) = srtI ks := by
      rw [List.map_map]
      exact List.map_id _
    have := q ((srtI ks).map fun x => (x, ((wy.cnt b l.toNat x : Nat) : Int))) ⟨by rw [sm]; exact lt_of_srt (srtI_sorted ks) ((srtI_perm ks).nodup_iff.mpr hi.nd), fun x => by rw [sm, (srtI_perm ks).mem_iff]; exact hi.mem x, fun p hp => ?_, by rw [List.length_map, (srtI_perm ks).length_eq]; exact hi.len⟩
    · rw [List.map_map] at this
      exact this
    · obtain ⟨x, _, rfl⟩ := List.mem_map.mp hp
      rfl
end

/-! ### counting by a dict -/
def cntF {α : Type} (f : α → Option Int) (ps : List α) (x : Int) : Nat := (ps.filter fun p => decide (f p = some x)).length
theorem cntF_snoc {α : Type} (f : α → Option Int) (ps : List α) (p : α) (x : Int) : cntF f (ps ++ [p]) x = cntF f ps x + if f p = some x then 1 else 0 := by
  unfold cntF
  rw [List.filter_append, List.length_append]
  by_cases h : f p = some x
  · rw [if_pos h, List.filter_cons_of_pos (by simpa using h)]
    rfl
  · rw [if_neg h, List.filter_cons_of_neg (by simpa using h)]
    rfl
def kvF {α : Type} (f : α → Option Int) (ps : List α) (ks : List Int) : List (Key × PyData) := ks.map fun x => (.inl x, .int (cntF f ps x : Nat))
structure InF {α : Type} (f : α → Option Int) (ps : List α) (ks : List Int) : Prop where
  nd : ks.Nodup
  mem : ∀ x, x ∈ ks ↔ 0 < cntF f ps x
  len : ks.length ≤ ps.length
section
variable {α : Type} {f : α → Option Int}
theorem inF_0 : InF f [] [] := ⟨List.nodup_nil, fun x => ⟨fun z => (nomatch z), fun z => (Nat.lt_irrefl 0 z).elim⟩, Nat.le_refl _⟩
theorem kvF_any (ps : List α) (x : Int) (ks : List Int) : ((kvF f ps ks).any fun kv => decide (kv.1 = .inl x)) = decide (x ∈ ks) := by
  unfold kvF
  rw [List.any_map]
  induction ks with
  | nil => rfl
  | cons a r ih =>
    rw [List.any_cons, ih]
    by_cases e : a = x
    · subst e
      simp
    · have : x ≠ a := fun z => e z.symm
      simp [e, this]
theorem kvF_val (ps : List α) (x : Int) (ks : List Int) : valD (kvF f ps ks) (.inl x) = if x ∈ ks then some (.int (cntF f ps x : Nat)) else none := by
  unfold kvF
  induction ks with
  | nil => rfl
  | cons a r ih =>
    rw [List.map_cons, valD_cons, ih]
    by_cases e : a = x
    · subst e
      simp
    · have : x ≠ a := fun z => e z.symm
      simp [e, this]
theorem kvF_len (ps : List α) (ks : List Int) : (kvF f ps ks).length = ks.length := List.length_map ..
theorem kvF_get {ps : List α} {ks : List Int} (h : InF f ps ks) (x : Int) : (valD (kvF f ps ks) (.inl x)).getD (.int 0) = .int (cntF f ps x : Nat) := by
  rw [kvF_val]
  by_cases hm : x ∈ ks
  · rw [if_pos hm]
    rfl
  · rw [if_neg hm]
    have : ¬ 0 < cntF f ps x := fun z => hm ((h.mem x).mpr z)
    rw [show cntF f ps x = 0 by omega]
    rfl
theorem inF_none {ps : List α} {ks : List Int} {p : α} (h : InF f ps ks) (e : f p = none) : InF f (ps ++ [p]) ks ∧ kvF f (ps ++ [p]) ks = kvF f ps ks := by
  have c : ∀ x, cntF f (ps ++ [p]) x = cntF f ps x := fun x => by
    rw [cntF_snoc, e, if_neg (by simp)]
    rfl
  refine ⟨⟨h.nd, fun x => by rw [c]; exact h.mem x, by have := h.len; rw [List.length_append]; omega⟩, ?_⟩
  unfold kvF
  exact List.map_congr_left fun x _ => by rw [c]
theorem inF_some {ps : List α} {ks : List Int} {p : α} {x : Int} (h : InF f ps ks) (e : f p = some x) : ∃ ks', InF f (ps ++ [p]) ks' ∧ kvF f (ps ++ [p]) ks' = putD (kvF f ps ks) (.inl x) (.int ((cntF f ps x : Nat) + 1)) := by
  have c : ∀ y, cntF f (ps ++ [p]) y = cntF f ps y + if x = y then 1 else 0 := fun y => by
    rw [cntF_snoc, e]
    simp
  have cx : ((cntF f (ps ++ [p]) x : Nat) : Int) = (cntF f ps x : Nat) + 1 := by
    rw [c, if_pos rfl]
    omega
  have lp : (ps ++ [p]).length = ps.length + 1 := by rw [List.length_append]; rfl
  by_cases hm : x ∈ ks
  · refine ⟨ks, ⟨h.nd, fun y => ?_, by have := h.len; omega⟩, ?_⟩
    · rw [c, h.mem]
      by_cases e2 : x = y
      · subst e2
        have := (h.mem x).mp hm
        rw [if_pos rfl]
        omega
      · rw [if_neg e2]
        rfl
    · unfold putD
      rw [kvF_any, decide_eq_true hm, if_pos rfl]
      unfold kvF
      rw [List.map_map]
      refine List.map_congr_left fun y _ => ?_
      show (Sum.inl y, PyData.int _) = if (Sum.inl y : Key) = Sum.inl x then _ else _
      by_cases e2 : y = x
      · subst e2
        rw [if_pos rfl, cx]
      · rw [if_neg (fun z => e2 (Sum.inl.inj z)), c, if_neg (fun z => e2 z.symm)]
        rfl
  · have z0 : cntF f ps x = 0 := by
      have : ¬ 0 < cntF f ps x := fun z => hm ((h.mem x).mpr z)
      omega
    refine ⟨ks ++ [x], ⟨?_, fun y => ?_, by rw [List.length_append]; have := h.len; show _ + 1 ≤ _; omega⟩, ?_⟩
    · rw [List.nodup_append]
      refine ⟨h.nd, by simp, fun a ha b hb e => hm ?_⟩
      rw [List.mem_singleton.mp hb] at e
      exact e ▸ ha
    · rw [c, List.mem_append, h.mem, List.mem_singleton]
      by_cases e2 : x = y
      · subst e2
        rw [if_pos rfl]
        exact ⟨fun _ => by omega, fun _ => .inr rfl⟩
      · rw [if_neg e2]
        exact ⟨fun z => z.elim (fun z => z) (fun z => absurd z.symm e2), fun z => .inl z⟩
    · unfold putD
      rw [kvF_any, decide_eq_false hm, if_neg (by decide)]
      unfold kvF
      rw [List.map_append]
      congr 1
      · refine List.map_congr_left fun y hy => ?_
        rw [c, if_neg (fun (z : x = y) => hm (by rw [z]; exact hy))]
        rfl
      · show [(Sum.inl x, PyData.int _)] = [(Sum.inl x, PyData.int _)]
        rw [cx]
theorem cntF_le (ps : List α) (x : Int) : cntF f ps x ≤ ps.length := List.length_filter_le _ _
end

/-! ### places in a row, and the most (as the links have them; for the laws without links) -/
def rng (b : Int) (n : Nat) : List Int := (List.range n).map fun (i : Nat) => b + (i : Int)
theorem rng_mem {b p : Int} {n : Nat} : p ∈ rng b n ↔ b ≤ p ∧ p < b + n := by
  unfold rng
  rw [List.mem_map]
  constructor
  · rintro ⟨i, hi, rfl⟩
    have := List.mem_range.mp hi
    omega
  · rintro ⟨h1, h2⟩
    exact ⟨(p - b).toNat, List.mem_range.mpr (by omega), by omega⟩
theorem rng_up (b : Int) (n : Nat) : (rng b n).Pairwise (· < ·) := by
  unfold rng
  rw [List.pairwise_map]
  exact List.Pairwise.imp (fun {a c} (h : a < c) => by omega) List.pairwise_lt_range
theorem rng_len (b : Int) (n : Nat) : (rng b n).length = n := by
  unfold rng
  rw [List.length_map, List.length_range]
theorem rng_succ (b : Int) (n : Nat) : rng b (n + 1) = rng b n ++ [b + n] := by
  unfold rng
  rw [List.range_succ, List.map_append]
  rfl
theorem up_nodup {l : List Int} (h : l.Pairwise (· < ·)) : l.Nodup := List.Pairwise.imp (fun {a b} (h : a < b) => by omega) h
def wordOf (wy : Way) (p : Int) : Option Int := (wy.comes p).map (·.1)
def IsMaxL (f : Int → Nat) (v : Int) : Prop := (∀ x, (f x : Int) ≤ v) ∧ (v = 0 ∨ ∃ x, (f x : Int) = v)
theorem maxL_uniq {f : Int → Nat} {v u : Int} (h : IsMaxL f v) (h' : IsMaxL f u) : v = u := by
  have a : v ≤ u := by
    rcases h.2 with e | ⟨x, e⟩
    · have := h'.1 0
      omega
    · have := h'.1 x
      omega
  have b : u ≤ v := by
    rcases h'.2 with e | ⟨x, e⟩
    · have := h.1 0
      omega
    · have := h.1 x
      omega
  omega
theorem maxL_of {α : Type} {f : α → Option Int} {ps : List α} {ks : List Int} (h : InF f ps ks) : IsMaxL (cntF f ps) (maxI (0 :: ks.map fun x => ((cntF f ps x : Nat) : Int))) := by
  refine ⟨fun x => ?_, ?_⟩
  · by_cases hx : x ∈ ks
    · exact le_maxI (List.mem_cons_of_mem _ (List.mem_map.mpr ⟨x, hx, rfl⟩))
    · have h0 : ¬ 0 < cntF f ps x := fun z => hx ((h.mem x).mpr z)
      have : (0 : Int) ≤ maxI (0 :: ks.map fun x => ((cntF f ps x : Nat) : Int)) := le_maxI List.mem_cons_self
      omega
  · rcases List.mem_cons.mp (maxI_mem (l := 0 :: ks.map fun x => ((cntF f ps x : Nat) : Int)) (by simp)) with e | e
    · exact .inl e
    · obtain ⟨x, _, e⟩ := List.mem_map.mp e
      exact .inr ⟨x, e⟩

/-! ### bursts all along: plain -/
def ddp : List Int → List Int
  | [] => []
  | x :: r => if x ∈ r then ddp r else x :: ddp r
theorem ddp_mem {x : Int} : ∀ {l : List Int}, x ∈ ddp l ↔ x ∈ l
  | [] => Iff.rfl
  | y :: r => by
    unfold ddp
    by_cases c : y ∈ r
    · rw [if_pos c, ddp_mem, List.mem_cons]
      exact ⟨.inr, fun z => z.elim (fun e => e ▸ c) id⟩
    · rw [if_neg c, List.mem_cons, List.mem_cons, ddp_mem]
theorem ddp_nd : ∀ l : List Int, (ddp l).Nodup
  | [] => List.nodup_nil
  | y :: r => by
    unfold ddp
    by_cases c : y ∈ r
    · rw [if_pos c]
      exact ddp_nd r
    · rw [if_neg c, List.nodup_cons]
      exact ⟨fun z => c (ddp_mem.mp z), ddp_nd r⟩
theorem ddp_len : ∀ l : List Int, (ddp l).length ≤ l.length
  | [] => Nat.le_refl _
  | y :: r => by
    unfold ddp
    have := ddp_len r
    split
    · rw [List.length_cons]
      omega
    · rw [List.length_cons, List.length_cons]
      omega
theorem cnt_map {f : Int → Int} (ps : List Int) (x : Int) : cntF (fun p => some (f p)) ps x = (ps.map f).count x := by
  unfold cntF
  rw [List.count, List.countP_map, List.countP_eq_length_filter]
  congr 1
  refine List.filter_congr fun p _ => ?_
  show decide (some (f p) = some x) = (f p == x)
  by_cases c : f p = x
  · simp [c]
  · simp [c]
/-- how often each number stands, ascending -/
def tally (ns : List Int) : List I2 := srtP ((ddp ns).map fun x => (x, ((ns.count x : Nat) : Int)))
theorem tally_of {f : Int → Int} {ps ks : List Int} (h : InF (fun p => some (f p)) ps ks) : srtP (ks.map fun x => (x, ((cntF (fun p => some (f p)) ps x : Nat) : Int))) = tally (ps.map f) := by
  have e : (ks.map fun x => (x, ((cntF (fun p => some (f p)) ps x : Nat) : Int))) = ks.map fun x => (x, (((ps.map f).count x : Nat) : Int)) := List.map_congr_left fun x _ => by rw [cnt_map]
  rw [e]
  refine srtP_eq (List.Perm.map _ ?_)
  rw [List.perm_ext_iff_of_nodup h.nd (ddp_nd _)]
  intro x
  rw [h.mem, ddp_mem, cnt_map]
  exact List.count_pos_iff
def Way.period (wy : Way) : Int := wy.signs * wy.words
def Way.farB : Way → Int
  | .delays a s => s * a * s
  | _ => 0
theorem farB_pos {wy : Way} (h : wy.Ok) : 0 ≤ wy.farB := by
  cases wy with
  | delays a s =>
    obtain ⟨a0, a1, s0, s1⟩ := h
    exact Int.mul_nonneg (Int.mul_nonneg (by omega) a0) (by omega)
  | table a s => exact Int.le_refl _
  | told s ps => exact Int.le_refl _
/-- from there on something is sent on each place -/
theorem far_comes {wy : Way} (h : wy.Ok) {p : Int} (hp : wy.farB ≤ p) : ∃ x k, wy.comes p = some (x, k) := by
  cases wy with
  | table a s => exact ⟨_, _, rfl⟩
  | told s ps => exact ⟨_, _, rfl⟩
  | delays a s =>
    obtain ⟨a0, a1, s0, s1⟩ := h
    have hp : s * a * s ≤ p := hp
    obtain ⟨r0, r1⟩ := mod_range (a := p) (b := s) (by omega)
    have c : p % s * a ≤ p / s := by
      refine (Int.le_ediv_iff_mul_le (by omega)).mpr ?_
      have h1 : p % s * a ≤ s * a := Int.mul_le_mul_of_nonneg_right (by omega) a0
      have h2 : p % s * a * s ≤ s * a * s := Int.mul_le_mul_of_nonneg_right h1 (by omega)
      omega
    refine ⟨p / s - p % s * a, p % s, ?_⟩
    show (if p % s * a ≤ p / s then some (p / s - p % s * a, p % s) else none) = _
    rw [if_pos c]
def Way.wd (p : Int) (wy : Way) : Int := ((wy.comes p).map (·.1)).getD 0
theorem wordOf_wd {wy : Way} (h : wy.Ok) {p : Int} (hp : wy.farB ≤ p) : wordOf wy p = some (wy.wd p) := by
  obtain ⟨x, k, e⟩ := far_comes h hp
  unfold wordOf Way.wd
  rw [e]
  rfl
def Way.wds (n : Nat) (p : Int) (wy : Way) : List Int := (rng p n).map wy.wd
def Way.mostAt (n : Nat) (p : Int) (wy : Way) : Int := maxI (0 :: (wy.wds n p).map fun x => (((wy.wds n p).count x : Nat) : Int))
def Way.manyAt (n : Nat) (p : Int) (wy : Way) : Int := (ddp (wy.wds n p)).length
theorem cnt_wds {wy : Way} (h : wy.Ok) {p : Int} (hp : wy.farB ≤ p) (n : Nat) (x : Int) : cntF (wordOf wy) (rng p n) x = (wy.wds n p).count x := by
  unfold Way.wds
  rw [← cnt_map]
  unfold cntF
  congr 1
  refine List.filter_congr fun q hq => ?_
  have := rng_mem.mp hq
  rw [wordOf_wd h (by omega)]
theorem most_wds (ns : List Int) : IsMaxL (fun x => ns.count x) (maxI (0 :: ns.map fun x => ((ns.count x : Nat) : Int))) := by
  refine ⟨fun x => ?_, ?_⟩
  · by_cases hx : x ∈ ns
    · exact le_maxI (List.mem_cons_of_mem _ (List.mem_map.mpr ⟨x, hx, rfl⟩))
    · have h0 : ns.count x = 0 := List.count_eq_zero.mpr hx
      have : (0 : Int) ≤ maxI (0 :: ns.map fun x => ((ns.count x : Nat) : Int)) := le_maxI List.mem_cons_self
      dsimp only
      omega
  · rcases List.mem_cons.mp (maxI_mem (l := 0 :: ns.map fun x => ((ns.count x : Nat) : Int)) (by simp)) with e | e
    · exact .inl e
    · obtain ⟨x, _, e⟩ := List.mem_map.mp e
      exact .inr ⟨x, e⟩
theorem most_at {wy : Way} (h : wy.Ok) {p : Int} (hp : wy.farB ≤ p) {n : Nat} {v : Int} (hv : IsMaxL (cntF (wordOf wy) (rng p n)) v) : v = wy.mostAt n p := by
  refine maxL_uniq hv ?_
  have := most_wds (wy.wds n p)
  rw [show (fun x => (wy.wds n p).count x) = cntF (wordOf wy) (rng p n) from funext fun x => (cnt_wds h hp n x).symm] at this
  exact this
theorem many_at {wy : Way} (h : wy.Ok) {p : Int} (hp : wy.farB ≤ p) {n : Nat} {ks : List Int} (hi : InF (wordOf wy) (rng p n) ks) : (ks.length : Int) = wy.manyAt n p := by
  have me : ∀ x, x ∈ ks ↔ x ∈ ddp (wy.wds n p) := fun x => by
    rw [hi.mem, ddp_mem, cnt_wds h hp]
    exact List.count_pos_iff
  have a1 := nd_le hi.nd fun x hx => (me x).mp hx
  have a2 := nd_le (ddp_nd _) fun x hx => (me x).mpr hx
  unfold Way.manyAt
  omega
def Way.along (f : Int → Int) (wy : Way) : List I2 := tally ((rng wy.farB wy.period.toNat).map f)
def pPeriod : PF := fun ds Q _ => ∃ wy : Way, ds = [wy.d] ∧ wy.Ok ∧ Q (.d (.int wy.period))
def pFarBegin : PF := fun ds Q _ => ∃ wy : Way, ds = [wy.d] ∧ wy.Ok ∧ wy.signs ≤ 500 ∧ Q (.d (.int wy.farB))
def pCheckPeriod (K : PySem.W.Frag) : PF := fun ds Q E => ∃ a c, ds = [a, c] ∧ ((isWayD a = false ∧ E ⟨cA K "BadWay", none⟩) ∨ ∃ wy : Way, a = wy.d ∧ wy.Ok ∧ (500 < wy.period → E ⟨cA K "TooGreat", none⟩) ∧ (wy.period ≤ 500 → (isFromD c 0 200 = false → E ⟨cA K "BadLength", none⟩) ∧ (isFromD c 0 200 = true → Q (.d .none))))
def pAlong (K : PySem.W.Frag) (f : Nat → Int → Way → Int) : PF := fun ds Q E => ∃ a c, ds = [a, c] ∧ ((isWayD a = false ∧ E ⟨cA K "BadWay", none⟩) ∨ ∃ wy : Way, a = wy.d ∧ wy.Ok ∧ (500 < wy.period → E ⟨cA K "TooGreat", none⟩) ∧ (wy.period ≤ 500 → (isFromD c 0 200 = false → E ⟨cA K "BadLength", none⟩) ∧ ∀ l : Int, c = .int l → 0 ≤ l → l ≤ 200 → Q (.new (.lst ((wy.along fun p => f l.toNat p wy).map prD)))))
def pCounted : PF := fun ds Q _ => ∃ (wy : Way) (b l : Int), ds = [wy.d, .int b, .int l] ∧ wy.Ok ∧ wy.farB ≤ b ∧ 0 ≤ l ∧ l ≤ 200 ∧ ∀ ks, InF (wordOf wy) (rng b l.toNat) ks → Q (.new (.dic (kvF (wordOf wy) (rng b l.toNat) ks)))
theorem period_pos {wy : Way} (h : wy.Ok) : 1 ≤ wy.period := by
  have h1 := Way.signs_pos h
  have h2 := (words_pos h).1
  have := Int.mul_le_mul_of_nonneg_left (a := 1) (b := wy.words) (c := wy.signs) h2 (by omega)
  unfold Way.period
  omega
theorem signs_period {wy : Way} (h : wy.Ok) (hp : wy.period ≤ 500) : wy.signs ≤ 500 := by
  have h1 := Way.signs_pos h
  have h2 := (words_pos h).1
  have := Int.mul_le_mul_of_nonneg_left (a := 1) (b := wy.words) (c := wy.signs) h2 (by omega)
  unfold Way.period at hp
  omega
section
variable {P : Program} {w : World} {K : PySem.W.Frag} {mg : Str → Option Value} {base : Heap}
theorem fn_period_of (A : At K mg "period_of" s_period_of) (G1 : Fn P w K mg base 1 "signs_of" pSigns) (G2 : Fn P w K mg base 1 "words_of" pWords) : Fn P w K mg base 2 "period_of" pPeriod := by
  refine fn_def (vs := vs_period_of) A sc_period_of bd_period_of ?_ (by decide +kernel) ?_
  · rintro ds Q E ⟨wy, rfl, _⟩
    rfl
  · rintro X W C - ds Q E ⟨wy, rfl, h, q⟩
    have w1 := words_pos h
    walk_at "go"
    refine ⟨wy, rfl, ?_⟩
    walk_at "ev"
    refine ⟨wy, rfl, h, ?_⟩
    walk_at "ev"
    exact bw_mulS (mul64 (by omega) (by omega)) q
theorem fn_check_period (A : At K mg "check_period" s_check_period) (I1 : GI mg "MOST_PERIOD" 500) (I2 : GI mg "MOST_BURST" 200) (X1 : ExC K mg "TooGreat" (cA K "TooGreat")) (X2 : ExC K mg "BadLength" (cA K "BadLength")) (G1 : Fn P w K mg base 5 "check_way" (pCheckWay K)) (G2 : Fn P w K mg base 2 "period_of" pPeriod) (G3 : Fn P w K mg base 2 "is_from" pIsFrom) : Fn P w K mg base 6 "check_period" (pCheckPeriod K) := by
  refine fn_def (vs := vs_check_period) A sc_check_period bd_check_period ?_ (by decide +kernel) ?_
  · rintro ds Q E ⟨a, c, rfl, _⟩
    rfl
  · rintro X W C - ds Q E ⟨a, c, rfl, hh⟩
    refine sw_via (fun ρ' => isWayD a = true ∧ ρ' = [some (.d a), some (.d c)]) ?_ ?_
    · walk_at "ev"
      refine ⟨_, rfl, fun z => ⟨_, rfl, z, rfl⟩, fun z => ?_⟩
      rcases hh with ⟨_, e⟩ | ⟨wy, rfl, h, _⟩
      · exact e
      · exact absurd (z.symm.trans (Way.isWay h)) (by decide)
    rintro ρ' ⟨z, rfl⟩
    rcases hh with ⟨z', _⟩ | ⟨wy, rfl, h, e1, e2⟩
    · exact absurd (z'.symm.trans z) (by decide)
    walk_at "go"
    refine ⟨wy, rfl, h, ?_⟩
    walk_at "ev"
    refine ⟨fun z => ?_, fun z => ?_⟩
    · have z := of_decide_eq_true z
      walk_at "ev"
      exact e1 (by omega)
    have z := of_decide_eq_false z
    obtain ⟨e2, q⟩ := e2 (by omega)
    refine sw_nil ?_
    walk_at "go"
    refine ⟨_, _, _, rfl, _, rfl, _, rfl, fun z => ?_, fun z => ?_⟩
    · walk_at "ev"
      exact e2 (by simpa using z)
    exact sw_nil (sw_nil (q (by simpa using z)))
theorem fn_far_begin (A : At K mg "far_begin" s_far_begin) (G1 : Fn P w K mg base 1 "signs_of" pSigns) : Fn P w K mg base 2 "far_begin" pFarBegin := by
  refine fn_def (vs := vs_far_begin) A sc_far_begin bd_far_begin ?_ (by decide +kernel) ?_
  · rintro ds Q E ⟨wy, rfl, _⟩
    rfl
  · rintro X W C - ds Q E ⟨wy, rfl, h, hs, q⟩
    cases wy with
    | table a s =>
      walk_at "go"
      walk_at "run"
      exact q
    | told s ps =>
      walk_at "go"
      walk_at "run"
      exact q
    | delays a s =>
      obtain ⟨a0, a1, s0, s1⟩ := id h
      walk_at "go"
      walk_at "run"
      refine ⟨.delays a s, rfl, ?_⟩
      walk_at "ev"
      refine bw_mulS (mul64 (by omega) (by omega)) ?_
      walk_at "ev"
      refine ⟨.delays a s, rfl, ?_⟩
      walk_at "ev"
      exact bw_mulS (mul64 (by show 0 ≤ s; omega) (by show s ≤ _; omega)) q
theorem fn_counted (A : At K mg "counted" s_counted) (B : Blt mg) (G2 : Fn P w K mg base 2 "comes_by" (pComesBy fun _ => True)) : Fn P w K mg base 3 "counted" pCounted := by
  refine fn_def (vs := vs_counted) A sc_counted bd_counted ?_ (by decide +kernel) ?_
  · rintro ds Q E ⟨wy, b, l, rfl, _⟩
    rfl
  · rintro X W C - ds Q E ⟨wy, b, l, rfl, h, hb, l0, l1, q⟩
    have b0 := farB_pos h
    refine sw_cons (s1_ownO C rfl (eo_dict fun qf => ?_))
    refine sw_via (fun ρ' => ∃ ks z4 z5, InF (wordOf wy) (rng b l.toNat) ks ∧ ρ' = [some (.d wy.d), some (.d (.int b)), some (.d (.int l)), some (.own qf (.dic (kvF (wordOf wy) (rng b l.toNat) ks))), z4, z5]) (s1_for C (iw_rangeB C B.range ?_)) ?_
    · walk_at "ev"
      refine ⟨fun m ρ' => ∃ ks z4 z5, InF (wordOf wy) (rng b m) ks ∧ ρ' = [some (.d wy.d), some (.d (.int b)), some (.d (.int l)), some (.own qf (.dic (kvF (wordOf wy) (rng b m) ks))), z4, z5], ⟨[], none, none, inF_0, rfl⟩, ?_, fun ρ' z => ?_⟩
      · rintro m dm ρ hm ⟨ks, z4, z5, hi, rfl⟩
        obtain ⟨hm, rfl⟩ := rangeD_get hm
        have hm : m < 200 := by omega
        obtain ⟨x, k, ec⟩ := far_comes h (p := b + m) (by omega)
        obtain ⟨ks', h1, h3⟩ := inF_some hi (p := b + (m : Int)) (x := x) (show wordOf wy (b + m) = some x by unfold wordOf; rw [ec]; rfl)
        have hl := hi.len
        rw [rng_len] at hl
        refine gw_name C rfl ?_
        refine sw_via (fun ρ' => ρ' = [some (.d wy.d), some (.d (.int b)), some (.d (.int l)), some (.own qf (.dic (kvF (wordOf wy) (rng b m) ks))), some (.d (.int (b + m))), some (.d (.int x))]) ?_ ?_
        · walk_at "ev"
          refine ⟨wy, _, rfl, h, trivial, by omega, ?_⟩
          rw [ec]
          walk_at "ev"
          rfl
        rintro ρ' rfl
        refine sw_cons (s1_putO C (by with_unfolding_all rfl) rfl ?_)
        walk_at "ev"
        refine ⟨.inl x, _, rfl, rfl, ?_⟩
        rw [kvF_get hi]
        walk_at "ev"
        refine ⟨.inl x, _, rfl, rfl, by rw [kvF_len]; omega, ?_⟩
        rw [← h3, ← rng_succ] at *
        exact sw_nil ⟨ks', _, _, h1, rfl⟩
      · rw [rangeD_len, show b + l - b = l by omega] at z
        exact z
    rintro ρ' ⟨ks, z4, z5, hi, rfl⟩
    exact sw_cons (s1_retO C (by with_unfolding_all rfl) rfl (q ks hi))
theorem fn_burst_spread (A : At K mg "burst_spread" s_burst_spread) (B : Blt mg) (G1 : Fn P w K mg base 6 "check_period" (pCheckPeriod K)) (G2 : Fn P w K mg base 2 "period_of" pPeriod) (G3 : Fn P w K mg base 3 "counted" pCounted) (G4 : Fn P w K mg base 2 "far_begin" pFarBegin) : Fn P w K mg base 7 "burst_spread" (pAlong K Way.mostAt) := by
  refine fn_def (vs := vs_burst_spread) A sc_burst_spread bd_burst_spread ?_ (by decide +kernel) ?_
  · rintro ds Q E ⟨a, c, rfl, _⟩
    rfl
  · rintro X W C - ds Q E ⟨a, c, rfl, hh⟩
    rcases hh with ⟨z, e⟩ | ⟨wy, rfl, h, e1, e2⟩
    · walk_at "go"
      exact ⟨_, _, rfl, .inl ⟨z, e⟩⟩
    by_cases hp : wy.period ≤ 500
    · obtain ⟨e2, q⟩ := e2 hp
      cases hc : isFromD c 0 200 with
      | false =>
        walk_at "go"
        exact ⟨_, _, rfl, .inr ⟨wy, rfl, h, e1, fun _ => ⟨fun _ => e2 hc, fun z => absurd (hc.symm.trans z) (by decide)⟩⟩⟩
      | true =>
        obtain ⟨l, rfl, l0, l1⟩ := from_at hc
        have q := q l rfl l0 l1
        have p1 := period_pos h
        have s5 := signs_period h hp
        refine sw_via (fun ρ' => ρ' = [some (.d wy.d), some (.d (.int l)), none, none, none, none]) ?_ ?_
        · walk_at "ev"
          exact ⟨_, _, rfl, .inr ⟨wy, rfl, h, e1, fun _ => ⟨fun z => absurd (hc.symm.trans z) (by decide), fun _ => ⟨_, rfl, rfl⟩⟩⟩⟩
        rintro ρ' rfl
        refine sw_cons (s1_tupA2 C rfl rfl (ao_d ?_))
        walk_at "ev"
        refine ⟨wy, rfl, h, s5, _, rfl, ao_o (eo_dict fun qf => ao_nil ⟨_, _, rfl, ?_⟩)⟩
        refine sw_via (fun ρ' => ∃ ks z4 z5, InF (fun p => some (wy.mostAt l.toNat p)) (rng wy.farB wy.period.toNat) ks ∧ (∀ a o, z5 ≠ some (S.own a o)) ∧ ρ' = [some (.d wy.d), some (.d (.int l)), some (.d (.int wy.farB)), some (.own qf (.dic (kvF (fun p => some (wy.mostAt l.toNat p)) (rng wy.farB wy.period.toNat) ks))), z4, z5]) (s1_for C (iw_rangeB C B.range ?_)) ?_
        · walk_at "ev"
          refine ⟨wy, rfl, h, ?_⟩
          walk_at "ev"
          refine ⟨fun m ρ' => ∃ ks z4 z5, InF (fun p => some (wy.mostAt l.toNat p)) (rng wy.farB m) ks ∧ (∀ a o, z5 ≠ some (S.own a o)) ∧ ρ' = [some (.d wy.d), some (.d (.int l)), some (.d (.int wy.farB)), some (.own qf (.dic (kvF (fun p => some (wy.mostAt l.toNat p)) (rng wy.farB m) ks))), z4, z5], ⟨[], none, none, inF_0, (fun a o z => nomatch z), rfl⟩, ?_, fun ρ' z => ?_⟩
          · rintro m dm ρ hm ⟨ks, z4, z5, hi, h5, rfl⟩
            obtain ⟨hm, rfl⟩ := rangeD_get hm
            have hm : m < 500 := by omega
            obtain ⟨ks', h1, h3⟩ := inF_some hi (p := wy.farB + (m : Int)) rfl
            have hl := hi.len
            rw [rng_len] at hl
            refine gw_name C rfl ?_
            refine sw_via (fun ρ' => ρ' = [some (.d wy.d), some (.d (.int l)), some (.d (.int wy.farB)), some (.own qf (.dic (kvF (fun p => some (wy.mostAt l.toNat p)) (rng wy.farB m) ks))), some (.d (.int (wy.farB + m))), some (.d (.int (wy.mostAt l.toNat (wy.farB + m))))]) ?_ ?_
            · refine s1_set C rfl (ew_callB C (id := "max") PyProof.Rows.boot_max B.max (aw_cons (ew_lst (aw_cons (ew_int (aw_star (ew_valsD C B (ew_frzE (eo_call C G3 ?_)))))))))
              walk_at "ev"
              refine ⟨wy, _, l, rfl, h, by omega, l0, l1, fun ks2 hi2 => ⟨_, rfl, _, rfl, _, rfl, ?_⟩⟩
              have hl2 := hi2.len
              rw [rng_len] at hl2
              have ev : (kvF (wordOf wy) (rng (wy.farB + m) l.toNat) ks2).map (·.2) = (ks2.map fun x => ((cntF (wordOf wy) (rng (wy.farB + m) l.toNat) x : Nat) : Int)).map PyData.int := by
                unfold kvF
                rw [List.map_map, List.map_map]
                rfl
              rw [ev]
              walk_at "ev"
              refine ⟨by simp; omega, ?_⟩
              walk_at "ev"
              refine bc_maxE C.calm (ns := 0 :: ks2.map fun x => ((cntF (wordOf wy) (rng (wy.farB + m) l.toNat) x : Nat) : Int)) (by simp) (by simp) ?_
              rw [most_at h (p := wy.farB + m) (by omega) (maxL_of hi2)]
              rfl
            rintro ρ' rfl
            refine sw_cons (s1_putO C (by with_unfolding_all rfl) rfl ?_)
            walk_at "ev"
            refine ⟨.inl _, _, rfl, rfl, ?_⟩
            rw [kvF_get hi]
            walk_at "ev"
            refine ⟨.inl _, _, rfl, rfl, by rw [kvF_len]; omega, ?_⟩
            rw [← h3, ← rng_succ] at *
            exact sw_nil ⟨ks', some (.d (.int (wy.farB + m))), some (.d (.int (wy.mostAt l.toNat (wy.farB + m)))), h1, (fun a o z => nomatch z), rfl⟩
          · rw [rangeD_len, show wy.farB + wy.period - wy.farB = wy.period by omega] at z
            exact z
        rintro ρ' ⟨ks, z4, z5, hi, h5, rfl⟩
        have hl := hi.len
        rw [rng_len] at hl
        refine sw_frzD (i := 3) (q := qf) (by with_unfolding_all rfl) ?_
        refine sw_cons (s1_retE (eo_en (en_callB C (id := "sorted") PyProof.Rows.boot_sorted B.sorted (aw_cons (ew_lc C (vb := vb_burst_spread_0) (lb := lb_burst_spread_0) (iw_dk ?_))))))
        walk_at "ev"
        refine ⟨by rw [List.length_map, kvF_len]; omega, (fun a o e => h5 a o (Option.some.inj e)), ?_⟩
        refine lc_map (xs := ks) (enc := PyData.int) (f := fun x => prD (x, ((cntF (fun p => some (wy.mostAt l.toNat p)) (rng wy.farB wy.period.toNat) x : Nat) : Int))) (by unfold kvF; rw [List.map_map]; rfl) (fun x hx X C => ?_) ?_
        · refine ew_tup (aw_cons ?_)
          walk_at "ev1"
          refine aw_cons (ew_dgetD C ?_)
          walk_at "ev"
          refine ⟨_, .inl x, _, rfl, rfl, by rw [kvF_val, if_pos hx], ?_⟩
          walk_at "ev"
          exact ⟨rfl, rfl⟩
        walk_at "ev"
        refine bn_sortPE (us := ks.map fun x => (x, ((cntF (fun p => some (wy.mostAt l.toNat p)) (rng wy.farB wy.period.toNat) x : Nat) : Int))) (by rw [List.map_map]; rfl) ?_
        rw [tally_of hi]
        exact q
    · walk_at "go"
      exact ⟨_, _, rfl, .inr ⟨wy, rfl, h, e1, fun z => absurd z hp⟩⟩
theorem fn_words_hit (A : At K mg "words_hit" s_words_hit) (B : Blt mg) (G1 : Fn P w K mg base 6 "check_period" (pCheckPeriod K)) (G2 : Fn P w K mg base 2 "period_of" pPeriod) (G3 : Fn P w K mg base 3 "counted" pCounted) (G4 : Fn P w K mg base 2 "far_begin" pFarBegin) : Fn P w K mg base 7 "words_hit" (pAlong K Way.manyAt) := by
  refine fn_def (vs := vs_words_hit) A sc_words_hit bd_words_hit ?_ (by decide +kernel) ?_
  · rintro ds Q E ⟨a, c, rfl, _⟩
    rfl
  · rintro X W C - ds Q E ⟨a, c, rfl, hh⟩
    rcases hh with ⟨z, e⟩ | ⟨wy, rfl, h, e1, e2⟩
    · walk_at "go"
      exact ⟨_, _, rfl, .inl ⟨z, e⟩⟩
    by_cases hp : wy.period ≤ 500
    · obtain ⟨e2, q⟩ := e2 hp
      cases hc : isFromD c 0 200 with
      | false =>
        walk_at "go"
        exact ⟨_, _, rfl, .inr ⟨wy, rfl, h, e1, fun _ => ⟨fun _ => e2 hc, fun z => absurd (hc.symm.trans z) (by decide)⟩⟩⟩
      | true =>
        obtain ⟨l, rfl, l0, l1⟩ := from_at hc
        have q := q l rfl l0 l1
        have p1 := period_pos h
        have s5 := signs_period h hp
        refine sw_via (fun ρ' => ρ' = [some (.d wy.d), some (.d (.int l)), none, none, none, none]) ?_ ?_
        · walk_at "ev"
          exact ⟨_, _, rfl, .inr ⟨wy, rfl, h, e1, fun _ => ⟨fun z => absurd (hc.symm.trans z) (by decide), fun _ => ⟨_, rfl, rfl⟩⟩⟩⟩
        rintro ρ' rfl
        refine sw_cons (s1_tupA2 C rfl rfl (ao_d ?_))
        walk_at "ev"
        refine ⟨wy, rfl, h, s5, _, rfl, ao_o (eo_dict fun qf => ao_nil ⟨_, _, rfl, ?_⟩)⟩
        refine sw_via (fun ρ' => ∃ ks z4 z5, InF (fun p => some (wy.manyAt l.toNat p)) (rng wy.farB wy.period.toNat) ks ∧ (∀ a o, z5 ≠ some (S.own a o)) ∧ ρ' = [some (.d wy.d), some (.d (.int l)), some (.d (.int wy.farB)), some (.own qf (.dic (kvF (fun p => some (wy.manyAt l.toNat p)) (rng wy.farB wy.period.toNat) ks))), z4, z5]) (s1_for C (iw_rangeB C B.range ?_)) ?_
        · walk_at "ev"
          refine ⟨wy, rfl, h, ?_⟩
          walk_at "ev"
          refine ⟨fun m ρ' => ∃ ks z4 z5, InF (fun p => some (wy.manyAt l.toNat p)) (rng wy.farB m) ks ∧ (∀ a o, z5 ≠ some (S.own a o)) ∧ ρ' = [some (.d wy.d), some (.d (.int l)), some (.d (.int wy.farB)), some (.own qf (.dic (kvF (fun p => some (wy.manyAt l.toNat p)) (rng wy.farB m) ks))), z4, z5], ⟨[], none, none, inF_0, (fun a o z => nomatch z), rfl⟩, ?_, fun ρ' z => ?_⟩
          · rintro m dm ρ hm ⟨ks, z4, z5, hi, h5, rfl⟩
            obtain ⟨hm, rfl⟩ := rangeD_get hm
            have hm : m < 500 := by omega
            obtain ⟨ks', h1, h3⟩ := inF_some hi (p := wy.farB + (m : Int)) rfl
            have hl := hi.len
            rw [rng_len] at hl
            refine gw_name C rfl ?_
            refine sw_via (fun ρ' => ρ' = [some (.d wy.d), some (.d (.int l)), some (.d (.int wy.farB)), some (.own qf (.dic (kvF (fun p => some (wy.manyAt l.toNat p)) (rng wy.farB m) ks))), some (.d (.int (wy.farB + m))), some (.d (.int (wy.manyAt l.toNat (wy.farB + m))))]) ?_ ?_
            · refine s1_set C rfl (ew_callB C (id := "len") PySem.boot_len B.len (aw_cons (ew_frzE (eo_call C G3 ?_))))
              walk_at "ev"
              refine ⟨wy, _, l, rfl, h, by omega, l0, l1, fun ks2 hi2 => ⟨_, rfl, _, rfl, ?_⟩⟩
              walk_at "ev"
              refine bc_lenDk ?_
              rw [kvF_len, many_at h (p := wy.farB + m) (by omega) hi2]
              rfl
            rintro ρ' rfl
            refine sw_cons (s1_putO C (by with_unfolding_all rfl) rfl ?_)
            walk_at "ev"
            refine ⟨.inl _, _, rfl, rfl, ?_⟩
            rw [kvF_get hi]
            walk_at "ev"
            refine ⟨.inl _, _, rfl, rfl, by rw [kvF_len]; omega, ?_⟩
            rw [← h3, ← rng_succ] at *
            exact sw_nil ⟨ks', some (.d (.int (wy.farB + m))), some (.d (.int (wy.manyAt l.toNat (wy.farB + m)))), h1, (fun a o z => nomatch z), rfl⟩
          · rw [rangeD_len, show wy.farB + wy.period - wy.farB = wy.period by omega] at z
            exact z
        rintro ρ' ⟨ks, z4, z5, hi, h5, rfl⟩
        have hl := hi.len
        rw [rng_len] at hl
        refine sw_frzD (i := 3) (q := qf) (by with_unfolding_all rfl) ?_
        refine sw_cons (s1_retE (eo_en (en_callB C (id := "sorted") PyProof.Rows.boot_sorted B.sorted (aw_cons (ew_lc C (vb := vb_words_hit_0) (lb := lb_words_hit_0) (iw_dk ?_))))))
        walk_at "ev"
        refine ⟨by rw [List.length_map, kvF_len]; omega, (fun a o e => h5 a o (Option.some.inj e)), ?_⟩
        refine lc_map (xs := ks) (enc := PyData.int) (f := fun x => prD (x, ((cntF (fun p => some (wy.manyAt l.toNat p)) (rng wy.farB wy.period.toNat) x : Nat) : Int))) (by unfold kvF; rw [List.map_map]; rfl) (fun x hx X C => ?_) ?_
        · refine ew_tup (aw_cons ?_)
          walk_at "ev1"
          refine aw_cons (ew_dgetD C ?_)
          walk_at "ev"
          refine ⟨_, .inl x, _, rfl, rfl, by rw [kvF_val, if_pos hx], ?_⟩
          walk_at "ev"
          exact ⟨rfl, rfl⟩
        walk_at "ev"
        refine bn_sortPE (us := ks.map fun x => (x, ((cntF (fun p => some (wy.manyAt l.toNat p)) (rng wy.farB wy.period.toNat) x : Nat) : Int))) (by rw [List.map_map]; rfl) ?_
        rw [tally_of hi]
        exact q
    · walk_at "go"
      exact ⟨_, _, rfl, .inr ⟨wy, rfl, h, e1, fun z => absurd z hp⟩⟩
end

/-! ### hits, by the words near -/
theorem fine_pairs {l : List (Int × Int)} (hl : l.length ≤ 16777216) : fine 3 (pairsD l) = true := by
  unfold pairsD fine
  rw [List.length_map, decide_eq_true hl, Bool.true_and, List.all_eq_true]
  intro x hx
  obtain ⟨p, _, rfl⟩ := List.mem_map.mp hx
  rfl
theorem asc_eq : ∀ {a b : List Int}, a.Pairwise (· < ·) → b.Pairwise (· < ·) → (∀ x, x ∈ a ↔ x ∈ b) → a = b
  | [], [], _, _, _ => rfl
  | [], y :: s, _, _, h => (nomatch (h y).mpr List.mem_cons_self)
  | x :: r, [], _, _, h => (nomatch (h x).mp List.mem_cons_self)
  | x :: r, y :: s, ha, hb, h => by
    have ha := List.pairwise_cons.mp ha
    have hb := List.pairwise_cons.mp hb
    have e : x = y := by
      have h1 := (h x).mp List.mem_cons_self
      have h2 := (h y).mpr List.mem_cons_self
      rcases List.mem_cons.mp h1 with e | h1
      · exact e
      rcases List.mem_cons.mp h2 with e | h2
      · exact e.symm
      have := hb.1 x h1
      have := ha.1 y h2
      omega
    subst e
    rw [asc_eq ha.2 hb.2 fun z => ?_]
    constructor
    · intro hz
      rcases List.mem_cons.mp ((h z).mp (List.mem_cons_of_mem _ hz)) with e | hz'
      · have := ha.1 z hz
        omega
      · exact hz'
    · intro hz
      rcases List.mem_cons.mp ((h z).mpr (List.mem_cons_of_mem _ hz)) with e | hz'
      · have := hb.1 z hz
        omega
      · exact hz'
theorem row_mem {wy : Way} {x p : Int} : p ∈ wy.row x ↔ ∃ k : Int, 0 ≤ k ∧ k < wy.signs ∧ wy.goes x k = p := by
  unfold Way.row
  rw [List.mem_map]
  constructor
  · rintro ⟨k, hk, e⟩
    have := List.mem_range.mp hk
    exact ⟨k, by omega, by omega, e⟩
  · rintro ⟨k, k0, k1, e⟩
    exact ⟨k.toNat, List.mem_range.mpr (by omega), by rw [show ((k.toNat : Nat) : Int) = k by omega]; exact e⟩
theorem row_nodup {wy : Way} (h : wy.Ok) {x : Int} (x0 : 0 ≤ x) : (wy.row x).Nodup := by
  unfold Way.row
  rw [List.Nodup, List.pairwise_map]
  refine List.Pairwise.imp_of_mem (R := fun a b => a ≠ b) ?_ List.nodup_range
  intro a b ha hb ne e
  have ha := List.mem_range.mp ha
  have hb := List.mem_range.mp hb
  have h1 := comes_goesA h (wd := x) (k := a) x0 (by omega) (by omega)
  have h2 := comes_goesA h (wd := x) (k := b) x0 (by omega) (by omega)
  rw [e, h2] at h1
  have := congrArg Prod.snd (Option.some.inj h1)
  have : (b : Int) = a := this
  omega
/-- the hits of a word, by its signs and by the places -/
theorem hit_cnt {wy : Way} (h : wy.Ok) {x b l : Int} (x0 : 0 ≤ x) (b0 : 0 ≤ b) (l0 : 0 ≤ l) : hitN (wy.row x) b l = (wy.cnt b l.toNat x : Nat) := by
  have inj : ∀ (ls : List Nat), ls.Nodup → (ls.map fun (i : Nat) => b + (i : Int)).Nodup := fun ls nd => by
    rw [List.Nodup, List.pairwise_map]
    exact List.Pairwise.imp (fun {a c} ne e => ne (by omega)) nd
  have both : ∀ p, p ∈ ((wy.row x).filter fun p => decide (b ≤ p) && decide (p < b + l)) ↔ p ∈ ((List.range l.toNat).filter fun (i : Nat) => decide ((wy.comes (b + (i : Int))).map (·.1) = some x)).map fun (i : Nat) => b + (i : Int) := fun p => by
    rw [List.mem_filter, row_mem, List.mem_map]
    constructor
    · rintro ⟨⟨k, k0, k1, e⟩, hp⟩
      simp at hp
      refine ⟨(p - b).toNat, List.mem_filter.mpr ⟨List.mem_range.mpr (by omega), ?_⟩, by omega⟩
      rw [show b + (((p - b).toNat : Nat) : Int) = p by omega, ← e, comes_goesA h x0 k0 k1]
      simp
    · rintro ⟨i, hi, e⟩
      obtain ⟨h1, h2⟩ := List.mem_filter.mp hi
      have h1 := List.mem_range.mp h1
      have h2 := of_decide_eq_true h2
      rw [e] at h2
      cases ec : wy.comes p with
      | none =>
        rw [ec] at h2
        cases h2
      | some t =>
        obtain ⟨y, k⟩ := t
        rw [ec] at h2
        have h2 : y = x := Option.some.inj h2
        obtain ⟨_, k0, k1, eg⟩ := goes_comesA h (by omega) ec
        rw [h2] at eg
        refine ⟨⟨k, k0, k1, eg⟩, ?_⟩
        simp
        omega
  have n1 : ((wy.row x).filter fun p => decide (b ≤ p) && decide (p < b + l)).Nodup := (row_nodup h x0).filter _
  have n2 := inj _ (List.nodup_range (n := l.toNat) |>.filter fun (i : Nat) => decide ((wy.comes (b + (i : Int))).map (·.1) = some x))
  have a1 := nd_le n1 fun z hz => (both z).mp hz
  have a2 := nd_le n2 fun z hz => (both z).mpr hz
  rw [List.length_map] at a1 a2
  unfold hitN Way.cnt
  omega
def dueX (wy : Way) (b l lo : Int) (n : Nat) : List Int := ((List.range n).map fun (i : Nat) => lo + (i : Int)).filter fun x => decide (0 < hitN (wy.row x) b l)
def dueL (wy : Way) (b l lo : Int) (n : Nat) : List (Int × Int) := (dueX wy b l lo n).map fun x => (x, hitN (wy.row x) b l)
def pr2 (p : Int × Int) : PyData := .tuple [.int p.1, .int p.2]
theorem dueL_succ (wy : Way) (b l lo : Int) (n : Nat) : dueL wy b l lo (n + 1) = dueL wy b l lo n ++ if 0 < hitN (wy.row (lo + n)) b l then [(lo + n, hitN (wy.row (lo + n)) b l)] else [] := by
  unfold dueL dueX
  rw [List.range_succ, List.map_append, List.filter_append, List.map_append]
  congr 1
  by_cases e : 0 < hitN (wy.row (lo + n)) b l
  · rw [if_pos e, List.map_cons, List.filter_cons_of_pos (by simpa using e)]
    rfl
  · rw [if_neg e, List.map_cons, List.filter_cons_of_neg (by simpa using e)]
    rfl
theorem dueL_len (wy : Way) (b l lo : Int) (n : Nat) : (dueL wy b l lo n).length ≤ n := by
  unfold dueL dueX
  rw [List.length_map]
  refine Nat.le_trans (List.length_filter_le _ _) ?_
  rw [List.length_map, List.length_range]
  exact Nat.le_refl _
theorem due_hits {wy : Way} (h : wy.Ok) {b l lo : Int} {n : Nat} (b0 : 0 ≤ b) (l0 : 0 ≤ l) (lo0 : 0 ≤ lo) (hb : ∀ x, 0 < wy.cnt b l.toNat x → lo ≤ x ∧ x < lo + n) {us : List (Int × Int)} (hu : wy.Hits b l us) : us = dueL wy b l lo n := by
  have e1 : us.map (·.1) = dueX wy b l lo n := by
    refine asc_eq hu.up ?_ fun x => ?_
    · unfold dueX
      refine List.Pairwise.filter _ ?_
      rw [List.pairwise_map]
      exact List.Pairwise.imp (fun {a c} (ne : a < c) => by omega) List.pairwise_lt_range
    · rw [hu.mem]
      unfold dueX
      rw [List.mem_filter, List.mem_map]
      constructor
      · intro hc
        have := hb x hc
        refine ⟨⟨(x - lo).toNat, List.mem_range.mpr (by omega), by omega⟩, ?_⟩
        rw [hit_cnt h (by omega) b0 l0]
        exact decide_eq_true (by omega)
      · rintro ⟨⟨i, hi, e⟩, hc⟩
        have hc := of_decide_eq_true hc
        rw [hit_cnt h (by omega) b0 l0] at hc
        omega
  have e2 : us = (us.map (·.1)).map fun x => (x, hitN (wy.row x) b l) := by
    rw [List.map_map]
    symm
    refine (List.map_congr_left fun p hp => ?_).trans (List.map_id us)
    have h1 := hu.at_ p hp
    have h2 := (hu.mem p.1).mp (List.mem_map.mpr ⟨p, hp, rfl⟩)
    have h3 := hb _ h2
    show (p.1, hitN (wy.row p.1) b l) = p
    rw [hit_cnt h (by omega) b0 l0, ← h1]
  rw [e2, e1]
  rfl
/-- a word stands near its places -/
theorem near {wy : Way} (h : wy.Ok) {m : Int} (m9 : m ≤ 9) (hs : wy.Small m 60) {x k : Int} (x0 : 0 ≤ x) (k0 : 0 ≤ k) (k1 : k < wy.signs) : x ≤ wy.goes x k / wy.signs + 60 ∧ wy.goes x k / wy.signs ≤ x + 60 := by
  cases wy with
  | table a s =>
    obtain ⟨a0, a1, s0, s1⟩ := h
    have k1 : k < s := k1
    have ha := hs.1
    obtain ⟨r0, r1⟩ := mod_range (a := x) (b := a) (by omega)
    have f := dm_eq x a
    have b1 : 0 ≤ k * a := Int.mul_nonneg k0 (by omega)
    have b2 : (k + 1) * a ≤ s * a := Int.mul_le_mul_of_nonneg_right (by omega) (by omega)
    rw [Int.add_mul, Int.one_mul] at b2
    have e1 : x / a * a ≤ (x / a * a * s + k * a + x % a) / s := (Int.le_ediv_iff_mul_le (by omega)).mpr (by omega)
    have e2 : (x / a * a * s + k * a + x % a) / s < x / a * a + a := Int.ediv_lt_of_lt_mul (by omega) (by rw [Int.add_mul, Int.mul_comm a s]; omega)
    show x ≤ (x / a * a * s + k * a + x % a) / s + 60 ∧ (x / a * a * s + k * a + x % a) / s ≤ x + 60
    omega
  | delays a s =>
    obtain ⟨a0, a1, s0, s1⟩ := h
    have k1 : k < s := k1
    have ha : a < m := hs.1
    have hs6 : s ≤ 6 := hs.2
    have b1 : 0 ≤ k * a := Int.mul_nonneg k0 a0
    have b2 : k * a ≤ 6 * 9 := Int.mul_le_mul (by omega) (by omega) a0 (by omega)
    obtain ⟨e1, _⟩ := dm (a := (x + k * a) * s + k) (b := s) (q := x + k * a) (r := k) rfl k0 k1
    show x ≤ ((x + k * a) * s + k) / s + 60 ∧ ((x + k * a) * s + k) / s ≤ x + 60
    rw [e1]
    omega
  | told s ps =>
    obtain ⟨m1, m2, m3⟩ := told_size h
    have s0 := h.1
    have k1 : k < s := k1
    obtain ⟨i0, i1⟩ := told_at h x0 k0 k1
    have hl : (x % ((ps.length : Int) / s) * s + k).toNat < ps.length := by omega
    have hm : ps.getD (x % ((ps.length : Int) / s) * s + k).toNat 0 ∈ ps := by
      rw [List.getD_eq_getElem?_getD, List.getElem?_eq_getElem hl]
      exact List.getElem_mem hl
    have hr := h.2.2.2.2.1 _ hm
    show x ≤ (x / ((ps.length : Int) / s) * ((ps.length : Int) / s) * s + ps.getD (x % ((ps.length : Int) / s) * s + k).toNat 0) / s + 60 ∧ (x / ((ps.length : Int) / s) * ((ps.length : Int) / s) * s + ps.getD (x % ((ps.length : Int) / s) * s + k).toNat 0) / s ≤ x + 60
    obtain ⟨r0, r1⟩ := mod_range (a := x) (b := (ps.length : Int) / s) (by omega)
    have f := dm_eq x ((ps.length : Int) / s)
    generalize ps.getD (x % ((ps.length : Int) / s) * s + k).toNat 0 = g at hr ⊢
    have e1 : x / ((ps.length : Int) / s) * ((ps.length : Int) / s) ≤ (x / ((ps.length : Int) / s) * ((ps.length : Int) / s) * s + g) / s := (Int.le_ediv_iff_mul_le (by omega)).mpr (by omega)
    have e2 : (x / ((ps.length : Int) / s) * ((ps.length : Int) / s) * s + g) / s < x / ((ps.length : Int) / s) * ((ps.length : Int) / s) + (ps.length : Int) / s := Int.ediv_lt_of_lt_mul (by omega) (by rw [Int.add_mul, m3]; omega)
    omega
theorem cnt_at {wy : Way} (h : wy.Ok) {x b : Int} {n : Nat} (b0 : 0 ≤ b) (hc : 0 < wy.cnt b n x) : ∃ p k, b ≤ p ∧ p < b + n ∧ 0 ≤ x ∧ 0 ≤ k ∧ k < wy.signs ∧ wy.goes x k = p := by
  unfold Way.cnt at hc
  obtain ⟨i, hi⟩ := List.exists_mem_of_length_pos hc
  obtain ⟨h1, h2⟩ := List.mem_filter.mp hi
  have h1 := List.mem_range.mp h1
  have h2 := of_decide_eq_true h2
  cases ec : wy.comes (b + i) with
  | none =>
    rw [ec] at h2
    cases h2
  | some t =>
    obtain ⟨y, k⟩ := t
    rw [ec] at h2
    have h2 : y = x := Option.some.inj h2
    subst h2
    obtain ⟨x0, k0, k1, eg⟩ := goes_comesA h (by omega) ec
    exact ⟨b + i, k, by omega, by omega, x0, k0, k1, eg⟩

/-! ### sendings -/
def Way.all (n : Nat) (wy : Way) : List Int := (List.range n).flatMap fun (x : Nat) => wy.row x
def Way.ends (n : Nat) (wy : Way) : Int := if n = 0 then 0 else maxI (wy.all n) + 1
theorem all_succ (wy : Way) (n : Nat) : wy.all (n + 1) = wy.all n ++ wy.row n := by
  unfold Way.all
  rw [List.range_succ, List.flatMap_append]
  simp
theorem all_len (wy : Way) (n : Nat) : (wy.all n).length = n * wy.signs.toNat := by
  induction n with
  | zero => simp [Way.all]
  | succ n ih => rw [all_succ, List.length_append, ih, row_len, Nat.succ_mul]
theorem all_mem {wy : Way} {n : Nat} {p : Int} : p ∈ wy.all n ↔ ∃ x k : Int, 0 ≤ x ∧ x < n ∧ 0 ≤ k ∧ k < wy.signs ∧ wy.goes x k = p := by
  unfold Way.all
  rw [List.mem_flatMap]
  constructor
  · rintro ⟨x, hx, hp⟩
    have := List.mem_range.mp hx
    unfold Way.row at hp
    obtain ⟨k, hk, e⟩ := List.mem_map.mp hp
    have := List.mem_range.mp hk
    exact ⟨x, k, by omega, by omega, by omega, by omega, e⟩
  · rintro ⟨x, k, x0, x1, k0, k1, e⟩
    refine ⟨x.toNat, List.mem_range.mpr (by omega), List.mem_map.mpr ⟨k.toNat, List.mem_range.mpr (by omega), ?_⟩⟩
    rw [show ((x.toNat : Nat) : Int) = x by omega, show ((k.toNat : Nat) : Int) = k by omega]
    exact e
def pEndsAt : PF := fun ds Q _ => ∃ (wy : Way) (n : Nat), ds = [wy.d, .int n] ∧ wy.Ok ∧ n ≤ 20 ∧ wy.signs ≤ 20 ∧ Q (.d (.int (wy.ends n)))
def pCheckSent (K : PySem.W.Frag) : PF := fun ds Q E => ∃ (wy : Way) (n : Nat), ds = [wy.d, .int n] ∧ wy.Ok ∧ n ≤ 20 ∧ ((20 < wy.signs ∨ 2000 < wy.ends n) → E ⟨cA K "TooGreat", none⟩) ∧ (wy.signs ≤ 20 → wy.ends n ≤ 2000 → Q (.d .none))
def tupD (w : List Int) : PyData := .tuple (w.map PyData.int)
def pCheckWords0 : PF := fun ds Q _ => ∃ (wy : Way) (v : PyData) (ws : List (List Int)), ds = [wy.d, v] ∧ wy.Ok ∧ (v = .list (ws.map tupD) ∨ v = .tuple (ws.map tupD)) ∧ ws.length ≤ 20 ∧ wy.signs ≤ 20 ∧ (∀ w ∈ ws, w.length = wy.signs.toNat) ∧ Q (.d .none)
section
variable {P : Program} {w : World} {K : PySem.W.Frag} {mg : Str → Option Value} {base : Heap}
theorem fn_ends_at (A : At K mg "ends_at" s_ends_at) (B : Blt mg) (G1 : Fn P w K mg base 1 "signs_of" pSigns) (G2 : Fn P w K mg base 2 "goes_by" pGoesBy) : Fn P w K mg base 3 "ends_at" pEndsAt := by
  refine fn_def (vs := vs_ends_at) A sc_ends_at bd_ends_at ?_ (by decide +kernel) ?_
  · rintro ds Q E ⟨wy, n, rfl, _⟩
    rfl
  · rintro X W C - ds Q E ⟨wy, n, rfl, h, n20, s20, q⟩
    have s0 := Way.signs_pos h
    by_cases z : n = 0
    · subst z
      walk_at "go"
      walk_at "run"
      exact q
    · refine sw_same ?_ ?_
      · walk_at "ev"
        refine brF (decide_eq_false (by omega)) ?_
        exact sw_nil rfl
      refine sw_cons (s1_own C rfl (en_lst ?_))
      walk_at "ev"
      intro qf
      refine sw_via (fun ρ' => ∃ z3, ρ' = [some (.d wy.d), some (.d (.int n)), some (.own qf (.lst ((wy.all n).map PyData.int))), z3, none]) (s1_for C (iw_range1 C B.range ?_)) ?_
      · walk_at "ev"
        refine ⟨by omega, by omega, fun m ρ' => ∃ z3, ρ' = [some (.d wy.d), some (.d (.int n)), some (.own qf (.lst ((wy.all m).map PyData.int))), z3, none], ⟨_, rfl⟩, ?_, fun ρ' z => ?_⟩
        · rintro m dm ρ hm ⟨z3, rfl⟩
          obtain ⟨hm, rfl⟩ := rangeD_get hm
          rw [Int.zero_add]
          refine gw_name C rfl ?_
          refine sw_cons (s1_expr (ew_extO C (by with_unfolding_all rfl) rfl ?_))
          refine ew_lc C (vb := vb_ends_at_0) (lb := lb_ends_at_0) (iw_range1 C B.range ?_)
          walk_at "ev"
          refine ⟨wy, rfl, _, rfl, _, rfl, by omega, by omega, by rw [rangeD_len]; omega, noOwn_of rfl, ?_⟩
          refine lc_map (xs := List.range wy.signs.toNat) (enc := fun (k : Nat) => PyData.int (k : Int)) (f := fun (k : Nat) => PyData.int (wy.goes m k)) (rangeD_zero _) (fun k hk X C => ?_) ?_
          · have := List.mem_range.mp hk
            walk_at "ev"
            exact ⟨wy, _, _, rfl, h, by omega, by omega, by omega, _, rfl, rfl, rfl⟩
          have al := all_len wy m
          have mm : m * wy.signs.toNat ≤ 20 * 20 := Nat.mul_le_mul (by omega) (by omega)
          refine ⟨_, _, rfl, rfl, by rw [List.length_map, List.length_map, List.length_range]; omega, ?_⟩
          refine sw_nil ⟨some (.d (.int m)), ?_⟩
          rw [all_succ, List.map_append, row_map]
          rfl
        · rw [rangeD_len, Int.toNat_natCast] at z
          exact z
      rintro ρ' ⟨z3, rfl⟩
      refine sw_frz (i := 2) rfl ?_
      walk_at "go"
      refine bc_maxE C.calm rfl ?_ ?_
      · rw [all_len]
        exact Nat.mul_pos (by omega) (by omega)
      walk_at "ev"
      rw [show wy.ends n = maxI (wy.all n) + 1 from if_neg z] at q
      exact q
theorem fn_check_sent (A : At K mg "check_sent" s_check_sent) (B : Blt mg) (I1 : GI mg "MOST_SIGNS" 20) (I2 : GI mg "MOST_LONG" 2000) (X1 : ExC K mg "TooGreat" (cA K "TooGreat")) (G1 : Fn P w K mg base 1 "signs_of" pSigns) (G2 : Fn P w K mg base 3 "ends_at" pEndsAt) : Fn P w K mg base 4 "check_sent" (pCheckSent K) := by
  refine fn_def (vs := vs_check_sent) A sc_check_sent bd_check_sent ?_ (by decide +kernel) ?_
  · rintro ds Q E ⟨wy, n, rfl, _⟩
    rfl
  · rintro X W C - ds Q E ⟨wy, n, rfl, h, n20, e1, q⟩
    walk_at "go"
    refine ⟨wy, rfl, ?_⟩
    walk_at "ev"
    refine ⟨fun z => ?_, fun z => ?_⟩
    · have z := of_decide_eq_false z
      walk_at "ev"
      refine ⟨wy, n, rfl, h, n20, by omega, ?_⟩
      walk_at "ev"
      refine ⟨fun z => ?_, fun z => ?_⟩
      · walk_at "ev"
        exact e1 (.inr (of_decide_eq_true z))
      · have z := of_decide_eq_false z
        exact sw_nil (sw_nil (q (by omega) (by omega)))
    · walk_at "run"
      exact e1 (.inl (of_decide_eq_true z))
theorem fn_check_words0 (A : At K mg "check_words" s_check_words) (B : Blt mg) (I1 : GI mg "MOST_SENT" 20) (G1 : Fn P w K mg base 1 "signs_of" pSigns) (G2 : Fn P w K mg base 1 "is_integer" pIsInt) : Fn P w K mg base 2 "check_words" pCheckWords0 := by
  refine fn_def (vs := vs_check_words) A sc_check_words bd_check_words ?_ (by decide +kernel) ?_
  · rintro ds Q E ⟨wy, v, ws, rfl, _⟩
    rfl
  · rintro X W C - ds Q E ⟨wy, v, ws, rfl, h, hv, w20, s20, hw, q⟩
    have s0 := Way.signs_pos h
    refine sw_same ?_ ?_
    · rcases hv with rfl | rfl
      all_goals
        walk_at "ev"
        walk_at "run"
        refine brF (decide_eq_false ?_) ?_
        · rw [List.length_map]
          show ¬ (20 : Int) < _
          omega
        exact sw_nil rfl
    refine sw_cons (s1_for2 C rfl rfl (iw2_enum C B ?_))
    walk_at "ev"
    refine ⟨ws.map tupD, hv, fun _ ρ' => ∃ z2 z3, ρ' = [some (.d wy.d), some (.d v), z2, z3, none], ⟨_, _, rfl⟩, ?_, ?_⟩
    · rintro n d ρ hd ⟨z2, z3, rfl⟩
      obtain ⟨d1, d2⟩ := enumD_get hd
      rw [List.getElem?_map] at d2
      cases hx : ws[n]? with
      | none =>
        rw [hx] at d2
        cases d2
      | some x =>
        rw [hx] at d2
        have hm := hw x (List.mem_of_getElem? hx)
        have d2 : d.2 = .tuple (x.map PyData.int) := (Option.some.inj d2).symm
        rw [d1, d2]
        refine sw_same ?_ (sw_nil ⟨_, _, rfl⟩)
        walk_at "ev"
        walk_at "run"
        refine ⟨wy, rfl, ?_⟩
        walk_at "ev"
        have e0 : (((x.map PyData.int).length : Nat) : Int) = wy.signs := by
          rw [List.length_map]
          omega
        refine ⟨fun _ => ?_, fun z => absurd z (by rw [e0]; simp)⟩
        walk_at "ev"
        refine ew_lc C (vb := vb_check_words_0) (lb := lb_check_words_0) (iw_seq ?_)
        walk_at "ev"
        refine ⟨_, .inr rfl, by rw [List.length_map]; omega, noOwn_of rfl, ?_⟩
        refine lc_map (xs := x) (enc := PyData.int) (f := fun _ => PyData.bool true) rfl (fun y hy X C => ?_) ?_
        · walk_at "ev"
          exact ⟨_, rfl, _, rfl, rfl, rfl⟩
        walk_at "ev"
        refine bc_all C.calm (bs := x.map fun _ => true) (by rw [List.map_map]; rfl) ?_
        refine ⟨_, rfl, ?_⟩
        rw [all_true]
        walk_at "run"
        rfl
    · rintro ρ' ⟨z2, z3, rfl⟩
      exact sw_nil q
end
/-! sent -/
def signAt (wy : Way) (ws : List (List Int)) (p : Int) : PyData := match wy.comes p with
  | some (x, k) => match ws[x.toNat]? with
    | some w => .int (w.getD k.toNat 0)
    | none => .none
  | none => .none
def dnB (n j : Nat) : Option (Int × Int) → Bool
  | some (x, k) => decide (x < n) || (decide (x = n) && decide (k < j))
  | none => false
def lineAt (wy : Way) (ws : List (List Int)) (n j : Nat) (p : Int) : PyData := if dnB n j (wy.comes p) = true then signAt wy ws p else .none
def Way.lineD (ws : List (List Int)) (n j : Nat) (wy : Way) : List PyData := (List.range (wy.ends ws.length).toNat).map fun (p : Nat) => lineAt wy ws n j p
def Way.line (ws : List (List Int)) (wy : Way) : List PyData := (List.range (wy.ends ws.length).toNat).map fun (p : Nat) => signAt wy ws p
theorem ends_pos {wy : Way} {n : Nat} {x k : Int} (x0 : 0 ≤ x) (x1 : x < n) (k0 : 0 ≤ k) (k1 : k < wy.signs) : wy.goes x k < wy.ends n := by
  unfold Way.ends
  rw [if_neg (by omega)]
  have := le_maxI (all_mem.mpr ⟨x, k, x0, x1, k0, k1, rfl⟩)
  omega
theorem ends_nonneg {wy : Way} (h : wy.Ok) (n : Nat) : 0 ≤ wy.ends n := by
  by_cases z : n = 0
  · unfold Way.ends
    rw [if_pos z]
    exact Int.le_refl _
  · have s0 := Way.signs_pos h
    have := ends_pos (wy := wy) (n := n) (x := 0) (k := 0) (by omega) (by omega) (by omega) (by omega)
    have := goes_nonnegA h (wd := 0) (k := 0) (by omega) (by omega) (by omega)
    omega
theorem line_0 {wy : Way} (h : wy.Ok) (ws : List (List Int)) : wy.lineD ws 0 0 = List.replicate (wy.ends ws.length).toNat .none := by
  unfold Way.lineD
  rw [List.eq_replicate_iff]
  refine ⟨by rw [List.length_map, List.length_range], fun d hd => ?_⟩
  obtain ⟨p, hp, rfl⟩ := List.mem_map.mp hd
  unfold lineAt
  cases e : wy.comes p with
  | none => rfl
  | some t =>
    obtain ⟨x, k⟩ := t
    obtain ⟨x0, k0, k1, _⟩ := goes_comesA h (by omega) e
    rw [if_neg]
    unfold dnB
    simp
    omega
theorem line_step {wy : Way} (h : wy.Ok) {ws : List (List Int)} {n j : Nat} {w : List Int} {v : Int} (hw : ws[n]? = some w) (hj : w[j]? = some v) (j1 : (j : Int) < wy.signs) : wy.lineD ws n (j + 1) = (wy.lineD ws n j).set (wy.goes n j).toNat (.int v) := by
  have hn : n < ws.length := (List.getElem?_eq_some_iff.mp hw).1
  have g0 := goes_nonnegA h (wd := n) (k := j) (by omega) (by omega) j1
  have g1 := ends_pos (wy := wy) (n := ws.length) (x := n) (k := j) (by omega) (by omega) (by omega) j1
  have cg := comes_goesA h (wd := n) (k := j) (by omega) (by omega) j1
  refine List.ext_getElem? fun p => ?_
  unfold Way.lineD
  rw [List.getElem?_set]
  by_cases e : (wy.goes n j).toNat = p
  · have ep : (p : Int) = wy.goes n j := by omega
    rw [if_pos e, if_pos (by rw [List.length_map, List.length_range]; omega), List.getElem?_map, List.getElem?_range (by omega)]
    show some (lineAt wy ws n (j + 1) p) = _
    unfold lineAt signAt
    rw [ep, cg]
    simp [dnB, hw, List.getD_eq_getElem?_getD, hj]
    omega
  · rw [if_neg e, List.getElem?_map, List.getElem?_map]
    cases hp : (List.range (wy.ends ws.length).toNat)[p]? with
    | none => rfl
    | some p' =>
      obtain ⟨hl, rfl⟩ := List.getElem?_eq_some_iff.mp hp
      rw [List.getElem_range]
      show some (lineAt wy ws n (j + 1) p) = some (lineAt wy ws n j p)
      congr 1
      unfold lineAt
      cases ec : wy.comes p with
      | none => rfl
      | some t =>
        obtain ⟨x, k⟩ := t
        obtain ⟨x0, k0, k1, eg⟩ := goes_comesA h (by omega) ec
        have : ¬ (x = n ∧ k = j) := fun ⟨a, b⟩ => by
          subst a b
          omega
        have : dnB n (j + 1) (some (x, k)) = dnB n j (some (x, k)) := by
          rw [Bool.eq_iff_iff]
          unfold dnB
          simp
          omega
        rw [this]
theorem line_next {wy : Way} (h : wy.Ok) {ws : List (List Int)} {n j : Nat} (hj : (j : Int) = wy.signs) : wy.lineD ws (n + 1) 0 = wy.lineD ws n j := by
  unfold Way.lineD
  refine List.map_congr_left fun p _ => ?_
  unfold lineAt
  cases ec : wy.comes p with
  | none => rfl
  | some t =>
    obtain ⟨x, k⟩ := t
    obtain ⟨x0, k0, k1, eg⟩ := goes_comesA h (by omega) ec
    have : dnB (n + 1) 0 (some (x, k)) = dnB n j (some (x, k)) := by
      rw [Bool.eq_iff_iff]
      unfold dnB
      simp
      omega
    rw [this]
theorem line_end {wy : Way} (h : wy.Ok) (ws : List (List Int)) : wy.lineD ws ws.length 0 = wy.line ws := by
  unfold Way.lineD Way.line
  refine List.map_congr_left fun p _ => ?_
  unfold lineAt
  cases ec : wy.comes p with
  | none =>
    unfold signAt
    rw [ec]
    rfl
  | some t =>
    obtain ⟨x, k⟩ := t
    obtain ⟨x0, k0, k1, eg⟩ := goes_comesA h (by omega) ec
    by_cases a : x < ws.length
    · rw [if_pos]
      unfold dnB
      simp [a]
    · rw [if_neg]
      · unfold signAt
        rw [ec]
        have : ws[x.toNat]? = none := List.getElem?_eq_none (by omega)
        simp [this]
      · unfold dnB
        simp
        omega
def pSent0 : PF := fun ds Q _ => ∃ (wy : Way) (v : PyData) (ws : List (List Int)), ds = [wy.d, v] ∧ wy.Ok ∧ (v = .list (ws.map tupD) ∨ v = .tuple (ws.map tupD)) ∧ ws.length ≤ 20 ∧ wy.signs ≤ 20 ∧ (∀ w ∈ ws, w.length = wy.signs.toNat) ∧ wy.ends ws.length ≤ 2000 ∧ Q (.new (.lst (wy.line ws)))
def Way.put (n : Nat) (l : List PyData) (wy : Way) : List PyData := (List.range n).map fun (x : Nat) => .tuple ((wy.row x).map fun p => l.getD p.toNat .none)
def isLn : PyData → Bool
  | .none => true
  | .int _ => true
  | _ => false
def pPut0 : PF := fun ds Q _ => ∃ (wy : Way) (v : PyData) (n : Nat) (l : List PyData), ds = [wy.d, .int n, v] ∧ wy.Ok ∧ (v = .list l ∨ v = .tuple l) ∧ l.length ≤ 1000000 ∧ (∀ d ∈ l, isLn d = true) ∧ n ≤ 20 ∧ wy.signs ≤ 20 ∧ wy.ends n ≤ 2000 ∧ Q (.new (.lst (wy.put n l)))
section
variable {P : Program} {w : World} {K : PySem.W.Frag} {mg : Str → Option Value} {base : Heap}
theorem fn_sent0 (A : At K mg "sent" s_sent) (B : Blt mg) (G1 : Fn P w K mg base 5 "check_way" (pCheckWay K)) (G2 : Fn P w K mg base 2 "check_words" pCheckWords0) (G3 : Fn P w K mg base 4 "check_sent" (pCheckSent K)) (G4 : Fn P w K mg base 3 "ends_at" pEndsAt) (G5 : Fn P w K mg base 2 "goes_by" pGoesBy) : Fn P w K mg base 6 "sent" pSent0 := by
  refine fn_def (vs := vs_sent) A sc_sent bd_sent ?_ (by decide +kernel) ?_
  · rintro ds Q E ⟨wy, v, ws, rfl, _⟩
    rfl
  · rintro X W C - ds Q E ⟨wy, v, ws, rfl, h, hv, w20, s20, hw, e20, q⟩
    have s0 := Way.signs_pos h
    have ln : ∀ {Q' : PyData → Prop}, Q' (.int ws.length) → BC X (.builtin "len") [v] Q' := fun {Q'} z => by
      rcases hv with rfl | rfl
      · refine bc_lenL ?_
        rw [List.length_map]
        exact z
      · refine bc_lenT ?_
        rw [List.length_map]
        exact z
    refine sw_same ?_ ?_
    · walk_at "ev"
      refine ⟨_, rfl, fun _ => ?_, fun z => absurd (z.symm.trans (Way.isWay h)) (by decide)⟩
      walk_at "ev"
      rfl
    refine sw_same ?_ ?_
    · walk_at "ev"
      exact ⟨wy, v, ws, rfl, h, hv, w20, s20, hw, _, rfl, rfl⟩
    refine sw_same ?_ ?_
    · walk_at "ev"
      refine ln ?_
      walk_at "ev"
      exact ⟨wy, ws.length, rfl, h, w20, fun z => by omega, fun _ _ => ⟨_, rfl, rfl⟩⟩
    refine sw_cons (s1_own C rfl (en_mul ?_))
    walk_at "ev"
    refine ln ?_
    walk_at "ev"
    refine ⟨wy, ws.length, rfl, h, w20, s20, ?_⟩
    walk_at "ev"
    have en := ends_nonneg h ws.length
    refine ⟨by omega, by omega, by show 1 * _ ≤ _; omega, fun qf => ?_⟩
    rw [show (List.replicate (wy.ends ws.length).toNat [PyData.none]).flatten = wy.lineD ws 0 0 by rw [line_0 h]; simp]
    refine sw_via (fun ρ' => ∃ z3 z4 z5 z6, ρ' = [some (.d wy.d), some (.d v), some (.own qf (.lst (wy.line ws))), z3, z4, z5, z6]) (s1_for2 C rfl rfl (iw2_enum C B ?_)) ?_
    · walk_at "ev"
      refine ⟨ws.map tupD, hv, fun n ρ' => ∃ z3 z4 z5 z6, ρ' = [some (.d wy.d), some (.d v), some (.own qf (.lst (wy.lineD ws n 0))), z3, z4, z5, z6], ⟨_, _, _, _, rfl⟩, ?_, ?_⟩
      · rintro n d ρ hd ⟨z3, z4, z5, z6, rfl⟩
        obtain ⟨d1, d2⟩ := enumD_get hd
        rw [List.getElem?_map] at d2
        cases hx : ws[n]? with
        | none =>
          rw [hx] at d2
          cases d2
        | some x =>
          rw [hx] at d2
          have hm := hw x (List.mem_of_getElem? hx)
          have hn : n < ws.length := (List.getElem?_eq_some_iff.mp hx).1
          have d2 : d.2 = .tuple (x.map PyData.int) := (Option.some.inj d2).symm
          rw [d1, d2]
          refine sw_cons (s1_for2 C rfl rfl (iw2_enum C B ?_))
          walk_at "ev"
          refine ⟨x.map PyData.int, .inr rfl, fun j ρ' => ∃ z5 z6, ρ' = [some (.d wy.d), some (.d v), some (.own qf (.lst (wy.lineD ws n j))), some (.d (.int n)), some (.d (.tuple (x.map PyData.int))), z5, z6], ⟨_, _, rfl⟩, ?_, ?_⟩
          · rintro j e ρ he ⟨z5, z6, rfl⟩
            obtain ⟨e1, e2⟩ := enumD_get he
            rw [List.getElem?_map] at e2
            cases hy : x[j]? with
            | none =>
              rw [hy] at e2
              cases e2
            | some y =>
              rw [hy] at e2
              have hj : j < x.length := (List.getElem?_eq_some_iff.mp hy).1
              have e2 : e.2 = .int y := (Option.some.inj e2).symm
              rw [e1, e2]
              refine sw_cons (s1_setIO C (by with_unfolding_all rfl) rfl ?_)
              walk_at "ev"
              refine ⟨wy, _, _, rfl, h, by omega, by omega, by omega, ?_⟩
              have g0 := goes_nonnegA h (wd := n) (k := j) (by omega) (by omega) (by omega)
              have g1 := ends_pos (wy := wy) (n := ws.length) (x := n) (k := j) (by omega) (by omega) (by omega) (by omega)
              have ll : (wy.lineD ws n j).length = (wy.ends ws.length).toNat := by
                unfold Way.lineD
                rw [List.length_map, List.length_range]
              refine ⟨_, rfl, _, (wy.goes n j).toNat, _, rfl, rfl, ?_, ?_⟩
              · unfold ixN
                rw [if_pos g0, if_pos (by omega)]
              rw [← line_step h hx hy (by omega)]
              exact sw_nil ⟨_, _, rfl⟩
          · rintro ρ' ⟨z5, z6, rfl⟩
            rw [enumD_len, List.length_map]
            refine sw_nil ⟨some (.d (.int n)), some (.d (.tuple (x.map PyData.int))), z5, z6, ?_⟩
            rw [line_next h (n := n) (j := x.length) (by omega)]
      · rintro ρ' ⟨z3, z4, z5, z6, rfl⟩
        rw [enumD_len, List.length_map, line_end h]
        exact ⟨_, _, _, _, rfl⟩
    rintro ρ' ⟨z3, z4, z5, z6, rfl⟩
    exact sw_cons (s1_retO C (by with_unfolding_all rfl) rfl q)
theorem fn_put0 (A : At K mg "put_together" s_put_together) (B : Blt mg) (I1 : GI mg "MOST_SENT" 20) (G1 : Fn P w K mg base 5 "check_way" (pCheckWay K)) (G2 : Fn P w K mg base 2 "is_from" pIsFrom) (G3 : Fn P w K mg base 1 "is_integer" pIsInt) (G4 : Fn P w K mg base 4 "check_sent" (pCheckSent K)) (G5 : Fn P w K mg base 2 "goes_by" pGoesBy) (G6 : Fn P w K mg base 1 "signs_of" pSigns) : Fn P w K mg base 6 "put_together" pPut0 := by
  refine fn_def (vs := vs_put_together) A sc_put_together bd_put_together ?_ (by decide +kernel) ?_
  · rintro ds Q E ⟨wy, v, n, l, rfl, _⟩
    rfl
  · rintro X W C - ds Q E ⟨wy, v, n, l, rfl, h, hv, l1, hl, n20, s20, e20, q⟩
    have s0 := Way.signs_pos h
    refine sw_same ?_ ?_
    · walk_at "ev"
      refine ⟨_, rfl, fun _ => ?_, fun z => absurd (z.symm.trans (Way.isWay h)) (by decide)⟩
      walk_at "ev"
      rfl
    refine sw_same ?_ ?_
    · walk_at "ev"
      refine ⟨_, _, _, rfl, _, rfl, ?_⟩
      rw [from_true (show (0 : Int) ≤ n by omega) (by omega)]
      walk_at "run"
      rfl
    refine sw_same ?_ ?_
    · rcases hv with rfl | rfl
      all_goals
        walk_at "ev"
        walk_at "run"
        rfl
    refine sw_via (fun ρ' => ∃ z3 z4, (∀ a o, z4 ≠ some (S.own a o)) ∧ ρ' = [some (.d wy.d), some (.d (.int n)), some (.d v), z3, z4, none, none, none, none]) (s1_for2 C rfl rfl (iw2_enum C B ?_)) ?_
    · walk_at "ev"
      refine ⟨l, hv, fun _ ρ' => ∃ z3 z4, (∀ a o, z4 ≠ some (S.own a o)) ∧ ρ' = [some (.d wy.d), some (.d (.int n)), some (.d v), z3, z4, none, none, none, none], ⟨_, none, (fun a o z => nomatch z), rfl⟩, ?_, fun ρ' z => z⟩
      rintro i d ρ hd ⟨z3, z4, -, rfl⟩
      obtain ⟨d1, d2⟩ := enumD_get hd
      have hm := hl _ (List.mem_of_getElem? d2)
      generalize d.2 = y at hm
      cases y with
      | none =>
        walk_at "go"
        walk_at "run"
        exact ⟨_, some (.d .none), (fun a o z => nomatch z), rfl⟩
      | int y =>
        walk_at "go"
        walk_at "run"
        refine ⟨_, rfl, _, rfl, ?_⟩
        walk_at "run"
        exact ⟨_, some (.d (.int y)), (fun a o z => nomatch z), rfl⟩
      | _ => cases hm
    rintro ρ' ⟨z3, z4, h4, rfl⟩
    refine sw_same ?_ ?_
    · walk_at "ev"
      exact ⟨wy, n, rfl, h, n20, fun z => by omega, fun _ _ => ⟨_, rfl, rfl⟩⟩
    refine sw_cons (s1_own C rfl (en_lst ?_))
    walk_at "ev"
    intro qf
    refine sw_via (fun ρ' => ∃ z6 z7, ρ' = [some (.d wy.d), some (.d (.int n)), some (.d v), z3, z4, some (.own qf (.lst (wy.put n l))), z6, z7, none]) (s1_for C (iw_range1 C B.range ?_)) ?_
    · walk_at "ev"
      refine ⟨by omega, by omega, fun m ρ' => ∃ z6 z7, ρ' = [some (.d wy.d), some (.d (.int n)), some (.d v), z3, z4, some (.own qf (.lst (wy.put m l))), z6, z7, none], ⟨_, _, rfl⟩, ?_, fun ρ' z => ?_⟩
      · rintro m dm ρ hm ⟨z6, z7, rfl⟩
        obtain ⟨hm, rfl⟩ := rangeD_get hm
        rw [Int.zero_add]
        refine gw_name C rfl ?_
        refine sw_cons (s1_setLc C (vb := vb_put_together_0) (lb := lb_put_together_0) (iw_range1 C B.range ?_))
        walk_at "ev"
        refine ⟨wy, rfl, _, rfl, _, rfl, by omega, by omega, by rw [rangeD_len]; omega, (fun a o e => h4 a o (Option.some.inj e)), ?_⟩
        refine lc_map (xs := List.range wy.signs.toNat) (enc := fun (k : Nat) => PyData.int (k : Int)) (f := fun (k : Nat) => PyData.int (wy.goes m k)) (rangeD_zero _) (fun k hk X C => ?_) ?_
        · have := List.mem_range.mp hk
          walk_at "ev"
          exact ⟨wy, _, _, rfl, h, by omega, by omega, by omega, _, rfl, rfl, rfl⟩
        rw [← row_map]
        refine sw_cons (s1_expr (ew_appO C (by with_unfolding_all rfl) rfl ?_))
        walk_at "ev"
        refine ew_lc C (vb := vb_put_together_1) (lb := lb_put_together_1) (iw_seq ?_)
        walk_at "ev"
        refine ⟨_, .inl rfl, by rw [List.length_map, row_len]; omega, noOwn_of rfl, ?_⟩
        refine lc_map (xs := wy.row m) (enc := PyData.int) (f := fun p => l.getD p.toNat .none) rfl (fun p hp X C => ?_) ?_
        · have p0 : 0 ≤ p := by
            unfold Way.row at hp
            obtain ⟨k, hk, rfl⟩ := List.mem_map.mp hp
            have := List.mem_range.mp hk
            exact goes_nonnegA h (by omega) (by omega) (by omega)
          walk_at "ev"
          have ln : ∀ {Q' : PyData → Prop}, Q' (.int l.length) → BC X (.builtin "len") [v] Q' := fun {Q'} z => by
            rcases hv with rfl | rfl
            · exact bc_lenL z
            · exact bc_lenT z
          refine ln ?_
          walk_at "ev"
          refine ⟨fun z => ?_, fun z => ?_⟩
          · have z := of_decide_eq_true z
            have ga : atI l p = some (l.getD p.toNat .none) := by
              unfold atI ixN
              rw [if_pos p0, if_pos (by omega)]
              show l[p.toNat]? = _
              rw [List.getD_eq_getElem?_getD, List.getElem?_eq_getElem (show p.toNat < l.length by omega)]
              rfl
            walk_at "ev"
            rcases hv with rfl | rfl
            · refine bi_lst ga ?_
              exact ⟨rfl, rfl⟩
            · refine bi_tup ga ?_
              exact ⟨rfl, rfl⟩
          · have z := of_decide_eq_false z
            walk_at "ev"
            have : l.getD p.toNat .none = .none := by
              rw [List.getD_eq_getElem?_getD, List.getElem?_eq_none (by omega)]
              rfl
            exact ⟨rfl, by rw [this]⟩
        walk_at "ev"
        refine ⟨?_, ?_⟩
        · unfold Way.put
          rw [List.length_map, List.length_range]
          omega
        refine sw_nil ⟨some (.d (.int m)), some (.d (.list ((wy.row m).map PyData.int))), ?_⟩
        have : wy.put (m + 1) l = wy.put m l ++ [.tuple ((wy.row m).map fun p => l.getD p.toNat .none)] := by
          unfold Way.put
          rw [List.range_succ, List.map_append]
          rfl
        rw [this]
        rfl
      · rw [rangeD_len, Int.toNat_natCast] at z
        exact z
    rintro ρ' ⟨z6, z7, rfl⟩
    exact sw_cons (s1_retO C (by with_unfolding_all rfl) rfl q)
end

/-! ### law k10 -/
theorem maxI_same {a b : List Int} (h : ∀ x, x ∈ a ↔ x ∈ b) (ha : 0 < a.length) : maxI a = maxI b := by
  have h1 := maxI_mem ha
  have hb : 0 < b.length := List.length_pos_of_mem ((h _).mp h1)
  have h2 := maxI_mem hb
  have := le_maxI ((h _).mp h1)
  have := le_maxI ((h _).mpr h2)
  omega
theorem ends_small {wy : Way} (h : wy.Ok) (hs : wy.Small 6 20) {n : Nat} (hn : n ≤ 20) : wy.signs ≤ 20 ∧ wy.ends n ≤ 2000 := by
  have s20 : wy.signs ≤ 20 := by
    cases wy with
    | table a s =>
      have := hs.2
      show s ≤ 20
      omega
    | delays a s =>
      have := hs.2
      show s ≤ 20
      omega
    | told s ps => exact hs
  refine ⟨s20, ?_⟩
  have s0 := Way.signs_pos h
  by_cases z : n = 0
  · unfold Way.ends
    rw [if_pos z]
    decide
  unfold Way.ends
  rw [if_neg z]
  have hm := maxI_mem (l := wy.all n) (by rw [all_len]; exact Nat.mul_pos (by omega) (by omega))
  obtain ⟨x, k, x0, x1, k0, k1, e⟩ := all_mem.mp hm
  rw [← e]
  cases wy with
  | table a s =>
    obtain ⟨a0, a1, s0, s1⟩ := h
    have ha : a ≤ 6 := hs.1
    have hs6 : s ≤ 6 := hs.2
    have k1 : k < s := k1
    obtain ⟨r0, r1⟩ := mod_range (a := x) (b := a) (by omega)
    have f := dm_eq x a
    have b1 : x / a * a * s ≤ 20 * 6 := Int.mul_le_mul (by omega) hs6 (by omega) (by omega)
    have b2 : k * a ≤ 6 * 6 := Int.mul_le_mul (by omega) ha (by omega) (by omega)
    show x / a * a * s + k * a + x % a + 1 ≤ 2000
    omega
  | delays a s =>
    obtain ⟨a0, a1, s0, s1⟩ := h
    have ha : a < 6 := hs.1
    have hs6 : s ≤ 6 := hs.2
    have k1 : k < s := k1
    have b2 : k * a ≤ 6 * 6 := Int.mul_le_mul (by omega) (by omega) (by omega) (by omega)
    have b1 : (x + k * a) * s ≤ 56 * 6 := Int.mul_le_mul (by omega) hs6 (by omega) (by omega)
    show (x + k * a) * s + k + 1 ≤ 2000
    omega
  | told s ps =>
    obtain ⟨m1, m2, m3⟩ := told_size h
    have s0 := h.1
    have l6 := h.2.2.2.1
    have s20 : s ≤ 20 := s20
    have k1 : k < s := k1
    obtain ⟨i0, i1⟩ := told_at h x0 k0 k1
    have hl : (x % ((ps.length : Int) / s) * s + k).toNat < ps.length := by omega
    have hm : ps.getD (x % ((ps.length : Int) / s) * s + k).toNat 0 ∈ ps := by
      rw [List.getD_eq_getElem?_getD, List.getElem?_eq_getElem hl]
      exact List.getElem_mem hl
    have hr := h.2.2.2.2.1 _ hm
    obtain ⟨r0, r1⟩ := mod_range (a := x) (b := (ps.length : Int) / s) (by omega)
    have f := dm_eq x ((ps.length : Int) / s)
    have b1 : x / ((ps.length : Int) / s) * ((ps.length : Int) / s) * s ≤ 20 * 20 := Int.mul_le_mul (by omega) s20 (by omega) (by omega)
    show x / ((ps.length : Int) / s) * ((ps.length : Int) / s) * s + ps.getD (x % ((ps.length : Int) / s) * s + k).toNat 0 + 1 ≤ 2000
    omega
/-- the dict of what lies where -/
structure InL (wy : Way) (ws : List (List Int)) (n j : Nat) (kvs : List (Key × PyData)) : Prop where
  val : ∀ p : Int, 0 ≤ p → valD kvs (.inl p) = if dnB n j (wy.comes p) = true then some (signAt wy ws p) else none
  key : ∀ k : Key, k ∈ kvs.map (·.1) ↔ ∃ x y : Int, 0 ≤ x ∧ 0 ≤ y ∧ y < wy.signs ∧ dnB n j (some (x, y)) = true ∧ k = .inl (wy.goes x y)
  len : kvs.length ≤ n * 20 + j
theorem putD_key (kvs : List (Key × PyData)) (k k' : Key) (d : PyData) : k' ∈ (putD kvs k d).map (·.1) ↔ k' ∈ kvs.map (·.1) ∨ k' = k := by
  unfold putD
  split
  · rename_i h
    rw [List.map_map]
    have e : ((fun x : Key × PyData => x.1) ∘ fun kv : Key × PyData => if kv.1 = k then (kv.1, d) else kv) = fun kv => kv.1 := by
      funext kv
      show (if kv.1 = k then (kv.1, d) else kv).1 = kv.1
      split <;> rfl
    rw [e]
    refine ⟨.inl, fun z => z.elim id fun z => ?_⟩
    obtain ⟨kv, hkv, e⟩ := List.any_eq_true.mp h
    rw [z]
    exact List.mem_map.mpr ⟨kv, hkv, of_decide_eq_true e⟩
  · rw [List.map_append, List.mem_append]
    simp
theorem inL_0 {wy : Way} (h : wy.Ok) (ws : List (List Int)) : InL wy ws 0 0 [] := by
  refine ⟨fun p p0 => ?_, fun k => ⟨fun z => (nomatch z), fun ⟨x, y, x0, y0, y1, d, _⟩ => ?_⟩, by simp⟩
  · cases e : wy.comes p with
    | none => rfl
    | some t =>
      obtain ⟨x, k⟩ := t
      obtain ⟨x0, k0, k1, _⟩ := goes_comesA h p0 e
      rw [if_neg]
      · rfl
      · unfold dnB
        simp
        omega
  · unfold dnB at d
    simp at d
    omega
theorem dn_succ {n j : Nat} {x y : Int} : dnB n (j + 1) (some (x, y)) = true ↔ dnB n j (some (x, y)) = true ∨ (x = n ∧ y = j) := by
  unfold dnB
  simp
  omega
theorem inL_step {wy : Way} (h : wy.Ok) {ws : List (List Int)} {n j : Nat} {kvs : List (Key × PyData)} {w : List Int} {v : Int} (hi : InL wy ws n j kvs) (hw : ws[n]? = some w) (hj : w[j]? = some v) (j1 : (j : Int) < wy.signs) : InL wy ws n (j + 1) (putD kvs (.inl (wy.goes n j)) (.int v)) := by
  have cg := comes_goesA h (wd := n) (k := j) (by omega) (by omega) j1
  refine ⟨fun p p0 => ?_, fun k => ?_, by have := putD_len kvs (.inl (wy.goes n j)) (.int v); have := hi.len; omega⟩
  · rw [valD_put]
    by_cases e : p = wy.goes n j
    · subst e
      rw [if_pos rfl, cg, if_pos (dn_succ.mpr (.inr ⟨rfl, rfl⟩))]
      unfold signAt
      rw [cg]
      simp [hw, List.getD_eq_getElem?_getD, hj]
    · rw [if_neg (fun z => e (Sum.inl.inj z)), hi.val p p0]
      cases ec : wy.comes p with
      | none => rfl
      | some t =>
        obtain ⟨x, y⟩ := t
        obtain ⟨x0, y0, y1, eg⟩ := goes_comesA h p0 ec
        have ne : ¬ (x = n ∧ y = j) := fun ⟨a, b⟩ => by
          subst a b
          exact e eg.symm
        by_cases d : dnB n j (some (x, y)) = true
        · rw [if_pos d, if_pos (dn_succ.mpr (.inl d))]
        · rw [if_neg d, if_neg (fun z => (dn_succ.mp z).elim d ne)]
  · rw [putD_key, hi.key]
    constructor
    · rintro (⟨x, y, x0, y0, y1, d, e⟩ | e)
      · exact ⟨x, y, x0, y0, y1, dn_succ.mpr (.inl d), e⟩
      · exact ⟨n, j, by omega, by omega, j1, dn_succ.mpr (.inr ⟨rfl, rfl⟩), e⟩
    · rintro ⟨x, y, x0, y0, y1, d, e⟩
      rcases dn_succ.mp d with d | ⟨rfl, rfl⟩
      · exact .inl ⟨x, y, x0, y0, y1, d, e⟩
      · exact .inr e
theorem dn_next {n j : Nat} {s x y : Int} (hj : (j : Int) = s) (y0 : 0 ≤ y) (y1 : y < s) : dnB (n + 1) 0 (some (x, y)) = dnB n j (some (x, y)) := by
  rw [Bool.eq_iff_iff]
  unfold dnB
  simp
  omega
theorem inL_next {wy : Way} (h : wy.Ok) {ws : List (List Int)} {n j : Nat} {kvs : List (Key × PyData)} (hi : InL wy ws n j kvs) (hj : (j : Int) = wy.signs) (j20 : j ≤ 20) : InL wy ws (n + 1) 0 kvs := by
  refine ⟨fun p p0 => ?_, fun k => ?_, by have := hi.len; omega⟩
  · rw [hi.val p p0]
    cases ec : wy.comes p with
    | none => rfl
    | some t =>
      obtain ⟨x, y⟩ := t
      obtain ⟨x0, y0, y1, eg⟩ := goes_comesA h p0 ec
      rw [dn_next hj y0 y1]
  · rw [hi.key]
    constructor
    · rintro ⟨x, y, x0, y0, y1, d, e⟩
      exact ⟨x, y, x0, y0, y1, by rw [dn_next hj y0 y1]; exact d, e⟩
    · rintro ⟨x, y, x0, y0, y1, d, e⟩
      exact ⟨x, y, x0, y0, y1, by rw [← dn_next hj y0 y1]; exact d, e⟩
def keyI : Key → Int
  | .inl p => p
  | .inr _ => 0
theorem inL_keys {wy : Way} {ws : List (List Int)} {n j : Nat} {kvs : List (Key × PyData)} (hi : InL wy ws n j kvs) : (kvs.map fun kv => keyD kv.1) = (kvs.map fun kv => keyI kv.1).map PyData.int := by
  rw [List.map_map]
  refine List.map_congr_left fun kv hkv => ?_
  obtain ⟨x, y, _, _, _, _, e⟩ := (hi.key kv.1).mp (List.mem_map.mpr ⟨kv, hkv, rfl⟩)
  show keyD kv.1 = PyData.int (keyI kv.1)
  rw [e]
  rfl
theorem inL_max {wy : Way} {ws : List (List Int)} {n : Nat} {kvs : List (Key × PyData)} (hi : InL wy ws n 0 kvs) (hn : n ≠ 0) (s0 : 1 ≤ wy.signs) : kvs ≠ [] ∧ maxI (kvs.map fun kv => keyI kv.1) + 1 = wy.ends n := by
  have same : ∀ p, p ∈ (wy.all n) ↔ p ∈ (kvs.map fun kv => keyI kv.1) := fun p => by
    rw [all_mem, List.mem_map]
    constructor
    · rintro ⟨x, k, x0, x1, k0, k1, e⟩
      have : (Sum.inl p : Key) ∈ kvs.map (·.1) := (hi.key _).mpr ⟨x, k, x0, k0, k1, by unfold dnB; simp; omega, by rw [e]⟩
      obtain ⟨kv, hkv, e⟩ := List.mem_map.mp this
      exact ⟨kv, hkv, by rw [e]; rfl⟩
    · rintro ⟨kv, hkv, e⟩
      obtain ⟨x, y, x0, y0, y1, d, e2⟩ := (hi.key kv.1).mp (List.mem_map.mpr ⟨kv, hkv, rfl⟩)
      rw [e2] at e
      unfold dnB at d
      simp at d
      exact ⟨x, y, x0, by omega, y0, y1, e⟩
  have h0 : 0 < (wy.all n).length := by
    rw [all_len]
    exact Nat.mul_pos (by omega) (by omega)
  refine ⟨fun z => ?_, ?_⟩
  · subst z
    have := (same _).mp (maxI_mem h0)
    cases this
  · unfold Way.ends
    rw [if_neg hn, maxI_same same h0]
theorem inL_nil {wy : Way} {ws : List (List Int)} {kvs : List (Key × PyData)} (hi : InL wy ws 0 0 kvs) : kvs = [] := by
  have := hi.len
  cases kvs with
  | nil => rfl
  | cons a r => simp at this
/-- what was sent is put together again -/
theorem put_line {wy : Way} (h : wy.Ok) {ws : List (List Int)} (hw : ∀ w ∈ ws, w.length = wy.signs.toNat) : wy.put ws.length (wy.line ws) = ws.map tupD := by
  refine List.ext_getElem? fun n => ?_
  unfold Way.put
  rw [List.getElem?_map, List.getElem?_map]
  by_cases hn : n < ws.length
  · rw [List.getElem?_range hn, List.getElem?_eq_getElem hn]
    show some _ = some _
    congr 1
    show PyData.tuple _ = PyData.tuple _
    congr 1
    refine List.ext_getElem? fun k => ?_
    have hl := hw ws[n] (List.getElem_mem hn)
    unfold Way.row
    rw [List.getElem?_map, List.getElem?_map, List.getElem?_map]
    by_cases hk : k < wy.signs.toNat
    · have cg := comes_goesA h (wd := n) (k := k) (by omega) (by omega) (by omega)
      have g0 := goes_nonnegA h (wd := n) (k := k) (by omega) (by omega) (by omega)
      have g1 := ends_pos (wy := wy) (n := ws.length) (x := n) (k := k) (by omega) (by omega) (by omega) (by omega)
      rw [List.getElem?_range hk, List.getElem?_eq_getElem (show k < ws[n].length by omega)]
      show some _ = some _
      congr 1
      show (wy.line ws).getD (wy.goes n k).toNat .none = PyData.int ws[n][k]
      unfold Way.line
      rw [List.getD_eq_getElem?_getD, List.getElem?_map, List.getElem?_range (by omega)]
      show signAt wy ws ((wy.goes n k).toNat : Nat) = _
      rw [Int.toNat_of_nonneg g0]
      unfold signAt
      rw [cg]
      simp [hn, List.getD_eq_getElem?_getD, show k < ws[n].length by omega]
    · rw [List.getElem?_eq_none (by rw [List.length_range]; omega), List.getElem?_eq_none (by omega)]
      rfl
  · rw [List.getElem?_eq_none (by rw [List.length_range]; omega), List.getElem?_eq_none (by omega)]
    rfl
theorem line_ok (wy : Way) (ws : List (List Int)) : ∀ d ∈ wy.line ws, isLn d = true := fun d hd => by
  unfold Way.line at hd
  obtain ⟨p, _, rfl⟩ := List.mem_map.mp hd
  unfold signAt
  split
  · split <;> rfl
  · rfl

/-! ### law k22: plain -/
theorem hits_uniq {wy : Way} {b l : Int} {us vs : List (Int × Int)} (h : wy.Hits b l us) (g : wy.Hits b l vs) : us = vs := by
  have e : us.map (·.1) = vs.map (·.1) := asc_eq h.up g.up fun x => (h.mem x).trans (g.mem x).symm
  have r : ∀ {zs : List (Int × Int)}, wy.Hits b l zs → zs = (zs.map (·.1)).map fun x => (x, ((wy.cnt b l.toNat x : Nat) : Int)) := fun {zs} hz => by
    rw [List.map_map]
    refine (List.map_id zs).symm.trans (List.map_congr_left fun p hp => ?_)
    show p = (p.1, ((wy.cnt b l.toNat p.1 : Nat) : Int))
    rw [← hz.at_ p hp]
  rw [r h, r g, e]
theorem small_per {wy : Way} (h : wy.Ok) (hs : wy.Small 6 20) : wy.period ≤ 60 := by
  cases wy with
  | table a s =>
    obtain ⟨a0, a1, s0, s1⟩ := h
    obtain ⟨h1, h2⟩ := hs
    have : s * a ≤ 6 * 6 := Int.mul_le_mul h2 h1 (by omega) (by omega)
    show s * a ≤ 60
    omega
  | delays a s =>
    obtain ⟨h1, h2⟩ := hs
    show s * 1 ≤ 60
    omega
  | told s ps =>
    obtain ⟨m1, m2, m3⟩ := told_size h
    have := h.2.2.2.1
    show s * ((ps.length : Int) / s) ≤ 60
    rw [Int.mul_comm, m3]
    omega
theorem tally_len22 (ns : List Int) : (tally ns).length ≤ ns.length := by
  unfold tally
  rw [(srtP_perm _).length_eq, List.length_map]
  exact ddp_len ns
theorem along_len {wy : Way} (f : Int → Int) : (wy.along f).length ≤ wy.period.toNat := by
  have := tally_len22 ((rng wy.farB wy.period.toNat).map f)
  rw [List.length_map, rng_len] at this
  exact this
def ws3 (wy : Way) : List (List Int) := List.replicate 3 ((List.range wy.signs.toNat).map fun (i : Nat) => (i : Int))
abbrev thD (wy : Way) (l : Int) : PyData := .tuple [wy.d, .list ((ws3 wy).map tupD), .int l]
def lnF : List PyData := List.replicate 30 (.int 5)
def lstsD (wy : Way) (l : Int) (us : List (Int × Int)) : List (List PyData) := [us.map prD, wy.line (ws3 wy), wy.put 2 lnF, (bestI [wy, .table 2 3]).map fun (k : Nat) => PyData.int (k : Int), (wy.along fun p => wy.mostAt l.toNat p).map prD, (wy.along fun p => wy.manyAt l.toNat p).map prD]
abbrev lssD (dss : List (List PyData)) : PyData := .list (dss.map PyData.list)
def pListsN : PF := fun ds Q _ => ∃ (wy : Way) (l : Int), ds = [thD wy l] ∧ wy.Ok ∧ wy.Small 6 20 ∧ 0 ≤ l ∧ l < 20 ∧ ∀ us, wy.Hits 3 l us → Q (.nest (lstsD wy l us))
def pListsD : PF := fun ds Q _ => ∃ (wy : Way) (l : Int), ds = [thD wy l] ∧ wy.Ok ∧ wy.Small 6 20 ∧ 0 ≤ l ∧ l < 20 ∧ ∀ us, wy.Hits 3 l us → Q (.d (lssD (lstsD wy l us)))
theorem ws3_each {wy : Way} : ∀ w ∈ ws3 wy, w.length = wy.signs.toNat := fun w hw => by
  rw [List.eq_of_mem_replicate hw, List.length_map, List.length_range]
theorem best_len (wy : Way) : (bestI [wy, .table 2 3]).length ≤ 2 := by
  unfold bestI
  refine Nat.le_trans (List.length_filter_le _ _) ?_
  rw [List.length_range]
  exact Nat.le_refl 2
theorem lsts_len {wy : Way} (h : wy.Ok) (hs : wy.Small 6 20) {l : Int} (l1 : l < 20) {us : List (Int × Int)} (hu : wy.Hits 3 l us) : ∀ ds ∈ lstsD wy l us, ds.length ≤ 3000 := by
  have pr := small_per h hs
  have e3 := (ends_small h hs (n := 3) (by decide)).2
  intro ds hd
  unfold lstsD at hd
  rcases List.mem_cons.mp hd with rfl | hd
  · have := hu.len
    rw [List.length_map]
    omega
  rcases List.mem_cons.mp hd with rfl | hd
  · unfold Way.line
    rw [List.length_map, List.length_range]
    have : (ws3 wy).length = 3 := List.length_replicate
    rw [this]
    omega
  rcases List.mem_cons.mp hd with rfl | hd
  · unfold Way.put
    rw [List.length_map, List.length_range]
    decide
  rcases List.mem_cons.mp hd with rfl | hd
  · have := best_len wy
    rw [List.length_map]
    omega
  rcases List.mem_cons.mp hd with rfl | hd
  · have := along_len (wy := wy) fun p => wy.mostAt l.toNat p
    rw [List.length_map]
    omega
  rcases List.mem_cons.mp hd with rfl | hd
  · have := along_len (wy := wy) fun p => wy.manyAt l.toNat p
    rw [List.length_map]
    omega
  · cases hd
theorem shp_ln {n : Nat} {d : PyData} (h : isLn d = true) : shp n d = true := by
  cases d <;> first | (cases n <;> rfl) | cases h
theorem shp_prs (us : List I2) : (us.map prD).all (shp 2) = true := by
  rw [List.all_eq_true]
  intro d hd
  obtain ⟨p, _, rfl⟩ := List.mem_map.mp hd
  rfl
theorem lsts_shp (wy : Way) (l : Int) (us : List (Int × Int)) : shp 4 (lssD (lstsD wy l us)) = true := by
  show ((lstsD wy l us).map PyData.list).all (shp 3) = true
  unfold lstsD
  simp only [List.map_cons, List.map_nil, List.all_cons, List.all_nil, Bool.and_true, Bool.and_eq_true]
  refine ⟨shp_prs us, ?_, ?_, ?_, shp_prs _, shp_prs _⟩
  · show (wy.line (ws3 wy)).all (shp 2) = true
    exact List.all_eq_true.mpr fun d hd => shp_ln (line_ok wy _ d hd)
  · show (wy.put 2 lnF).all (shp 2) = true
    refine List.all_eq_true.mpr fun d hd => ?_
    obtain ⟨x, _, rfl⟩ := List.mem_map.mp hd
    show ((wy.row x).map fun p => lnF.getD p.toNat .none).all (shp 1) = true
    refine List.all_eq_true.mpr fun d hd => ?_
    obtain ⟨p, _, rfl⟩ := List.mem_map.mp hd
    refine shp_ln ?_
    rw [List.getD_eq_getElem?_getD]
    cases e : lnF[p.toNat]? with
    | none => rfl
    | some v =>
      rw [List.eq_of_mem_replicate (List.mem_of_getElem? e)]
      rfl
  · show ((bestI [wy, .table 2 3]).map fun (k : Nat) => PyData.int (k : Int)).all (shp 2) = true
    refine List.all_eq_true.mpr fun d hd => ?_
    obtain ⟨x, _, rfl⟩ := List.mem_map.mp hd
    rfl

/-! ### law k22: the walk -/
section
variable {P : Program} {w : World} {K : PySem.W.Frag} {mg : Str → Option Value} {base : Heap}
theorem fn_law_listsN (A : At K mg "_law_lists" s_law_lists) (B : Blt mg) (H1 : Fn P w K mg base 6 "hits" (pHits K)) (H2 : Fn P w K mg base 6 "sent" pSent0) (H3 : Fn P w K mg base 6 "put_together" pPut0) (H4 : Fn P w K mg base 8 "best_ways" (pBest K)) (H5 : Fn P w K mg base 7 "burst_spread" (pAlong K Way.mostAt)) (H6 : Fn P w K mg base 7 "words_hit" (pAlong K Way.manyAt)) : Fn P w K mg base 9 "_law_lists" pListsN := by
  refine fn_def (vs := vs_law_lists) A sc_law_lists bd_law_lists ?_ (by decide +kernel) ?_
  · rintro ds Q E ⟨wy, l, rfl, _⟩
    rfl
  · rintro X W C - ds Q E ⟨wy, l, rfl, h, hsm, l0, l1, q⟩
    obtain ⟨s20, e3⟩ := ends_small h hsm (n := 3) (by decide)
    have e2 := (ends_small h hsm (n := 2) (by decide)).2
    have pr := small_per h hsm
    have okT : (Way.table 2 3).Ok := ⟨by decide, by decide, by decide, by decide⟩
    refine sw_via (fun ρ' => ρ' = [some (.d (thD wy l)), some (.d wy.d), none]) ?_ ?_
    · walk_at "ev"
      rfl
    rintro ρ' rfl
    refine sw_lists C rfl rfl (by show 2 < 3; decide) (ao_o (eo_call C H1 ?_))
    walk_at "ev"
    refine ⟨wy, _, _, rfl, h, fun z => ?_, fun b eb _ _ => ⟨fun z => ?_, fun l' el _ _ us hu => ⟨_, rfl, fun q1 => ao_o (eo_call C H2 ?_)⟩⟩⟩
    · rw [from_true (by decide) (by decide)] at z
      cases z
    · rw [from_true (by omega) (by omega)] at z
      cases z
    cases eb
    cases el
    walk_at "ev"
    refine ⟨wy, _, ws3 wy, rfl, h, .inl rfl, by show 3 ≤ 20; decide, s20, ws3_each, e3, _, rfl, fun q2 => ao_o (eo_call C H3 ?_)⟩
    walk_at "ev"
    refine bw_mulL (by decide) (by decide) (by decide) ?_
    walk_at "ev"
    refine ⟨wy, _, 2, lnF, rfl, h, .inl rfl, by decide, fun d hd => ?_, by decide, s20, e2, _, rfl, fun q3 => ao_nil ?_⟩
    · rw [List.eq_of_mem_replicate hd]
      rfl
    refine ⟨_, _, _, .cons ⟨q1, rfl⟩ (.cons ⟨q2, rfl⟩ (.cons ⟨q3, rfl⟩ .nil)), ao_o (eo_call C H4 ?_)⟩
    walk_at "ev"
    refine ⟨_, _, rfl, .inl rfl, .inl ⟨[wy, .table 2 3], rfl, fun w hw => ?_, by show 2 ≤ 1000; decide, _, rfl, fun q4 => ao_o (eo_call C H5 ?_)⟩⟩
    · rcases List.mem_cons.mp hw with rfl | hw
      · exact h
      · rw [List.mem_singleton.mp hw]
        exact okT
    walk_at "ev"
    refine ⟨_, _, rfl, .inr ⟨wy, rfl, h, fun z => ?_, fun _ => ⟨fun z => ?_, fun l' el _ _ => ⟨_, rfl, fun q5 => ao_o (eo_call C H6 ?_)⟩⟩⟩⟩
    · omega
    · rw [from_true (by omega) (by omega)] at z
      cases z
    cases el
    walk_at "ev"
    refine ⟨_, _, rfl, .inr ⟨wy, rfl, h, fun z => ?_, fun _ => ⟨fun z => ?_, fun l' el _ _ => ⟨_, rfl, fun q6 => ao_nil ?_⟩⟩⟩⟩
    · omega
    · rw [from_true (by omega) (by omega)] at z
      cases z
    cases el
    exact ⟨_, _, _, .cons ⟨q4, rfl⟩ (.cons ⟨q5, rfl⟩ (.cons ⟨q6, rfl⟩ .nil)), q us hu⟩
theorem fn_law_listsD (A : At K mg "_law_lists" s_law_lists) (B : Blt mg) (H1 : Fn P w K mg base 6 "hits" (pHits K)) (H2 : Fn P w K mg base 6 "sent" pSent0) (H3 : Fn P w K mg base 6 "put_together" pPut0) (H4 : Fn P w K mg base 8 "best_ways" (pBest K)) (H5 : Fn P w K mg base 7 "burst_spread" (pAlong K Way.mostAt)) (H6 : Fn P w K mg base 7 "words_hit" (pAlong K Way.manyAt)) : Fn P w K mg base 9 "_law_lists" pListsD := by
  refine fn_def (vs := vs_law_lists) A sc_law_lists bd_law_lists ?_ (by decide +kernel) ?_
  · rintro ds Q E ⟨wy, l, rfl, _⟩
    rfl
  · rintro X W C - ds Q E ⟨wy, l, rfl, h, hsm, l0, l1, q⟩
    obtain ⟨s20, e3⟩ := ends_small h hsm (n := 3) (by decide)
    have e2 := (ends_small h hsm (n := 2) (by decide)).2
    have pr := small_per h hsm
    have okT : (Way.table 2 3).Ok := ⟨by decide, by decide, by decide, by decide⟩
    refine sw_via (fun ρ' => ρ' = [some (.d (thD wy l)), some (.d wy.d), none]) ?_ ?_
    · walk_at "ev"
      rfl
    rintro ρ' rfl
    walk_at "go"
    refine ⟨wy, _, _, rfl, h, fun z => ?_, fun b eb _ _ => ⟨fun z => ?_, fun l' el _ _ us hu => ⟨_, rfl, ?_⟩⟩⟩
    · rw [from_true (by decide) (by decide)] at z
      cases z
    · rw [from_true (by omega) (by omega)] at z
      cases z
    cases eb
    cases el
    walk_at "ev"
    refine ⟨wy, _, ws3 wy, rfl, h, .inl rfl, by show 3 ≤ 20; decide, s20, ws3_each, e3, _, rfl, ?_⟩
    walk_at "ev"
    refine bw_mulL (by decide) (by decide) (by decide) ?_
    walk_at "ev"
    refine ⟨wy, _, 2, lnF, rfl, h, .inl rfl, by decide, fun d hd => ?_, by decide, s20, e2, _, rfl, ?_⟩
    · rw [List.eq_of_mem_replicate hd]
      rfl
    walk_at "ev"
    refine ⟨_, _, rfl, .inl rfl, .inl ⟨[wy, .table 2 3], rfl, fun w hw => ?_, by show 2 ≤ 1000; decide, _, rfl, ?_⟩⟩
    · rcases List.mem_cons.mp hw with rfl | hw
      · exact h
      · rw [List.mem_singleton.mp hw]
        exact okT
    walk_at "ev"
    refine ⟨_, _, rfl, .inr ⟨wy, rfl, h, fun z => ?_, fun _ => ⟨fun z => ?_, fun l' el _ _ => ⟨_, rfl, ?_⟩⟩⟩⟩
    · omega
    · rw [from_true (by omega) (by omega)] at z
      cases z
    cases el
    walk_at "ev"
    refine ⟨_, _, rfl, .inr ⟨wy, rfl, h, fun z => ?_, fun _ => ⟨fun z => ?_, fun l' el _ _ => ⟨_, rfl, ?_⟩⟩⟩⟩
    · omega
    · rw [from_true (by omega) (by omega)] at z
      cases z
    cases el
    walk_at "ev"
    exact q us hu
theorem fn_law {f : Addr} {fd : FuncData} (F : FD K "law" s_law f fd) (B : Blt mg) (G0 : FnR P w K mg base 1 "_law_random") (G1 : FnO P w K mg base 1 "_law_below" (pD pBelow)) (Gw : FnO P w K mg base 3 "_law_way" (pD (pLawWay 20))) (Gs : Fn P w K mg base 1 "_law_signs" pSigns) (GN : Fn P w K mg base 9 "_law_lists" pListsN) (GD : Fn P w K mg base 9 "_law_lists" pListsD) : FnOk P w K mg base (L2.CX P w) 10 f fd ["_law_script"] (spLaw K) := by
  refine fn_okL (vs := vs_law) F sc_law (by decide +kernel) ?_
  intro X W C Fr ns hns
  clear F fd f
  refine sw_cons (s1_random C G0 (l := 0) rfl rfl rfl hns fun q => ?_)
  refine sw_via (fun ρ' => ∃ wy : Way, wy.Ok ∧ wy.Small 6 20 ∧ ρ' = [some (.scr ns), some (.own q .rs), some (.d wy.d), none, none, none, none, none]) ?_ ?_
  · walk_at "ev"
    exact ⟨rfl, 6, rfl, by decide, by decide, fun wy h hsm => ⟨wy, h, hsm, rfl⟩⟩
  rintro ρ' ⟨wy, h, hsm, rfl⟩
  have s0 := Way.signs_pos h
  have s20 := (ends_small h hsm (n := 3) (by decide)).1
  refine sw_via (fun ρ' => ∃ l : Int, 0 ≤ l ∧ l < 20 ∧ ρ' = [some (.scr ns), some (.own q .rs), some (.d wy.d), some (.d (thD wy l)), none, none, none, none]) (s1_set C rfl (ew_tup (aw_cons (ew_var C (by with_unfolding_all rfl) (by with_unfolding_all rfl) (aw_cons (ew_bin (ew_lst (aw_cons (ew_tupRg C B ?_))))))))) ?_
  · walk_at "ev"
    refine ⟨wy, rfl, _, rfl, _, rfl, ⟨by decide, by decide, by omega, by omega, by omega⟩, ?_⟩
    rw [rgD_zero]
    walk_at "ev"
    refine bw_mulL (by decide) (by decide) (by show 1 * 3 ≤ 16777216; decide) ?_
    walk_at "ev"
    refine ⟨rfl, 20, rfl, by decide, by decide, fun l l0 l1 => ?_⟩
    walk_at "ev"
    exact ⟨l, l0, l1, rfl⟩
  rintro ρ' ⟨l, l0, l1, rfl⟩
  refine sw_via (fun ρ' => ∃ us : List (Int × Int), wy.Hits 3 l us ∧ ρ' = [some (.scr ns), some (.own q .rs), some (.d wy.d), some (.d (thD wy l)), some (.d (lssD (lstsD wy l us))), none, none, none]) (s1_setLc C (vb := vb_law_0) (lb := lb_law_0) (iw_seq (ew_call C GD ?_))) ?_
  · walk_at "ev"
    refine ⟨wy, l, rfl, h, hsm, l0, l1, fun us hu => ⟨_, rfl, _, .inl rfl, by rw [List.length_map]; show 6 ≤ 16777216; decide, noOwn_of rfl, ?_⟩⟩
    refine lc_map (xs := lstsD wy l us) (enc := PyData.list) (f := PyData.list) rfl (fun x hx X C => ?_) ?_
    · walk_at "ev"
      exact ⟨rfl, rfl⟩
    · exact ⟨us, hu, rfl⟩
  rintro ρ' ⟨us, hu, rfl⟩
  refine sw_some C (i := 6) (j := 7) (l := 5) rfl rfl (by show 6 < 8; decide) (el_call C GN ?_)
  walk_at "ev"
  refine ⟨wy, l, rfl, h, hsm, l0, l1, fun us2 hu2 => ⟨_, rfl, ew_call C GD ?_⟩⟩
  walk_at "ev"
  refine ⟨wy, l, rfl, h, hsm, l0, l1, fun us3 hu3 => ⟨_, rfl, fun qo ds hds => ?_, ?_⟩⟩
  · have := lsts_len h hsm l1 hu2 ds hds
    refine sw_cons (s1_expr (ew_appO C (i := 5) (by with_unfolding_all rfl) rfl ?_))
    walk_at "ev"
    refine ⟨by omega, ?_⟩
    refine sw_cons (s1_expr (ew_revO C (i := 5) (by with_unfolding_all rfl) rfl ?_))
    exact sw_nil ⟨_, rfl⟩
  cases hits_uniq hu hu3
  have sh := lsts_shp wy l us
  refine sw_same (s1_if (tw_cmp (ew_lc C (vb := vb_law_1) (lb := lb_law_1) (iw_seq ?_)))) ?_
  · walk_at "ev"
    refine ⟨_, .inl rfl, by rw [List.length_map]; show 6 ≤ 16777216; decide, noOwn_of rfl, ?_⟩
    refine lc_map (xs := lstsD wy l us) (enc := PyData.list) (f := PyData.list) rfl (fun x hx X C => ?_) ?_
    · walk_at "ev"
      exact ⟨rfl, rfl⟩
    walk_at "ev"
    refine bw_neD C.room (shaped_of 4 sh) (shaped_of 4 sh) ?_
    rw [eqv_self 4 _ sh]
    walk_at "run"
    rfl
  refine sw_cons (s1_ret (ew_cmp (ew_lc C (vb := vb_law_2) (lb := lb_law_2) (iw_seq (ew_call C GD ?_)))))
  walk_at "ev"
  refine ⟨wy, l, rfl, h, hsm, l0, l1, fun us4 hu4 => ⟨_, rfl, _, .inl rfl, by rw [List.length_map]; show 6 ≤ 16777216; decide, noOwn_of rfl, ?_⟩⟩
  cases hits_uniq hu hu4
  refine lc_map (xs := lstsD wy l us) (enc := PyData.list) (f := PyData.list) rfl (fun x hx X C => ?_) ?_
  · walk_at "ev"
    exact ⟨rfl, rfl⟩
  walk_at "ev"
  refine bw_eqD C.room (shaped_of 4 sh) (shaped_of 4 sh) ?_
  rw [eqv_self 4 _ sh]
end

def hfa0 : List He.Fa := [.glo "is_integer", .glo "is_from", .glo "are_places", .glo "is_way", .glo "check_way", .glo "signs_of", .glo "words_of", .glo "goes_by", .glo "comes_by", .glo "check_length", .glo "spacing", .glo "parts_of", .glo "rows_of", .glo "inside", .glo "most_by", .glo "hits", .glo "never_worse", .glo "is_beaten", .glo "best_ways", .glo "period_of", .glo "check_period", .glo "far_begin", .glo "counted", .glo "burst_spread", .glo "words_hit", .glo "check_sent", .glo "ends_at", .glo "check_words", .glo "sent", .glo "put_together"]
def hfa1 : List He.Fa := [.glo "_law_random", .glo "_law_below", .glo "_law_pick", .glo "_law_way", .glo "_law_signs", .glo "_law_lists", .glo "law", .glo "BurstError", .exc "BurstError", .glo "BadWay", .exc "BadWay", .glo "BadPlace", .exc "BadPlace", .glo "BadLength", .exc "BadLength", .glo "BadMany", .exc "BadMany", .glo "TooGreat", .exc "TooGreat", .glo "BadWords", .glo "BadLine", .int "MOST_NUMBER" (1000000000000000), .int "MOST_PLACE" (1000000000000000000000000000000), .int "MOST_TOLD" (60), .int "MOST_HIT" (500), .int "MOST_PERIOD" (500), .int "MOST_BURST" (200), .int "MOST_SENT" (20), .int "MOST_SIGNS" (20), .int "MOST_LONG" (2000)]
def hfa2 : List He.Fa := [.free "isinstance", .free "int", .free "bool", .free "str", .free "tuple", .free "list", .free "dict", .free "set", .free "len", .free "range", .free "enumerate", .free "max", .free "min", .free "sorted", .free "all", .free "any", .free "abs"]
def hfa : List He.Fa := hfa0 ++ hfa1 ++ hfa2
def hfn0 : List He.DefD := [⟨("is_integer", none), "is_integer", "is_integer", defArgs s_is_integer, defBody s_is_integer, defScope s_is_integer, [], []⟩, ⟨("is_from", none), "is_from", "is_from", defArgs s_is_from, defBody s_is_from, defScope s_is_from, [], []⟩, ⟨("are_places", none), "are_places", "are_places", defArgs s_are_places, defBody s_are_places, defScope s_are_places, [], []⟩, ⟨("is_way", none), "is_way", "is_way", defArgs s_is_way, defBody s_is_way, defScope s_is_way, [], []⟩, ⟨("check_way", none), "check_way", "check_way", defArgs s_check_way, defBody s_check_way, defScope s_check_way, [], []⟩, ⟨("signs_of", none), "signs_of", "signs_of", defArgs s_signs_of, defBody s_signs_of, defScope s_signs_of, [], []⟩, ⟨("words_of", none), "words_of", "words_of", defArgs s_words_of, defBody s_words_of, defScope s_words_of, [], []⟩, ⟨("goes_by", none), "goes_by", "goes_by", defArgs s_goes_by, defBody s_goes_by, defScope s_goes_by, [], []⟩, ⟨("comes_by", none), "comes_by", "comes_by", defArgs s_comes_by, defBody s_comes_by, defScope s_comes_by, [], []⟩, ⟨("check_length", none), "check_length", "check_length", defArgs s_check_length, defBody s_check_length, defScope s_check_length, [], []⟩, ⟨("spacing", none), "spacing", "spacing", defArgs s_spacing, defBody s_spacing, defScope s_spacing, [], []⟩, ⟨("parts_of", none), "parts_of", "parts_of", defArgs s_parts_of, defBody s_parts_of, defScope s_parts_of, [], []⟩, ⟨("rows_of", none), "rows_of", "rows_of", defArgs s_rows_of, defBody s_rows_of, defScope s_rows_of, [], []⟩, ⟨("inside", none), "inside", "inside", defArgs s_inside, defBody s_inside, defScope s_inside, [], []⟩, ⟨("most_by", none), "most_by", "most_by", defArgs s_most_by, defBody s_most_by, defScope s_most_by, [], []⟩, ⟨("hits", none), "hits", "hits", defArgs s_hits, defBody s_hits, defScope s_hits, [], []⟩, ⟨("never_worse", none), "never_worse", "never_worse", defArgs s_never_worse, defBody s_never_worse, defScope s_never_worse, [], []⟩, ⟨("is_beaten", none), "is_beaten", "is_beaten", defArgs s_is_beaten, defBody s_is_beaten, defScope s_is_beaten, [], []⟩, ⟨("best_ways", none), "best_ways", "best_ways", defArgs s_best_ways, defBody s_best_ways, defScope s_best_ways, [], []⟩, ⟨("period_of", none), "period_of", "period_of", defArgs s_period_of, defBody s_period_of, defScope s_period_of, [], []⟩, ⟨("check_period", none), "check_period", "check_period", defArgs s_check_period, defBody s_check_period, defScope s_check_period, [], []⟩, ⟨("far_begin", none), "far_begin", "far_begin", defArgs s_far_begin, defBody s_far_begin, defScope s_far_begin, [], []⟩, ⟨("counted", none), "counted", "counted", defArgs s_counted, defBody s_counted, defScope s_counted, [], []⟩, ⟨("burst_spread", none), "burst_spread", "burst_spread", defArgs s_burst_spread, defBody s_burst_spread, defScope s_burst_spread, [], []⟩, ⟨("words_hit", none), "words_hit", "words_hit", defArgs s_words_hit, defBody s_words_hit, defScope s_words_hit, [], []⟩, ⟨("check_sent", none), "check_sent", "check_sent", defArgs s_check_sent, defBody s_check_sent, defScope s_check_sent, [], []⟩, ⟨("ends_at", none), "ends_at", "ends_at", defArgs s_ends_at, defBody s_ends_at, defScope s_ends_at, [], []⟩, ⟨("check_words", none), "check_words", "check_words", defArgs s_check_words, defBody s_check_words, defScope s_check_words, [], []⟩, ⟨("sent", none), "sent", "sent", defArgs s_sent, defBody s_sent, defScope s_sent, [], []⟩, ⟨("put_together", none), "put_together", "put_together", defArgs s_put_together, defBody s_put_together, defScope s_put_together, [], []⟩]
def hfn1 : List He.DefD := [⟨("_law_random", none), "_law_random", "_law_random", defArgs s_law_random, defBody s_law_random, defScope s_law_random, [], []⟩, ⟨("_law_below", none), "_law_below", "_law_below", defArgs s_law_below, defBody s_law_below, defScope s_law_below, [], []⟩, ⟨("_law_pick", none), "_law_pick", "_law_pick", defArgs s_law_pick, defBody s_law_pick, defScope s_law_pick, [], []⟩, ⟨("_law_way", none), "_law_way", "_law_way", defArgs s_law_way, defBody s_law_way, defScope s_law_way, [], []⟩, ⟨("_law_signs", none), "_law_signs", "_law_signs", defArgs s_law_signs, defBody s_law_signs, defScope s_law_signs, [], []⟩, ⟨("_law_lists", none), "_law_lists", "_law_lists", defArgs s_law_lists, defBody s_law_lists, defScope s_law_lists, [], []⟩, ⟨("law", none), "law", "law", defArgs s_law, defBody s_law, defScope s_law, [], []⟩]
def hfn : List He.DefD := hfn0 ++ hfn1
def hnm0 : List Str := ["__name__", "BurstError", "BadWay", "BadPlace", "BadLength", "BadMany", "TooGreat", "BadWords", "BadLine", "MOST_NUMBER", "MOST_PLACE", "MOST_TOLD", "is_integer", "is_from", "are_places", "is_way", "check_way", "signs_of", "words_of", "goes_by", "comes_by", "MOST_HIT", "check_length", "spacing", "parts_of", "rows_of", "inside", "most_by", "hits", "never_worse"]
def hnm1 : List Str := ["MOST_PERIOD", "MOST_BURST", "is_beaten", "best_ways", "period_of", "check_period", "far_begin", "counted", "burst_spread", "words_hit", "MOST_SENT", "MOST_SIGNS", "MOST_LONG", "check_sent", "ends_at", "check_words", "sent", "put_together", "_law_random", "_law_below", "_law_pick", "_law_way", "_law_signs", "_law_lists"]
def hnm : List Str := hnm0 ++ hnm1
abbrev hR : PySem.W.OpenRow := PySem.W.OpenLaw.row PySem.Challenge.rw_burstsapart_k22_answers_are_new
abbrev hHk : PySem.W.Hook := He.hookD 6 hfa hfn
def hOb (s : PySem.W.SharedT) : He.AlD := He.obsDG 6 hfa hfn (HandSHeadRun.getT s)
theorem hOb_eq (s : PySem.W.SharedT) : hOb s = hHk.obs s.abs := He.obsDG_eq (HandSHeadRun.getT_eq s)
theorem hRun (w : World) : HandSHeadRun.RunEq hR (PySem.W.view hR.prog [60]) hHk hOb 6000 hnm w := by
  intro os
  kernel_rfl
section
variable {K : PySem.W.Frag} {h : Heap} {mg : Str → Option Value}
theorem at_is_integer (X : K.In h) (G : h.Ns mainGlobals mg) (c : He.SaysD hfa hfn K) : At K mg "is_integer" s_is_integer := at_of X G c 0 0 rfl rfl
theorem at_is_from (X : K.In h) (G : h.Ns mainGlobals mg) (c : He.SaysD hfa hfn K) : At K mg "is_from" s_is_from := at_of X G c 1 1 rfl rfl
theorem at_are_places (X : K.In h) (G : h.Ns mainGlobals mg) (c : He.SaysD hfa hfn K) : At K mg "are_places" s_are_places := at_of X G c 2 2 rfl rfl
theorem at_is_way (X : K.In h) (G : h.Ns mainGlobals mg) (c : He.SaysD hfa hfn K) : At K mg "is_way" s_is_way := at_of X G c 3 3 rfl rfl
theorem at_check_way (X : K.In h) (G : h.Ns mainGlobals mg) (c : He.SaysD hfa hfn K) : At K mg "check_way" s_check_way := at_of X G c 4 4 rfl rfl
theorem at_signs_of (X : K.In h) (G : h.Ns mainGlobals mg) (c : He.SaysD hfa hfn K) : At K mg "signs_of" s_signs_of := at_of X G c 5 5 rfl rfl
theorem at_words_of (X : K.In h) (G : h.Ns mainGlobals mg) (c : He.SaysD hfa hfn K) : At K mg "words_of" s_words_of := at_of X G c 6 6 rfl rfl
theorem at_goes_by (X : K.In h) (G : h.Ns mainGlobals mg) (c : He.SaysD hfa hfn K) : At K mg "goes_by" s_goes_by := at_of X G c 7 7 rfl rfl
theorem at_comes_by (X : K.In h) (G : h.Ns mainGlobals mg) (c : He.SaysD hfa hfn K) : At K mg "comes_by" s_comes_by := at_of X G c 8 8 rfl rfl
theorem at_check_length (X : K.In h) (G : h.Ns mainGlobals mg) (c : He.SaysD hfa hfn K) : At K mg "check_length" s_check_length := at_of X G c 9 9 rfl rfl
theorem at_spacing (X : K.In h) (G : h.Ns mainGlobals mg) (c : He.SaysD hfa hfn K) : At K mg "spacing" s_spacing := at_of X G c 10 10 rfl rfl
theorem at_parts_of (X : K.In h) (G : h.Ns mainGlobals mg) (c : He.SaysD hfa hfn K) : At K mg "parts_of" s_parts_of := at_of X G c 11 11 rfl rfl
theorem at_rows_of (X : K.In h) (G : h.Ns mainGlobals mg) (c : He.SaysD hfa hfn K) : At K mg "rows_of" s_rows_of := at_of X G c 12 12 rfl rfl
theorem at_inside (X : K.In h) (G : h.Ns mainGlobals mg) (c : He.SaysD hfa hfn K) : At K mg "inside" s_inside := at_of X G c 13 13 rfl rfl
theorem at_most_by (X : K.In h) (G : h.Ns mainGlobals mg) (c : He.SaysD hfa hfn K) : At K mg "most_by" s_most_by := at_of X G c 14 14 rfl rfl
theorem at_hits (X : K.In h) (G : h.Ns mainGlobals mg) (c : He.SaysD hfa hfn K) : At K mg "hits" s_hits := at_of X G c 15 15 rfl rfl
theorem at_never_worse (X : K.In h) (G : h.Ns mainGlobals mg) (c : He.SaysD hfa hfn K) : At K mg "never_worse" s_never_worse := at_of X G c 16 16 rfl rfl
theorem at_is_beaten (X : K.In h) (G : h.Ns mainGlobals mg) (c : He.SaysD hfa hfn K) : At K mg "is_beaten" s_is_beaten := at_of X G c 17 17 rfl rfl
theorem at_best_ways (X : K.In h) (G : h.Ns mainGlobals mg) (c : He.SaysD hfa hfn K) : At K mg "best_ways" s_best_ways := at_of X G c 18 18 rfl rfl
theorem at_period_of (X : K.In h) (G : h.Ns mainGlobals mg) (c : He.SaysD hfa hfn K) : At K mg "period_of" s_period_of := at_of X G c 19 19 rfl rfl
theorem at_check_period (X : K.In h) (G : h.Ns mainGlobals mg) (c : He.SaysD hfa hfn K) : At K mg "check_period" s_check_period := at_of X G c 20 20 rfl rfl
theorem at_far_begin (X : K.In h) (G : h.Ns mainGlobals mg) (c : He.SaysD hfa hfn K) : At K mg "far_begin" s_far_begin := at_of X G c 21 21 rfl rfl
theorem at_counted (X : K.In h) (G : h.Ns mainGlobals mg) (c : He.SaysD hfa hfn K) : At K mg "counted" s_counted := at_of X G c 22 22 rfl rfl
theorem at_burst_spread (X : K.In h) (G : h.Ns mainGlobals mg) (c : He.SaysD hfa hfn K) : At K mg "burst_spread" s_burst_spread := at_of X G c 23 23 rfl rfl
theorem at_words_hit (X : K.In h) (G : h.Ns mainGlobals mg) (c : He.SaysD hfa hfn K) : At K mg "words_hit" s_words_hit := at_of X G c 24 24 rfl rfl
theorem at_check_sent (X : K.In h) (G : h.Ns mainGlobals mg) (c : He.SaysD hfa hfn K) : At K mg "check_sent" s_check_sent := at_of X G c 25 25 rfl rfl
theorem at_ends_at (X : K.In h) (G : h.Ns mainGlobals mg) (c : He.SaysD hfa hfn K) : At K mg "ends_at" s_ends_at := at_of X G c 26 26 rfl rfl
theorem at_check_words (X : K.In h) (G : h.Ns mainGlobals mg) (c : He.SaysD hfa hfn K) : At K mg "check_words" s_check_words := at_of X G c 27 27 rfl rfl
theorem at_sent (X : K.In h) (G : h.Ns mainGlobals mg) (c : He.SaysD hfa hfn K) : At K mg "sent" s_sent := at_of X G c 28 28 rfl rfl
theorem at_put_together (X : K.In h) (G : h.Ns mainGlobals mg) (c : He.SaysD hfa hfn K) : At K mg "put_together" s_put_together := at_of X G c 29 29 rfl rfl
theorem at_law_random (X : K.In h) (G : h.Ns mainGlobals mg) (c : He.SaysD hfa hfn K) : At K mg "_law_random" s_law_random := at_of X G c 30 30 rfl rfl
theorem at_law_below (X : K.In h) (G : h.Ns mainGlobals mg) (c : He.SaysD hfa hfn K) : At K mg "_law_below" s_law_below := at_of X G c 31 31 rfl rfl
theorem at_law_pick (X : K.In h) (G : h.Ns mainGlobals mg) (c : He.SaysD hfa hfn K) : At K mg "_law_pick" s_law_pick := at_of X G c 32 32 rfl rfl
theorem at_law_way (X : K.In h) (G : h.Ns mainGlobals mg) (c : He.SaysD hfa hfn K) : At K mg "_law_way" s_law_way := at_of X G c 33 33 rfl rfl
theorem at_law_signs (X : K.In h) (G : h.Ns mainGlobals mg) (c : He.SaysD hfa hfn K) : At K mg "_law_signs" s_law_signs := at_of X G c 34 34 rfl rfl
theorem at_law_lists (X : K.In h) (G : h.Ns mainGlobals mg) (c : He.SaysD hfa hfn K) : At K mg "_law_lists" s_law_lists := at_of X G c 35 35 rfl rfl
theorem at_law (X : K.In h) (G : h.Ns mainGlobals mg) (c : He.SaysD hfa hfn K) : At K mg "law" s_law := at_of X G c 36 36 rfl rfl
theorem gl_BurstError (X : K.In h) (G : h.Ns mainGlobals mg) (c : He.SaysD hfa hfn K) : mg "BurstError" = some (.ref (cA K "BurstError")) := He.glo_ok X G (c.fact 37 (f := .glo "BurstError") rfl)
theorem ex_BurstError (X : K.In h) (G : h.Ns mainGlobals mg) (c : He.SaysD hfa hfn K) : ExC K mg "BurstError" (cA K "BurstError") := ex_of X G c 38 37 rfl rfl
theorem gl_BadWay (X : K.In h) (G : h.Ns mainGlobals mg) (c : He.SaysD hfa hfn K) : mg "BadWay" = some (.ref (cA K "BadWay")) := He.glo_ok X G (c.fact 39 (f := .glo "BadWay") rfl)
theorem ex_BadWay (X : K.In h) (G : h.Ns mainGlobals mg) (c : He.SaysD hfa hfn K) : ExC K mg "BadWay" (cA K "BadWay") := ex_of X G c 40 39 rfl rfl
theorem gl_BadPlace (X : K.In h) (G : h.Ns mainGlobals mg) (c : He.SaysD hfa hfn K) : mg "BadPlace" = some (.ref (cA K "BadPlace")) := He.glo_ok X G (c.fact 41 (f := .glo "BadPlace") rfl)
theorem ex_BadPlace (X : K.In h) (G : h.Ns mainGlobals mg) (c : He.SaysD hfa hfn K) : ExC K mg "BadPlace" (cA K "BadPlace") := ex_of X G c 42 41 rfl rfl
theorem gl_BadLength (X : K.In h) (G : h.Ns mainGlobals mg) (c : He.SaysD hfa hfn K) : mg "BadLength" = some (.ref (cA K "BadLength")) := He.glo_ok X G (c.fact 43 (f := .glo "BadLength") rfl)
theorem ex_BadLength (X : K.In h) (G : h.Ns mainGlobals mg) (c : He.SaysD hfa hfn K) : ExC K mg "BadLength" (cA K "BadLength") := ex_of X G c 44 43 rfl rfl
theorem gl_BadMany (X : K.In h) (G : h.Ns mainGlobals mg) (c : He.SaysD hfa hfn K) : mg "BadMany" = some (.ref (cA K "BadMany")) := He.glo_ok X G (c.fact 45 (f := .glo "BadMany") rfl)
theorem ex_BadMany (X : K.In h) (G : h.Ns mainGlobals mg) (c : He.SaysD hfa hfn K) : ExC K mg "BadMany" (cA K "BadMany") := ex_of X G c 46 45 rfl rfl
theorem gl_TooGreat (X : K.In h) (G : h.Ns mainGlobals mg) (c : He.SaysD hfa hfn K) : mg "TooGreat" = some (.ref (cA K "TooGreat")) := He.glo_ok X G (c.fact 47 (f := .glo "TooGreat") rfl)
theorem ex_TooGreat (X : K.In h) (G : h.Ns mainGlobals mg) (c : He.SaysD hfa hfn K) : ExC K mg "TooGreat" (cA K "TooGreat") := ex_of X G c 48 47 rfl rfl
theorem gl_BadWords (X : K.In h) (G : h.Ns mainGlobals mg) (c : He.SaysD hfa hfn K) : mg "BadWords" = some (.ref (cA K "BadWords")) := He.glo_ok X G (c.fact 49 (f := .glo "BadWords") rfl)
theorem gl_BadLine (X : K.In h) (G : h.Ns mainGlobals mg) (c : He.SaysD hfa hfn K) : mg "BadLine" = some (.ref (cA K "BadLine")) := He.glo_ok X G (c.fact 50 (f := .glo "BadLine") rfl)
theorem gi_MOST_NUMBER (X : K.In h) (G : h.Ns mainGlobals mg) (c : He.SaysD hfa hfn K) : GI mg "MOST_NUMBER" (1000000000000000) := gi_of X G c 51 rfl
theorem gi_MOST_PLACE (X : K.In h) (G : h.Ns mainGlobals mg) (c : He.SaysD hfa hfn K) : GI mg "MOST_PLACE" (1000000000000000000000000000000) := gi_of X G c 52 rfl
theorem gi_MOST_TOLD (X : K.In h) (G : h.Ns mainGlobals mg) (c : He.SaysD hfa hfn K) : GI mg "MOST_TOLD" (60) := gi_of X G c 53 rfl
theorem gi_MOST_HIT (X : K.In h) (G : h.Ns mainGlobals mg) (c : He.SaysD hfa hfn K) : GI mg "MOST_HIT" (500) := gi_of X G c 54 rfl
theorem gi_MOST_PERIOD (X : K.In h) (G : h.Ns mainGlobals mg) (c : He.SaysD hfa hfn K) : GI mg "MOST_PERIOD" (500) := gi_of X G c 55 rfl
theorem gi_MOST_BURST (X : K.In h) (G : h.Ns mainGlobals mg) (c : He.SaysD hfa hfn K) : GI mg "MOST_BURST" (200) := gi_of X G c 56 rfl
theorem gi_MOST_SENT (X : K.In h) (G : h.Ns mainGlobals mg) (c : He.SaysD hfa hfn K) : GI mg "MOST_SENT" (20) := gi_of X G c 57 rfl
theorem gi_MOST_SIGNS (X : K.In h) (G : h.Ns mainGlobals mg) (c : He.SaysD hfa hfn K) : GI mg "MOST_SIGNS" (20) := gi_of X G c 58 rfl
theorem gi_MOST_LONG (X : K.In h) (G : h.Ns mainGlobals mg) (c : He.SaysD hfa hfn K) : GI mg "MOST_LONG" (2000) := gi_of X G c 59 rfl
theorem blt_of (X : K.In h) (G : h.Ns mainGlobals mg) (c : He.SaysD hfa hfn K) : Blt mg := ⟨He.free_ok X G (c.fact 60 (f := .free "isinstance") rfl), He.free_ok X G (c.fact 61 (f := .free "int") rfl), He.free_ok X G (c.fact 62 (f := .free "bool") rfl), He.free_ok X G (c.fact 63 (f := .free "str") rfl), He.free_ok X G (c.fact 64 (f := .free "tuple") rfl), He.free_ok X G (c.fact 65 (f := .free "list") rfl), He.free_ok X G (c.fact 66 (f := .free "dict") rfl), He.free_ok X G (c.fact 67 (f := .free "set") rfl), He.free_ok X G (c.fact 68 (f := .free "len") rfl), He.free_ok X G (c.fact 69 (f := .free "range") rfl), He.free_ok X G (c.fact 70 (f := .free "enumerate") rfl), He.free_ok X G (c.fact 71 (f := .free "max") rfl), He.free_ok X G (c.fact 72 (f := .free "min") rfl), He.free_ok X G (c.fact 73 (f := .free "sorted") rfl), He.free_ok X G (c.fact 74 (f := .free "all") rfl), He.free_ok X G (c.fact 75 (f := .free "any") rfl), He.free_ok X G (c.fact 76 (f := .free "abs") rfl)⟩
end
theorem law_end {P : Program} {w : World} {K : PySem.W.Frag} {h : Heap} {mg : Str → Option Value} {f : Addr} (X : K.In h) (G : h.Ns mainGlobals mg) (hlw : mg ("law" : Str) = some (.ref f)) (c : He.SaysD hfa hfn K) :
    ∃ fd : FuncData, (∀ (s : Shared) (v : Value), BindsTo s fd ⟨[v], []⟩ [("_law_script", v)]) ∧ ∀ base : Heap, K.In base → base.Ns mainGlobals mg → FnOk P w K mg base (L2.CX P w) 10 f fd ["_law_script"] (spLaw K) := by
  obtain ⟨f', fd, F, hm⟩ := at_law X G c
  cases hlw.symm.trans hm
  have b := FunD.bindsA (ps := ["_law_script"]) F fun _ _ _ _ _ _ us hl => match us, hl with | [_], _ => rfl
  refine ⟨fd, fun s v => b s [v] rfl, fun base _ _ => ?_⟩
  have B := blt_of X G c
  have b_rand := fn_law_random (P := P) (w := w) (base := base) (at_law_random X G c) B
  have b_below := fn_law_below (P := P) (w := w) (base := base) (at_law_below X G c) B
  have b_pick := fn_law_pick (at_law_pick X G c) B b_below
  have b_way := fn_law_way (at_law_way X G c) B b_below b_pick
  have l_signs := fn_law_signs (P := P) (w := w) (base := base) (at_law_signs X G c) B
  have g_int := fn_is_integer (P := P) (w := w) (base := base) (at_is_integer X G c) B
  have g_from := fn_is_from (at_is_from X G c) B g_int
  have g_places := fn_are_places (at_are_places X G c) B (gi_MOST_TOLD X G c) g_from
  have g_isway := fn_is_way (at_is_way X G c) B (gi_MOST_TOLD X G c) (gi_MOST_NUMBER X G c) g_from g_places
  have g_way := fn_check_way (at_check_way X G c) (ex_BadWay X G c) g_isway
  have u_len := fn_check_length (at_check_length X G c) B (ex_BadLength X G c) g_from
  have w_signs := fn_signs_of (P := P) (w := w) (base := base) (at_signs_of X G c) B
  have w_words := fn_words_of (P := P) (w := w) (base := base) (at_words_of X G c) B
  have w_comesby := fn_comes_by (at_comes_by X G c) B w_signs w_words
  have u_hits := fn_hits (at_hits X G c) B (gi_MOST_PLACE X G c) (gi_MOST_HIT X G c) (ex_BadPlace X G c) g_way g_from u_len w_comesby
  have x_cwords := fn_check_words0 (at_check_words X G c) B (gi_MOST_SENT X G c) w_signs g_int
  have w_goesby := fn_goes_by (at_goes_by X G c) B w_signs w_words
  have x_ends := fn_ends_at (at_ends_at X G c) B w_signs w_goesby
  have x_csent := fn_check_sent (at_check_sent X G c) B (gi_MOST_SIGNS X G c) (gi_MOST_LONG X G c) (ex_TooGreat X G c) w_signs x_ends
  have x_sent := fn_sent0 (at_sent X G c) B g_way x_cwords x_csent x_ends w_goesby
  have x_put := fn_put0 (at_put_together X G c) B (gi_MOST_SENT X G c) g_way g_from g_int x_csent w_goesby w_signs
  have u_space := fn_spacing (P := P) (w := w) (base := base) (at_spacing X G c) B
  have u_parts := fn_parts_of (P := P) (w := w) (base := base) (at_parts_of X G c) B
  have u_rows := fn_rows_of (at_rows_of X G c) B w_signs w_words w_goesby
  have u_inside := fn_inside (P := P) (w := w) (base := base) (at_inside X G c) B
  have u_mostby := fn_most_by (at_most_by X G c) B w_signs u_space u_parts u_rows u_inside
  have c_never := fn_never_worse (at_never_worse X G c) B g_way w_signs u_space u_mostby
  have x_beaten := fn_is_beaten (at_is_beaten X G c) B c_never
  have x_best := fn_best_ways (at_best_ways X G c) B g_way x_beaten
  have x_period := fn_period_of (at_period_of X G c) w_signs w_words
  have x_cperiod := fn_check_period (at_check_period X G c) (gi_MOST_PERIOD X G c) (gi_MOST_BURST X G c) (ex_TooGreat X G c) (ex_BadLength X G c) g_way x_period g_from
  have x_counted := fn_counted (at_counted X G c) B w_comesby
  have x_far := fn_far_begin (at_far_begin X G c) w_signs
  have x_spread := fn_burst_spread (at_burst_spread X G c) B x_cperiod x_period x_counted x_far
  have x_whit := fn_words_hit (at_words_hit X G c) B x_cperiod x_period x_counted x_far
  have x_lsn := fn_law_listsN (at_law_lists X G c) B u_hits x_sent x_put x_best x_spread x_whit
  have x_lsd := fn_law_listsD (at_law_lists X G c) B u_hits x_sent x_put x_best x_spread x_whit
  exact fn_law F B b_rand b_below b_way l_signs x_lsn x_lsd

end T
open PySem PySem.W PySem.Calls PyProof.Rows
theorem PySem.Challenge.cw_burstsapart_k22_answers_are_new_holds : PySem.Challenge.rw_burstsapart_k22_answers_are_new.Holds := by
  w_on; o_law
  refine HandSHeadRun.head_any (r := T.hR) (q := PySem.W.view T.hR.prog [60]) (H := T.hHk) (ob := T.hOb) (M := 6000) (loose := T.hnm) (d := HandSHeadRun.topDef T.hR.prog 60) (kwd := []) T.hOb_eq (by kernel_rfl) (fun s => by kernel_rfl) T.hRun
    (by kernel_rfl) (by kernel_rfl) (by kernel_rfl) (by rfl) (by first | assumption | decide +kernel) (by decide +kernel) ⟨rfl, rfl, rfl, rfl, rfl, by decide +kernel⟩ ?hw ?hc
  case hw => w_witness2
  case hc =>
    refine Bp.walk_at_world (l := PySem.Challenge.rw_burstsapart_k22_answers_are_new) (n := 63) (k := 10) (x := "_law_script") rfl (by decide) (by kernel_rfl) ⟨rfl, by decide, by decide⟩ ?F
    intro w mg fa h Y G hmg0
    obtain ⟨K, KX, c⟩ := Y
    have hmg : mg ("law" : PySem.Str) = some (.ref fa) := by
      have e : (HandSHeadRun.topDef T.hR.prog 60).name = ("law" : PySem.Str) := by kernel_rfl
      rw [← e]
      exact hmg0
    obtain ⟨fd, hb, hF⟩ := T.law_end (P := (PySem.Challenge.rw_burstsapart_k22_answers_are_new).prog) (w := w) KX G hmg c
    exact ⟨K, fd, Bp.spLaw K, KX, hb, fun H a ns hl _ hS => ⟨a, ns, rfl, hS, hl, fun _ => rfl⟩, hF⟩
