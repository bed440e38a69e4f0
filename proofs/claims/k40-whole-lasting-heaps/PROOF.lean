import PyProof.Rows.All
import Wide.All
import OpenK.AllK
import Wide.FinOn
import HandS.ForMost
import HandS.Codes
import HandS.Deep
import HandS.IsInst
import HandS.TupAny
import HandS.Conv
import HandS.SortInts
import KE.KTupSum
import KE.DataMinMax
import KE.SortData
import OpenK.KOps
import KE.KSortAsk
import HandS.NamedTupSort
import PyProof.ListStr
import PyProof.CollectStr
import KE.GoesNew
import HandS.Zip
import HandS.DictComp
import HandS.WordsDict
import HandS.Replace
import HandS.Style
import HandS.ReplaceList
import PySem.Challenge.RW_webreckon_k40_whole_lasting_heaps
set_option Elab.async false
set_option linter.all false
section
set_option maxRecDepth 100000
set_option maxHeartbeats 1000000
/-! A calculus over HandS: the heap in two parts (what stands still, what changes), judgements over data alone. -/
namespace Wr
open PySem L2

/-! ### the heap in two parts -/
def join (I M : Hp) : Hp := fun a => match I a with
  | some o => some o
  | none => M a
def Dis (I M : Hp) : Prop := ∀ a o, I a = some o → M a = none
section
variable {I I1 I2 M M1 : Hp} {a p : Addr} {o u : HO}
theorem join_I (h : I a = some o) : join I M a = some o := by unfold join; rw [h]
theorem join_M (d : Dis I M) (h : M a = some o) : join I M a = some o := by
  unfold join
  cases e : I a with
  | none => exact h
  | some u =>
    rw [d a u e] at h
    cases h
theorem join_none (h : join I M a = none) : I a = none ∧ M a = none := by
  unfold join at h
  cases e : I a with
  | none =>
    rw [e] at h
    exact ⟨rfl, h⟩
  | some u =>
    rw [e] at h
    cases h
theorem same_join : Same I (join I M) := fun _ _ h => join_I h
theorem upd_I : upd (join I M) p o = join (upd I p o) M := by
  funext b
  by_cases hb : b = p
  · subst hb
    rw [upd_same, join_I upd_same]
  · rw [upd_ne hb]
    unfold join
    rw [upd_ne hb]
theorem upd_M (h : I p = none) : upd (join I M) p o = join I (upd M p o) := by
  funext b
  by_cases hb : b = p
  · subst hb
    rw [upd_same]
    unfold join
    rw [h]
    exact upd_same.symm
  · rw [upd_ne hb]
    unfold join
    rw [upd_ne hb]
theorem Dis.newI (d : Dis I M) (h : M p = none) : Dis (upd I p o) M := fun b x e => by
  by_cases hb : b = p
  · rw [hb]; exact h
  · rw [upd_ne hb] at e
    exact d b x e
theorem Dis.newM (d : Dis I M) (h : I p = none) : Dis I (upd M p o) := fun b x e => by
  rw [upd_ne (fun z => by rw [z, h] at e; cases e)]
  exact d b x e
theorem Dis.noI (d : Dis I M) (h : M p = some o) : I p = none := by
  cases e : I p with
  | none => rfl
  | some u =>
    rw [d p u e] at h
    cases h
theorem same_new (h : I p = none) : Same I (upd I p o) := fun b x e => by
  rw [upd_ne (ne_of_none e h)]
  exact e
end
/-! .. and a third that nobody here looks at -/
def J3 (I M F : Hp) : Hp := join I (join M F)
structure Ds (I M F : Hp) : Prop where
  im : Dis I (join M F)
  mf : Dis M F
section
variable {I I1 I2 M M1 F : Hp} {a p : Addr} {o u : HO}
theorem j3_I (h : I a = some o) : J3 I M F a = some o := join_I h
theorem j3_M (d : Ds I M F) (h : M a = some o) : J3 I M F a = some o := join_M d.im (join_I h)
theorem j3_none (h : J3 I M F a = none) : I a = none ∧ M a = none ∧ F a = none := by
  obtain ⟨h1, h2⟩ := join_none h
  exact ⟨h1, join_none h2⟩
theorem same_j3 : Same I (J3 I M F) := same_join
theorem upd_I3 : upd (J3 I M F) p o = J3 (upd I p o) M F := upd_I
theorem upd_M3 (h : I p = none) : upd (J3 I M F) p o = J3 I (upd M p o) F := by
  unfold J3
  rw [upd_M h, upd_I]
theorem Ds.newI (d : Ds I M F) (h : J3 I M F p = none) : Ds (upd I p o) M F := ⟨d.im.newI (join_none h).2, d.mf⟩
theorem Ds.noI (d : Ds I M F) (h : M p = some o) : I p = none := d.im.noI (join_I h)
theorem Ds.noF (d : Ds I M F) (h : M p = some o) : F p = none := d.mf p o h
theorem Ds.newM (d : Ds I M F) (h : I p = none) (h2 : F p = none) : Ds I (upd M p o) F := by
  refine ⟨?_, d.mf.newI h2⟩
  have e : join (upd M p o) F = upd (join M F) p o := upd_I.symm
  rw [e]
  exact d.im.newM h
end
/-! ### data that stand still -/
mutual
inductive Dat (I : Hp) : V → PyData → Prop
  | non : Dat I .non .none
  | bl (b : Bool) : Dat I (.bl b) (.bool b)
  | int (i : Int) : Dat I (.int i) (.int i)
  | str (x : Str) : Dat I (.str x) (.str x)
  | lst {a : Addr} {xs : List V} {ds : List PyData} : I a = some (.lst xs) → Dats I xs ds → Dat I (.ref a) (.list ds)
  | tup {a : Addr} {xs : List V} {ds : List PyData} : I a = some (.tup xs) → Dats I xs ds → Dat I (.ref a) (.tuple ds)
inductive Dats (I : Hp) : List V → List PyData → Prop
  | nil : Dats I [] []
  | cons {v : V} {vs : List V} {d : PyData} {ds : List PyData} : Dat I v d → Dats I vs ds → Dats I (v :: vs) (d :: ds)
end
section
variable {I I2 : Hp}
mutual
theorem Dat.mono (e : Same I I2) : ∀ (d : PyData) (v : V), Dat I v d → Dat I2 v d
  | .none, _, h => by cases h; exact .non
  | .bool b, _, h => by cases h; exact .bl b
  | .int i, _, h => by cases h; exact .int i
  | .str x, _, h => by cases h; exact .str x
  | .list ds, _, h => by
    cases h with
    | lst h1 h2 => exact .lst (e _ _ h1) (Dats.mono e ds _ h2)
  | .tuple ds, _, h => by
    cases h with
    | tup h1 h2 => exact .tup (e _ _ h1) (Dats.mono e ds _ h2)
  | .dict _, _, h => by cases h
theorem Dats.mono (e : Same I I2) : ∀ (ds : List PyData) (vs : List V), Dats I vs ds → Dats I2 vs ds
  | [], _, h => by cases h; exact .nil
  | d :: ds, _, h => by
    cases h with
    | cons h1 h2 => exact .cons (Dat.mono e d _ h1) (Dats.mono e ds _ h2)
end
mutual
theorem Dat.dp {K : PySem.W.Frag} : ∀ (d : PyData) (v : V), Dat I v d → Dp K I v d
  | .none, _, h => by cases h; exact .non
  | .bool b, _, h => by cases h; exact .bl b
  | .int i, _, h => by cases h; exact .int i
  | .str x, _, h => by cases h; exact .str x
  | .list ds, _, h => by
    cases h with
    | lst h1 h2 => exact .lst (SqL.of h1) (Dats.dp ds _ h2)
  | .tuple ds, _, h => by
    cases h with
    | tup h1 h2 => exact .tup (SqT.of h1) (Dats.dp ds _ h2)
  | .dict _, _, h => by cases h
theorem Dats.dp {K : PySem.W.Frag} : ∀ (ds : List PyData) (vs : List V), Dats I vs ds → DpAll K I vs ds
  | [], _, h => by cases h; exact .nil
  | d :: ds, _, h => by
    cases h with
    | cons h1 h2 => exact .cons (Dat.dp d _ h1) (Dats.dp ds _ h2)
end
theorem Dats.length : ∀ {ds : List PyData} {vs : List V}, Dats I vs ds → vs.length = ds.length
  | [], _, h => by cases h; rfl
  | d :: ds, _, h => by
    cases h with
    | cons h1 h2 => rw [List.length_cons, List.length_cons, Dats.length h2]
theorem Dats.get : ∀ {ds : List PyData} {vs : List V} {i : Nat} {d : PyData}, Dats I vs ds → ds[i]? = some d → ∃ v, vs[i]? = some v ∧ Dat I v d
  | [], _, i, d, _, e => by simp at e
  | d :: ds, _, 0, d', h, e => by
    cases h with
    | cons h1 h2 =>
      have e' : d = d' := by simpa using e
      subst e'
      exact ⟨_, rfl, h1⟩
  | d :: ds, _, i + 1, d', h, e => by
    cases h with
    | cons h1 h2 =>
      obtain ⟨v, a, b⟩ := Dats.get (i := i) (d := d') h2 (by simpa using e)
      exact ⟨v, by simpa using a, b⟩
theorem Dats.getV : ∀ {ds : List PyData} {vs : List V} {i : Nat} {v : V}, Dats I vs ds → vs[i]? = some v → ∃ d, ds[i]? = some d ∧ Dat I v d
  | [], _, i, v, h, e => by cases h; simp at e
  | d :: ds, _, 0, v, h, e => by
    cases h with
    | cons h1 h2 =>
      have e' := Option.some.inj e
      subst e'
      exact ⟨_, rfl, h1⟩
  | d :: ds, _, i + 1, v, h, e => by
    cases h with
    | cons h1 h2 =>
      obtain ⟨d', a, b⟩ := Dats.getV (i := i) (v := v) h2 (by simpa using e)
      exact ⟨d', by simpa using a, b⟩
theorem Dats.append : ∀ {ds es : List PyData} {vs ws : List V}, Dats I vs ds → Dats I ws es → Dats I (vs ++ ws) (ds ++ es)
  | [], _, _, _, h, k => by cases h; exact k
  | d :: ds, _, _, _, h, k => by
    cases h with
    | cons h1 h2 => exact .cons h1 (Dats.append h2 k)
theorem Dats.ints : ∀ {ns : List Int} {vs : List V}, Dats I vs (ns.map .int) → vs = ns.map V.int
  | [], _, h => by cases h; rfl
  | n :: ns, _, h => by
    cases h with
    | cons h1 h2 =>
      cases h1
      rw [Dats.ints h2]
      rfl
theorem Dats.of_ints : ∀ ns : List Int, Dats I (ns.map V.int) (ns.map .int)
  | [] => .nil
  | n :: ns => .cons (.int n) (Dats.of_ints ns)
theorem Dats.strs : ∀ {ns : List Str} {vs : List V}, Dats I vs (ns.map .str) → vs = ns.map V.str
  | [], _, h => by cases h; rfl
  | n :: ns, _, h => by
    cases h with
    | cons h1 h2 =>
      cases h1
      rw [Dats.strs h2]
      rfl
theorem Dats.of_strs : ∀ ns : List Str, Dats I (ns.map V.str) (ns.map .str)
  | [] => .nil
  | n :: ns => .cons (.str n) (Dats.of_strs ns)
theorem Dats.bls : ∀ {ns : List Bool} {vs : List V}, Dats I vs (ns.map .bool) → vs = ns.map V.bl
  | [], _, h => by cases h; rfl
  | n :: ns, _, h => by
    cases h with
    | cons h1 h2 =>
      cases h1
      rw [Dats.bls h2]
      rfl
end

/-- a text of these signs -/
def sOf (l : List Nat) : Str := ⟨l.toArray⟩
theorem sOf_cps (l : List Nat) : (sOf l).cps.toList = l := rfl
theorem sOf_inj {l m : List Nat} (h : sOf l = sOf m) : l = m := by
  have e := congrArg (fun x : Str => x.cps.toList) h
  exact e
theorem sOf_length (l : List Nat) : (sOf l).length = l.length := by
  show l.toArray.size = l.length
  simp
abbrev S (l : List Nat) : PyData := .str (sOf l)
/-- a tie's text -/
def tS (p : Nat × Nat) : List Nat := [p.1, p.2]

/-- what a slot holds -/
inductive Sl where
  | dat (d : PyData)
  | web (pl : List Nat) (ts : List (Nat × Nat))
  | raw (v : V)
  | at (v : V) (d : PyData)
def Is (C : Addr) (I : Hp) (v : V) : Sl → Prop
  | .dat d => Dat I v d
  | .web pl ts => ∃ a dx t, v = .ref a ∧ I a = some (.ins C dx [("places", .str (sOf pl)), ("ties", .ref t)]) ∧ I dx = some (.own a) ∧ I t = some (.tup (ts.map fun p => .str (sOf (tS p))))
  | .raw u => v = u
  | .at u d => v = u ∧ Dat I v d
theorem Is.mono {C : Addr} {I I2 : Hp} {v : V} {x : Sl} (h : Is C I v x) (e : Same I I2) : Is C I2 v x := by
  cases x with
  | dat d => exact Dat.mono e d v h
  | web pl ts =>
    obtain ⟨a, dx, t, h1, h2, h3, h4⟩ := h
    exact ⟨a, dx, t, h1, e _ _ h2, e _ _ h3, e _ _ h4⟩
  | raw u => exact h
  | «at» u d => exact ⟨h.1, Dat.mono e d v h.2⟩

/-! ### what is the same for all defs; what is known of the place in the text -/
def bltNames : List Str := ["isinstance", "len", "all", "any", "list", "sorted", "tuple", "range", "enumerate", "zip", "dict", "min", "max", "sum", "int", "str", "bool", "abs", "divmod", "repr"]
structure Gm where
  P : Program
  w : World
  K : PySem.W.Frag
  mg : Str → Option Value
  base : Heap
  C : Addr
  fLen : Addr
  blt : ∀ x ∈ bltNames, mg x = none
  cls : C8.InsC K C
  nP : NoAttr K C "places"
  nT : NoAttr K C "ties"
  gW : mg "Web" = some (.ref C)
  mP : ∃ t, mg "MOST_PLACES" = some (.int 7 t)
  mT : ∃ t, mg "MOST_TIES" = some (.int 11 t)
  mH : ∃ t, mg "MOST_HEAP" = some (.int 1000000 t)
  mL : ∃ t, mg "LETTERS" = some (.str "abcdefgh" t)
  hLen : PySem.W.findIn K (.ref C) "__len__" = some (some (.ref fLen))
  kLen : PySem.W.isFn K (.ref fLen) = true
structure Cs where
  g : Gm
  k : Nat
  N : List Str
  sc : Scope
  gd : Bool
  bl : Option Scope
/-- the names whose cells were made here -/
def fnB : Option Scope → Str → Bool
  | none, _ => true
  | some s, x => match s.names.lookup x with
    | some .cell => true
    | _ => false
structure Good (c : Cs) (X : Cx) : Prop where
  prog : X.prog = c.g.P
  w : X.w = c.g.w
  K : X.K = c.g.K
  mg : X.mg = c.g.mg
  base : X.base = c.g.base
  N : X.N = c.N
  sc : X.env.scope = c.sc
  room : Room c.k X.A
  calm : X.calm = true
  fn : ∀ x, fnB c.bl x = true → X.fn x = true
  xe : X.xe = fun _ _ => False
  gd : c.gd = true → X.A.guards = some []
/-- the slots: what is known of them -/
structure En (C : Addr) (I : Hp) (σ : L2.St) (ρ : List (Option Sl)) : Prop where
  len : σ.length = ρ.length
  at_ : ∀ (i : Nat) (x : Sl), ρ[i]? = some (some x) → ∃ v, σ[i]? = some (some v) ∧ Is C I v x
section
variable {C : Addr} {I I2 : Hp} {σ : L2.St} {ρ : List (Option Sl)}
theorem En.mono (h : En C I σ ρ) (e : Same I I2) : En C I2 σ ρ := ⟨h.len, fun i x q => let ⟨v, a, b⟩ := h.at_ i x q; ⟨v, a, b.mono e⟩⟩
theorem En.set (h : En C I σ ρ) {j : Nat} {v : V} {x : Sl} (hv : Is C I v x) : En C I (σ.set j (some v)) (ρ.set j (some x)) := by
  refine ⟨by rw [List.length_set, List.length_set]; exact h.len, fun i y q => ?_⟩
  by_cases hi : j = i
  · subst hi
    by_cases hl : j < ρ.length
    · rw [List.getElem?_set_self hl] at q
      have e := Option.some.inj (Option.some.inj q)
      subst e
      exact ⟨v, by rw [List.getElem?_set_self (by rw [h.len]; exact hl)], hv⟩
    · rw [List.getElem?_eq_none (by rw [List.length_set]; omega)] at q
      cases q
  · rw [List.getElem?_set_ne hi] at q ⊢
    exact h.at_ i y q
theorem En.forget (h : En C I σ ρ) (j : Nat) : En C I (σ.set j none) (ρ.set j none) := by
  refine ⟨by rw [List.length_set, List.length_set]; exact h.len, fun i y q => ?_⟩
  by_cases hi : j = i
  · subst hi
    by_cases hl : j < ρ.length
    · rw [List.getElem?_set_self hl] at q
      cases q
    · rw [List.getElem?_eq_none (by rw [List.length_set]; omega)] at q
      cases q
  · rw [List.getElem?_set_ne hi] at q ⊢
    exact h.at_ i y q
/-- the slots of a comprehension's own names forgotten -/
def wipeR (ρ : List (Option Sl)) : List Nat → List (Option Sl)
  | [] => ρ
  | v :: vs => (wipeR ρ vs).set v none
theorem En.wipe (h : En C I σ ρ) : ∀ vs : List Nat, En C I (wipe σ vs) (wipeR ρ vs)
  | [] => h
  | v :: vs => (En.wipe h vs).forget v
end

/-! ### the judgements -/
abbrev Wish := Sl → Hp → Prop
def only (x : Sl) (M : Hp) : Wish := fun y N => y = x ∧ N = M
def Gives (C : Addr) (I F : Hp) (R : Wish) (Q : VK) : Prop := ∀ v I2 x M', R x M' → Same I I2 → Ds I2 M' F → Is C I2 v x → Q v (J3 I2 M' F)
theorem Gives.mono {C : Addr} {I I1 F : Hp} {R : Wish} {Q : VK} (h : Gives C I F R Q) (e : Same I I1) : Gives C I1 F R Q := fun v I2 x M' r e2 d i => h v I2 x M' r (e.trans e2) d i
def wpE (X : Cx) (e : Expr) : TE := fun σ H Q => ∀ (pins : List (Addr × Obj)) (s : Shared), Inv X pins σ H s → wpAny (model X.prog X.w) X.A (eval e X.env) (EP X pins σ Q) X.xe s
def wpT (X : Cx) (e : Expr) : TT := fun σ H Q => ∀ (pins : List (Addr × Obj)) (s : Shared), Inv X pins σ H s → wpAny (model X.prog X.w) X.A (isTrue e X.env (eval e X.env)) (TP X pins σ Q) X.xe s
def wpW (X : Cx) (e : Expr) : TT := fun σ H Q => ∀ (wh : Sem Value) (pins : List (Addr × Obj)) (s : Shared), Inv X pins σ H s → wpAny (model X.prog X.w) X.A (isTrue e X.env wh) (TP X pins σ Q) X.xe s
def wpA (X : Cx) (es : List Expr) : TA := fun σ H Q => ∀ (pos : Pos) (pins : List (Addr × Obj)) (s : Shared), Inv X pins σ H s → wpAny (model X.prog X.w) X.A (spliced (backTo pos (starEach es X.env))) (AP X pins σ Q) X.xe s
def wpS (X : Cx) (st : Stmt) : TS := fun D σ H => ∀ (pins : List (Addr × Obj)) (s : Shared), Inv X pins σ H s → wpAny (model X.prog X.w) X.A (exec st X.env) (SP X pins D) X.xe s
def wpB (X : Cx) (st : List Stmt) : TS := fun D σ H => ∀ (pins : List (Addr × Obj)) (s : Shared), Inv X pins σ H s → wpAny (model X.prog X.w) X.A (execs st X.env) (SP X pins D) X.xe s
theorem pe_wp {X : Cx} {e : Expr} : PE X e (wpE X e) := ⟨fun pins s _ _ _ I h => h pins s I⟩
theorem pt_wp {X : Cx} {e : Expr} : PT X e (wpT X e) := ⟨fun pins s _ _ _ I h => h pins s I⟩
theorem pw_wp {X : Cx} {e : Expr} : PW X e (wpW X e) := ⟨fun wh pins s _ _ _ I h => h wh pins s I⟩
theorem pa_wp {X : Cx} {es : List Expr} : PA X es (wpA X es) := ⟨fun pos pins s _ _ _ I h => h pos pins s I⟩
theorem ps_wp {X : Cx} {st : Stmt} : PS X st (wpS X st) := ⟨fun pins s _ _ _ I h => h pins s I⟩
theorem pss_wp {X : Cx} {st : List Stmt} : PSs X st (wpB X st) := ⟨fun pins s _ _ _ I h => h pins s I⟩
theorem wp_pe {X : Cx} {e : Expr} {t : TE} (h : PE X e t) {σ : L2.St} {H : Hp} {Q : VK} (q : t σ H Q) : wpE X e σ H Q := fun pins s I => h.run pins s σ H Q I q
theorem wp_pt {X : Cx} {e : Expr} {t : TT} (h : PT X e t) {σ : L2.St} {H : Hp} {Q : Bool → Hp → Prop} (q : t σ H Q) : wpT X e σ H Q := fun pins s I => h.run pins s σ H Q I q
theorem wp_pw {X : Cx} {e : Expr} {t : TT} (h : PW X e t) {σ : L2.St} {H : Hp} {Q : Bool → Hp → Prop} (q : t σ H Q) : wpW X e σ H Q := fun wh pins s I => h.run wh pins s σ H Q I q
theorem wp_pa {X : Cx} {es : List Expr} {t : TA} (h : PA X es t) {σ : L2.St} {H : Hp} {Q : List V → Hp → Prop} (q : t σ H Q) : wpA X es σ H Q := fun pos pins s I => h.run pos pins s σ H Q I q
theorem wp_ps {X : Cx} {st : Stmt} {t : TS} (h : PS X st t) {σ : L2.St} {H : Hp} {D : Ends} (q : t D σ H) : wpS X st D σ H := fun pins s I => h.run pins s σ H D I q
theorem wp_pss {X : Cx} {st : List Stmt} {t : TS} (h : PSs X st t) {σ : L2.St} {H : Hp} {D : Ends} (q : t D σ H) : wpB X st D σ H := fun pins s I => h.run pins s σ H D I q

/-- the expression e gives R -/
def EV (c : Cs) (ρ : List (Option Sl)) (M : Hp) (e : Expr) (R : Wish) : Prop :=
  ∀ X, Good c X → ∀ (σ : L2.St) (I F : Hp), En c.g.C I σ ρ → Ds I M F → ∀ Q : VK, Gives c.g.C I F R Q → wpE X e σ (J3 I M F) Q
abbrev EM (c : Cs) (ρ : List (Option Sl)) (M : Hp) (e : Expr) (x : Sl) (M' : Hp) : Prop := EV c ρ M e (only x M')
/-- the test e is b -/
def TM (c : Cs) (ρ : List (Option Sl)) (M : Hp) (e : Expr) (b : Bool) (M' : Hp) : Prop :=
  ∀ X, Good c X → ∀ (σ : L2.St) (I F : Hp), En c.g.C I σ ρ → Ds I M F → ∀ Q : Bool → Hp → Prop, (∀ I2, Same I I2 → Ds I2 M' F → Q b (J3 I2 M' F)) → wpT X e σ (J3 I M F) Q
def WM (c : Cs) (ρ : List (Option Sl)) (M : Hp) (e : Expr) (b : Bool) (M' : Hp) : Prop :=
  ∀ X, Good c X → ∀ (σ : L2.St) (I F : Hp), En c.g.C I σ ρ → Ds I M F → ∀ Q : Bool → Hp → Prop, (∀ I2, Same I I2 → Ds I2 M' F → Q b (J3 I2 M' F)) → wpW X e σ (J3 I M F) Q
inductive Iss (C : Addr) (I : Hp) : List V → List Sl → Prop
  | nil : Iss C I [] []
  | cons {v : V} {vs : List V} {x : Sl} {xs : List Sl} : Is C I v x → Iss C I vs xs → Iss C I (v :: vs) (x :: xs)
theorem Iss.mono {C : Addr} {I I2 : Hp} (e : Same I I2) : ∀ {vs : List V} {xs : List Sl}, Iss C I vs xs → Iss C I2 vs xs
  | _, _, .nil => .nil
  | _, _, .cons h t => .cons (h.mono e) (Iss.mono e t)
theorem Iss.length {C : Addr} {I : Hp} : ∀ {vs : List V} {xs : List Sl}, Iss C I vs xs → vs.length = xs.length
  | _, _, .nil => rfl
  | _, _, .cons h t => by rw [List.length_cons, List.length_cons, Iss.length t]
/-- the arguments es are xs -/
def AM (c : Cs) (ρ : List (Option Sl)) (M : Hp) (es : List Expr) (xs : List Sl) (M' : Hp) : Prop :=
  ∀ X, Good c X → ∀ (σ : L2.St) (I F : Hp), En c.g.C I σ ρ → Ds I M F → ∀ Q : List V → Hp → Prop, (∀ vs I2, Same I I2 → Ds I2 M' F → Iss c.g.C I2 vs xs → Q vs (J3 I2 M' F)) → wpA X es σ (J3 I M F) Q
/-- what is wanted behind a block -/
structure Kont where
  nx : List (Option Sl) → Hp → Prop
  rt : Wish
  bk : List (Option Sl) → Hp → Prop := fun _ _ => False
  ct : List (Option Sl) → Hp → Prop := fun _ _ => False
structure KOk (C : Addr) (I F : Hp) (K : Kont) (D : Ends) : Prop where
  nx : ∀ σ I2 ρ M, K.nx ρ M → Same I I2 → En C I2 σ ρ → Ds I2 M F → D.nx σ (J3 I2 M F)
  rt : Gives C I F K.rt D.rt
  bk : ∀ σ I2 ρ M, K.bk ρ M → Same I I2 → En C I2 σ ρ → Ds I2 M F → D.bk σ (J3 I2 M F)
  ct : ∀ σ I2 ρ M, K.ct ρ M → Same I I2 → En C I2 σ ρ → Ds I2 M F → D.ct σ (J3 I2 M F)
theorem KOk.mono {C : Addr} {I I1 F : Hp} {K : Kont} {D : Ends} (h : KOk C I F K D) (e : Same I I1) : KOk C I1 F K D :=
  ⟨fun σ I2 ρ M k s => h.nx σ I2 ρ M k (e.trans s), h.rt.mono e, fun σ I2 ρ M k s => h.bk σ I2 ρ M k (e.trans s), fun σ I2 ρ M k s => h.ct σ I2 ρ M k (e.trans s)⟩
def BD (c : Cs) (ρ : List (Option Sl)) (M : Hp) (b : List Stmt) (K : Kont) : Prop :=
  ∀ X, Good c X → ∀ (σ : L2.St) (I F : Hp) (D : Ends), En c.g.C I σ ρ → Ds I M F → KOk c.g.C I F K D → wpB X b D σ (J3 I M F)
def SD (c : Cs) (ρ : List (Option Sl)) (M : Hp) (st : Stmt) (K : Kont) : Prop :=
  ∀ X, Good c X → ∀ (σ : L2.St) (I F : Hp) (D : Ends), En c.g.C I σ ρ → Ds I M F → KOk c.g.C I F K D → wpS X st D σ (J3 I M F)
end Wr
end
section
set_option maxRecDepth 100000
set_option maxHeartbeats 1000000
/-! Rules: expressions. -/
namespace Wr
open PySem L2

section
variable {g : Gm} {k : Nat} {N : List Str} {sc : Scope} {gd : Bool} {bl : Option Scope} {c : Cs} {ρ : List (Option Sl)} {M M1 M2 M3 M' : Hp} {a b e : Expr} {x y z : Sl} {R : Wish} {pos : Pos} {I I2 F : Hp} {C : Addr} {Q : VK}

/-! ### small words -/
theorem only_self : only x M x M := ⟨rfl, rfl⟩
theorem Gives.only (h : Gives C I F (only x M) Q) {v : V} {I2 : Hp} (e : Same I I2) (d : Ds I2 M F) (i : Is C I2 v x) : Q v (J3 I2 M F) := h v I2 x M only_self e d i
theorem Gives.now (h : Gives C I F R Q) (r : R x M) {v : V} (d : Ds I M F) (i : Is C I v x) : Q v (J3 I M F) := h v I x M r (Same.refl I) d i
theorem EV.imp (h : EV c ρ M e R) {R' : Wish} (f : ∀ x M', R x M' → R' x M') : EV c ρ M e R' := fun X G σ I F en d Q q => h X G σ I F en d Q fun v I2 x M' r => q v I2 x M' (f x M' r)
theorem EM.to (h : EM c ρ M e x M') (r : R x M') : EV c ρ M e R := EV.imp h fun _ _ ⟨e1, e2⟩ => by rw [e1, e2]; exact r
theorem EM.is (h : EM c ρ M e x M') (q : x = y) : EM c ρ M e y M' := by rw [← q]; exact h
/-- as a first step, from an EM -/
theorem em_bind {X : Cx} (h : EM c ρ M e x M') (G : Good c X) {σ : L2.St} (en : En c.g.C I σ ρ) (d : Ds I M F) {Q : VK} (q : ∀ v I2, Same I I2 → Ds I2 M' F → Is c.g.C I2 v x → Q v (J3 I2 M' F)) : wpE X e σ (J3 I M F) Q :=
  h X G σ I F en d Q fun v I2 y M2 ⟨e1, e2⟩ s2 d2 i2 => by
    subst e1 e2
    exact q v I2 s2 d2 i2
theorem gives_lst (h : Gives C I F R Q) {ds : List PyData} {xs : List V} (r : R (.dat (.list ds)) M) (d : Ds I M F) (hx : Dats I xs ds) : ∀ p, J3 I M F p = none → Q (.ref p) (upd (J3 I M F) p (.lst xs)) := fun p hp => by
  obtain ⟨n1, n2, n3⟩ := j3_none hp
  rw [upd_I3]
  exact h _ _ _ M r (same_new n1) (d.newI hp) (.lst upd_same (Dats.mono (same_new n1) _ _ hx))
theorem gives_tup (h : Gives C I F R Q) {ds : List PyData} {xs : List V} (r : R (.dat (.tuple ds)) M) (d : Ds I M F) (hx : Dats I xs ds) : ∀ p, J3 I M F p = none → Q (.ref p) (upd (J3 I M F) p (.tup xs)) := fun p hp => by
  obtain ⟨n1, n2, n3⟩ := j3_none hp
  rw [upd_I3]
  exact h _ _ _ M r (same_new n1) (d.newI hp) (.tup upd_same (Dats.mono (same_new n1) _ _ hx))
theorem is_int {v : V} {i : Int} (h : Is C I v (.dat (.int i))) : v = .int i := by
  have h : Dat I v (.int i) := h
  cases h
  rfl
theorem is_str {v : V} {i : Str} (h : Is C I v (.dat (.str i))) : v = .str i := by
  have h : Dat I v (.str i) := h
  cases h
  rfl
theorem is_bl {v : V} {i : Bool} (h : Is C I v (.dat (.bool i))) : v = .bl i := by
  have h : Dat I v (.bool i) := h
  cases h
  rfl
theorem is_non {v : V} (h : Is C I v (.dat .none)) : v = .non := by
  have h : Dat I v .none := h
  cases h
  rfl
theorem is_lst {v : V} {ds : List PyData} (h : Is C I v (.dat (.list ds))) : ∃ a xs, v = .ref a ∧ I a = some (.lst xs) ∧ Dats I xs ds := by
  have h : Dat I v (.list ds) := h
  cases h with
  | lst h1 h2 => exact ⟨_, _, rfl, h1, h2⟩
theorem is_tup {v : V} {ds : List PyData} (h : Is C I v (.dat (.tuple ds))) : ∃ a xs, v = .ref a ∧ I a = some (.tup xs) ∧ Dats I xs ds := by
  have h : Dat I v (.tuple ds) := h
  cases h with
  | tup h1 h2 => exact ⟨_, _, rfl, h1, h2⟩

/-! ### names and constants -/
def visB (sc : Scope) (x : Str) : Bool := match sc.names.lookup x with
  | some .local => true
  | some .cell => true
  | some .free => true
  | _ => false
def chkV (N : List Str) (sc : Scope) (i : Nat) (x : Str) : Bool := decide (N[i]? = some x) && visB sc x && !(x == ("__debug__" : Str)) && !(x == ("__classdict__" : Str))
theorem vis_of {sc : Scope} {x : Str} (h : visB sc x = true) : Vis sc x := by
  unfold visB at h
  split at h
  · exact .inl ‹_›
  · exact .inr (.inl ‹_›)
  · exact .inr (.inr ‹_›)
  · cases h
theorem em_var (i : Nat) {x : Str} {d : Sl} (h : chkV N sc i x = true := by decide +kernel) (hd : ρ[i]? = some (some d) := by rfl) : EM ⟨g, k, N, sc, gd, bl⟩ ρ M (.Name x pos) d M := by
  intro X G σ I F en di Q hQ
  unfold chkV at h
  simp only [Bool.and_eq_true, decide_eq_true_eq, Bool.not_eq_true'] at h
  obtain ⟨⟨⟨h1, h2⟩, h3⟩, h4⟩ := h
  obtain ⟨v, e, i'⟩ := en.at_ i d hd
  refine wp_pe (pe_var (i := i) (by rw [G.N]; exact h1) (by rw [G.sc]; exact vis_of h2) h3 h4) ?_
  exact ⟨v, e, hQ.only (Same.refl I) di i'⟩
theorem em_int {i : Int} {j} : EM c ρ M (.Constant (.int i) j pos) (.dat (.int i)) M := fun X G σ I F en di Q hQ => wp_pe pe_int (hQ.only (Same.refl I) di (.int i))
theorem em_bool {i : Bool} {j} : EM c ρ M (.Constant (.bool i) j pos) (.dat (.bool i)) M := fun X G σ I F en di Q hQ => wp_pe pe_bl (hQ.only (Same.refl I) di (.bl i))
theorem em_none {j} : EM c ρ M (.Constant .none j pos) (.dat .none) M := fun X G σ I F en di Q hQ => wp_pe pe_non (hQ.only (Same.refl I) di .non)
theorem em_str {i : Str} {j} : EM c ρ M (.Constant (.str i) j pos) (.dat (.str i)) M := fun X G σ I F en di Q hQ => wp_pe pe_str (hQ.only (Same.refl I) di (.str i))
/-- a written text, told by its signs -/
theorem em_txt (l : List Nat) {i : Str} {j} (h : i = sOf l := by rfl) : EM c ρ M (.Constant (.str i) j pos) (.dat (S l)) M := by
  rw [h]
  exact em_str
def glB (sc : Scope) (x : Str) : Bool := match sc.names.lookup x with
  | some .globalImplicit => !(x == ("__debug__" : Str))
  | _ => false
theorem gl_of {X : Cx} {x : Str} (h : glB X.env.scope x = true) : Gl X x ∧ (x == ("__debug__" : Str)) = false := by
  unfold glB at h
  split at h
  · exact ⟨‹_›, by simpa using h⟩
  · cases h
theorem Good.gl {X : Cx} {x : Str} (G : Good c X) (h : glB c.sc x = true) : Gl X x ∧ (x == ("__debug__" : Str)) = false := gl_of (by rw [G.sc]; exact h)
theorem em_globI {x : Str} {i : Int} {t : Tok} (hm : g.mg x = some (.int i t)) (h : glB sc x = true := by decide +kernel) : EM ⟨g, k, N, sc, gd, bl⟩ ρ M (.Name x pos) (.dat (.int i)) M := by
  intro X G σ I F en di Q hQ
  obtain ⟨h1, h2⟩ := G.gl h
  exact wp_pe (pe_glob (v := .int i) h1 (by rw [G.mg]; exact hm) ⟨t, rfl⟩ h2) (hQ.only (Same.refl I) di (.int i))
theorem em_globS {x : Str} {i : Str} {t : Tok} (hm : g.mg x = some (.str i t)) (h : glB sc x = true := by decide +kernel) : EM ⟨g, k, N, sc, gd, bl⟩ ρ M (.Name x pos) (.dat (.str i)) M := by
  intro X G σ I F en di Q hQ
  obtain ⟨h1, h2⟩ := G.gl h
  exact wp_pe (pe_glob (v := .str i) h1 (by rw [G.mg]; exact hm) ⟨t, rfl⟩ h2) (hQ.only (Same.refl I) di (.str i))

/-! ### operators of two values -/
def RD (c : Cs) (r : Cx → R2) (x y : Sl) (M : Hp) (R : Wish) : Prop :=
  ∀ X, Good c X → ∀ (I F : Hp) (v u : V), Ds I M F → Is c.g.C I v x → Is c.g.C I u y → ∀ Q : VK, Gives c.g.C I F R Q → r X v u (J3 I M F) Q
theorem two {X : Cx} {r : R2} {ta : TE} (G : Good c X) {σ : L2.St} (en : En c.g.C I σ ρ) (di : Ds I M F) (ha : EM c ρ M a x M1) (hb : EM c ρ M1 b y M2) {Q : VK}
    (hr : ∀ I2 v u, Same I I2 → Ds I2 M2 F → Is c.g.C I2 v x → Is c.g.C I2 u y → r v u (J3 I2 M2 F) Q) : tOp r (wpE X a) (wpE X b) σ (J3 I M F) Q := by
  refine em_bind ha G en di fun v I1 s1 d1 i1 => ?_
  refine em_bind hb G (en.mono s1) d1 fun u I2 s2 d2 i2 => ?_
  exact hr I2 v u (s1.trans s2) d2 (i1.mono s2) i2
theorem ev_op {op : Operator} {r : Cx → R2} (ho : ∀ X, Good c X → OpR X (binaryOp op) (r X)) (ha : EM c ρ M a x M1) (hb : EM c ρ M1 b y M2) (hr : RD c r x y M2 R) : EV c ρ M (.BinOp a op b pos) R := by
  intro X G σ I F en di Q hQ
  exact wp_pe (pe_op (ho X G) pe_wp pe_wp) (two (ta := wpE X a) G en di ha hb fun I2 v u s d i1 i2 => hr X G I2 F v u d i1 i2 Q (hQ.mono s))
/-- the same, the parts wished for -/
theorem ev_opE {op : Operator} {r : Cx → R2} (ho : ∀ X, Good c X → OpR X (binaryOp op) (r X)) (ha : EV c ρ M a fun x M1 => EV c ρ M1 b fun y M2 => RD c r x y M2 R) : EV c ρ M (.BinOp a op b pos) R := by
  intro X G σ I F en di Q hQ
  refine wp_pe (pe_op (ho X G) pe_wp pe_wp) ?_
  refine ha X G σ I F en di _ fun v I1 x M1 hb s1 d1 i1 => ?_
  refine hb X G σ I1 F (en.mono s1) d1 _ fun u I2 y M2 hr s2 d2 i2 => ?_
  exact hr X G I2 F v u d2 (i1.mono s2) i2 Q (hQ.mono (s1.trans s2))
theorem ev_cmp {op : CmpOp} {r : Cx → R2} (ho : ∀ X, Good c X → OpR X (compareOp op) (r X)) (ha : EM c ρ M a x M1) (hb : EM c ρ M1 b y M2) (hr : RD c r x y M2 R) (hm : behindInMarks op b = false := by rfl) : EV c ρ M (.Compare a [op] [b] pos) R := by
  intro X G σ I F en di Q hQ
  exact wp_pe (pe_cmpR (ho X G) pe_wp pe_wp hm) (two (ta := wpE X a) G en di ha hb fun I2 v u s d i1 i2 => hr X G I2 F v u d i1 i2 Q (hQ.mono s))
theorem ev_cmpE {op : CmpOp} {r : Cx → R2} (ho : ∀ X, Good c X → OpR X (compareOp op) (r X)) (ha : EV c ρ M a fun x M1 => EV c ρ M1 b fun y M2 => RD c r x y M2 R) (hm : behindInMarks op b = false := by rfl) : EV c ρ M (.Compare a [op] [b] pos) R := by
  intro X G σ I F en di Q hQ
  refine wp_pe (pe_cmpR (ho X G) pe_wp pe_wp hm) ?_
  refine ha X G σ I F en di _ fun v I1 x M1 hb s1 d1 i1 => ?_
  refine hb X G σ I1 F (en.mono s1) d1 _ fun u I2 y M2 hr s2 d2 i2 => ?_
  exact hr X G I2 F v u d2 (i1.mono s2) i2 Q (hQ.mono (s1.trans s2))
theorem tm_cmp {op : CmpOp} {r : Cx → R2} {t : Bool} (ho : ∀ X, Good c X → OpR X (compareOp op) (r X)) (ha : EM c ρ M a x M1) (hb : EM c ρ M1 b y M2) (hr : RD c r x y M2 (only (.dat (.bool t)) M2)) (hm : behindInMarks op b = false := by rfl) :
    TM c ρ M (.Compare a [op] [b] pos) t M2 := by
  intro X G σ I F en di Q hQ
  refine wp_pt (pt_cmpR (ho X G) pe_wp pe_wp hm) (two (ta := wpE X a) G en di ha hb fun I2 v u s d i1 i2 => hr X G I2 F v u d i1 i2 _ fun w I3 z M3 ⟨e1, e2⟩ s3 d3 i3 => ?_)
  subst e1 e2
  exact ⟨t, is_bl i3, hQ I3 (s.trans s3) d3⟩

/-! #### ints -/
section
variable {i j : Int}
theorem rd_I0 {f : Int → Int → Int} : RD c (fun _ => rI0 fun i j => .int (f i j)) (.dat (.int i)) (.dat (.int j)) M (only (.dat (.int (f i j))) M) := fun X G I F v u d h1 h2 Q hQ =>
  ⟨i, j, is_int h1, is_int h2, hQ.only (Same.refl I) d (.int _)⟩
theorem rd_IB {f : Int → Int → Bool} : RD c (fun _ => rI0 fun i j => .bl (f i j)) (.dat (.int i)) (.dat (.int j)) M (only (.dat (.bool (f i j))) M) := fun X G I F v u d h1 h2 Q hQ =>
  ⟨i, j, is_int h1, is_int h2, hQ.only (Same.refl I) d (.bl _)⟩
theorem rd_I {P : Int → Int → Prop} {f : Int → Int → Int} (h : P i j) : RD c (fun _ => rI P fun i j => .int (f i j)) (.dat (.int i)) (.dat (.int j)) M (only (.dat (.int (f i j))) M) := fun X G I F v u d h1 h2 Q hQ =>
  ⟨i, j, is_int h1, is_int h2, h, hQ.only (Same.refl I) d (.int _)⟩
theorem em_add (ha : EM c ρ M a (.dat (.int i)) M1) (hb : EM c ρ M1 b (.dat (.int j)) M2) : EM c ρ M (.BinOp a .Add b pos) (.dat (.int (i + j))) M2 := ev_op (fun _ _ => op_add) ha hb rd_I0
theorem em_sub (ha : EM c ρ M a (.dat (.int i)) M1) (hb : EM c ρ M1 b (.dat (.int j)) M2) : EM c ρ M (.BinOp a .Sub b pos) (.dat (.int (i - j))) M2 := ev_op (fun _ _ => op_sub) ha hb rd_I0
theorem em_mul (h : CMul i j) (ha : EM c ρ M a (.dat (.int i)) M1) (hb : EM c ρ M1 b (.dat (.int j)) M2) : EM c ρ M (.BinOp a .Mult b pos) (.dat (.int (i * j))) M2 := ev_op (fun _ _ => op_mul) ha hb (rd_I h)
theorem em_fdiv (h : CDiv i j) (ha : EM c ρ M a (.dat (.int i)) M1) (hb : EM c ρ M1 b (.dat (.int j)) M2) : EM c ρ M (.BinOp a .FloorDiv b pos) (.dat (.int (i / j))) M2 := ev_op (fun _ _ => op_fdiv) ha hb (rd_I h)
theorem em_mod (h : 0 < j) (ha : EM c ρ M a (.dat (.int i)) M1) (hb : EM c ρ M1 b (.dat (.int j)) M2) : EM c ρ M (.BinOp a .Mod b pos) (.dat (.int (i % j))) M2 := ev_op (fun _ _ => op_mod) ha hb (rd_I (P := fun _ j => 0 < j) h)
theorem em_pow (h : CPow i j) (ha : EM c ρ M a (.dat (.int i)) M1) (hb : EM c ρ M1 b (.dat (.int j)) M2) : EM c ρ M (.BinOp a .Pow b pos) (.dat (.int (i ^ j.toNat))) M2 := ev_op (fun _ _ => op_pow) ha hb (rd_I h)
theorem em_neg (ha : EM c ρ M a (.dat (.int i)) M1) : EM c ρ M (.UnaryOp .USub a pos) (.dat (.int (-i))) M1 := fun X G σ I F en di Q hQ =>
  wp_pe (pe_un un_neg pe_wp) (em_bind ha G en di fun v I1 s1 d1 i1 => ⟨i, is_int i1, hQ.only s1 d1 (.int _)⟩)
theorem em_lt (ha : EM c ρ M a (.dat (.int i)) M1) (hb : EM c ρ M1 b (.dat (.int j)) M2) : EM c ρ M (.Compare a [.Lt] [b] pos) (.dat (.bool (decide (i < j)))) M2 := ev_cmp (fun _ _ => op_lt) ha hb rd_IB (nomark _)
theorem em_le (ha : EM c ρ M a (.dat (.int i)) M1) (hb : EM c ρ M1 b (.dat (.int j)) M2) : EM c ρ M (.Compare a [.LtE] [b] pos) (.dat (.bool (decide (i ≤ j)))) M2 := ev_cmp (fun _ _ => op_le) ha hb rd_IB (nomark _)
theorem em_gt (ha : EM c ρ M a (.dat (.int i)) M1) (hb : EM c ρ M1 b (.dat (.int j)) M2) : EM c ρ M (.Compare a [.Gt] [b] pos) (.dat (.bool (decide (j < i)))) M2 := ev_cmp (fun _ _ => op_gt) ha hb (rd_IB (f := fun i j => decide (j < i))) (nomark _)
theorem em_ge (ha : EM c ρ M a (.dat (.int i)) M1) (hb : EM c ρ M1 b (.dat (.int j)) M2) : EM c ρ M (.Compare a [.GtE] [b] pos) (.dat (.bool (decide (j ≤ i)))) M2 := ev_cmp (fun _ _ => op_ge) ha hb (rd_IB (f := fun i j => decide (j ≤ i))) (nomark _)
theorem tm_lt (ha : EM c ρ M a (.dat (.int i)) M1) (hb : EM c ρ M1 b (.dat (.int j)) M2) : TM c ρ M (.Compare a [.Lt] [b] pos) (decide (i < j)) M2 := tm_cmp (fun _ _ => op_lt) ha hb rd_IB (nomark _)
theorem tm_le (ha : EM c ρ M a (.dat (.int i)) M1) (hb : EM c ρ M1 b (.dat (.int j)) M2) : TM c ρ M (.Compare a [.LtE] [b] pos) (decide (i ≤ j)) M2 := tm_cmp (fun _ _ => op_le) ha hb rd_IB (nomark _)
theorem tm_gt (ha : EM c ρ M a (.dat (.int i)) M1) (hb : EM c ρ M1 b (.dat (.int j)) M2) : TM c ρ M (.Compare a [.Gt] [b] pos) (decide (j < i)) M2 := tm_cmp (fun _ _ => op_gt) ha hb (rd_IB (f := fun i j => decide (j < i))) (nomark _)
theorem tm_ge (ha : EM c ρ M a (.dat (.int i)) M1) (hb : EM c ρ M1 b (.dat (.int j)) M2) : TM c ρ M (.Compare a [.GtE] [b] pos) (decide (j ≤ i)) M2 := tm_cmp (fun _ _ => op_ge) ha hb (rd_IB (f := fun i j => decide (j ≤ i))) (nomark _)
end
/-! #### equality of plain values -/
theorem rd_eqI {i j : Int} : RD c (fun _ => rEq) (.dat (.int i)) (.dat (.int j)) M (only (.dat (.bool (decide (i = j)))) M) := fun X G I F v u d h1 h2 Q hQ => by
  rw [is_int h1, is_int h2]
  refine ⟨rfl, ?_⟩
  rw [show decide (V.int i = V.int j) = decide (i = j) by simp]
  exact hQ.only (Same.refl I) d (.bl _)
theorem rd_neI {i j : Int} : RD c (fun _ => rNe) (.dat (.int i)) (.dat (.int j)) M (only (.dat (.bool (!decide (i = j)))) M) := fun X G I F v u d h1 h2 Q hQ => by
  rw [is_int h1, is_int h2]
  refine ⟨rfl, ?_⟩
  rw [show decide (V.int i = V.int j) = decide (i = j) by simp]
  exact hQ.only (Same.refl I) d (.bl _)
theorem rd_eqS {i j : Str} : RD c (fun _ => rEq) (.dat (.str i)) (.dat (.str j)) M (only (.dat (.bool (decide (i = j)))) M) := fun X G I F v u d h1 h2 Q hQ => by
  rw [is_str h1, is_str h2]
  refine ⟨rfl, ?_⟩
  rw [show decide (V.str i = V.str j) = decide (i = j) by simp]
  exact hQ.only (Same.refl I) d (.bl _)
theorem rd_neS {i j : Str} : RD c (fun _ => rNe) (.dat (.str i)) (.dat (.str j)) M (only (.dat (.bool (!decide (i = j)))) M) := fun X G I F v u d h1 h2 Q hQ => by
  rw [is_str h1, is_str h2]
  refine ⟨rfl, ?_⟩
  rw [show decide (V.str i = V.str j) = decide (i = j) by simp]
  exact hQ.only (Same.refl I) d (.bl _)
theorem rd_neB {i j : Bool} : RD c (fun _ => rNe) (.dat (.bool i)) (.dat (.bool j)) M (only (.dat (.bool (i != j))) M) := fun X G I F v u d h1 h2 Q hQ => by
  rw [is_bl h1, is_bl h2]
  refine ⟨rfl, ?_⟩
  rw [show (!decide (V.bl i = V.bl j)) = (i != j) by cases i <;> cases j <;> rfl]
  exact hQ.only (Same.refl I) d (.bl _)
theorem dec_sOf {l m : List Nat} : decide (sOf l = sOf m) = decide (l = m) := by
  by_cases e : l = m
  · subst e; simp
  · rw [decide_eq_false e, decide_eq_false fun z => e (sOf_inj z)]
theorem em_eqI {i j : Int} (ha : EM c ρ M a (.dat (.int i)) M1) (hb : EM c ρ M1 b (.dat (.int j)) M2) : EM c ρ M (.Compare a [.Eq] [b] pos) (.dat (.bool (decide (i = j)))) M2 := ev_cmp (fun _ _ => op_eq) ha hb rd_eqI (nomark _)
theorem em_neI {i j : Int} (ha : EM c ρ M a (.dat (.int i)) M1) (hb : EM c ρ M1 b (.dat (.int j)) M2) : EM c ρ M (.Compare a [.NotEq] [b] pos) (.dat (.bool (!decide (i = j)))) M2 := ev_cmp (fun _ _ => op_ne) ha hb rd_neI (nomark _)
theorem tm_eqI {i j : Int} (ha : EM c ρ M a (.dat (.int i)) M1) (hb : EM c ρ M1 b (.dat (.int j)) M2) : TM c ρ M (.Compare a [.Eq] [b] pos) (decide (i = j)) M2 := tm_cmp (fun _ _ => op_eq) ha hb rd_eqI (nomark _)
theorem tm_neI {i j : Int} (ha : EM c ρ M a (.dat (.int i)) M1) (hb : EM c ρ M1 b (.dat (.int j)) M2) : TM c ρ M (.Compare a [.NotEq] [b] pos) (!decide (i = j)) M2 := tm_cmp (fun _ _ => op_ne) ha hb rd_neI (nomark _)
theorem em_eqS {l m : List Nat} (ha : EM c ρ M a (.dat (S l)) M1) (hb : EM c ρ M1 b (.dat (S m)) M2) : EM c ρ M (.Compare a [.Eq] [b] pos) (.dat (.bool (decide (l = m)))) M2 := by
  rw [← dec_sOf]
  exact ev_cmp (fun _ _ => op_eq) ha hb rd_eqS (nomark _)
theorem em_neS {l m : List Nat} (ha : EM c ρ M a (.dat (S l)) M1) (hb : EM c ρ M1 b (.dat (S m)) M2) : EM c ρ M (.Compare a [.NotEq] [b] pos) (.dat (.bool (!decide (l = m)))) M2 := by
  rw [← dec_sOf]
  exact ev_cmp (fun _ _ => op_ne) ha hb rd_neS (nomark _)
theorem tm_eqS {l m : List Nat} (ha : EM c ρ M a (.dat (S l)) M1) (hb : EM c ρ M1 b (.dat (S m)) M2) : TM c ρ M (.Compare a [.Eq] [b] pos) (decide (l = m)) M2 := by
  rw [← dec_sOf]
  exact tm_cmp (fun _ _ => op_eq) ha hb rd_eqS (nomark _)
theorem tm_neS {l m : List Nat} (ha : EM c ρ M a (.dat (S l)) M1) (hb : EM c ρ M1 b (.dat (S m)) M2) : TM c ρ M (.Compare a [.NotEq] [b] pos) (!decide (l = m)) M2 := by
  rw [← dec_sOf]
  exact tm_cmp (fun _ _ => op_ne) ha hb rd_neS (nomark _)
theorem em_neB {i j : Bool} (ha : EM c ρ M a (.dat (.bool i)) M1) (hb : EM c ρ M1 b (.dat (.bool j)) M2) : EM c ρ M (.Compare a [.NotEq] [b] pos) (.dat (.bool (i != j))) M2 := ev_cmp (fun _ _ => op_ne) ha hb rd_neB (nomark _)
theorem tm_neB {i j : Bool} (ha : EM c ρ M a (.dat (.bool i)) M1) (hb : EM c ρ M1 b (.dat (.bool j)) M2) : TM c ρ M (.Compare a [.NotEq] [b] pos) (i != j) M2 := tm_cmp (fun _ _ => op_ne) ha hb rd_neB (nomark _)
/-! #### is None -/
def notNone : PyData → Bool
  | .none => false
  | _ => true
theorem em_isNotNone {i : PyData} {j p2} (ha : EM c ρ M a (.dat i) M1) : EM c ρ M (.Compare a [.IsNot] [.Constant .none j p2] pos) (.dat (.bool (notNone i))) M1 := by
  refine ev_cmp (fun _ _ => op_notN) ha em_none (fun X G I F v u d h1 h2 Q hQ => ⟨is_non h2, ?_⟩) (nomark _)
  have e : (!decide (v = V.non)) = (notNone i) := by
    have h1 : Dat I v i := h1
    cases h1 <;> rfl
  rw [e]
  exact hQ.only (Same.refl I) d (.bl _)
theorem tm_isNotNone {i : PyData} {j p2} (ha : EM c ρ M a (.dat i) M1) : TM c ρ M (.Compare a [.IsNot] [.Constant .none j p2] pos) (notNone i) M1 := by
  refine tm_cmp (fun _ _ => op_notN) ha em_none (fun X G I F v u d h1 h2 Q hQ => ⟨is_non h2, ?_⟩) (nomark _)
  have e : (!decide (v = V.non)) = (notNone i) := by
    have h1 : Dat I v i := h1
    cases h1 <;> rfl
  rw [e]
  exact hQ.only (Same.refl I) d (.bl _)

/-! ### tests -/
theorem tm_bind {X : Cx} {t : Bool} (h : TM c ρ M e t M') (G : Good c X) {σ : L2.St} (en : En c.g.C I σ ρ) (d : Ds I M F) {Q : Bool → Hp → Prop} (q : ∀ I2, Same I I2 → Ds I2 M' F → Q t (J3 I2 M' F)) : wpT X e σ (J3 I M F) Q := h X G σ I F en d Q q
theorem tm_val {t : Bool} (h : EM c ρ M e (.dat (.bool t)) M') (he : ∀ (env : PySem.Env) (whole : Sem Value), isTrue e env whole = (do let v ← whole; standAt e.pos; holding [v] (truthy v)) := by intro _ _; rfl) : TM c ρ M e t M' := by
  intro X G σ I F en di Q hQ
  exact wp_pt (pt_val pe_wp fun wh => he X.env wh) (em_bind h G en di fun v I1 s1 d1 i1 => ⟨t, is_bl i1, hQ I1 s1 d1⟩)
theorem TM.is {s t : Bool} (h : TM c ρ M e s M') (q : s = t) : TM c ρ M e t M' := by rw [← q]; exact h
theorem tm_not {t : Bool} (h : TM c ρ M e t M') : TM c ρ M (.UnaryOp .Not e pos) (!t) M' := fun X G σ I F en di Q hQ => wp_pt (pt_not pt_wp) (tm_bind h G en di fun I1 s1 d1 => hQ I1 s1 d1)
theorem em_not {t : Bool} (h : EM c ρ M e (.dat (.bool t)) M') : EM c ρ M (.UnaryOp .Not e pos) (.dat (.bool (!t))) M' := fun X G σ I F en di Q hQ =>
  wp_pe (pe_not pe_wp) (em_bind h G en di fun v I1 s1 d1 i1 => ⟨t, is_bl i1, hQ.only s1 d1 (.bl _)⟩)
theorem wm_and1 {t : Bool} (h : TM c ρ M e t M') : WM c ρ M (.BoolOp .And [e] pos) t M' := fun X G σ I F en di Q hQ => wp_pw (pw_and1 pt_wp) (h X G σ I F en di Q hQ)
theorem wm_or1 {t : Bool} (h : TM c ρ M e t M') : WM c ρ M (.BoolOp .Or [e] pos) t M' := fun X G σ I F en di Q hQ => wp_pw (pw_or1 pt_wp) (h X G σ I F en di Q hQ)
theorem wm_and {s t : Bool} {r : List Expr} (h : TM c ρ M a s M) (h2 : s = true → WM c ρ M (.BoolOp .And (b :: r) pos) t M) : WM c ρ M (.BoolOp .And (a :: b :: r) pos) (s && t) M := fun X G σ I F en di Q hQ =>
  wp_pw (pw_and pt_wp pw_wp) (tm_bind h G en di fun I1 s1 d1 => by
    cases s with
    | true =>
      rw [if_pos rfl]
      exact h2 rfl X G σ I1 F (en.mono s1) d1 Q fun I2 s2 d2 => hQ I2 (s1.trans s2) d2
    | false =>
      rw [if_neg Bool.false_ne_true]
      exact hQ I1 s1 d1)
theorem wm_or {s t : Bool} {r : List Expr} (h : TM c ρ M a s M) (h2 : s = false → WM c ρ M (.BoolOp .Or (b :: r) pos) t M) : WM c ρ M (.BoolOp .Or (a :: b :: r) pos) (s || t) M := fun X G σ I F en di Q hQ =>
  wp_pw (pw_or pt_wp pw_wp) (tm_bind h G en di fun I1 s1 d1 => by
    cases s with
    | false =>
      rw [if_neg Bool.false_ne_true]
      exact h2 rfl X G σ I1 F (en.mono s1) d1 Q fun I2 s2 d2 => hQ I2 (s1.trans s2) d2
    | true =>
      rw [if_pos rfl]
      exact hQ I1 s1 d1)
theorem tm_w {t : Bool} (h : WM c ρ M e t M') : TM c ρ M e t M' := fun X G σ I F en di Q hQ => wp_pt pw_wp.pt (h X G σ I F en di Q hQ)
theorem tm_and {s t : Bool} (h : TM c ρ M a s M) (h2 : s = true → TM c ρ M b t M) : TM c ρ M (.BoolOp .And [a, b] pos) (s && t) M := tm_w (wm_and h fun e => wm_and1 (h2 e))
theorem tm_or {s t : Bool} (h : TM c ρ M a s M) (h2 : s = false → TM c ρ M b t M) : TM c ρ M (.BoolOp .Or [a, b] pos) (s || t) M := tm_w (wm_or h fun e => wm_or1 (h2 e))
/-! .. as values -/
theorem em_one {op} (h : EM c ρ M e x M') : EM c ρ M (.BoolOp op [e] pos) x M' := fun X G σ I F en di Q hQ => wp_pe (pe_one pe_wp) (h X G σ I F en di Q hQ)
theorem em_andL {s t : Bool} {r : List Expr} (h : EM c ρ M a (.dat (.bool s)) M) (h2 : s = true → EM c ρ M (.BoolOp .And (b :: r) pos) (.dat (.bool t)) M) : EM c ρ M (.BoolOp .And (a :: b :: r) pos) (.dat (.bool (s && t))) M := fun X G σ I F en di Q hQ =>
  wp_pe (pe_and pe_wp pe_wp) (em_bind h G en di fun v I1 s1 d1 i1 => ⟨s, is_bl i1, by
    cases s with
    | true =>
      rw [if_pos rfl]
      exact h2 rfl X G σ I1 F (en.mono s1) d1 Q (hQ.mono s1)
    | false =>
      rw [if_neg Bool.false_ne_true]
      exact hQ.only s1 d1 (.bl _)⟩)
theorem em_orL {s t : Bool} {r : List Expr} (h : EM c ρ M a (.dat (.bool s)) M) (h2 : s = false → EM c ρ M (.BoolOp .Or (b :: r) pos) (.dat (.bool t)) M) : EM c ρ M (.BoolOp .Or (a :: b :: r) pos) (.dat (.bool (s || t))) M := fun X G σ I F en di Q hQ =>
  wp_pe (pe_or pe_wp pe_wp) (em_bind h G en di fun v I1 s1 d1 i1 => ⟨s, is_bl i1, by
    cases s with
    | false =>
      rw [if_neg Bool.false_ne_true]
      exact h2 rfl X G σ I1 F (en.mono s1) d1 Q (hQ.mono s1)
    | true =>
      rw [if_pos rfl]
      exact hQ.only s1 d1 (.bl _)⟩)
theorem em_and {s t : Bool} (h : EM c ρ M a (.dat (.bool s)) M) (h2 : s = true → EM c ρ M b (.dat (.bool t)) M) : EM c ρ M (.BoolOp .And [a, b] pos) (.dat (.bool (s && t))) M := em_andL h fun e => em_one (h2 e)
theorem em_and3 {s t u : Bool} {d : Expr} (h : EM c ρ M a (.dat (.bool s)) M) (h2 : s = true → EM c ρ M b (.dat (.bool t)) M) (h3 : s = true → t = true → EM c ρ M d (.dat (.bool u)) M) : EM c ρ M (.BoolOp .And [a, b, d] pos) (.dat (.bool (s && (t && u)))) M :=
  em_andL h fun e => em_andL (h2 e) fun e2 => em_one (h3 e e2)
theorem em_or {s t : Bool} (h : EM c ρ M a (.dat (.bool s)) M) (h2 : s = false → EM c ρ M b (.dat (.bool t)) M) : EM c ρ M (.BoolOp .Or [a, b] pos) (.dat (.bool (s || t))) M := em_orL h fun e => em_one (h2 e)
theorem ev_if {t : Bool} {q : Expr} (h : TM c ρ M q t M1) (h1 : t = true → EV c ρ M1 a R) (h2 : t = false → EV c ρ M1 b R) : EV c ρ M (.IfExp q a b pos) R := fun X G σ I F en di Q hQ =>
  wp_pe (pe_ifExp pt_wp pe_wp pe_wp) (tm_bind h G en di fun I1 s1 d1 => by
    cases t with
    | true =>
      rw [if_pos rfl]
      exact h1 rfl X G σ I1 F (en.mono s1) d1 Q (hQ.mono s1)
    | false =>
      rw [if_neg Bool.false_ne_true]
      exact h2 rfl X G σ I1 F (en.mono s1) d1 Q (hQ.mono s1))
theorem em_if {t : Bool} {q : Expr} {d f : PyData} (h : TM c ρ M q t M) (h1 : t = true → EM c ρ M a (.dat d) M) (h2 : t = false → EM c ρ M b (.dat f) M) : EM c ρ M (.IfExp q a b pos) (.dat (if t then d else f)) M := by
  refine ev_if h (fun e => ?_) fun e => ?_
  · subst e
    exact h1 rfl
  · subst e
    exact h2 rfl

/-! ### arguments, tuples, lists -/
theorem am_nil : AM c ρ M [] [] M := fun X G σ I F en di Q hQ => wp_pa pa_nil (hQ [] I (Same.refl I) di .nil)
theorem am_bind {X : Cx} {es : List Expr} {xs : List Sl} (h : AM c ρ M es xs M') (G : Good c X) {σ : L2.St} (en : En c.g.C I σ ρ) (d : Ds I M F) {Q : List V → Hp → Prop} (q : ∀ vs I2, Same I I2 → Ds I2 M' F → Iss c.g.C I2 vs xs → Q vs (J3 I2 M' F)) : wpA X es σ (J3 I M F) Q := h X G σ I F en d Q q
theorem am_cons {es : List Expr} {xs : List Sl} (h : EM c ρ M e x M1) (ht : AM c ρ M1 es xs M2) (hs : ∀ env : PySem.Env, starEach (e :: es) env = (false, eval e env) :: starEach es env := by intro _; rfl) : AM c ρ M (e :: es) (x :: xs) M2 := fun X G σ I F en di Q hQ =>
  wp_pa (pa_cons pe_wp pa_wp (hs X.env)) (em_bind h G en di fun v I1 s1 d1 i1 => am_bind ht G (en.mono s1) d1 fun vs I2 s2 d2 i2 => hQ (v :: vs) I2 (s1.trans s2) d2 (.cons (i1.mono s2) i2))
theorem dats_of {ds : List PyData} : ∀ {vs : List V}, Iss C I vs (ds.map Sl.dat) → Dats I vs ds := by
  induction ds with
  | nil =>
    intro vs h
    cases h
    exact .nil
  | cons d ds ih =>
    intro vs h
    have h : Iss C I vs (Sl.dat d :: ds.map Sl.dat) := h
    cases h with
    | cons h1 h2 => exact .cons h1 (ih h2)
theorem em_tup {es : List Expr} {x1} (ds : List PyData) (h : AM c ρ M es (ds.map Sl.dat) M1) (hz : ds.length ≤ 1000 := by first | decide | simp) : EM c ρ M (.Tuple es x1 pos) (.dat (.tuple ds)) M1 := fun X G σ I F en di Q hQ =>
  wp_pe (pe_tup pa_wp) (am_bind h G en di fun vs I1 s1 d1 i1 => ⟨by rw [(dats_of i1).length]; exact Nat.le_of_lt (small1000 hz), gives_tup (hQ.mono s1) only_self d1 (dats_of i1)⟩)
theorem em_lst {es : List Expr} (ds : List PyData) (h : AM c ρ M es (ds.map Sl.dat) M1) (hz : ds.length ≤ 1000 := by first | decide | simp) : EM c ρ M (.List es pos) (.dat (.list ds)) M1 := fun X G σ I F en di Q hQ =>
  wp_pe (pe_lst pa_wp) (am_bind h G en di fun vs I1 s1 d1 i1 => ⟨by rw [(dats_of i1).length]; exact Nat.le_of_lt (small1000 hz), gives_lst (hQ.mono s1) only_self d1 (dats_of i1)⟩)
/-! ### texts, lists, tuples: +, items -/
theorem sOf_app (l m : List Nat) : sOf l ++ sOf m = sOf (l ++ m) := by
  show (⟨l.toArray ++ m.toArray⟩ : Str) = ⟨(l ++ m).toArray⟩
  simp
theorem em_addS {l m : List Nat} (ha : EM c ρ M a (.dat (S l)) M1) (hb : EM c ρ M1 b (.dat (S m)) M2) (hz : l.length + m.length ≤ 100000) : EM c ρ M (.BinOp a .Add b pos) (.dat (S (l ++ m))) M2 :=
  ev_op (fun _ _ => op_add_str) ha hb fun X G I F v u d h1 h2 Q hQ => ⟨sOf l, sOf m, is_str h1, is_str h2, by rw [sOf_length, sOf_length]; exact Nat.le_trans hz (by decide), by
    rw [sOf_app]
    exact hQ.only (Same.refl I) d (.str _)⟩
theorem em_cat {ds es : List PyData} (ha : EM c ρ M a (.dat (.list ds)) M1) (hb : EM c ρ M1 b (.dat (.list es)) M2) (hz : ds.length + es.length ≤ 100000) : EM c ρ M (.BinOp a .Add b pos) (.dat (.list (ds ++ es))) M2 :=
  ev_op (fun _ _ => op_cat) ha hb fun X G I F v u d h1 h2 Q hQ => by
    obtain ⟨p, xs, rfl, e1, f1⟩ := is_lst h1
    obtain ⟨q, ys, rfl, e2, f2⟩ := is_lst h2
    exact ⟨p, q, xs, ys, rfl, rfl, j3_I e1, j3_I e2, by rw [f1.length, f2.length]; exact Nat.le_trans hz (by decide), gives_lst hQ only_self d (f1.append f2)⟩
theorem atI_len {α : Type} {xs : List α} {i : Int} {v : α} (h : atI xs i = some v) : ∃ j : Nat, xs[j]? = some v ∧ ixN xs.length i = some j := by
  unfold atI at h
  cases e : ixN xs.length i with
  | none => rw [e] at h; cases h
  | some j => rw [e] at h; exact ⟨j, h, rfl⟩
theorem dats_atI {ds : List PyData} {xs : List V} {i : Int} {d : PyData} (f : Dats I xs ds) (h : atI ds i = some d) : ∃ v, atI xs i = some v ∧ Dat I v d := by
  obtain ⟨j, e1, e2⟩ := atI_len h
  obtain ⟨v, e3, e4⟩ := f.get e1
  refine ⟨v, ?_, e4⟩
  unfold atI
  rw [f.length, e2]
  exact e3
theorem em_ixL {ds : List PyData} {i : Int} {d : PyData} (ha : EM c ρ M a (.dat (.list ds)) M1) (hb : EM c ρ M1 b (.dat (.int i)) M2) (h : atI ds i = some d) (hs : PlainIx b := by exact fun _ _ => rfl) : EM c ρ M (.Subscript a b pos) (.dat d) M2 := by
  intro X G σ I F en di Q hQ
  refine wp_pe (pe_ix ix_list pe_wp pe_wp hs) (two (ta := wpE X a) G en di ha hb fun I2 v u s dd i1 i2 => ?_)
  obtain ⟨p, xs, rfl, e1, f1⟩ := is_lst i1
  obtain ⟨w, e2, f2⟩ := dats_atI f1 h
  exact ⟨p, xs, i, w, rfl, is_int i2, SqL.of (j3_I e1), e2, hQ.only s dd f2⟩
theorem em_ixT {ds : List PyData} {i : Int} {d : PyData} (ha : EM c ρ M a (.dat (.tuple ds)) M1) (hb : EM c ρ M1 b (.dat (.int i)) M2) (h : atI ds i = some d) (hs : PlainIx b := by exact fun _ _ => rfl) : EM c ρ M (.Subscript a b pos) (.dat d) M2 := by
  intro X G σ I F en di Q hQ
  refine wp_pe (pe_ix ix_tup pe_wp pe_wp hs) (two (ta := wpE X a) G en di ha hb fun I2 v u s dd i1 i2 => ?_)
  obtain ⟨p, xs, rfl, e1, f1⟩ := is_tup i1
  obtain ⟨w, e2, f2⟩ := dats_atI f1 h
  exact ⟨p, xs, i, w, rfl, is_int i2, SqT.of (j3_I e1), e2, hQ.only s dd f2⟩
theorem em_ixS {l : List Nat} {i : Int} {d : Nat} (ha : EM c ρ M a (.dat (S l)) M1) (hb : EM c ρ M1 b (.dat (.int i)) M2) (h : atI l i = some d) (hz : l.length ≤ 100000) (hs : PlainIx b := by exact fun _ _ => rfl) : EM c ρ M (.Subscript a b pos) (.dat (S [d])) M2 := by
  intro X G σ I F en di Q hQ
  refine wp_pe (pe_ix ix_str pe_wp pe_wp hs) (two (ta := wpE X a) G en di ha hb fun I2 v u s dd i1 i2 => ?_)
  exact ⟨sOf l, i, d, is_str i1, is_int i2, by rw [sOf_length]; exact Nat.le_trans hz (by decide), h, hQ.only s dd (.str _)⟩
/-! ### in -/
theorem rd_inSign {x : Nat} {l : List Nat} : RD c (fun _ => fun v u H Q => ∃ c' z, v = .str ⟨#[c']⟩ ∧ u = .str z ∧ Q (.bl (decide (c' ∈ z.cps.toList))) H) (.dat (S [x])) (.dat (S l)) M (only (.dat (.bool (decide (x ∈ l)))) M) := fun X G I F v u d h1 h2 Q hQ =>
  ⟨x, sOf l, is_str h1, is_str h2, hQ.only (Same.refl I) d (.bl _)⟩
end
end Wr
end
section
set_option maxRecDepth 100000
set_option maxHeartbeats 1000000
/-! Rules: in, ==, slices, len, isinstance, attributes, built-in calls. -/
namespace Wr
open PySem L2

section
variable {g : Gm} {k : Nat} {N : List Str} {sc : Scope} {gd : Bool} {bl : Option Scope} {c : Cs} {ρ : List (Option Sl)} {M M1 M2 M3 M' : Hp} {a b e : Expr} {x y z : Sl} {R : Wish} {pos : Pos} {I I2 F : Hp} {C : Addr} {Q : VK}

/-! ### in -/
theorem rd_notInSign {x : Nat} {l : List Nat} : RD c (fun _ => fun v u H Q => ∃ c' z, v = .str ⟨#[c']⟩ ∧ u = .str z ∧ Q (.bl (!decide (c' ∈ z.cps.toList))) H) (.dat (S [x])) (.dat (S l)) M (only (.dat (.bool (!decide (x ∈ l)))) M) := fun X G I F v u d h1 h2 Q hQ =>
  ⟨x, sOf l, is_str h1, is_str h2, hQ.only (Same.refl I) d (.bl _)⟩
theorem em_in1 {x : Nat} {l : List Nat} (ha : EM c ρ M a (.dat (S [x])) M1) (hb : EM c ρ M1 b (.dat (S l)) M2) (hm : behindInMarks .In b = false := by rfl) : EM c ρ M (.Compare a [.In] [b] pos) (.dat (.bool (decide (x ∈ l)))) M2 := ev_cmp (fun _ _ => op_in_sign) ha hb rd_inSign hm
theorem tm_in1 {x : Nat} {l : List Nat} (ha : EM c ρ M a (.dat (S [x])) M1) (hb : EM c ρ M1 b (.dat (S l)) M2) (hm : behindInMarks .In b = false := by rfl) : TM c ρ M (.Compare a [.In] [b] pos) (decide (x ∈ l)) M2 := tm_cmp (fun _ _ => op_in_sign) ha hb rd_inSign hm
theorem tm_ni1 {x : Nat} {l : List Nat} (ha : EM c ρ M a (.dat (S [x])) M1) (hb : EM c ρ M1 b (.dat (S l)) M2) (hm : behindInMarks .NotIn b = false := by rfl) : TM c ρ M (.Compare a [.NotIn] [b] pos) (!decide (x ∈ l)) M2 := tm_cmp (fun _ _ => op_notIn_sign) ha hb rd_notInSign hm
theorem le_sign (x y : Nat) : (!decide ([y] < [x])) = decide (x ≤ y) := by
  by_cases h : x ≤ y
  · rw [decide_eq_true h, decide_eq_false]
    · rfl
    · intro q
      have q' := List.cons_lt_cons_iff.mp q
      rcases q' with q' | ⟨q', q2⟩
      · omega
      · exact absurd q2 (by simp)
  · rw [decide_eq_false h, decide_eq_true]
    · rfl
    · exact List.cons_lt_cons_iff.mpr (.inl (by omega))
theorem em_leC {x y : Nat} (ha : EM c ρ M a (.dat (S [x])) M1) (hb : EM c ρ M1 b (.dat (S [y])) M2) : EM c ρ M (.Compare a [.LtE] [b] pos) (.dat (.bool (decide (x ≤ y)))) M2 := by
  rw [← le_sign]
  exact ev_cmp (fun _ _ => op_le_str) ha hb (fun X G I F v u d h1 h2 Q hQ => ⟨sOf [x], sOf [y], is_str h1, is_str h2, hQ.only (Same.refl I) d (.bl _)⟩) (nomark _)
theorem inV_strs (l : List Nat) : ∀ ls : List (List Nat), inV (.str (sOf l)) ((ls.map sOf).map V.str) = decide (l ∈ ls)
  | [] => by simp [inV]
  | m :: ls => by
    have ih := inV_strs l ls
    unfold inV at ih ⊢
    rw [List.map_cons, List.map_cons, List.any_cons, ih]
    have e : eqV (V.str (sOf m)) (V.str (sOf l)) = decide (l = m) := by
      show (sOf m == sOf l) = decide (l = m)
      by_cases h : l = m
      · subst h; simp
      · rw [decide_eq_false h]
        exact beq_eq_false_iff_ne.mpr fun z => h (sOf_inj z).symm
    rw [e]
    by_cases h1 : l = m <;> by_cases h2 : l ∈ ls <;> simp [h1, h2]
theorem flat_strs (ls : List Str) : (ls.map V.str).all flatV = true := by
  rw [List.all_map]
  exact List.all_eq_true.mpr fun _ _ => rfl
theorem flat_ints (ls : List Int) : (ls.map V.int).all flatV = true := by
  rw [List.all_map]
  exact List.all_eq_true.mpr fun _ _ => rfl
theorem inV_ints (i : Int) : ∀ ns : List Int, inV (.int i) (ns.map V.int) = decide (i ∈ ns)
  | [] => by simp [inV]
  | n :: ns => by
    have ih := inV_ints i ns
    unfold inV at ih ⊢
    rw [List.map_cons, List.any_cons, ih]
    have e : eqV (V.int n) (V.int i) = decide (i = n) := by
      show (n == i) = decide (i = n)
      by_cases h : i = n
      · subst h; simp
      · rw [decide_eq_false h]
        exact beq_eq_false_iff_ne.mpr fun z => h z.symm
    rw [e]
    by_cases h1 : i = n <;> by_cases h2 : i ∈ ns <;> simp [h1, h2]
theorem map_S (ls : List (List Nat)) : ls.map S = (ls.map sOf).map PyData.str := by simp [List.map_map, Function.comp_def, S]
/-- a text not in a list of texts -/
theorem tm_niLS {l : List Nat} {ls : List (List Nat)} (ha : EM c ρ M a (.dat (S l)) M1) (hb : EM c ρ M1 b (.dat (.list (ls.map S))) M2) (hm : behindInMarks .NotIn b = false := by rfl) : TM c ρ M (.Compare a [.NotIn] [b] pos) (!decide (l ∈ ls)) M2 :=
  tm_cmp (r := fun X => rIn X.K true) (fun _ _ => op_notIn_seq) ha hb (fun X G I F v u d h1 h2 Q hQ => by
    obtain ⟨p, xs, rfl, e, f⟩ := is_lst h2
    rw [map_S] at f
    have q := f.strs
    subst q
    refine ⟨p, _, rfl, .inl (SqL.of (j3_I e)), by rw [is_str h1]; rfl, flat_strs _, ?_⟩
    rw [is_str h1, inV_strs]
    exact hQ.only (Same.refl I) d (.bl _)) hm
/-- an int in, not in a tuple of ints -/
theorem tm_inTI {i : Int} {ns : List Int} (ha : EM c ρ M a (.dat (.int i)) M1) (hb : EM c ρ M1 b (.dat (.tuple (ns.map .int))) M2) (hm : behindInMarks .In b = false := by rfl) : TM c ρ M (.Compare a [.In] [b] pos) (decide (i ∈ ns)) M2 :=
  tm_cmp (r := fun X => rIn X.K false) (fun _ _ => op_in_seq) ha hb (fun X G I F v u d h1 h2 Q hQ => by
    obtain ⟨p, xs, rfl, e, f⟩ := is_tup h2
    have q := f.ints
    subst q
    refine ⟨p, _, rfl, .inr (SqT.of (j3_I e)), by rw [is_int h1]; rfl, flat_ints _, ?_⟩
    rw [is_int h1, inV_ints]
    exact hQ.only (Same.refl I) d (.bl _)) hm
theorem tm_niTI {i : Int} {ns : List Int} (ha : EM c ρ M a (.dat (.int i)) M1) (hb : EM c ρ M1 b (.dat (.tuple (ns.map .int))) M2) (hm : behindInMarks .NotIn b = false := by rfl) : TM c ρ M (.Compare a [.NotIn] [b] pos) (!decide (i ∈ ns)) M2 :=
  tm_cmp (r := fun X => rIn X.K true) (fun _ _ => op_notIn_seq) ha hb (fun X G I F v u d h1 h2 Q hQ => by
    obtain ⟨p, xs, rfl, e, f⟩ := is_tup h2
    have q := f.ints
    subst q
    refine ⟨p, _, rfl, .inr (SqT.of (j3_I e)), by rw [is_int h1]; rfl, flat_ints _, ?_⟩
    rw [is_int h1, inV_ints]
    exact hQ.only (Same.refl I) d (.bl _)) hm
/-! ### data: ==, !=, in -/
theorem Good.hu {X : Cx} (G : Good c X) : X.A.units + 64 < cLine := G.room.units
theorem rd_eqD {d f : PyData} {t : Bool} (s1 : SeqAt.shaped d = true) (s2 : SeqAt.shaped f = true) (e : PyData.eqv d f = t) : RD c (fun X => rEqD X.K) (.dat d) (.dat f) M (only (.dat (.bool t)) M) := fun X G I F v u dd h1 h2 Q hQ => by
  refine ⟨d, f, Dat.dp d v (Dat.mono same_j3 d v h1), Dat.dp f u (Dat.mono same_j3 f u h2), s1, s2, ?_⟩
  rw [e]
  exact hQ.only (Same.refl I) dd (.bl _)
theorem rd_neD {d f : PyData} {t : Bool} (s1 : SeqAt.shaped d = true) (s2 : SeqAt.shaped f = true) (e : PyData.eqv d f = t) : RD c (fun X => rNeD X.K) (.dat d) (.dat f) M (only (.dat (.bool (!t))) M) := fun X G I F v u dd h1 h2 Q hQ => by
  refine ⟨d, f, Dat.dp d v (Dat.mono same_j3 d v h1), Dat.dp f u (Dat.mono same_j3 f u h2), s1, s2, ?_⟩
  rw [e]
  exact hQ.only (Same.refl I) dd (.bl _)
section
variable {d f : PyData} {t : Bool}
theorem em_eqD (ha : EM c ρ M a (.dat d) M1) (hb : EM c ρ M1 b (.dat f) M2) (s1 : SeqAt.shaped d = true) (s2 : SeqAt.shaped f = true) (e : PyData.eqv d f = t) : EM c ρ M (.Compare a [.Eq] [b] pos) (.dat (.bool t)) M2 := ev_cmp (fun _ G => op_eqD G.hu) ha hb (rd_eqD s1 s2 e) (nomark _)
theorem tm_eqD (ha : EM c ρ M a (.dat d) M1) (hb : EM c ρ M1 b (.dat f) M2) (s1 : SeqAt.shaped d = true) (s2 : SeqAt.shaped f = true) (e : PyData.eqv d f = t) : TM c ρ M (.Compare a [.Eq] [b] pos) t M2 := tm_cmp (fun _ G => op_eqD G.hu) ha hb (rd_eqD s1 s2 e) (nomark _)
theorem em_neD (ha : EM c ρ M a (.dat d) M1) (hb : EM c ρ M1 b (.dat f) M2) (s1 : SeqAt.shaped d = true) (s2 : SeqAt.shaped f = true) (e : PyData.eqv d f = t) : EM c ρ M (.Compare a [.NotEq] [b] pos) (.dat (.bool (!t))) M2 := ev_cmp (fun _ G => op_neD G.hu) ha hb (rd_neD s1 s2 e) (nomark _)
theorem tm_neD (ha : EM c ρ M a (.dat d) M1) (hb : EM c ρ M1 b (.dat f) M2) (s1 : SeqAt.shaped d = true) (s2 : SeqAt.shaped f = true) (e : PyData.eqv d f = t) : TM c ρ M (.Compare a [.NotEq] [b] pos) (!t) M2 := tm_cmp (fun _ G => op_neD G.hu) ha hb (rd_neD s1 s2 e) (nomark _)
end
/-! shapes -/
theorem depth_ints : ∀ ns : List Int, PyData.depthAll (ns.map .int) = 0 := PySem.W.depth_ints
theorem lay_ints : ∀ ns : List Int, PyData.canLayAll0 (ns.map .int) = true
  | [] => by simp [PyData.canLayAll0]
  | n :: ns => by simp [PyData.canLayAll0, PyData.canLay0, lay_ints ns]
theorem depth_strs : ∀ ns : List Str, PyData.depthAll (ns.map .str) = 0
  | [] => by simp [PyData.depthAll]
  | n :: ns => by
    show PyData.depthAll (.str n :: ns.map .str) = 0
    rw [PyData.depthAll, depth_strs ns]
    simp [PyData.depth]
theorem lay_strs : ∀ ns : List (List Nat), (∀ l ∈ ns, ∀ c ∈ l, c < 1000) → PyData.canLayAll0 (ns.map S) = true
  | [], _ => by simp [PyData.canLayAll0]
  | n :: ns, h => by
    show PyData.canLayAll0 (.str (sOf n) :: ns.map S) = true
    have e : PyData.strOk (sOf n) = true := by
      unfold PyData.strOk
      rw [Array.all_eq_true']
      intro x hx
      have hx' : x ∈ n := by simpa [sOf] using hx
      have := h n (by simp) x hx'
      exact decide_eq_true (by omega)
    simp only [PyData.canLayAll0, PyData.canLay0, e, lay_strs ns (fun l hl => h l (by simp [hl])), Bool.and_true]
theorem shaped_of {d : PyData} (h1 : d.canLay0 = true) (h2 : d.depth ≤ 64) : SeqAt.shaped d = true := by
  show (d.canLay0 && decide (d.depth ≤ 64)) = true
  rw [h1, decide_eq_true h2]
  rfl
theorem shaped_tI (ns : List Int) : SeqAt.shaped (.tuple (ns.map .int)) = true := shaped_of (by simp only [PyData.canLay0]; exact lay_ints ns) (by simp only [PyData.depth, depth_ints ns]; omega)
theorem shaped_lI (ns : List Int) : SeqAt.shaped (.list (ns.map .int)) = true := shaped_of (by simp only [PyData.canLay0]; exact lay_ints ns) (by simp only [PyData.depth, depth_ints ns]; omega)
theorem shaped_lS (ns : List (List Nat)) (h : ∀ l ∈ ns, ∀ c ∈ l, c < 1000) : SeqAt.shaped (.list (ns.map S)) = true :=
  shaped_of (by simp only [PyData.canLay0]; exact lay_strs _ h) (by rw [map_S]; simp only [PyData.depth, depth_strs]; omega)
def tI (ns : List Int) : PyData := .tuple (ns.map .int)
theorem lay_tIs : ∀ nss : List (List Int), PyData.canLayAll0 (nss.map tI) = true
  | [] => by simp [PyData.canLayAll0]
  | n :: ns => by
    show PyData.canLayAll0 (tI n :: ns.map tI) = true
    simp only [PyData.canLayAll0, lay_tIs ns, Bool.and_true]
    show PyData.canLay0 (.tuple (n.map .int)) = true
    simp only [PyData.canLay0]
    exact lay_ints n
theorem depth_tIs : ∀ nss : List (List Int), PyData.depthAll (nss.map tI) ≤ 1
  | [] => by simp [PyData.depthAll]
  | n :: ns => by
    show PyData.depthAll (tI n :: ns.map tI) ≤ 1
    have h := depth_tIs ns
    have h2 : (tI n).depth = 1 := by
      show PyData.depth (.tuple (n.map .int)) = 1
      simp only [PyData.depth, depth_ints n]
    simp only [PyData.depthAll, h2]
    omega
theorem shaped_lT (nss : List (List Int)) : SeqAt.shaped (.list (nss.map tI)) = true := shaped_of (by simp only [PyData.canLay0]; exact lay_tIs nss) (by
  have := depth_tIs nss
  simp only [PyData.depth]
  omega)
theorem shaped_nil : SeqAt.shaped (.list []) = true := shaped_lI []
theorem shaped_L (ds : List PyData) (h1 : PyData.canLayAll0 ds = true) (h2 : PyData.depthAll ds ≤ 60) : SeqAt.shaped (.list ds) = true := shaped_of (by simp only [PyData.canLay0]; exact h1) (by simp only [PyData.depth]; omega)
theorem eqvAll_ints : ∀ ns ms : List Int, PyData.eqvAll (ns.map .int) (ms.map .int) = decide (ns = ms)
  | [], [] => by simp [PyData.eqvAll]
  | [], m :: ms => by simp [PyData.eqvAll]
  | n :: ns, [] => by simp [PyData.eqvAll]
  | n :: ns, m :: ms => by
    show PyData.eqvAll (.int n :: ns.map .int) (.int m :: ms.map .int) = _
    rw [PyData.eqvAll, eqvAll_ints ns ms]
    have e : PyData.eqv (.int n) (.int m) = decide (n = m) := by
      simp only [PyData.eqv]
      by_cases h : n = m
      · subst h; simp
      · simp [h]
    rw [e]
    by_cases h1 : n = m <;> by_cases h2 : ns = ms <;> simp [h1, h2]
theorem eqvAll_strs : ∀ ns ms : List (List Nat), PyData.eqvAll (ns.map S) (ms.map S) = decide (ns = ms)
  | [], [] => by simp [PyData.eqvAll]
  | [], m :: ms => by simp [PyData.eqvAll]
  | n :: ns, [] => by simp [PyData.eqvAll]
  | n :: ns, m :: ms => by
    show PyData.eqvAll (.str (sOf n) :: ns.map S) (.str (sOf m) :: ms.map S) = _
    rw [PyData.eqvAll, eqvAll_strs ns ms]
    have e : PyData.eqv (.str (sOf n)) (.str (sOf m)) = decide (n = m) := by
      simp only [PyData.eqv]
      by_cases h : n = m
      · subst h; simp
      · rw [decide_eq_false h]
        exact beq_eq_false_iff_ne.mpr fun z => h (sOf_inj z)
    rw [e]
    by_cases h1 : n = m <;> by_cases h2 : ns = ms <;> simp [h1, h2]
theorem eqv_tI (ns ms : List Int) : PyData.eqv (tI ns) (tI ms) = decide (ns = ms) := by
  show PyData.eqv (.tuple (ns.map .int)) (.tuple (ms.map .int)) = _
  rw [PyData.eqv, eqvAll_ints]
theorem eqv_lI (ns ms : List Int) : PyData.eqv (.list (ns.map .int)) (.list (ms.map .int)) = decide (ns = ms) := by rw [PyData.eqv, eqvAll_ints]
theorem eqv_lS (ns ms : List (List Nat)) : PyData.eqv (.list (ns.map S)) (.list (ms.map S)) = decide (ns = ms) := by rw [PyData.eqv, eqvAll_strs]
theorem eqv_nil (ds : List PyData) : PyData.eqv (.list ds) (.list []) = ds.isEmpty := by
  cases ds with
  | nil => simp [PyData.eqv, PyData.eqvAll]
  | cons d ds => simp [PyData.eqv, PyData.eqvAll]
theorem any_tI (ns : List Int) : ∀ nss : List (List Int), ((nss.map tI).any fun d => PyData.eqv d (tI ns)) = decide (ns ∈ nss)
  | [] => by simp
  | m :: nss => by
    rw [List.map_cons, List.any_cons, any_tI ns nss, eqv_tI]
    by_cases h1 : m = ns
    · subst h1; simp
    · by_cases h2 : ns ∈ nss
      · simp [h1, h2]
      · simp [h1, h2, Ne.symm h1]
/-- a tuple of ints in a list of such -/
theorem em_inLT {ns : List Int} {nss : List (List Int)} (ha : EM c ρ M a (.dat (tI ns)) M1) (hb : EM c ρ M1 b (.dat (.list (nss.map tI))) M2) (hm : behindInMarks .In b = false := by rfl) : EM c ρ M (.Compare a [.In] [b] pos) (.dat (.bool (decide (ns ∈ nss)))) M2 :=
  ev_cmp (r := fun X => rInD X.K) (fun _ G => op_inD (by have := G.hu; have := G.room.un; unfold cLine at *; omega)) ha hb (fun X G I F v u d h1 h2 Q hQ => by
    refine ⟨tI ns, nss.map tI, Dat.dp _ v (Dat.mono same_j3 _ v h1), Dat.dp _ u (Dat.mono same_j3 _ u h2), shaped_tI ns, shaped_lT nss, ?_⟩
    rw [any_tI]
    exact hQ.only (Same.refl I) d (.bl _)) hm
end
end Wr
end
section
set_option maxRecDepth 100000
set_option maxHeartbeats 1000000
/-! Rules: built-in calls, slices, fields. -/
namespace Wr
open PySem L2

section
variable {g : Gm} {k : Nat} {N : List Str} {sc : Scope} {gd : Bool} {bl : Option Scope} {c : Cs} {ρ : List (Option Sl)} {M M1 M2 M3 M' : Hp} {a b e : Expr} {es : List Expr} {x y z : Sl} {xs : List Sl} {R : Wish} {pos p : Pos} {I I2 F : Hp} {C : Addr} {Q : VK}

/-! ### calls of built-ins by name -/
def CD (c : Cs) (r : Cx → List V → Hp → VK → Prop) (xs : List Sl) (M : Hp) (R : Wish) : Prop :=
  ∀ X, Good c X → ∀ (I F : Hp) (vs : List V), Ds I M F → Iss c.g.C I vs xs → ∀ Q : VK, Gives c.g.C I F R Q → r X vs (J3 I M F) Q
theorem ev_callB {id : String} {r : Cx → List V → Hp → VK → Prop} {f : Str} (hc : ∀ X, Good c X → CallR X (.builtin id) (r X)) (ha : AM c ρ M (e :: es) xs M1) (hr : CD c r xs M1 R)
    (hf : glB c.sc f = true) (hb : f ∈ bltNames := by decide +kernel) (hv : bootBuiltins f = some (.builtin id) := by decide +kernel) (hn : f ≠ "__name__" := by decide +kernel)
    (hs : ∀ env : PySem.Env, starEach (e :: es) env = (false, eval e env) :: starEach es env := by intro _; rfl) (hp : ∀ env : PySem.Env, (backTo pos (starEach es env)).any (·.1) = false := by intro _; rfl) : EV c ρ M (.Call (.Name f p) (e :: es) [] pos) R := by
  intro X G σ I F en di Q hQ
  obtain ⟨h1, h2⟩ := G.gl hf
  refine wp_pe (pe_callB (hc X G) h1 (by rw [G.mg]; exact c.g.blt f hb) hv pa_wp hn h2 (hs _) (hp _)) ?_
  exact am_bind ha G en di fun vs I2 s d i => hr X G I2 F vs d i Q (hQ.mono s)
theorem ev_callTy {T : String} {r : Cx → List V → Hp → VK → Prop} {f : Str} (hc : ∀ X, Good c X → CallR X (.type T) (r X)) (ha : AM c ρ M (e :: es) xs M1) (hr : CD c r xs M1 R)
    (hf : glB c.sc f = true) (hb : f ∈ bltNames := by decide +kernel) (hv : bootBuiltins f = some (.type T) := by decide +kernel) (hn : f ≠ "__name__" := by decide +kernel)
    (hs : ∀ env : PySem.Env, starEach (e :: es) env = (false, eval e env) :: starEach es env := by intro _; rfl) (hp : ∀ env : PySem.Env, (backTo pos (starEach es env)).any (·.1) = false := by intro _; rfl) : EV c ρ M (.Call (.Name f p) (e :: es) [] pos) R := by
  intro X G σ I F en di Q hQ
  obtain ⟨h1, h2⟩ := G.gl hf
  refine wp_pe (pe_callTy (hc X G) h1 (by rw [G.mg]; exact c.g.blt f hb) hv pa_wp hn h2 (hs _) (hp _)) ?_
  exact am_bind ha G en di fun vs I2 s d i => hr X G I2 F vs d i Q (hQ.mono s)
/-- a built-in class as a value -/
theorem em_bty {f : Str} (T : String) (hf : glB c.sc f = true) (hb : f ∈ bltNames := by decide +kernel) (hv : bootBuiltins f = some (.type T) := by decide +kernel) (hn : f ≠ "__name__" := by decide +kernel) : EM c ρ M (.Name f pos) (.raw (.ty T)) M := by
  intro X G σ I F en di Q hQ
  obtain ⟨h1, h2⟩ := G.gl hf
  exact wp_pe (pe_bltn (v := .ty T) h1 (by rw [G.mg]; exact c.g.blt f hb) hv rfl hn h2) (hQ.only (Same.refl I) di rfl)
theorem is1 {vs : List V} (h : Iss C I vs [x]) : ∃ v, vs = [v] ∧ Is C I v x := by
  cases h with
  | cons h1 h2 => cases h2; exact ⟨_, rfl, h1⟩
theorem is2 {vs : List V} (h : Iss C I vs [x, y]) : ∃ v u, vs = [v, u] ∧ Is C I v x ∧ Is C I u y := by
  cases h with
  | cons h1 h2 =>
    cases h2 with
    | cons h2 h3 => cases h3; exact ⟨_, _, rfl, h1, h2⟩
theorem am_one (h : EM c ρ M e x M1) (hs : ∀ env : PySem.Env, starEach (e :: []) env = (false, eval e env) :: starEach [] env := by intro _; rfl) : AM c ρ M [e] [x] M1 := am_cons h am_nil hs
theorem am_two (h : EM c ρ M a x M1) (h2 : EM c ρ M1 b y M2) (hs : ∀ env : PySem.Env, starEach (a :: [b]) env = (false, eval a env) :: starEach [b] env := by intro _; rfl) (hs2 : ∀ env : PySem.Env, starEach (b :: []) env = (false, eval b env) :: starEach [] env := by intro _; rfl) : AM c ρ M [a, b] [x, y] M2 := am_cons h (am_cons h2 am_nil hs2) hs
section
variable {ds : List PyData} {l : List Nat} {i j : Int}
theorem em_lenS (ha : EM ⟨g, k, N, sc, gd, bl⟩ ρ M e (.dat (S l)) M1) (hz : l.length ≤ 100000) (hf : glB sc "len" = true := by decide +kernel) (hs : ∀ env : PySem.Env, starEach (e :: []) env = (false, eval e env) :: starEach [] env := by intro _; rfl) : EM ⟨g, k, N, sc, gd, bl⟩ ρ M (.Call (.Name "len" p) [e] [] pos) (.dat (.int l.length)) M1 :=
  ev_callB (fun _ _ => call_len_str) (am_one ha hs) (fun X G I F vs d i Q hQ => by
    obtain ⟨v, rfl, h⟩ := is1 i
    refine ⟨sOf l, by rw [is_str h], by rw [sOf_length]; exact Nat.le_trans hz (by decide), ?_⟩
    rw [sOf_length]
    exact hQ.only (Same.refl I) d (.int _)) hf (hs := hs)
theorem em_lenL (ha : EM ⟨g, k, N, sc, gd, bl⟩ ρ M e (.dat (.list ds)) M1) (hf : glB sc "len" = true := by decide +kernel) (hs : ∀ env : PySem.Env, starEach (e :: []) env = (false, eval e env) :: starEach [] env := by intro _; rfl) : EM ⟨g, k, N, sc, gd, bl⟩ ρ M (.Call (.Name "len" p) [e] [] pos) (.dat (.int ds.length)) M1 :=
  ev_callB (fun _ _ => call_len_seq) (am_one ha hs) (fun X G I F vs d i Q hQ => by
    obtain ⟨v, rfl, h⟩ := is1 i
    obtain ⟨q, ys, rfl, e1, f1⟩ := is_lst h
    refine ⟨q, ys, rfl, .inl (SqL.of (j3_I e1)), ?_⟩
    rw [f1.length]
    exact hQ.only (Same.refl I) d (.int _)) hf (hs := hs)
theorem em_lenT (ha : EM ⟨g, k, N, sc, gd, bl⟩ ρ M e (.dat (.tuple ds)) M1) (hf : glB sc "len" = true := by decide +kernel) (hs : ∀ env : PySem.Env, starEach (e :: []) env = (false, eval e env) :: starEach [] env := by intro _; rfl) : EM ⟨g, k, N, sc, gd, bl⟩ ρ M (.Call (.Name "len" p) [e] [] pos) (.dat (.int ds.length)) M1 :=
  ev_callB (fun _ _ => call_len_seq) (am_one ha hs) (fun X G I F vs d i Q hQ => by
    obtain ⟨v, rfl, h⟩ := is1 i
    obtain ⟨q, ys, rfl, e1, f1⟩ := is_tup h
    refine ⟨q, ys, rfl, .inr (SqT.of (j3_I e1)), ?_⟩
    rw [f1.length]
    exact hQ.only (Same.refl I) d (.int _)) hf (hs := hs)
/-! isinstance -/
def tyOfD : PyData → String
  | .none => "NoneType"
  | .bool _ => "bool"
  | .int _ => "int"
  | .str _ => "str"
  | .list _ => "list"
  | .tuple _ => "tuple"
  | .dict _ => "dict"
theorem tyOf_dat {K : PySem.W.Frag} {v : V} {d : PyData} (h : Dat I v d) : TyOf K (J3 I M F) v (.type (tyOfD d)) := by
  cases h with
  | non => exact .non
  | bl b => exact .bl b
  | int i => exact .int i
  | str x => exact .str x
  | lst h1 _ => exact .lst (j3_I h1)
  | tup h1 _ => exact .tup (j3_I h1)
theorem em_isi {d : PyData} {T : String} {t : Bool} (ha : EM ⟨g, k, N, sc, gd, bl⟩ ρ M a (.dat d) M1) (hb : EM ⟨g, k, N, sc, gd, bl⟩ ρ M1 b (.raw (.ty T)) M2) (h : kitB (tyOfD d) T = some t := by decide +kernel)
    (hf : glB sc "isinstance" = true := by decide +kernel) (hs : ∀ env : PySem.Env, starEach (a :: [b]) env = (false, eval a env) :: starEach [b] env := by intro _; rfl) (hs2 : ∀ env : PySem.Env, starEach (b :: []) env = (false, eval b env) :: starEach [] env := by intro _; rfl)
    (hp : ∀ env : PySem.Env, (backTo pos (starEach [b] env)).any (·.1) = false := by intro _; rfl) : EM ⟨g, k, N, sc, gd, bl⟩ ρ M (.Call (.Name "isinstance" p) [a, b] [] pos) (.dat (.bool t)) M2 :=
  ev_callB (r := fun X => rIsi X.K) (fun _ _ => call_isi) (am_two ha hb hs hs2) (fun X G I F vs dd i Q hQ => by
    obtain ⟨v, u, rfl, h1, h2⟩ := is2 i
    have h2 : u = .ty T := h2
    subst h2
    exact ⟨v, .ty T, .type (tyOfD d), .type T, t, rfl, .ty T, .base (tyOf_dat h1), kit_ty h, hQ.only (Same.refl I) dd (.bl _)⟩) hf (hs := hs) (hp := hp)
theorem em_isiW {pl : List Nat} {ts : List (Nat × Nat)} {p2 : Pos} (ha : EM ⟨g, k, N, sc, gd, bl⟩ ρ M a (.web pl ts) M1) (hf : glB sc "isinstance" = true := by decide +kernel) (hw : glB sc "Web" = true := by decide +kernel)
    (hs : ∀ env : PySem.Env, starEach (a :: [.Name "Web" p2]) env = (false, eval a env) :: starEach [.Name "Web" p2] env := by intro _; rfl)
    (hp : ∀ env : PySem.Env, (backTo pos (starEach [.Name "Web" p2] env)).any (·.1) = false := by intro _; rfl) : EM ⟨g, k, N, sc, gd, bl⟩ ρ M (.Call (.Name "isinstance" p) [a, .Name "Web" p2] [] pos) (.dat (.bool true)) M1 := by
  have hb : EM ⟨g, k, N, sc, gd, bl⟩ ρ M1 (.Name "Web" p2) (.raw (.ref g.C)) M1 := by
    intro X G σ I F en di Q hQ
    obtain ⟨h1, h2⟩ := G.gl hw
    exact wp_pe (pe_glob (v := .ref g.C) h1 (by rw [G.mg]; exact g.gW) rfl h2) (hQ.only (Same.refl I) di rfl)
  exact ev_callB (r := fun X => fun xs H Q => ∃ a dx fs, xs = [.ref a, .ref g.C] ∧ H a = some (.ins g.C dx fs) ∧ Q (.bl true) H) (fun X G => C8.call_isC (by rw [G.K]; exact g.cls)) (am_two ha hb hs (by intro _; rfl)) (fun X G I F vs dd i Q hQ => by
    obtain ⟨v, u, rfl, h1, h2⟩ := is2 i
    have h2 : u = .ref g.C := h2
    subst h2
    obtain ⟨q, dx, t, rfl, e1, _, _⟩ := h1
    exact ⟨q, dx, _, rfl, j3_I e1, hQ.only (Same.refl I) dd (.bl _)⟩) hf (hs := hs) (hp := hp)
/-! fields -/
theorem em_places {pl : List Nat} {ts : List (Nat × Nat)} (ha : EM c ρ M e (.web pl ts) M1) (hb : ∀ env : PySem.Env, attributeBase e "places" env (eval e env) = eval e env := by intro _; rfl) : EM c ρ M (.Attribute e "places" pos) (.dat (S pl)) M1 := by
  intro X G σ I F en di Q hQ
  refine wp_pe (pe_fld pe_wp (hb _)) (em_bind ha G en di fun v I2 s d i => ?_)
  obtain ⟨q, dx, t, rfl, e1, _, _⟩ := i
  exact ⟨q, c.g.C, dx, _, .str (sOf pl), rfl, j3_I e1, by rw [G.K]; exact c.g.cls.cl, by rw [G.K]; exact c.g.nP, rfl, hQ.only s d (.str _)⟩
theorem em_ties {pl : List Nat} {ts : List (Nat × Nat)} (ha : EM c ρ M e (.web pl ts) M1) (hb : ∀ env : PySem.Env, attributeBase e "ties" env (eval e env) = eval e env := by intro _; rfl) : EM c ρ M (.Attribute e "ties" pos) (.dat (.tuple (ts.map fun q => S (tS q)))) M1 := by
  intro X G σ I F en di Q hQ
  refine wp_pe (pe_fld pe_wp (hb _)) (em_bind ha G en di fun v I2 s d i => ?_)
  obtain ⟨q, dx, t, rfl, e1, e2, e3⟩ := i
  refine ⟨q, c.g.C, dx, _, .ref t, rfl, j3_I e1, by rw [G.K]; exact c.g.cls.cl, by rw [G.K]; exact c.g.nT, rfl, hQ.only s d (.tup e3 ?_)⟩
  have h := Dats.of_strs (I := I2) (ts.map fun q => sOf (tS q))
  rw [List.map_map, List.map_map] at h
  exact h
/-! list(x), tuple(x) -/
theorem em_listT (ha : EM ⟨g, k, N, sc, gd, bl⟩ ρ M e (.dat (.tuple ds)) M1) (hf : glB sc "list" = true := by decide +kernel) (hs : ∀ env : PySem.Env, starEach (e :: []) env = (false, eval e env) :: starEach [] env := by intro _; rfl) : EM ⟨g, k, N, sc, gd, bl⟩ ρ M (.Call (.Name "list" p) [e] [] pos) (.dat (.list ds)) M1 :=
  ev_callTy (fun _ _ => call_list_of) (am_one ha hs) (fun X G I F vs d i Q hQ => by
    obtain ⟨v, rfl, h⟩ := is1 i
    obtain ⟨q, ys, rfl, e1, f1⟩ := is_tup h
    exact ⟨q, ys, rfl, .inr (SqT.of (j3_I e1)), gives_lst hQ only_self d f1⟩) hf (hs := hs)
theorem em_listL (ha : EM ⟨g, k, N, sc, gd, bl⟩ ρ M e (.dat (.list ds)) M1) (hf : glB sc "list" = true := by decide +kernel) (hs : ∀ env : PySem.Env, starEach (e :: []) env = (false, eval e env) :: starEach [] env := by intro _; rfl) : EM ⟨g, k, N, sc, gd, bl⟩ ρ M (.Call (.Name "list" p) [e] [] pos) (.dat (.list ds)) M1 :=
  ev_callTy (fun _ _ => call_list_of) (am_one ha hs) (fun X G I F vs d i Q hQ => by
    obtain ⟨v, rfl, h⟩ := is1 i
    obtain ⟨q, ys, rfl, e1, f1⟩ := is_lst h
    exact ⟨q, ys, rfl, .inl (SqL.of (j3_I e1)), gives_lst hQ only_self d f1⟩) hf (hs := hs)
theorem em_tupleL (ha : EM ⟨g, k, N, sc, gd, bl⟩ ρ M e (.dat (.list ds)) M1) (hf : glB sc "tuple" = true := by decide +kernel) (hs : ∀ env : PySem.Env, starEach (e :: []) env = (false, eval e env) :: starEach [] env := by intro _; rfl) : EM ⟨g, k, N, sc, gd, bl⟩ ρ M (.Call (.Name "tuple" p) [e] [] pos) (.dat (.tuple ds)) M1 :=
  ev_callTy (fun _ _ => call_tuple_of) (am_one ha hs) (fun X G I F vs d i Q hQ => by
    obtain ⟨v, rfl, h⟩ := is1 i
    obtain ⟨q, ys, rfl, e1, f1⟩ := is_lst h
    exact ⟨q, ys, rfl, .inl ⟨SqL.of (j3_I e1), gives_tup hQ only_self d f1⟩⟩) hf (hs := hs)
/-- tuple(range(n)) -/
theorem em_tupleRange {n : Nat} {p1 p2 : Pos} (ha : EM ⟨g, k, N, sc, gd, bl⟩ ρ M e (.dat (.int n)) M1) (hz : n ≤ 1000) (hf : glB sc "tuple" = true := by decide +kernel) (hf2 : glB sc "range" = true := by decide +kernel) (hs : ∀ env : PySem.Env, starEach (e :: []) env = (false, eval e env) :: starEach [] env := by intro _; rfl)
    (hs2 : ∀ env : PySem.Env, starEach (.Call (.Name "range" p1) [e] [] p2 :: []) env = (false, eval (.Call (.Name "range" p1) [e] [] p2) env) :: starEach [] env := by intro _; rfl) :
    EM ⟨g, k, N, sc, gd, bl⟩ ρ M (.Call (.Name "tuple" p) [.Call (.Name "range" p1) [e] [] p2] [] pos) (.dat (tI ((List.range n).map fun i : Nat => (i : Int)))) M1 := by
  intro X G σ I F en di Q hQ
  obtain ⟨h1, _⟩ := G.gl hf
  obtain ⟨h2, _⟩ := G.gl hf2
  refine wp_pe (pe_tupRg G.calm h1 (by rw [G.mg]; exact g.blt _ (by decide +kernel)) (prg_1 h2 (by rw [G.mg]; exact g.blt _ (by decide +kernel)) pe_wp (hs _)) (hs2 _)) ?_
  refine em_bind ha G en di fun v I2 s d i => ⟨n, is_int i, ⟨by omega, by omega, by omega, by omega, by omega⟩, ?_⟩
  have e : rgV 0 n = ((List.range n).map fun i : Nat => (i : Int)).map V.int := by
    unfold rgV
    rw [List.map_map]
    simp [Function.comp_def]
  rw [e]
  exact gives_tup (hQ.mono s) only_self d (Dats.of_ints _)
/-! sums, all, any, least -/
theorem em_all {bs : List Bool} (ha : EM ⟨g, k, N, sc, gd, bl⟩ ρ M e (.dat (.list (bs.map .bool))) M1) (hf : glB sc "all" = true := by decide +kernel) (hs : ∀ env : PySem.Env, starEach (e :: []) env = (false, eval e env) :: starEach [] env := by intro _; rfl) : EM ⟨g, k, N, sc, gd, bl⟩ ρ M (.Call (.Name "all" p) [e] [] pos) (.dat (.bool (bs.all id))) M1 :=
  ev_callB (r := fun X => rAll X.K) (fun _ G => cr_all G.calm) (am_one ha hs) (fun X G I F vs d i Q hQ => by
    obtain ⟨v, rfl, h⟩ := is1 i
    obtain ⟨q, ys, rfl, e1, f1⟩ := is_lst h
    have := f1.bls
    subst this
    exact ⟨q, bs, rfl, SqL.of (j3_I e1), hQ.only (Same.refl I) d (.bl _)⟩) hf (hs := hs)
theorem em_any {bs : List Bool} (ha : EM ⟨g, k, N, sc, gd, bl⟩ ρ M e (.dat (.list (bs.map .bool))) M1) (hf : glB sc "any" = true := by decide +kernel) (hs : ∀ env : PySem.Env, starEach (e :: []) env = (false, eval e env) :: starEach [] env := by intro _; rfl) : EM ⟨g, k, N, sc, gd, bl⟩ ρ M (.Call (.Name "any" p) [e] [] pos) (.dat (.bool (bs.any id))) M1 :=
  ev_callB (r := fun X => rAny X.K) (fun _ G => cr_any G.calm) (am_one ha hs) (fun X G I F vs d i Q hQ => by
    obtain ⟨v, rfl, h⟩ := is1 i
    obtain ⟨q, ys, rfl, e1, f1⟩ := is_lst h
    have := f1.bls
    subst this
    exact ⟨q, bs, rfl, SqL.of (j3_I e1), hQ.only (Same.refl I) d (.bl _)⟩) hf (hs := hs)
theorem em_sumL {ns : List Int} (ha : EM ⟨g, k, N, sc, gd, bl⟩ ρ M e (.dat (.list (ns.map .int))) M1) (hf : glB sc "sum" = true := by decide +kernel) (hs : ∀ env : PySem.Env, starEach (e :: []) env = (false, eval e env) :: starEach [] env := by intro _; rfl) : EM ⟨g, k, N, sc, gd, bl⟩ ρ M (.Call (.Name "sum" p) [e] [] pos) (.dat (.int ns.sum)) M1 :=
  ev_callB (r := fun X => rSum X.K) (fun _ G => cr_sum G.calm) (am_one ha hs) (fun X G I F vs d i Q hQ => by
    obtain ⟨v, rfl, h⟩ := is1 i
    obtain ⟨q, ys, rfl, e1, f1⟩ := is_lst h
    have := f1.ints
    subst this
    exact ⟨q, ns, rfl, SqL.of (j3_I e1), hQ.only (Same.refl I) d (.int _)⟩) hf (hs := hs)
/-- the least of some ints -/
def minL : List Int → Int
  | [] => 0
  | n :: ns => ns.foldl min n
theorem minL_mem : ∀ {n : Int} {ns : List Int}, ns.foldl min n ∈ n :: ns ∧ ∀ y ∈ n :: ns, ns.foldl min n ≤ y
  | n, [] => by simp
  | n, m :: ns => by
    obtain ⟨h1, h2⟩ := @minL_mem (min n m) ns
    rw [List.foldl_cons]
    have h3 := h2 (min n m) (by simp)
    refine ⟨?_, fun y hy => ?_⟩
    · rcases List.mem_cons.mp h1 with q | q
      · rw [q]
        by_cases hh : n ≤ m
        · rw [Int.min_eq_left hh]; simp
        · rw [Int.min_eq_right (by omega)]; simp
      · simp [q]
    · rcases List.mem_cons.mp hy with q | q
      · subst q; omega
      · rcases List.mem_cons.mp q with q | q
        · subst q; omega
        · exact h2 y (by simp [q])
theorem minL_is {ns : List Int} {m : Int} (h1 : m ∈ ns) (h2 : ∀ y ∈ ns, m ≤ y) : m = minL ns := by
  cases ns with
  | nil => cases h1
  | cons n ns =>
    obtain ⟨h3, h4⟩ := @minL_mem n ns
    have a := h2 _ h3
    have b := h4 _ h1
    show m = ns.foldl min n
    omega
theorem em_minL {ns : List Int} (ha : EM ⟨g, k, N, sc, gd, bl⟩ ρ M e (.dat (.list (ns.map .int))) M1) (hne : 0 < ns.length) (hf : glB sc "min" = true := by decide +kernel) (hs : ∀ env : PySem.Env, starEach (e :: []) env = (false, eval e env) :: starEach [] env := by intro _; rfl) : EM ⟨g, k, N, sc, gd, bl⟩ ρ M (.Call (.Name "min" p) [e] [] pos) (.dat (.int (minL ns))) M1 :=
  ev_callB (r := fun X => rMin X.K) (fun _ G => cr_min G.calm) (am_one ha hs) (fun X G I F vs d i Q hQ => by
    obtain ⟨v, rfl, h⟩ := is1 i
    obtain ⟨q, ys, rfl, e1, f1⟩ := is_lst h
    have := f1.ints
    subst this
    refine ⟨q, ns, rfl, SqL.of (j3_I e1), hne, fun m h1 h2 => ?_⟩
    rw [minL_is h1 h2]
    exact hQ.only (Same.refl I) d (.int _)) hf (hs := hs)
theorem em_max2 (ha : EM ⟨g, k, N, sc, gd, bl⟩ ρ M a (.dat (.int i)) M1) (hb : EM ⟨g, k, N, sc, gd, bl⟩ ρ M1 b (.dat (.int j)) M2) (hf : glB sc "max" = true := by decide +kernel) (hs : ∀ env : PySem.Env, starEach (a :: [b]) env = (false, eval a env) :: starEach [b] env := by intro _; rfl) (hs2 : ∀ env : PySem.Env, starEach (b :: []) env = (false, eval b env) :: starEach [] env := by intro _; rfl)
    (hp : ∀ env : PySem.Env, (backTo pos (starEach [b] env)).any (·.1) = false := by intro _; rfl) : EM ⟨g, k, N, sc, gd, bl⟩ ρ M (.Call (.Name "max" p) [a, b] [] pos) (.dat (.int (if j > i then j else i))) M2 :=
  ev_callB (fun _ G => call_max2 G.calm) (am_two ha hb hs hs2) (fun X G I F vs dd i Q hQ => by
    obtain ⟨v, u, rfl, h1, h2⟩ := is2 i
    exact ⟨_, _, by rw [is_int h1, is_int h2], hQ.only (Same.refl I) dd (.int _)⟩) hf (hs := hs) (hp := hp)
theorem em_min2 (ha : EM ⟨g, k, N, sc, gd, bl⟩ ρ M a (.dat (.int i)) M1) (hb : EM ⟨g, k, N, sc, gd, bl⟩ ρ M1 b (.dat (.int j)) M2) (hf : glB sc "min" = true := by decide +kernel) (hs : ∀ env : PySem.Env, starEach (a :: [b]) env = (false, eval a env) :: starEach [b] env := by intro _; rfl) (hs2 : ∀ env : PySem.Env, starEach (b :: []) env = (false, eval b env) :: starEach [] env := by intro _; rfl)
    (hp : ∀ env : PySem.Env, (backTo pos (starEach [b] env)).any (·.1) = false := by intro _; rfl) : EM ⟨g, k, N, sc, gd, bl⟩ ρ M (.Call (.Name "min" p) [a, b] [] pos) (.dat (.int (if j < i then j else i))) M2 :=
  ev_callB (fun _ G => call_min2 G.calm) (am_two ha hb hs hs2) (fun X G I F vs dd i Q hQ => by
    obtain ⟨v, u, rfl, h1, h2⟩ := is2 i
    exact ⟨_, _, by rw [is_int h1, is_int h2], hQ.only (Same.refl I) dd (.int _)⟩) hf (hs := hs) (hp := hp)
theorem em_abs (ha : EM ⟨g, k, N, sc, gd, bl⟩ ρ M e (.dat (.int i)) M1) (hf : glB sc "abs" = true := by decide +kernel) (hs : ∀ env : PySem.Env, starEach (e :: []) env = (false, eval e env) :: starEach [] env := by intro _; rfl) : EM ⟨g, k, N, sc, gd, bl⟩ ρ M (.Call (.Name "abs" p) [e] [] pos) (.dat (.int (if i < 0 then -i else i))) M1 :=
  ev_callB (fun _ G => call_abs) (am_one ha hs) (fun X G I F vs dd i Q hQ => by
    obtain ⟨v, rfl, h1⟩ := is1 i
    exact ⟨_, by rw [is_int h1], hQ.only (Same.refl I) dd (.int _)⟩) hf (hs := hs)
theorem em_intI (ha : EM ⟨g, k, N, sc, gd, bl⟩ ρ M e (.dat (.int i)) M1) (hf : glB sc "int" = true := by decide +kernel) (hs : ∀ env : PySem.Env, starEach (e :: []) env = (false, eval e env) :: starEach [] env := by intro _; rfl) : EM ⟨g, k, N, sc, gd, bl⟩ ρ M (.Call (.Name "int" p) [e] [] pos) (.dat (.int i)) M1 :=
  ev_callTy (fun _ G => call_int1) (am_one ha hs) (fun X G I F vs dd i Q hQ => by
    obtain ⟨v, rfl, h1⟩ := is1 i
    exact .inl ⟨_, by rw [is_int h1], hQ.only (Same.refl I) dd (.int _)⟩) hf (hs := hs)
theorem em_intB {t : Bool} (ha : EM ⟨g, k, N, sc, gd, bl⟩ ρ M e (.dat (.bool t)) M1) (hf : glB sc "int" = true := by decide +kernel) (hs : ∀ env : PySem.Env, starEach (e :: []) env = (false, eval e env) :: starEach [] env := by intro _; rfl) : EM ⟨g, k, N, sc, gd, bl⟩ ρ M (.Call (.Name "int" p) [e] [] pos) (.dat (.int (if t then 1 else 0))) M1 :=
  ev_callTy (fun _ G => call_int1) (am_one ha hs) (fun X G I F vs dd i Q hQ => by
    obtain ⟨v, rfl, h1⟩ := is1 i
    exact .inr ⟨_, by rw [is_bl h1], hQ.only (Same.refl I) dd (.int _)⟩) hf (hs := hs)
theorem em_divmod (ha : EM ⟨g, k, N, sc, gd, bl⟩ ρ M a (.dat (.int i)) M1) (hb : EM ⟨g, k, N, sc, gd, bl⟩ ρ M1 b (.dat (.int j)) M2) (hj : CDiv i j) (hf : glB sc "divmod" = true := by decide +kernel) (hs : ∀ env : PySem.Env, starEach (a :: [b]) env = (false, eval a env) :: starEach [b] env := by intro _; rfl) (hs2 : ∀ env : PySem.Env, starEach (b :: []) env = (false, eval b env) :: starEach [] env := by intro _; rfl)
    (hp : ∀ env : PySem.Env, (backTo pos (starEach [b] env)).any (·.1) = false := by intro _; rfl) : EM ⟨g, k, N, sc, gd, bl⟩ ρ M (.Call (.Name "divmod" p) [a, b] [] pos) (.dat (tI [i / j, i % j])) M2 :=
  ev_callB (fun _ G => call_divmod) (am_two ha hb hs hs2) (fun X G I F vs dd i Q hQ => by
    obtain ⟨v, u, rfl, h1, h2⟩ := is2 i
    refine ⟨_, _, by rw [is_int h1, is_int h2], hj, ?_⟩
    exact gives_tup hQ only_self dd (Dats.of_ints [_, _])) hf (hs := hs) (hp := hp)
end
end
end Wr
end
section
set_option maxRecDepth 100000
set_option maxHeartbeats 1000000
/-! Rules: statements, loops, comprehensions, calls of the text's own defs. -/
namespace Wr
open PySem L2

/-! ### a block -/
section
variable {g : Gm} {k : Nat} {N : List Str} {sc : Scope} {gd : Bool} {bl : Option Scope} {c : Cs} {ρ ρ' : List (Option Sl)} {M M1 M2 M3 M' : Hp} {a b e : Expr} {es : List Expr} {x y z : Sl} {xs : List Sl} {R : Wish} {pos p : Pos} {I I2 F : Hp} {C : Addr} {Q : VK} {K : Kont} {st : Stmt} {rest : List Stmt}
theorem bd_nil (h : K.nx ρ M) : BD c ρ M [] K := fun X G σ I F D en di kk => wp_pss pss_nil (kk.nx σ I ρ M h (Same.refl I) en di)
theorem kok_rest {X : Cx} (G : Good c X) {D : Ends} (kk : KOk c.g.C I F K D) : KOk c.g.C I F { K with nx := fun ρ' M' => BD c ρ' M' rest K } { D with nx := fun σ H => wpB X rest D σ H } :=
  ⟨fun σ I2 ρ' M' h s en d => h X G σ I2 F D en d (kk.mono s), kk.rt, kk.bk, kk.ct⟩
theorem bd_cons (h : SD c ρ M st { K with nx := fun ρ' M' => BD c ρ' M' rest K }) : BD c ρ M (st :: rest) K := fun X G σ I F D en di kk =>
  wp_pss (pss_cons ps_wp pss_wp) (h X G σ I F { D with nx := fun σ H => wpB X rest D σ H } en di (kok_rest G kk))
theorem bd_one (h : SD c ρ M st K) : BD c ρ M [st] K := fun X G σ I F D en di kk => wp_pss (pss_one ps_wp) (h X G σ I F D en di kk)
/-! ### statements -/
theorem sd_ret (h : EV c ρ M e K.rt) : SD c ρ M (.Return (some e) pos) K := fun X G σ I F D en di kk => wp_ps (ps_ret pe_wp) (h X G σ I F en di _ kk.rt)
theorem sd_retN (h : K.rt (.dat .none) M) : SD c ρ M (.Return none pos) K := fun X G σ I F D en di kk => wp_ps ps_retN (kk.rt.now h di .non)
theorem bd_ret (h : EV c ρ M e K.rt) : BD c ρ M (.Return (some e) pos :: rest) K := bd_cons (sd_ret h)
theorem sd_never (h : False) : SD c ρ M st K := h.elim
theorem sd_if {t : Bool} {A B : List Stmt} (h : TM c ρ M e t M1) (h1 : t = true → BD c ρ M1 A K) (h2 : t = false → BD c ρ M1 B K) : SD c ρ M (.If e A B pos) K := fun X G σ I F D en di kk =>
  wp_ps (ps_if pt_wp pss_wp pss_wp) (tm_bind h G en di fun I1 s1 d1 => by
    cases t with
    | true =>
      rw [if_pos rfl]
      exact h1 rfl X G σ I1 F D (en.mono s1) d1 (kk.mono s1)
    | false =>
      rw [if_neg Bool.false_ne_true]
      exact h2 rfl X G σ I1 F D (en.mono s1) d1 (kk.mono s1))
/-- if e: return .. -/
theorem bd_if {t : Bool} {A B : List Stmt} (h : TM c ρ M e t M1) (h1 : t = true → BD c ρ M1 A { K with nx := fun ρ' M' => BD c ρ' M' rest K }) (h2 : t = false → BD c ρ M1 B { K with nx := fun ρ' M' => BD c ρ' M' rest K }) : BD c ρ M (.If e A B pos :: rest) K := bd_cons (sd_if h h1 h2)
/-- a guard that does not fire -/
theorem bd_pass {A : List Stmt} (h : TM c ρ M e false M1) (h2 : BD c ρ M1 rest K) : BD c ρ M (.If e A [] pos :: rest) K := bd_if h (fun q => nomatch q) fun _ => bd_nil h2
theorem bd_when {t : Bool} {A : List Stmt} (h : TM c ρ M e t M1) (h1 : t = true → BD c ρ M1 A { K with nx := fun ρ' M' => BD c ρ' M' rest K }) (h2 : t = false → BD c ρ M1 rest K) : BD c ρ M (.If e A [] pos :: rest) K := bd_if h h1 fun q => bd_nil (h2 q)
theorem sd_expr (h : EV c ρ M e fun _ M' => K.nx ρ M') (hs : ∀ env : PySem.Env, swapsWith e none pos.line env = pure false := by intro _; rfl) : SD c ρ M (.Expr e pos) K := fun X G σ I F D en di kk =>
  wp_ps (ps_expr pe_wp (hs _)) (h X G σ I F en di _ fun v I2 y M2 r s2 d2 i2 => kk.nx σ I2 ρ M2 r s2 (en.mono s2) d2)
def locB (sc : Scope) (bl : Option Scope) (x : Str) : Bool := match sc.names.lookup x with
  | some .local => true
  | some .cell => fnB bl x
  | _ => false
def chkL (N : List Str) (sc : Scope) (bl : Option Scope) (i : Nat) (x : Str) : Bool := decide (N[i]? = some x) && decide N.Nodup && locB sc bl x
theorem loc_of {sc : Scope} {bl : Option Scope} {x : Str} (h : locB sc bl x = true) : sc.names.lookup x = some .local ∨ (sc.names.lookup x = some .cell ∧ fnB bl x = true) := by
  unfold locB at h
  split at h
  · exact .inl ‹_›
  · exact .inr ⟨‹_›, h⟩
  · cases h
structure LocOk (X : Cx) (i : Nat) (x : Str) : Prop where
  hN : X.N[i]? = some x
  nd : X.N.Nodup
  hx : Loc X.env.scope x
  hf : X.fn x = true ∨ X.env.scope.names.lookup x = some .local
theorem Good.loc {X : Cx} {i : Nat} {x : Str} (G : Good c X) (h : chkL c.N c.sc c.bl i x = true) : LocOk X i x := by
  unfold chkL at h
  simp only [Bool.and_eq_true, decide_eq_true_eq] at h
  obtain ⟨⟨h1, h2⟩, h3⟩ := h
  refine ⟨by rw [G.N]; exact h1, by rw [G.N]; exact h2, ?_, ?_⟩
  · show X.env.scope.names.lookup x = some .local ∨ X.env.scope.names.lookup x = some .cell
    rw [G.sc]
    rcases loc_of h3 with q | q
    · exact .inl q
    · exact .inr q.1
  · rw [G.sc]
    rcases loc_of h3 with q | q
    · exact .inr q
    · exact .inl (G.fn x q.2)
/-- name = e -/
theorem sd_set (i : Nat) {f : Str} {p' : Pos} (h : EV ⟨g, k, N, sc, gd, bl⟩ ρ M e fun x M' => K.nx (ρ.set i (some x)) M') (hc : chkL N sc bl i f = true := by decide +kernel)
    (hs : ∀ env : PySem.Env, env.scope = sc → swapsWith e (some (.Name f p')) pos.line env = pure false := by intro env h; cases env; cases h; rfl) : SD ⟨g, k, N, sc, gd, bl⟩ ρ M (.Assign [.Name f p'] e pos) K := fun X G σ I F D en di kk => by
  have L := G.loc hc
  exact wp_ps (ps_set L.nd L.hN L.hx pe_wp (hs _ G.sc) L.hf) (h X G σ I F en di _ fun v I2 y M2 r s2 d2 i2 => kk.nx _ I2 _ M2 r s2 ((en.mono s2).set i2) d2)
theorem bd_setE (i : Nat) {f : Str} {p' : Pos} (h : EV ⟨g, k, N, sc, gd, bl⟩ ρ M e R) (hk : ∀ x M', R x M' → BD ⟨g, k, N, sc, gd, bl⟩ (ρ.set i (some x)) M' rest K) (hc : chkL N sc bl i f = true := by decide +kernel)
    (hs : ∀ env : PySem.Env, env.scope = sc → swapsWith e (some (.Name f p')) pos.line env = pure false := by intro env h; cases env; cases h; rfl) : BD ⟨g, k, N, sc, gd, bl⟩ ρ M (.Assign [.Name f p'] e pos :: rest) K := bd_cons (sd_set i (h.imp hk) hc hs)
theorem bd_set (i : Nat) {f : Str} {p' : Pos} (h : EM ⟨g, k, N, sc, gd, bl⟩ ρ M e x M1) (hk : BD ⟨g, k, N, sc, gd, bl⟩ (ρ.set i (some x)) M1 rest K) (hc : chkL N sc bl i f = true := by decide +kernel)
    (hs : ∀ env : PySem.Env, env.scope = sc → swapsWith e (some (.Name f p')) pos.line env = pure false := by intro env h; cases env; cases h; rfl) : BD ⟨g, k, N, sc, gd, bl⟩ ρ M (.Assign [.Name f p'] e pos :: rest) K := bd_setE i h (fun _ _ ⟨e1, e2⟩ => by rw [e1, e2]; exact hk) hc hs

/-! ### targets -/
def wpG (X : Cx) (tg : Expr) : TG := fun v σ H Q => ∀ (pins : List (Addr × Obj)) (s : Shared) (u : Value), Inv X pins σ H s → RelV v u → wpAny (model X.prog X.w) X.A (assign tg X.env u) (fun _ s' => ∃ σ' H', Inv X pins σ' H' s' ∧ Q σ' H') X.xe s
theorem pg_wp {X : Cx} {tg : Expr} : PG X tg (wpG X tg) := ⟨fun pins s σ H v u Q I r h => h pins s u I r⟩
theorem wp_pg {X : Cx} {tg : Expr} {t : TG} (h : PG X tg t) {v : V} {σ : L2.St} {H : Hp} {Q : L2.St → Hp → Prop} (q : t v σ H Q) : wpG X tg v σ H Q := fun pins s u I r => h.run pins s σ H v u Q I r q
/-- the target takes x: the slots js change -/
def TgD (c : Cs) (tg : Expr) (x : Sl) (js : List Nat) (ρ ρ' : List (Option Sl)) : Prop :=
  ∀ X, Good c X → ∀ (σ : L2.St) (I M F : Hp) (v : V), En c.g.C I σ ρ → Ds I M F → Is c.g.C I v x → ∀ Q : L2.St → Hp → Prop, (∀ σ', En c.g.C I σ' ρ' → σ'.length = σ.length → (∀ i, i ∉ js → σ'[i]? = σ[i]?) → Q σ' (J3 I M F)) → wpG X tg v σ (J3 I M F) Q
theorem tg_name (i : Nat) {f : Str} (hc : chkL N sc bl i f = true := by decide +kernel) : TgD ⟨g, k, N, sc, gd, bl⟩ (.Name f p) x [i] ρ (ρ.set i (some x)) := fun X G σ I M F v en di ix Q hQ => by
  have L := G.loc hc
  exact wp_pg (pg_name L.nd L.hN L.hx L.hf) (hQ _ (en.set ix) (List.length_set ..) fun j hj => List.getElem?_set_ne (fun z => hj (by simp [z])))
theorem tg_two (i j : Nat) {f f' : Str} {p1 p2 : Pos} {kk : Nat} {d1 d2 : PyData} (hc : chkL N sc bl i f = true := by decide +kernel) (hc2 : chkL N sc bl j f' = true := by decide +kernel) :
    TgD ⟨g, k, N, sc, gd, bl⟩ (.Tuple [.Name f p1, .Name f' p2] kk p) (.dat (.tuple [d1, d2])) [i, j] ρ ((ρ.set i (some (.dat d1))).set j (some (.dat d2))) := fun X G σ I M F v en di ix Q hQ => by
  have L := G.loc hc
  have L2 := G.loc hc2
  obtain ⟨q, ys, rfl, e1, f1⟩ := is_tup ix
  cases f1 with
  | cons h1 h2 =>
    cases h2 with
    | cons h2 h3 =>
      cases h3
      refine wp_pg (pg_tup G.calm (pgs_cons (pg_name L.nd L.hN L.hx L.hf) (pgs_cons (pg_name L2.nd L2.hN L2.hx L2.hf) pgs_nil))) ?_
      refine ⟨q, _, rfl, SqT.of (j3_I e1), rfl, _, _, rfl, _, _, rfl, rfl, ?_⟩
      refine hQ _ ((en.set (x := .dat d1) h1).set (x := .dat d2) h2) (by rw [List.length_set, List.length_set]) fun m hm => ?_
      rw [List.getElem?_set_ne (fun z => hm (by simp [z])), List.getElem?_set_ne (fun z => hm (by simp [z]))]
/-- target = e -/
theorem sd_asg {tg : Expr} {js : List Nat} (h : EV c ρ M e fun x M' => ∃ ρ', TgD c tg x js ρ ρ' ∧ K.nx ρ' M') (hs : ∀ env : PySem.Env, env.scope = c.sc → swapsWithSole [tg] e pos.line env = pure false := by intro env h; cases env; cases h; rfl) (hw : ∀ env : PySem.Env, env.scope = c.sc → swappedStores [tg] e env = pure none := by intro env h; cases env; cases h; rfl)
    (h1 : ∀ env : PySem.Env, (assignEach [tg] env).map (·.2) = [assign tg env] := by intro _; rfl) : SD c ρ M (.Assign [tg] e pos) K := fun X G σ I F D en di kk =>
  wp_ps (ps_asg pe_wp pg_wp (hs _ G.sc) (hw _ G.sc) (h1 _)) (h X G σ I F en di _ fun v I2 y M2 ⟨ρ', ht, hn⟩ s2 d2 i2 => ht X G σ I2 M2 F v (en.mono s2) d2 i2 _ fun σ' en' _ _ => kk.nx σ' I2 ρ' M2 hn s2 en' d2)
theorem bd_two (i j : Nat) {f f' : Str} {p1 p2 : Pos} {kk : Nat} {d1 d2 : PyData} (h : EM ⟨g, k, N, sc, gd, bl⟩ ρ M e (.dat (.tuple [d1, d2])) M1) (hk : BD ⟨g, k, N, sc, gd, bl⟩ ((ρ.set i (some (.dat d1))).set j (some (.dat d2))) M1 rest K) (hc : chkL N sc bl i f = true := by decide +kernel) (hc2 : chkL N sc bl j f' = true := by decide +kernel)
    (hs : ∀ env : PySem.Env, env.scope = sc → swapsWithSole [.Tuple [.Name f p1, .Name f' p2] kk p] e pos.line env = pure false := by intro env h; cases env; cases h; rfl) (hw : ∀ env : PySem.Env, env.scope = sc → swappedStores [.Tuple [.Name f p1, .Name f' p2] kk p] e env = pure none := by intro env h; cases env; cases h; rfl) :
    BD ⟨g, k, N, sc, gd, bl⟩ ρ M (.Assign [.Tuple [.Name f p1, .Name f' p2] kk p] e pos :: rest) K :=
  bd_cons (sd_asg (EM.to h ⟨_, tg_two i j hc hc2, hk⟩) hs hw)

/-! ### what is walked -/
def wpI (X : Cx) (tg iter : Expr) : TI := fun σ H R => ∀ (pins : List (Addr × Obj)) (s : Shared), Inv X pins σ H s → wpAny (model X.prog X.w) X.A (eval iter X.env) (fun v s1 => wpAny (model X.prog X.w) X.A (pyIter v) (PIE X pins σ tg R) X.xe s1) X.xe s
theorem pi_wp {X : Cx} {tg iter : Expr} : PI X tg iter (wpI X tg iter) := ⟨fun pins s σ H R I h => h pins s I⟩
theorem wp_pi {X : Cx} {tg iter : Expr} {t : TI} (h : PI X tg iter t) {σ : L2.St} {H : Hp} {R : It → Hp → Prop} (q : t σ H R) : wpI X tg iter σ H R := fun pins s I => h.run pins s σ H R I q
structure WalkOk (C : Addr) (J : It) (ds : List Sl) (I F : Hp) : Prop where
  go : ∀ i I2 M, i < ds.length → Same I I2 → Ds I2 M F → J.go i (J3 I2 M F)
  stop : ∀ I2 M, Same I I2 → Ds I2 M F → J.stop ds.length (J3 I2 M F)
  yld : ∀ i I2 M v H' d, Same I I2 → Ds I2 M F → J.yld i (J3 I2 M F) v H' → ds[i]? = some d → ∃ I3, Same I2 I3 ∧ Ds I3 M F ∧ H' = J3 I3 M F ∧ Is C I3 v d
theorem WalkOk.frame {J : It} {ds : List Sl} {F' : Hp} (h : ∀ F, WalkOk C J ds I F) : WalkOk C J ds I F' := h F'
def SrcD (c : Cs) (ρ : List (Option Sl)) (M : Hp) (tg iter : Expr) (ds : List Sl) (M1 : Hp) : Prop :=
  ∀ X, Good c X → ∀ (σ : L2.St) (I F : Hp), En c.g.C I σ ρ → Ds I M F → ∀ R : It → Hp → Prop, (∀ J I2, Same I I2 → Ds I2 M1 F → (∀ F', WalkOk c.g.C J ds I2 F') → R J (J3 I2 M1 F)) → wpI X tg iter σ (J3 I M F) R
theorem walk_l {K : PySem.W.Frag} {q : Addr} {ys : List V} {ds : List PyData} (e1 : I q = some (.lst ys)) (f1 : Dats I ys ds) : WalkOk C (Itl K q) (ds.map Sl.dat) I F := by
  refine ⟨fun i I2 M hi s d => ?_, fun I2 M s d => ⟨ys, SqL.of (j3_I (s _ _ e1)), by rw [List.length_map, f1.length]; exact Nat.le_refl _⟩, fun i I2 M v H' dd s d hy hd => ?_⟩
  · rw [List.length_map, ← f1.length] at hi
    exact ⟨ys, ys[i], SqL.of (j3_I (s _ _ e1)), List.getElem?_eq_getElem hi⟩
  · obtain ⟨rfl, hv⟩ := hy
    refine ⟨I2, Same.refl I2, d, rfl, ?_⟩
    rw [List.getElem?_map] at hd
    cases e : ds[i]? with
    | none => rw [e] at hd; cases hd
    | some d0 =>
      rw [e] at hd
      cases hd
      obtain ⟨w, h1, h2⟩ := f1.get e
      have h3 := hv ys (SqL.of (j3_I (s _ _ e1)))
      rw [h1] at h3
      cases h3
      exact Dat.mono s _ _ h2
theorem walk_t {K : PySem.W.Frag} {q : Addr} {ys : List V} {ds : List PyData} (e1 : I q = some (.tup ys)) (f1 : Dats I ys ds) : WalkOk C (Itt K q) (ds.map Sl.dat) I F := by
  refine ⟨fun i I2 M hi s d => ?_, fun I2 M s d => ⟨ys, SqT.of (j3_I (s _ _ e1)), by rw [List.length_map, f1.length]; exact Nat.le_refl _⟩, fun i I2 M v H' dd s d hy hd => ?_⟩
  · rw [List.length_map, ← f1.length] at hi
    exact ⟨ys, ys[i], SqT.of (j3_I (s _ _ e1)), List.getElem?_eq_getElem hi⟩
  · obtain ⟨rfl, hv⟩ := hy
    refine ⟨I2, Same.refl I2, d, rfl, ?_⟩
    rw [List.getElem?_map] at hd
    cases e : ds[i]? with
    | none => rw [e] at hd; cases hd
    | some d0 =>
      rw [e] at hd
      cases hd
      obtain ⟨w, h1, h2⟩ := f1.get e
      have h3 := hv ys (SqT.of (j3_I (s _ _ e1)))
      rw [h1] at h3
      cases h3
      exact Dat.mono s _ _ h2
theorem walk_r {n : Nat} : WalkOk C (Itr 0 n) ((List.range n).map fun i : Nat => Sl.dat (.int i)) I F := by
  refine ⟨fun i I2 M hi s d => by show i < n; simpa using hi, fun I2 M s d => by show n ≤ _; simp, fun i I2 M v H' dd s d hy hd => ?_⟩
  obtain ⟨rfl, rfl⟩ := hy
  refine ⟨I2, Same.refl I2, d, rfl, ?_⟩
  rw [List.getElem?_map] at hd
  by_cases hi : i < n
  · rw [List.getElem?_range hi] at hd
    have hd' : Sl.dat (.int (i : Int)) = dd := by simpa using hd
    subst hd'
    have e0 : (0 : Int) + (i : Int) = i := Int.zero_add _
    rw [e0]
    exact Dat.int _
  · rw [List.getElem?_eq_none (by simpa using hi)] at hd
    simp at hd
theorem walk_s {l : List Nat} : WalkOk C (Its (sOf l)) (l.map fun i : Nat => Sl.dat (S [i])) I F := by
  have hz : (sOf l).cps.size = l.length := by show l.toArray.size = l.length; simp
  refine ⟨fun i I2 M hi s d => ?_, fun I2 M s d => ?_, fun i I2 M v H' dd s d hy hd => ?_⟩
  · show i < (sOf l).cps.size
    rw [hz]
    simpa using hi
  · show (sOf l).cps.size ≤ _
    rw [hz]
    simp
  · obtain ⟨rfl, ch, hc, rfl⟩ := hy
    refine ⟨I2, Same.refl I2, d, rfl, ?_⟩
    have hc' : l[i]? = some ch := by
      have : (sOf l).cps[i]? = l[i]? := by show l.toArray[i]? = l[i]?; simp
      rw [← this]
      exact hc
    rw [List.getElem?_map, hc'] at hd
    have hd' : Sl.dat (S [ch]) = dd := by simpa using hd
    subst hd'
    exact Dat.str _
variable {tg iter : Expr} {ds : List PyData}
theorem src_l (h : EM c ρ M iter (.dat (.list ds)) M1) : SrcD c ρ M tg iter (ds.map Sl.dat) M1 := fun X G σ I F en di R hR =>
  wp_pi (pi_list pe_wp) (em_bind h G en di fun v I2 s d i => by
    obtain ⟨q, ys, rfl, e1, f1⟩ := is_lst i
    exact ⟨q, rfl, ⟨ys, SqL.of (j3_I e1)⟩, hR _ I2 s d fun F' => walk_l e1 f1⟩)
theorem src_t (h : EM c ρ M iter (.dat (.tuple ds)) M1) : SrcD c ρ M tg iter (ds.map Sl.dat) M1 := fun X G σ I F en di R hR =>
  wp_pi (pi_tup pe_wp) (em_bind h G en di fun v I2 s d i => by
    obtain ⟨q, ys, rfl, e1, f1⟩ := is_tup i
    exact ⟨q, rfl, ⟨ys, SqT.of (j3_I e1)⟩, hR _ I2 s d fun F' => walk_t e1 f1⟩)
theorem src_s {l : List Nat} (h : EM c ρ M iter (.dat (S l)) M1) : SrcD c ρ M tg iter (l.map fun i : Nat => Sl.dat (S [i])) M1 := fun X G σ I F en di R hR =>
  wp_pi (pi_str pe_wp) (em_bind h G en di fun v I2 s d i => by
    rw [is_str i]
    exact ⟨sOf l, rfl, hR _ I2 s d fun F' => walk_s⟩)
theorem src_r {n : Nat} (h : EM ⟨g, k, N, sc, gd, bl⟩ ρ M e (.dat (.int n)) M1) (hz : n ≤ 1000000) (hf : glB sc "range" = true := by decide +kernel) (hs : ∀ env : PySem.Env, starEach [e] env = [(false, eval e env)] := by intro _; rfl) (hs2 : ∀ env : PySem.Env, starEach (e :: []) env = (false, eval e env) :: starEach [] env := by intro _; rfl) :
    SrcD ⟨g, k, N, sc, gd, bl⟩ ρ M tg (.Call (.Name "range" p) [e] [] pos) ((List.range n).map fun i : Nat => Sl.dat (.int i)) M1 := fun X G σ I F en di R hR => by
  obtain ⟨h1, _⟩ := G.gl hf
  refine wp_pi (pi_range1 h1 (by rw [G.mg]; exact g.blt _ (by decide +kernel)) (pa_cons pe_wp pa_nil (hs2 _)) (hs _)) ?_
  refine em_bind h G en di fun v I2 s d i => ?_
  refine ⟨(n : Int), by rw [is_int i], by omega, by omega, ?_⟩
  exact hR _ I2 s d fun F' => walk_r
/-- the same over a written list of Sl -/
theorem SrcD.is {ds es : List Sl} (h : SrcD c ρ M tg iter ds M1) (q : ds = es) : SrcD c ρ M tg iter es M1 := by rw [← q]; exact h

/-! ### for -/
theorem sd_for {ds : List Sl} {js : List Nat} {body : List Stmt} (src : SrcD c ρ M tg iter ds M1) (J : Nat → List (Option Sl) → Hp → Prop) (h0 : J 0 ρ M1)
    (hs : ∀ i d ρ' M', ds[i]? = some d → J i ρ' M' → ∃ ρ2, TgD c tg d js ρ' ρ2 ∧ BD c ρ2 M' body { nx := J (i + 1), ct := J (i + 1), bk := K.nx, rt := K.rt }) (hd : ∀ ρ' M', J ds.length ρ' M' → K.nx ρ' M') (hfs : ∀ (env : PySem.Env) (x : Value), foldedSetIterable iter env x = pure x := by intro _ _; rfl) : SD c ρ M (.For tg iter body [] pos) K := fun X G σ I F D en di kk => by
  have hp : PassesOwn (model X.prog X.w) X.A X.env X.xe := by
    rw [G.xe]
    exact PassesOwn.never
  refine wp_ps (ps_for hp G.calm pi_wp pg_wp pss_wp (fun x => hfs _ x)) ?_
  refine src X G σ I F en di _ fun It I1 s1 d1 wk => ?_
  refine ⟨fun i m σ H => m = ds.length - i ∧ i ≤ ds.length ∧ ∃ I2 ρ' M', H = J3 I2 M' F ∧ Same I1 I2 ∧ En c.g.C I2 σ ρ' ∧ Ds I2 M' F ∧ J i ρ' M', ⟨ds.length, by simp, Nat.zero_le _, I1, ρ, M1, rfl, Same.refl I1, en.mono s1, d1, h0⟩, ?_⟩
  rintro i m σ' H ⟨rfl, hi, I2, ρ', M', rfl, s2, en2, d2, hJ⟩
  by_cases hlt : i < ds.length
  · obtain ⟨d, hdd⟩ : ∃ d, ds[i]? = some d := ⟨_, List.getElem?_eq_getElem hlt⟩
    obtain ⟨ρ2, ht, hb⟩ := hs i d ρ' M' hdd hJ
    refine .inr ⟨(wk F).go i I2 M' hlt s2 d2, fun σ3 H3 => ∃ I3 ρ3 M3, H3 = J3 I3 M3 F ∧ Same I1 I3 ∧ En c.g.C I3 σ3 ρ3 ∧ Ds I3 M3 F ∧ J (i + 1) ρ3 M3, fun σ3 H3 q => ⟨ds.length - (i + 1), by omega, rfl, hlt, q⟩, fun v H' hy => ?_⟩
    obtain ⟨I3, s3, d3, rfl, i3⟩ := (wk F).yld i I2 M' v H' d s2 d2 hy hdd
    refine ht X G σ' I3 M' F v (en2.mono s3) d3 i3 _ fun σ4 en4 _ _ => ?_
    refine hb X G σ4 I3 F _ en4 d3 ?_
    exact ⟨fun σ5 I5 ρ5 M5 h5 s5 en5 d5 => ⟨I5, ρ5, M5, rfl, (s2.trans s3).trans s5, en5, d5, h5⟩, kk.rt.mono (((s1.trans s2)).trans s3), fun σ5 I5 ρ5 M5 h5 s5 en5 d5 => kk.nx σ5 I5 ρ5 M5 h5 (((s1.trans s2).trans s3).trans s5) en5 d5,
      fun σ5 I5 ρ5 M5 h5 s5 en5 d5 => ⟨I5, ρ5, M5, rfl, (s2.trans s3).trans s5, en5, d5, h5⟩⟩
  · have e : i = ds.length := by omega
    subst e
    exact .inl ⟨(wk F).stop I2 M' s2 d2, kk.nx σ' I2 ρ' M' (hd ρ' M' hJ) (s1.trans s2) en2 d2⟩
theorem bd_for {ds : List Sl} {js : List Nat} {body : List Stmt} (src : SrcD c ρ M tg iter ds M1) (J : Nat → List (Option Sl) → Hp → Prop) (h0 : J 0 ρ M1)
    (hs : ∀ i d ρ' M', ds[i]? = some d → J i ρ' M' → ∃ ρ2, TgD c tg d js ρ' ρ2 ∧ BD c ρ2 M' body { nx := J (i + 1), ct := J (i + 1), bk := fun ρ M => BD c ρ M rest K, rt := K.rt }) (hd : ∀ ρ' M', J ds.length ρ' M' → BD c ρ' M' rest K) (hfs : ∀ (env : PySem.Env) (x : Value), foldedSetIterable iter env x = pure x := by intro _ _; rfl) : BD c ρ M (.For tg iter body [] pos :: rest) K := bd_cons (sd_for src J h0 hs hd hfs)
/-! ### while -/
theorem sd_while {body : List Stmt} (W : Nat → List (Option Sl) → Hp → Prop) (m0 : Nat) (h0 : W m0 ρ M)
    (hs : ∀ m ρ' M', W m ρ' M' → ∃ t M2, TM c ρ' M' e t M2 ∧ (t = true → BD c ρ' M2 body { nx := fun ρ3 M3 => ∃ m', m' < m ∧ W m' ρ3 M3, ct := fun ρ3 M3 => ∃ m', m' < m ∧ W m' ρ3 M3, bk := K.nx, rt := K.rt }) ∧ (t = false → K.nx ρ' M2)) : SD c ρ M (.While e body [] pos) K := fun X G σ I F D en di kk => by
  have hp : PassesOwn (model X.prog X.w) X.A X.env X.xe := by
    rw [G.xe]
    exact PassesOwn.never
  refine wp_ps (ps_while hp pt_wp pss_wp) ?_
  refine ⟨fun m σ H => ∃ I2 ρ' M', H = J3 I2 M' F ∧ Same I I2 ∧ En c.g.C I2 σ ρ' ∧ Ds I2 M' F ∧ W m ρ' M', ⟨m0, I, ρ, M, rfl, Same.refl I, en, di, h0⟩, ?_⟩
  rintro m σ' H ⟨I2, ρ', M', rfl, s2, en2, d2, hW⟩
  obtain ⟨t, M2, ht, h1, h2⟩ := hs m ρ' M' hW
  refine tm_bind ht G en2 d2 fun I3 s3 d3 => ?_
  cases t with
  | true =>
    rw [if_pos rfl]
    refine ⟨fun σ3 H3 => ∃ m', m' < m ∧ ∃ I3 ρ3 M3, H3 = J3 I3 M3 F ∧ Same I I3 ∧ En c.g.C I3 σ3 ρ3 ∧ Ds I3 M3 F ∧ W m' ρ3 M3, fun σ3 H3 q => q, ?_⟩
    refine h1 rfl X G σ' I3 F _ (en2.mono s3) d3 ?_
    exact ⟨fun σ5 I5 ρ5 M5 ⟨m', hm, h5⟩ s5 en5 d5 => ⟨m', hm, I5, ρ5, M5, rfl, (s2.trans s3).trans s5, en5, d5, h5⟩, kk.rt.mono (s2.trans s3), fun σ5 I5 ρ5 M5 h5 s5 en5 d5 => kk.nx σ5 I5 ρ5 M5 h5 ((s2.trans s3).trans s5) en5 d5,
      fun σ5 I5 ρ5 M5 ⟨m', hm, h5⟩ s5 en5 d5 => ⟨m', hm, I5, ρ5, M5, rfl, (s2.trans s3).trans s5, en5, d5, h5⟩⟩
  | false =>
    rw [if_neg Bool.false_ne_true]
    exact kk.nx σ' I3 ρ' M2 (h2 rfl) (s2.trans s3) (en2.mono s3) d3

/-! ### comprehensions -/
def wpTs (X : Cx) (ifs : List Expr) : TT := fun σ H Q => ∀ (pins : List (Addr × Obj)) (s : Shared), Inv X pins σ H s →
    wpAny (model X.prog X.w) X.A (forIn ifs true fun c r => if r = true then do let ok ← isTrue c X.env (eval c X.env); pure (ForInStep.yield ok) else pure (ForInStep.yield r)) (TP X pins σ Q) X.xe s
theorem pts_wp {X : Cx} {ifs : List Expr} : PTs X ifs (wpTs X ifs) := ⟨fun pins s σ H Q I h => h pins s I⟩
theorem wp_pts {X : Cx} {ifs : List Expr} {t : TT} (h : PTs X ifs t) {σ : L2.St} {H : Hp} {Q : Bool → Hp → Prop} (q : t σ H Q) : wpTs X ifs σ H Q := fun pins s I => h.run pins s σ H Q I q
def TsM (c : Cs) (ρ : List (Option Sl)) (M : Hp) (ifs : List Expr) (b : Bool) (M' : Hp) : Prop :=
  ∀ X, Good c X → ∀ (σ : L2.St) (I F : Hp), En c.g.C I σ ρ → Ds I M F → ∀ Q : Bool → Hp → Prop, (∀ I2, Same I I2 → Ds I2 M' F → Q b (J3 I2 M' F)) → wpTs X ifs σ (J3 I M F) Q
theorem ts_nil : TsM c ρ M [] true M := fun X G σ I F en di Q hQ => wp_pts pts_nil (hQ I (Same.refl I) di)
theorem ts_one {t : Bool} (h : TM c ρ M e t M1) : TsM c ρ M [e] t M1 := fun X G σ I F en di Q hQ => wp_pts (pts_one pt_wp) (h X G σ I F en di Q hQ)
/-- the static context of a comprehension's block -/
abbrev Cs.blk (c : Cs) (scope : Scope) : Cs := ⟨c.g, c.k, c.N, relS scope c.sc, c.gd, some scope⟩
theorem Good.blk {X : Cx} (G : Good c X) {scope : Scope} (s : Shared) (H : Hp) (cl : List (Str × Addr)) (D : Addr) (fp : List Addr) : Good (c.blk scope) (X.blk s H scope (compEnvC scope cl D X.env) fp) :=
  ⟨G.prog, G.w, G.K, G.mg, G.base, G.N, by show relS scope X.env.scope = relS scope c.sc; rw [G.sc], G.room, G.calm, (fun x h => by
    show (scope.names.lookup x == some .cell) = true
    have h' : (match scope.names.lookup x with | some .cell => true | _ => false) = true := h
    split at h'
    · rename_i e
      rw [e]
      rfl
    · cases h'), rfl, G.gd⟩
theorem wipe_at {σ : L2.St} {i : Nat} : ∀ {vs : List Nat}, i ∈ vs → (wipe σ vs)[i]? = if i < σ.length then some none else none
  | [], h => by cases h
  | v :: vs, h => by
    unfold wipe
    by_cases e : v = i
    · subst e
      by_cases hl : v < σ.length
      · rw [if_pos hl, List.getElem?_set_self (by rw [wipe_length]; exact hl)]
      · rw [if_neg hl, List.getElem?_eq_none (by rw [List.length_set, wipe_length]; omega)]
    · rw [List.getElem?_set_ne e]
      exact wipe_at ((List.mem_cons.mp h).resolve_left fun q => e q.symm)
theorem wipe_same {σ τ : L2.St} {vs : List Nat} (hl : σ.length = τ.length) (h : ∀ i, i ∉ vs → σ[i]? = τ[i]?) : wipe σ vs = wipe τ vs := by
  apply List.ext_getElem?
  intro i
  by_cases hi : i ∈ vs
  · rw [wipe_at hi, wipe_at hi, hl]
  · rw [wipe_out hi, wipe_out hi]
    exact h i hi
theorem wipe_wipe (σ : L2.St) (vs : List Nat) : wipe (wipe σ vs) vs = wipe σ vs := wipe_same (wipe_length σ vs) fun i hi => wipe_out hi
def lcG (X : Cx) (scope : Scope) (tg : Expr) : TG := fun v σ H Q => ∀ (s : Shared) (H0 : Hp) (C' : Addr) (cl : List (Str × Addr)) (fp : List Addr), wpG (X.blk s H0 scope (compEnvC scope cl C' X.env) fp) tg v σ H Q
def lcT (X : Cx) (scope : Scope) (ifs : List Expr) : TT := fun σ H Q => ∀ (s : Shared) (H0 : Hp) (C' : Addr) (cl : List (Str × Addr)) (fp : List Addr), wpTs (X.blk s H0 scope (compEnvC scope cl C' X.env) fp) ifs σ H Q
def lcE (X : Cx) (scope : Scope) (elt : Expr) : TE := fun σ H Q => ∀ (s : Shared) (H0 : Hp) (C' : Addr) (cl : List (Str × Addr)) (fp : List Addr), wpE (X.blk s H0 scope (compEnvC scope cl C' X.env) fp) elt σ H Q
/-- one turn of a comprehension -/
structure LcTurn (c : Cs) (ρ : List (Option Sl)) (own : List (Str × Nat)) (scope : Scope) (tg elt : Expr) (ifs : List Expr) (J : Nat → List PyData → Hp → Prop) (i : Nat) (d : Sl) (acc : List PyData) (M' : Hp) : Prop where
  ex : ∃ js ρ2 b M2, (∀ j ∈ js, j ∈ own.map (·.2)) ∧ TgD (c.blk scope) tg d js (wipeR ρ (own.map (·.2))) ρ2 ∧ TsM (c.blk scope) ρ2 M' ifs b M2 ∧
      (b = true → EV (c.blk scope) ρ2 M2 elt fun y M3 => ∃ r, y = .dat r ∧ J (i + 1) (acc ++ [r]) M3) ∧ (b = false → J (i + 1) acc M2)
/-- a list comprehension's reading: J by the turn, what is made so far, M -/
theorem lc_read {X : Cx} (G : Good c X) {σ : L2.St} (en : En c.g.C I σ ρ) (di : Ds I M F) {elt : Expr} {ifs : List Expr} {scope : Scope} {ds : List Sl} (own : List (Str × Nat)) (src : SrcD c ρ M tg iter ds M1) (J : Nat → List PyData → Hp → Prop) (h0 : J 0 [] M1)
    (hs : ∀ i d acc M', ds[i]? = some d → J i acc M' → LcTurn c ρ own scope tg elt ifs J i d acc M')
    (hd : ∀ acc M', J ds.length acc M' → R (.dat (.list acc)) M') (hz : ds.length ≤ 100000) (hQ : Gives c.g.C I F R Q) : tLc (wpI X tg iter) (lcG X scope tg) (lcT X scope ifs) (lcE X scope elt) (own.map (·.2)) σ (J3 I M F) Q := by
  refine src X G σ I F en di _ fun It I1 s1 d1 wk Dl hD => ?_
  obtain ⟨n1, n2, n3⟩ := j3_none hD
  have hst : ∀ {I2 M' : Hp} {acc : List V}, Ds I2 M' (upd F Dl (.lst acc)) → I2 Dl = none ∧ M' Dl = none := fun {I2 M' acc} d => by
    have q1 : I2 Dl = none := d.im.noI (o := .lst acc) (by
      have z : M' Dl = none := by
        cases e : M' Dl with
        | none => rfl
        | some u =>
          have := d.mf Dl u e
          rw [upd_same] at this
          cases this
      unfold join
      rw [z]
      exact upd_same)
    refine ⟨q1, ?_⟩
    cases e : M' Dl with
    | none => rfl
    | some u =>
      have := d.mf Dl u e
      rw [upd_same] at this
      cases this
  have hat : ∀ {I2 M' : Hp} {acc : List V}, Ds I2 M' (upd F Dl (.lst acc)) → J3 I2 M' (upd F Dl (.lst acc)) Dl = some (.lst acc) := fun {I2 M' acc} d => by
    obtain ⟨q1, q2⟩ := hst d
    unfold J3 join
    rw [q1, q2]
    exact upd_same
  have hup : ∀ {I2 M' : Hp} {acc acc' : List V}, Ds I2 M' (upd F Dl (.lst acc)) → upd (J3 I2 M' (upd F Dl (.lst acc))) Dl (.lst acc') = J3 I2 M' (upd F Dl (.lst acc')) := fun {I2 M' acc acc'} d => by
    obtain ⟨q1, q2⟩ := hst d
    unfold J3
    rw [upd_M q1, upd_M q2, upd_upd]
  have hds : ∀ {I2 M' : Hp} {acc acc' : List V}, Ds I2 M' (upd F Dl (.lst acc)) → Ds I2 M' (upd F Dl (.lst acc')) := fun {I2 M' acc acc'} d => by
    obtain ⟨q1, q2⟩ := hst d
    refine ⟨fun a o e => ?_, fun a o e => ?_⟩
    · have z := d.im a o e
      obtain ⟨z1, z2⟩ := join_none z
      have ha : a ≠ Dl := fun q => by rw [q, q1] at e; cases e
      unfold join
      rw [z1]
      rw [upd_ne ha] at z2
      rw [upd_ne ha]
      exact z2
    · have ha : a ≠ Dl := fun q => by rw [q, q2] at e; cases e
      have z := d.mf a o e
      rw [upd_ne ha] at z
      rw [upd_ne ha]
      exact z
  have start : Ds I1 M1 (upd F Dl (.lst [])) := ⟨fun a o e => by
    have ha : a ≠ Dl := fun q => by rw [q, n1] at e; cases e
    obtain ⟨z1, z2⟩ := join_none (d1.im a o e)
    unfold join
    rw [z1, upd_ne ha]
    exact z2, fun a o e => by
    have ha : a ≠ Dl := fun q => by rw [q, n2] at e; cases e
    rw [upd_ne ha]
    exact d1.mf a o e⟩
  refine ⟨fun i m H => m = ds.length - i ∧ i ≤ ds.length ∧ ∃ I2 M' acc ys, H = J3 I2 M' (upd F Dl (.lst ys)) ∧ Same I1 I2 ∧ Ds I2 M' (upd F Dl (.lst ys)) ∧ Dats I2 ys acc ∧ ys.length ≤ i ∧ J i acc M', ⟨ds.length, by simp, Nat.zero_le _, I1, M1, [], [], ?_, Same.refl I1, start, .nil, Nat.le_refl _, h0⟩, ?_⟩
  · unfold J3
    rw [upd_M n1, upd_M n2]
  rintro i m H ⟨rfl, hi, I2, M', acc, ys, rfl, s2, d2, f2, hl, hJ⟩
  by_cases hlt : i < ds.length
  · obtain ⟨d, hdd⟩ : ∃ d, ds[i]? = some d := ⟨_, List.getElem?_eq_getElem hlt⟩
    obtain ⟨js, ρ2, b, M2, hjs, ht, hb, h1, h2⟩ := (hs i d acc M' hdd hJ).ex
    refine .inr ⟨(wk _).go i I2 M' hlt s2 d2, fun H3 => ∃ I3 M3 acc ys, H3 = J3 I3 M3 (upd F Dl (.lst ys)) ∧ Same I1 I3 ∧ Ds I3 M3 (upd F Dl (.lst ys)) ∧ Dats I3 ys acc ∧ ys.length ≤ i + 1 ∧ J (i + 1) acc M3, fun H3 q => ⟨ds.length - (i + 1), by omega, rfl, hlt, q⟩, fun v H' hy s0 H0 C' cl fp => ?_⟩
    obtain ⟨I3, s3, d3, rfl, i3⟩ := (wk _).yld i I2 M' v H' d s2 d2 hy hdd
    have en0 := ((en.mono s1).mono s2).mono s3
    refine ht _ (G.blk s0 H0 cl C' fp) (wipe σ (own.map (·.2))) I3 M' _ v (en0.wipe _) d3 i3 _ (fun σ4 en4 hl4 hn4 => ?_)
    refine ⟨?_, fun s5 H5 C5 cl5 fp5 => ?_⟩
    · rw [← wipe_wipe σ (own.map (·.2))]
      exact wipe_same hl4 fun j hj => hn4 j fun q => hj (hjs j q)
    · refine hb _ (G.blk s5 H5 cl5 C5 fp5) σ4 I3 _ en4 d3 _ fun I4 s4 d4 => ?_
      cases b with
      | false =>
        rw [if_neg Bool.false_ne_true]
        exact ⟨I4, M2, acc, ys, rfl, (s2.trans s3).trans s4, d4, Dats.mono (s3.trans s4) _ _ f2, by omega, h2 rfl⟩
      | true =>
        rw [if_pos rfl]
        intro s6 H6 C6 cl6 fp6
        refine h1 rfl _ (G.blk s6 H6 cl6 C6 fp6) σ4 I4 _ (en4.mono s4) d4 _ fun w I5 y M5 ⟨r, hy, hJ'⟩ s5 d5 i5 => ?_
        subst hy
        refine ⟨ys, hat d5, Nat.lt_of_le_of_lt hl (Nat.lt_of_lt_of_le hlt (Nat.le_trans hz (by decide))), I5, M5, acc ++ [r], ys ++ [w], ?_, ((s2.trans s3).trans s4).trans s5, hds d5, (Dats.mono ((s3.trans s4).trans s5) _ _ f2).append (.cons i5 .nil), by rw [List.length_append, List.length_singleton]; omega, hJ'⟩
        exact hup d5
  · have e : i = ds.length := by omega
    subst e
    refine .inl ⟨(wk _).stop I2 M' s2 d2, ?_⟩
    -- the list goes over to what stands still
    obtain ⟨q1, q2⟩ := hst d2
    have e1 : J3 I2 M' (upd F Dl (.lst ys)) = J3 (upd I2 Dl (.lst ys)) M' F := by
      unfold J3
      rw [← upd_M q2, ← upd_M q1, upd_I]
    rw [e1]
    have s4 : Same I2 (upd I2 Dl (.lst ys)) := same_new q1
    refine hQ (.ref Dl) (upd I2 Dl (.lst ys)) (.dat (.list acc)) M' (hd acc M' hJ) ((s1.trans s2).trans s4) ⟨fun a o e => ?_, fun a o e => ?_⟩ (.lst upd_same (Dats.mono s4 _ _ f2))
    · by_cases ha : a = Dl
      · subst ha
        unfold join
        rw [q2]
        exact n3
      · rw [upd_ne ha] at e
        obtain ⟨z1, z2⟩ := join_none (d2.im a o e)
        unfold join
        rw [z1]
        rw [upd_ne ha] at z2
        exact z2
    · have ha : a ≠ Dl := fun q => by rw [q, q2] at e; cases e
      have z := d2.mf a o e
      rw [upd_ne ha] at z
      exact z
theorem ev_lcJ {elt : Expr} {ifs : List Expr} {scope : Scope} {ds : List Sl} (own : List (Str × Nat)) (src : SrcD c ρ M tg iter ds M1) (J : Nat → List PyData → Hp → Prop) (h0 : J 0 [] M1)
    (hs : ∀ i d acc M', ds[i]? = some d → J i acc M' → LcTurn c ρ own scope tg elt ifs J i d acc M')
    (hd : ∀ acc M', J ds.length acc M' → R (.dat (.list acc)) M') (hz : ds.length ≤ 100000) (ok : blkC c.N c.sc scope own = true) (nd : decide c.N.Nodup = true) (hfs : ∀ (env : PySem.Env) (x : Value), foldedSetIterable iter env x = pure x := by intro _ _; rfl) :
    EV c ρ M (.ListComp elt [⟨tg, iter, ifs, 0⟩] scope pos) R := fun X G σ I F en di Q hQ =>
  wp_pe (pe_lc (wi := wpI X tg iter) (g := lcG X scope tg) (tt := lcT X scope ifs) (te := lcE X scope elt)
    G.calm (by rw [G.N]; exact of_decide_eq_true nd) pi_wp (by rw [G.N, G.sc]; exact blkOk_by ok)
    (fun s0 H0 C' cl fp => ⟨fun pins s2 σ H v u Q I r h => h s0 H0 C' cl fp pins s2 u I r⟩) (fun s0 H0 C' cl fp => ⟨fun pins s2 σ H Q I h => h s0 H0 C' cl fp pins s2 I⟩) (fun s0 H0 C' cl fp => ⟨fun pins s2 σ H Q I h => h s0 H0 C' cl fp pins s2 I⟩) (fun x => hfs _ x))
  (lc_read G en di own src J h0 hs hd hz hQ)
/-- name = [..], the name a local -/
theorem sd_setLcJ (i : Nat) {y : Str} {py spos : Pos} {elt : Expr} {ifs : List Expr} {scope : Scope} {ds : List Sl} (own : List (Str × Nat)) (src : SrcD c ρ M tg iter ds M1) (J : Nat → List PyData → Hp → Prop) (h0 : J 0 [] M1)
    (hs : ∀ i d acc M', ds[i]? = some d → J i acc M' → LcTurn c ρ own scope tg elt ifs J i d acc M')
    (hd : ∀ acc M', J ds.length acc M' → K.nx (ρ.set i (some (.dat (.list acc)))) M') (hz : ds.length ≤ 100000) (ok : blkC c.N c.sc scope own = true) (nd : decide c.N.Nodup = true)
    (hy : c.N[i]? = some y) (hyl : c.sc.names.lookup y = some .local) (hk : c.sc.kind = .function) (hl : (py.line == pos.line) = true) (hn : (scope.names.any fun (n, k) => n == y && (k == .local || k == .cell)) = false)
    (hfs : ∀ (env : PySem.Env) (x : Value), foldedSetIterable iter env x = pure x := by intro _ _; rfl) :
    SD c ρ M (.Assign [.Name y py] (.ListComp elt [⟨tg, iter, ifs, 0⟩] scope pos) spos) K := fun X G σ I F D en di kk =>
  wp_ps (ps_setLc (i := i) (wi := wpI X tg iter) (g := lcG X scope tg) (tt := lcT X scope ifs) (te := lcE X scope elt)
    G.calm (by rw [G.N]; exact of_decide_eq_true nd) (by rw [G.N]; exact hy) (by rw [G.sc]; exact hyl) (sw_true (by rw [G.sc]; exact hk) (by rw [G.sc]; exact hyl) hl hn) pi_wp (by rw [G.N, G.sc]; exact blkOk_by ok)
    (fun s0 H0 C' cl fp => ⟨fun pins s2 σ H v u Q I r h => h s0 H0 C' cl fp pins s2 u I r⟩) (fun s0 H0 C' cl fp => ⟨fun pins s2 σ H Q I h => h s0 H0 C' cl fp pins s2 I⟩) (fun s0 H0 C' cl fp => ⟨fun pins s2 σ H Q I h => h s0 H0 C' cl fp pins s2 I⟩) (fun x => hfs _ x))
  (lc_read (R := fun y M' => K.nx (ρ.set i (some y)) M') (Q := fun x H1 => gName i x σ H1 D.nx) G en di own src J h0 hs hd hz fun v I2 x M' r s d ix => kk.nx _ I2 _ M' r s ((en.mono s).set ix) d)
end
end Wr
end
section
set_option maxRecDepth 100000
set_option maxHeartbeats 1000000
/-! Rules: comprehensions over typed lists, the text's own defs, their promises. -/
namespace Wr
open PySem L2

section
variable {g : Gm} {k : Nat} {N : List Str} {sc : Scope} {gd : Bool} {bl : Option Scope} {ρ ρ' : List (Option Sl)} {M M1 M2 M3 M' : Hp} {a b e : Expr} {es : List Expr} {x y z : Sl} {xs : List Sl} {R : Wish} {pos p pt py spos : Pos} {I I2 F : Hp} {C : Addr} {Q : VK} {K : Kont} {rest : List Stmt} {tg iter elt : Expr} {ifs : List Expr} {scope : Scope}
section
variable {α : Type} {zs : List α} {enc : α → Sl} {t : α → Bool} {r : α → PyData}
def pureJ (zs : List α) (t : α → Bool) (r : α → PyData) (M1 : Hp) : Nat → List PyData → Hp → Prop := fun i acc M' => M' = M1 ∧ acc = ((zs.take i).filter t).map r
theorem pureJ_yes {i : Nat} {z : α} (h : zs[i]? = some z) (ht : t z = true) : ((zs.take (i + 1)).filter t).map r = ((zs.take i).filter t).map r ++ [r z] := by
  rw [List.take_add_one, h, List.filter_append, List.map_append]
  simp [ht]
theorem pureJ_no {i : Nat} {z : α} (h : zs[i]? = some z) (ht : t z = false) : ((zs.take (i + 1)).filter t).map r = ((zs.take i).filter t).map r := by
  rw [List.take_add_one, h, List.filter_append, List.map_append]
  simp [ht]
/-- what a turn asks, for every element -/
def LcEach (c : Cs) (ρ : List (Option Sl)) (own : List (Str × Nat)) (scope : Scope) (tg elt : Expr) (ifs : List Expr) (zs : List α) (enc : α → Sl) (t : α → Bool) (r : α → PyData) (M1 : Hp) : Prop :=
  ∀ z ∈ zs, ∃ js ρ2, (∀ j ∈ js, j ∈ own.map (·.2)) ∧ TgD (c.blk scope) tg (enc z) js (wipeR ρ (own.map (·.2))) ρ2 ∧ TsM (c.blk scope) ρ2 M1 ifs (t z) M1 ∧ (t z = true → EM (c.blk scope) ρ2 M1 elt (.dat (r z)) M1)
theorem lc_each {c : Cs} {own : List (Str × Nat)} (h : LcEach c ρ own scope tg elt ifs zs enc t r M1) (i : Nat) (d : Sl) (acc : List PyData) (M' : Hp) (hi : (zs.map enc)[i]? = some d) (hJ : pureJ zs t r M1 i acc M') : LcTurn c ρ own scope tg elt ifs (pureJ zs t r M1) i d acc M' := by
  obtain ⟨rfl, rfl⟩ := hJ
  rw [List.getElem?_map] at hi
  cases e : zs[i]? with
  | none => rw [e] at hi; cases hi
  | some z =>
    rw [e] at hi
    have hi' : enc z = d := by simpa using hi
    subst hi'
    obtain ⟨js, ρ2, h1, h2, h3, h4⟩ := h z (List.mem_of_getElem? e)
    refine ⟨js, ρ2, t z, M', h1, h2, h3, fun q => ?_, fun q => ⟨rfl, (pureJ_no e q).symm⟩⟩
    exact EM.to (h4 q) ⟨r z, rfl, rfl, (pureJ_yes e q).symm⟩
theorem take_all : ((zs.take (zs.map enc).length).filter t).map r = (zs.filter t).map r := by
  rw [List.length_map, List.take_length]
theorem em_lcP {c : Cs} (own : List (Str × Nat)) (src : SrcD c ρ M tg iter (zs.map enc) M1) (h : LcEach c ρ own scope tg elt ifs zs enc t r M1) (hz : zs.length ≤ 100000) (ok : blkC c.N c.sc scope own = true) (nd : decide c.N.Nodup = true)
    (hfs : ∀ (env : PySem.Env) (x : Value), foldedSetIterable iter env x = pure x := by intro _ _; rfl) : EM c ρ M (.ListComp elt [⟨tg, iter, ifs, 0⟩] scope pos) (.dat (.list ((zs.filter t).map r))) M1 :=
  ev_lcJ own src (pureJ zs t r M1) ⟨rfl, by simp⟩ (lc_each h) (fun acc M' ⟨e1, e2⟩ => ⟨by rw [e2, take_all], e1⟩) (by rw [List.length_map]; exact hz) ok nd hfs
theorem set_none_set {j : Nat} {o : Option Sl} : (ρ.set j none).set j o = ρ.set j o := List.set_set ..
/-- the target a name -/
theorem each_one {c : Cs} {f : Str} (j : Nat) (hc : chkL c.N (relS scope c.sc) (some scope) j f = true) (ht : ∀ z ∈ zs, TsM ⟨c.g, c.k, c.N, relS scope c.sc, c.gd, some scope⟩ (ρ.set j (some (enc z))) M1 ifs (t z) M1)
    (he : ∀ z ∈ zs, t z = true → EM ⟨c.g, c.k, c.N, relS scope c.sc, c.gd, some scope⟩ (ρ.set j (some (enc z))) M1 elt (.dat (r z)) M1) : LcEach c ρ [(f, j)] scope (.Name f pt) elt ifs zs enc t r M1 := fun z hz => by
  refine ⟨[j], ρ.set j (some (enc z)), fun i hi => hi, ?_, ht z hz, he z hz⟩
  have h := tg_name (g := c.g) (k := c.k) (N := c.N) (sc := relS scope c.sc) (gd := c.gd) (bl := some scope) (p := pt) (ρ := wipeR ρ ([(f, j)].map (·.2))) (x := enc z) j hc
  have e : (wipeR ρ ([(f, j)].map (·.2))).set j (some (enc z)) = ρ.set j (some (enc z)) := set_none_set
  rw [e] at h
  exact h
theorem em_lc1 {f : Str} (j : Nat) (src : SrcD ⟨g, k, N, sc, gd, bl⟩ ρ M (.Name f pt) iter (zs.map enc) M1) (ht : ∀ z ∈ zs, TsM ⟨g, k, N, relS scope sc, gd, some scope⟩ (ρ.set j (some (enc z))) M1 ifs (t z) M1)
    (he : ∀ z ∈ zs, t z = true → EM ⟨g, k, N, relS scope sc, gd, some scope⟩ (ρ.set j (some (enc z))) M1 elt (.dat (r z)) M1) (hz : zs.length ≤ 100000) (ok : blkC N sc scope [(f, j)] = true := by decide +kernel) (nd : decide N.Nodup = true := by decide +kernel) (hc : chkL N (relS scope sc) (some scope) j f = true := by decide +kernel)
    (hfs : ∀ (env : PySem.Env) (x : Value), foldedSetIterable iter env x = pure x := by intro _ _; rfl) : EM ⟨g, k, N, sc, gd, bl⟩ ρ M (.ListComp elt [⟨.Name f pt, iter, ifs, 0⟩] scope pos) (.dat (.list ((zs.filter t).map r))) M1 :=
  em_lcP [(f, j)] src (each_one (c := ⟨g, k, N, sc, gd, bl⟩) j hc ht he) hz ok nd hfs
/-- without a test -/
theorem em_lc1n {f : Str} (j : Nat) (src : SrcD ⟨g, k, N, sc, gd, bl⟩ ρ M (.Name f pt) iter (zs.map enc) M1)
    (he : ∀ z ∈ zs, EM ⟨g, k, N, relS scope sc, gd, some scope⟩ (ρ.set j (some (enc z))) M1 elt (.dat (r z)) M1) (hz : zs.length ≤ 100000) (ok : blkC N sc scope [(f, j)] = true := by decide +kernel) (nd : decide N.Nodup = true := by decide +kernel) (hc : chkL N (relS scope sc) (some scope) j f = true := by decide +kernel)
    (hfs : ∀ (env : PySem.Env) (x : Value), foldedSetIterable iter env x = pure x := by intro _ _; rfl) : EM ⟨g, k, N, sc, gd, bl⟩ ρ M (.ListComp elt [⟨.Name f pt, iter, [], 0⟩] scope pos) (.dat (.list (zs.map r))) M1 := by
  have h := em_lc1 (t := fun _ => true) (r := r) (pos := pos) (ifs := []) j src (fun z hz => ts_nil) (fun z hz _ => he z hz) hz ok nd hc hfs
  have e : zs.filter (fun _ => true) = zs := List.filter_eq_self.mpr (fun _ _ => rfl)
  rw [e] at h
  exact h
/-- the target a pair of names -/
theorem each_two {c : Cs} {f f' : Str} {p1 p2 : Pos} {kk : Nat} {e1 e2 : α → PyData} (i j : Nat) (hc : chkL c.N (relS scope c.sc) (some scope) i f = true) (hc2 : chkL c.N (relS scope c.sc) (some scope) j f' = true)
    (ht : ∀ z ∈ zs, TsM ⟨c.g, c.k, c.N, relS scope c.sc, c.gd, some scope⟩ ((ρ.set i (some (.dat (e1 z)))).set j (some (.dat (e2 z)))) M1 ifs (t z) M1)
    (he : ∀ z ∈ zs, t z = true → EM ⟨c.g, c.k, c.N, relS scope c.sc, c.gd, some scope⟩ ((ρ.set i (some (.dat (e1 z)))).set j (some (.dat (e2 z)))) M1 elt (.dat (r z)) M1) : LcEach c ρ [(f, i), (f', j)] scope (.Tuple [.Name f p1, .Name f' p2] kk pt) elt ifs zs (fun z => .dat (.tuple [e1 z, e2 z])) t r M1 := fun z hz => by
  refine ⟨[i, j], (ρ.set i (some (.dat (e1 z)))).set j (some (.dat (e2 z))), fun i hi => hi, ?_, ht z hz, he z hz⟩
  have h := tg_two (g := c.g) (k := c.k) (N := c.N) (sc := relS scope c.sc) (gd := c.gd) (bl := some scope) (p := pt) (p1 := p1) (p2 := p2) (kk := kk) (ρ := wipeR ρ ([(f, i), (f', j)].map (·.2))) (d1 := e1 z) (d2 := e2 z) i j hc hc2
  have e : ((wipeR ρ ([(f, i), (f', j)].map (·.2))).set i (some (.dat (e1 z)))).set j (some (.dat (e2 z))) = (ρ.set i (some (.dat (e1 z)))).set j (some (.dat (e2 z))) := by
    show ((((ρ.set j none).set i none).set i (some (.dat (e1 z)))).set j (some (.dat (e2 z)))) = _
    rw [List.set_set]
    by_cases q : i = j
    · subst q
      rw [List.set_set, List.set_set, List.set_set]
    · rw [List.set_comm _ _ (Ne.symm q), List.set_set]
  rw [e] at h
  exact h
theorem em_lc2 {f f' : Str} {p1 p2 : Pos} {kk : Nat} {e1 e2 : α → PyData} (i j : Nat) (src : SrcD ⟨g, k, N, sc, gd, bl⟩ ρ M (.Tuple [.Name f p1, .Name f' p2] kk pt) iter (zs.map fun z => .dat (.tuple [e1 z, e2 z])) M1)
    (ht : ∀ z ∈ zs, TsM ⟨g, k, N, relS scope sc, gd, some scope⟩ ((ρ.set i (some (.dat (e1 z)))).set j (some (.dat (e2 z)))) M1 ifs (t z) M1)
    (he : ∀ z ∈ zs, t z = true → EM ⟨g, k, N, relS scope sc, gd, some scope⟩ ((ρ.set i (some (.dat (e1 z)))).set j (some (.dat (e2 z)))) M1 elt (.dat (r z)) M1) (hz : zs.length ≤ 100000) (ok : blkC N sc scope [(f, i), (f', j)] = true := by decide +kernel) (nd : decide N.Nodup = true := by decide +kernel)
    (hc : chkL N (relS scope sc) (some scope) i f = true := by decide +kernel) (hc2 : chkL N (relS scope sc) (some scope) j f' = true := by decide +kernel)
    (hfs : ∀ (env : PySem.Env) (x : Value), foldedSetIterable iter env x = pure x := by intro _ _; rfl) : EM ⟨g, k, N, sc, gd, bl⟩ ρ M (.ListComp elt [⟨.Tuple [.Name f p1, .Name f' p2] kk pt, iter, ifs, 0⟩] scope pos) (.dat (.list ((zs.filter t).map r))) M1 :=
  em_lcP [(f, i), (f', j)] src (each_two (c := ⟨g, k, N, sc, gd, bl⟩) i j hc hc2 ht he) hz ok nd hfs
/-- a local name = [..] -/
theorem bd_setLcP {c : Cs} (i : Nat) {y : Str} (own : List (Str × Nat)) (src : SrcD c ρ M tg iter (zs.map enc) M1) (h : LcEach c ρ own scope tg elt ifs zs enc t r M1) (hz : zs.length ≤ 100000) (hk : BD c (ρ.set i (some (.dat (.list ((zs.filter t).map r))))) M1 rest K) (ok : blkC c.N c.sc scope own = true) (nd : decide c.N.Nodup = true)
    (hy : c.N[i]? = some y) (hyl : c.sc.names.lookup y = some .local) (hkd : c.sc.kind = .function) (hl : (py.line == pos.line) = true) (hn : (scope.names.any fun (n, k) => n == y && (k == .local || k == .cell)) = false)
    (hfs : ∀ (env : PySem.Env) (x : Value), foldedSetIterable iter env x = pure x := by intro _ _; rfl) : BD c ρ M (.Assign [.Name y py] (.ListComp elt [⟨tg, iter, ifs, 0⟩] scope pos) spos :: rest) K :=
  bd_cons (sd_setLcJ i own src (pureJ zs t r M1) ⟨rfl, by simp⟩ (lc_each h) (fun acc M' ⟨e1, e2⟩ => by rw [e2, take_all, e1]; exact hk) (by rw [List.length_map]; exact hz) ok nd hy hyl hkd hl hn hfs)
def swB (sc scope : Scope) (y : Str) (l1 l2 : Nat) : Bool := (match sc.names.lookup y with | some .local => true | _ => false) && (match sc.kind with | .function => true | _ => false) && (l1 == l2) && !(scope.names.any fun (n, k) => n == y && (k == .local || k == .cell))
theorem swB_of {sc scope : Scope} {y : Str} {l1 l2 : Nat} (h : swB sc scope y l1 l2 = true) : sc.names.lookup y = some .local ∧ sc.kind = .function ∧ (l1 == l2) = true ∧ (scope.names.any fun (n, k) => n == y && (k == .local || k == .cell)) = false := by
  unfold swB at h
  simp only [Bool.and_eq_true] at h
  obtain ⟨⟨⟨h1, h2⟩, h3⟩, h4⟩ := h
  refine ⟨?_, ?_, h3, by simpa using h4⟩
  · split at h1
    · assumption
    · cases h1
  · split at h2
    · assumption
    · cases h2
theorem bd_setLc1 {f y : Str} (i j : Nat) (src : SrcD ⟨g, k, N, sc, gd, bl⟩ ρ M (.Name f pt) iter (zs.map enc) M1) (ht : ∀ z ∈ zs, TsM ⟨g, k, N, relS scope sc, gd, some scope⟩ (ρ.set j (some (enc z))) M1 ifs (t z) M1)
    (he : ∀ z ∈ zs, t z = true → EM ⟨g, k, N, relS scope sc, gd, some scope⟩ (ρ.set j (some (enc z))) M1 elt (.dat (r z)) M1) (hz : zs.length ≤ 100000) (hk : BD ⟨g, k, N, sc, gd, bl⟩ (ρ.set i (some (.dat (.list ((zs.filter t).map r))))) M1 rest K)
    (ok : blkC N sc scope [(f, j)] = true := by decide +kernel) (nd : decide N.Nodup = true := by decide +kernel) (hc : chkL N (relS scope sc) (some scope) j f = true := by decide +kernel) (hy : decide (N[i]? = some y) = true := by decide +kernel) (hsw : swB sc scope y py.line pos.line = true := by decide +kernel)
    (hfs : ∀ (env : PySem.Env) (x : Value), foldedSetIterable iter env x = pure x := by intro _ _; rfl) : BD ⟨g, k, N, sc, gd, bl⟩ ρ M (.Assign [.Name y py] (.ListComp elt [⟨.Name f pt, iter, ifs, 0⟩] scope pos) spos :: rest) K := by
  obtain ⟨h1, h2, h3, h4⟩ := swB_of hsw
  exact bd_setLcP i [(f, j)] src (each_one (c := ⟨g, k, N, sc, gd, bl⟩) j hc ht he) hz hk ok nd (of_decide_eq_true hy) h1 h2 h3 h4 hfs
theorem bd_setLc2 {f f' y : Str} {p1 p2 : Pos} {kk : Nat} {e1 e2 : α → PyData} (m i j : Nat) (src : SrcD ⟨g, k, N, sc, gd, bl⟩ ρ M (.Tuple [.Name f p1, .Name f' p2] kk pt) iter (zs.map fun z => .dat (.tuple [e1 z, e2 z])) M1)
    (ht : ∀ z ∈ zs, TsM ⟨g, k, N, relS scope sc, gd, some scope⟩ ((ρ.set i (some (.dat (e1 z)))).set j (some (.dat (e2 z)))) M1 ifs (t z) M1)
    (he : ∀ z ∈ zs, t z = true → EM ⟨g, k, N, relS scope sc, gd, some scope⟩ ((ρ.set i (some (.dat (e1 z)))).set j (some (.dat (e2 z)))) M1 elt (.dat (r z)) M1) (hz : zs.length ≤ 100000) (hk : BD ⟨g, k, N, sc, gd, bl⟩ (ρ.set m (some (.dat (.list ((zs.filter t).map r))))) M1 rest K)
    (ok : blkC N sc scope [(f, i), (f', j)] = true := by decide +kernel) (nd : decide N.Nodup = true := by decide +kernel) (hc : chkL N (relS scope sc) (some scope) i f = true := by decide +kernel) (hc2 : chkL N (relS scope sc) (some scope) j f' = true := by decide +kernel) (hy : decide (N[m]? = some y) = true := by decide +kernel) (hsw : swB sc scope y py.line pos.line = true := by decide +kernel)
    (hfs : ∀ (env : PySem.Env) (x : Value), foldedSetIterable iter env x = pure x := by intro _ _; rfl) : BD ⟨g, k, N, sc, gd, bl⟩ ρ M (.Assign [.Name y py] (.ListComp elt [⟨.Tuple [.Name f p1, .Name f' p2] kk pt, iter, ifs, 0⟩] scope pos) spos :: rest) K := by
  obtain ⟨h1, h2, h3, h4⟩ := swB_of hsw
  exact bd_setLcP m [(f, i), (f', j)] src (each_two (c := ⟨g, k, N, sc, gd, bl⟩) i j hc hc2 ht he) hz hk ok nd (of_decide_eq_true hy) h1 h2 h3 h4 hfs
/-- typed sources -/
theorem src_lT {c : Cs} {zs : List α} {en : α → PyData} (h : EM c ρ M iter (.dat (.list (zs.map en))) M1) : SrcD c ρ M tg iter (zs.map fun z => .dat (en z)) M1 := (src_l h).is (by rw [List.map_map]; rfl)
theorem src_tT {c : Cs} {zs : List α} {en : α → PyData} (h : EM c ρ M iter (.dat (.tuple (zs.map en))) M1) : SrcD c ρ M tg iter (zs.map fun z => .dat (en z)) M1 := (src_t h).is (by rw [List.map_map]; rfl)
end

/-! ### the text's own defs -/
abbrev Spec := List Sl → Hp → Wish → Prop
def spT (C : Addr) (T : Spec) : Sp := fun vs H Q _ => ∃ I M F xs R, H = J3 I M F ∧ Ds I M F ∧ Iss C I vs xs ∧ T xs M R ∧ Gives C I F R Q
structure Fn (g : Gm) (f : Str) (kf : Nat) (T : Spec) : Prop where
  ex : ∃ (a : Addr) (fd : FuncData) (ps : List Str), FnOk g.P g.w g.K g.mg g.base CX0 kf a fd ps (spT g.C T) ∧ g.mg f = some (.ref a) ∧ PySem.W.keepIn g.K (.ref a) = true ∧ Binds g.K fd ps []
theorem ev_call {T : Spec} {kf : Nat} {f : Str} (Fh : Fn g f kf T) (ha : AM ⟨g, k, N, sc, gd, bl⟩ ρ M (e :: es) xs M1) (hT : T xs M1 R) (hk : kf ≤ k := by decide) (hf : glB sc f = true := by decide +kernel)
    (hs : ∀ env : PySem.Env, starEach (e :: es) env = (false, eval e env) :: starEach es env := by intro _; rfl) (hp : ∀ env : PySem.Env, (backTo pos (starEach es env)).any (·.1) = false := by intro _; rfl) : EV ⟨g, k, N, sc, gd, bl⟩ ρ M (.Call (.Name f p) (e :: es) [] pos) R := fun X G σ I F en di Q hQ => by
  obtain ⟨a, fd, ps, h1, h2, h3, h4⟩ := Fh.ex
  obtain ⟨g1, g2⟩ := G.gl hf
  refine wp_pe (pe_call (CX := CX0) (k := kf) (f := a) (fd := fd) (ps := ps) (sp := spT g.C T) (dvs := []) (ds := []) (E := E0) (by rw [G.prog, G.w, G.K, G.mg, G.base]; exact h1) (G.room.mono hk) g1 (by rw [G.mg]; exact h2) (by rw [G.K]; exact h3) (by rw [G.K]; exact h4) .nil pass0 pa_wp g2 (hs _) (hp _)) ?_
  refine am_bind ha G en di fun vs I2 s d i => ?_
  exact ⟨I2, M1, F, xs, R, rfl, d, by rw [List.append_nil]; exact i, hT, hQ.mono s⟩
abbrev FunAt (g : Gm) (x : Str) (st : Stmt) : Prop := ∃ f fd, Fun g.K x x st f fd ∧ g.mg x = some (.ref f)
def startR (N : List Str) (xs : List Sl) : List (Option Sl) := xs.map some ++ List.replicate (N.length - xs.length) none
theorem en_start {vs : List V} {xs : List Sl} (h : Iss C I vs xs) : En C I (L2.start N vs) (startR N xs) := by
  have hl := h.length
  refine ⟨by unfold L2.start startR; rw [List.length_append, List.length_append, List.length_map, List.length_map, List.length_replicate, List.length_replicate, hl], fun i x q => ?_⟩
  have key : ∀ {vs : List V} {xs : List Sl} {i : Nat} {x : Sl}, Iss C I vs xs → (xs.map some)[i]? = some (some x) → ∃ v, (vs.map some)[i]? = some (some v) ∧ Is C I v x := by
    intro vs xs i x h
    induction h generalizing i with
    | nil => intro q; simp at q
    | cons h1 h2 ih =>
      intro q
      cases i with
      | zero =>
        have e := Option.some.inj (Option.some.inj q)
        subst e
        exact ⟨_, rfl, h1⟩
      | succ i => exact ih (i := i) (by simpa using q)
  unfold startR at q
  unfold L2.start
  by_cases hi : i < (xs.map some).length
  · rw [List.getElem?_append_left hi] at q
    obtain ⟨v, h1, h2⟩ := key h q
    exact ⟨v, by rw [List.getElem?_append_left (by rw [List.length_map] at hi ⊢; omega)]; exact h1, h2⟩
  · rw [List.getElem?_append_right (by omega)] at q
    rw [List.getElem?_replicate] at q
    split at q <;> cases q
/-- THE RULE for a def -/
theorem fn_ok {x : Str} {st : Stmt} {N ps : List Str} {k : Nat} {T : Spec} (Fh : FunAt g x st) (S : FnScope N ps (defScope st))
    (hb : ∀ (kV doc pm : Value) (an : Option Addr) (cdv ct : Value) (us : List Value), us.length = ps.length → bindArgs (PySem.W.fnOf x x (defArgs st) (defBody st) (defScope st) .none kV doc pm an cdv ct) ⟨us, []⟩ = pure (ps.zip us))
    (h : ∀ xs M R, T xs M R → xs.length = ps.length ∧ BD ⟨g, k, N, defScope st, false, none⟩ (startR N xs) M (defBody st) { nx := fun _ M' => R (.dat .none) M', rt := R }) : Fn g x (k + 1) T := by
  obtain ⟨f, fd, F, hm⟩ := Fh
  refine ⟨f, fd, ps, F.ok S (fun vs H Q E hsp => ?_) (fun cdv A outer s H vs Q E hr hsp => ?_), hm, F.kp, F.binds hb⟩
  · obtain ⟨I, M, F, xs, R, _, _, i, hT, _⟩ := hsp
    rw [i.length]
    exact (h xs M R hT).1
  · obtain ⟨I, M, F, xs, R, rfl, d, i, hT, q⟩ := hsp
    refine ⟨_, pss_wp, ?_⟩
    have G : Good ⟨g, k, N, defScope st, false, none⟩ (cxOf CX0 g.P g.w g.K g.mg g.base N x (defScope st) f cdv A outer s (J3 I M F) E).nox :=
      ⟨rfl, rfl, rfl, rfl, rfl, rfl, rfl, hr, rfl, fun _ _ => rfl, rfl, fun z => nomatch z⟩
    exact (h xs M R hT).2 _ G _ I F _ (en_start i) d ⟨fun σ I2 ρ M2 hn s2 en2 d2 => q .non I2 _ M2 hn s2 d2 .non, q, fun _ _ _ _ z => z.elim, fun _ _ _ _ z => z.elim⟩
end
end Wr
end
section
set_option maxRecDepth 100000
set_option maxHeartbeats 1000000
/-! Rules: sorted, list of a text. -/
namespace Wr
open PySem L2 PyProof.Rows
open PySem.W (EachIs AllAlike Sortable dataLe)

/-! ### values and data, both ways -/
section
variable {I : Hp} {P : Program} {w : World} {h : Heap}
theorem each_of_dats {H : Hp} {K : PySem.W.Frag} : ∀ {ds : List PyData} {xs : List V} {us : List Value}, Dats I xs ds → Vals xs us → EachIs (fun u d => ∃ x, RelV x u ∧ Dat I x d) us ds
  | [], _, _, f, r => by
    cases f
    cases r
    exact .nil
  | d :: ds, _, _, f, r => by
    cases f with
    | cons f1 f2 =>
      cases r with
      | cons r1 r2 => exact .cons ⟨_, r1, f1⟩ (each_of_dats (H := H) (K := K) f2 r2)
theorem dats_of_each : ∀ {ds : List PyData} {us : List Value}, EachIs (fun u d => ∃ x, RelV x u ∧ Dat I x d) us ds → ∃ xs, Vals xs us ∧ Dats I xs ds
  | [], _, f => by
    cases f
    exact ⟨[], .nil, .nil⟩
  | d :: ds, _, f => by
    cases f with
    | cons f1 f2 =>
      obtain ⟨x, r, q⟩ := f1
      obtain ⟨xs, rs, qs⟩ := dats_of_each f2
      exact ⟨x :: xs, .cons r rs, .cons q qs⟩
end
def sortD (ds : List PyData) : List PyData := ds.mergeSort (dataLe false id)
section
variable {X : Cx}
/-- sorted(list) -/
def rSrtD : List V → Hp → VK → Prop := fun vs H Q => ∃ (I : Hp) (a : Addr) (xs : List V) (ds : List PyData), Same I H ∧ vs = [.ref a] ∧ I a = some (.lst xs) ∧ Dats I xs ds ∧ AllAlike ds ∧ Sortable ds ∧ PyData.depthAll ds ≤ 50 ∧
  ∀ p ys, Dats I ys (sortD ds) → H p = none → Q (.ref p) (upd H p (.lst ys))
theorem depth_mem : ∀ {ds : List PyData} {d : PyData}, d ∈ ds → d.depth ≤ PyData.depthAll ds
  | [], d, h => by cases h
  | e :: ds, d, h => by
    simp only [PyData.depthAll]
    rcases List.mem_cons.mp h with q | q
    · subst q; omega
    · have := depth_mem q; omega
theorem cr_sortedDat (hu : X.A.units + 64 < cLine) : CallR X (.builtin "sorted") rSrtD := by
  intro pins s σ H vs us Q I r q
  obtain ⟨I0, a, xs, ds, sm, rfl, e, f, hal, hk, hd, q⟩ := q
  obtain ⟨its, rv, hl, hz⟩ := I.list (SqL.of (sm _ _ e))
  rw [Vals.ref1 r]
  have e1 := each_of_dats (H := H) (K := X.K) f rv
  have er : EachIs (fun u d => ∃ as, Reads s.heap u (id d) as) its ds := e1.mono fun u d ⟨x, rx, fx⟩ => Dp.reads I d x u (Dat.dp d x (Dat.mono sm d x fx)) rx
  have hid : ds.map id = ds := List.map_id ds
  have hL : ds.length ≤ sizeLine := by rw [← f.length]; exact hz
  refine PySem.W.sorted_data (R := fun u d => ∃ x, RelV x u ∧ Dat I0 x d) (enc := id) hl.isList e1 er (by rw [hid]; exact hal) (by rw [hid]; exact hk) hL (fun d hm => ?_) fun out ho hs => ?_
  · have := depth_mem hm
    show X.A.units + 2 + d.depth < cLine
    omega
  · obtain ⟨ys, rs, fs⟩ := dats_of_each hs
    obtain ⟨ep, he'⟩ := PyProof.Rows.sortedAll_at s.heap its out.toArray
    have hlen : ys.length ≤ sizeLine := by
      rw [rs.length, ho]
      exact hL
    exact ⟨.ref _, upd H (s.heap.objs.size + 1) (.lst ys), I.laid (t' := s.toks) (fun _ _ => PyProof.Rows.sortedAll_old) (Nat.le_succ _) ⟨hlen, out, ep, rs, he'⟩, rfl, q _ _ fs (I.hok.fresh (Nat.le_succ _))⟩
/-! a text -/
def srtN (l : List Nat) : List Nat := l.mergeSort fun a b => decide (a ≤ b)
theorem sign_le (a b : Nat) : decide ([a] ≤ [b]) = decide (a ≤ b) := by
  by_cases h : a ≤ b
  · rw [decide_eq_true h, decide_eq_true]
    refine List.not_lt.mp fun q => ?_
    rcases List.cons_lt_cons_iff.mp q with q | ⟨_, q⟩
    · omega
    · exact absurd q (by simp)
  · rw [decide_eq_false h, decide_eq_false]
    intro q
    exact List.not_lt.mpr q (List.cons_lt_cons_iff.mpr (.inl (by omega)))
theorem each_signs {acc : List Value} {l : List Nat} (hl : acc.length = l.length) (h : ∀ (j : Nat) (v : Value), acc[j]? = some v → ∃ (c : Nat) (u : Tok), l[j]? = some c ∧ v = Value.str ⟨#[c]⟩ u) : EachIs (fun v (c : Nat) => ∃ t, v = Value.str ⟨#[c]⟩ t) acc l := by
  induction acc generalizing l with
  | nil =>
    cases l with
    | nil => exact .nil
    | cons c l => simp at hl
  | cons v acc ih =>
    cases l with
    | nil => simp at hl
    | cons c l =>
      obtain ⟨c', u, e1, e2⟩ := h 0 v rfl
      have e1' : c = c' := by simpa using e1
      subst e1'
      refine .cons ⟨u, e2⟩ (ih (by simpa using hl) fun j w e => ?_)
      obtain ⟨c'', u', q1, q2⟩ := h (j + 1) w (by simpa using e)
      exact ⟨c'', u', by simpa using q1, q2⟩
theorem vals_signs : ∀ {l : List Nat} {us : List Value}, EachIs (fun v (c : Nat) => ∃ t, v = Value.str ⟨#[c]⟩ t) us l → Vals (l.map fun c => V.str (sOf [c])) us
  | [], _, h => by cases h; exact .nil
  | c :: l, _, h => by
    cases h with
    | cons h1 h2 =>
      obtain ⟨t, rfl⟩ := h1
      exact .cons ⟨t, rfl⟩ (vals_signs h2)
theorem sOf_get (l : List Nat) (i : Nat) : (sOf l).cps[i]? = l[i]? := by show l.toArray[i]? = l[i]?; simp
theorem sOf_size (l : List Nat) : (sOf l).cps.size = l.length := by show l.toArray.size = l.length; simp
def rSrtS : List V → Hp → VK → Prop := fun vs H Q => ∃ l : List Nat, vs = [.str (sOf l)] ∧ l.length ≤ 1000 ∧ ∀ p, H p = none → Q (.ref p) (upd H p (.lst ((srtN l).map fun c => V.str (sOf [c]))))
theorem le_line {n : Nat} (h : n ≤ 1000) : n ≤ sizeLine := Nat.le_of_lt (small1000 h)
theorem cr_sortedStr (hcalm : X.calm = true) (hu : X.A.units + 64 < cLine) : CallR X (.builtin "sorted") rSrtS := by
  intro pins s σ H xs us Q I r q
  obtain ⟨l, ex, hz, q⟩ := q
  subst ex
  obtain ⟨u, eu, rx⟩ := vals1 r
  subst eu
  obtain ⟨t, rfl⟩ := (show ∃ t, u = Value.str (sOf l) t from rx)
  have h16 : (sOf l).cps.size ≤ sizeLine := by rw [sOf_size]; exact le_line hz
  refine Calls.call_function_entry PyProof.Rows.kind_sorted PyProof.Rows.plain_sorted PyProof.Rows.entry_sorted (PyProof.Rows.args_sorted1 _) ?_
  unfold Builtin.«sorted»
  refine wpAny_bind (m := checkCount "sorted" 1 1 _) (wpAny_pure ?_)
  refine wpAny_bind (wpAny_collect_str (A := X.A.in1) (I.ok.hd hcalm) (sOf l) t (fun s' acc hk hg hd ho hacc => ?_) h16)
  obtain ⟨h', g', d', tk, os'⟩ := s'
  have e3 : g' = s.gens := hg
  have e4 : d' = s.drawn := hd
  have e5 : os' = s.os := ho
  subst e3 e4 e5
  have hal : acc.toList.length = l.length := by rw [Array.length_toList, hacc.1, sOf_size]
  have hE := each_signs hal fun j v e => by
    obtain ⟨c, u, q1, q2⟩ := hacc.2 j v (by rw [← Array.getElem?_toList]; exact e)
    exact ⟨c, u, by rw [← sOf_get]; exact q1, q2⟩
  have I1 : Inv X pins σ H { s with heap := h', toks := tk } := I.kept hk
  refine wpAny_bind (wpAny_newList ?_ (by rw [hal]; exact le_line hz))
  have hoL : (h'.push (seqObj "list" acc.toList.toArray 0)).get? h'.objs.size = some (seqObj "list" acc.toList.toArray 0) := Heap.get?_push_size _ rfl
  show wpAny _ _ _ _ _ { s with heap := h'.push (seqObj "list" acc.toList.toArray 0), toks := tk }
  refine wpAny_bind (wpAny_holding (PySem.W.list_sort_data (s := { s with heap := h'.push (seqObj "list" acc.toList.toArray 0), toks := tk }) (enc := fun c : Nat => PyData.str (sOf [c])) hoL hE
    (hE.mono fun v c ⟨t, e⟩ => ⟨[], by rw [e]; exact Reads.str _ _, by simp⟩) (AllAlike.of fun b b' => by simp [PySem.W.alike]) (Sortable.others fun b => ⟨by simp, by simp⟩) (le_line hz) (fun b hb => by
      show X.A.units + 1 + 1 + PyData.depth (.str (sOf [b])) < cLine
      simp only [PyData.depth]
      omega) fun out hlo hs => ?_))
  have es : l.mergeSort (dataLe false fun c : Nat => PyData.str (sOf [c])) = srtN l := by
    unfold srtN
    rw [PySem.W.dataLe_str (fun c : Nat => sOf [c])]
    congr 1
    funext a b
    exact sign_le a b
  rw [es] at hs
  obtain ⟨e', he'⟩ := PyProof.Rows.sortedHeap_at (vs := acc.toList) (out := out.toArray) hoL
  have hlen : ((srtN l).map fun c => V.str (sOf [c])).length ≤ sizeLine := by
    rw [List.length_map]
    unfold srtN
    rw [List.length_mergeSort]
    exact le_line hz
  refine wpAny_pure ⟨_, rfl, .ref h'.objs.size, upd H h'.objs.size (.lst ((srtN l).map fun c => V.str (sOf [c]))), I1.laid (t' := tk) (fun b u e => ?_) (Nat.le_refl _)
    (show ObjOk X.prog X.w _ _ _ (.lst _) from ⟨hlen, out, e', vals_signs hs, he'⟩), rfl, q _ (I1.hok.fresh (Nat.le_refl _))⟩
  have hb : b < h'.objs.size := Heap.lt_size e
  rw [PyProof.Rows.sortedHeap_old (Nat.ne_of_lt hb) (by rw [size_push']; exact Nat.lt_succ_of_lt hb)]
  exact Heap.get?_push_of_some _ e
/-- list(text) -/
def rLstS : List V → Hp → VK → Prop := fun vs H Q => ∃ l : List Nat, vs = [.str (sOf l)] ∧ l.length ≤ 1000 ∧ ∀ p, H p = none → Q (.ref p) (upd H p (.lst (l.map fun c => V.str (sOf [c]))))
theorem cr_listStr (hcalm : X.calm = true) : CallR X (.type "list") rLstS := by
  intro pins s σ H xs us Q I r q
  obtain ⟨l, ex, hz, q⟩ := q
  subst ex
  obtain ⟨u, eu, rx⟩ := vals1 r
  subst eu
  obtain ⟨t, rfl⟩ := (show ∃ t, u = Value.str (sOf l) t from rx)
  have h16 : (sOf l).cps.size ≤ sizeLine := by rw [sOf_size]; exact le_line hz
  refine call_list_str (I.ok.hd hcalm) (sOf l) t (fun h' tk acc c' hk hS hacc => ?_) h16
  have hal : acc.toList.length = l.length := by rw [Array.length_toList, hacc.1, sOf_size]
  have hE := each_signs hal fun j v e => by
    obtain ⟨c, u, q1, q2⟩ := hacc.2 j v (by rw [← Array.getElem?_toList]; exact e)
    exact ⟨c, u, by rw [← sOf_get]; exact q1, q2⟩
  refine ⟨.ref s.heap.objs.size, upd H s.heap.objs.size (.lst (l.map fun c => V.str (sOf [c]))), I.laid (t' := tk) hk (Nat.le_refl _) (show ObjOk X.prog X.w _ _ _ (.lst _) from ⟨?_, acc.toList, c', vals_signs hE, by simpa [seqObj] using hS⟩), rfl, q _ (I.hok.fresh (Nat.le_refl _))⟩
  rw [List.length_map]
  exact le_line hz
end
end Wr
end
section
set_option maxRecDepth 100000
set_option maxHeartbeats 1000000
/-! Rules: sorted of tuples of ints; the rules of sorted, list(text) as expressions. -/
namespace Wr
open PySem L2 PyProof.Rows
open PySem.W (EachIs AllAlike Sortable dataLe)

/-! ### the order of rows -/
theorem lexLt_anti : ∀ a b : List Int, HT.lexLt a b = false → HT.lexLt b a = false → a = b
  | [], [], _, _ => rfl
  | [], b :: bs, h, _ => by rw [HT.lexLt_nil_cons] at h; cases h
  | a :: as, [], _, h => by rw [HT.lexLt_nil_cons] at h; cases h
  | a :: as, b :: bs, h1, h2 => by
    rw [HT.lexLt_cons] at h1 h2
    by_cases e : a = b
    · subst e
      rw [if_pos rfl] at h1 h2
      rw [lexLt_anti as bs h1 h2]
    · rw [if_neg e] at h1
      rw [if_neg (Ne.symm e)] at h2
      have x := of_decide_eq_false h1
      have y := of_decide_eq_false h2
      omega
def RSorted (l : List (List Int)) : Prop := l.Pairwise fun a b => HT.lexLt b a = false
theorem rs_uniq : ∀ {l m : List (List Int)}, l.Perm m → RSorted l → RSorted m → l = m
  | [], m, h, _, _ => (List.Perm.eq_nil h.symm).symm
  | x :: l, [], h, _, _ => absurd h.length_eq (by simp)
  | x :: l, y :: m, h, hl, hm => by
    have h1 : HT.lexLt x y = false := by
      rcases List.mem_cons.mp (h.mem_iff.mp (List.mem_cons_self (a := x) (l := l))) with e | hx
      · rw [e]
        exact (NtL.swo_lexL (α := List Int) id).refl y
      · exact (List.pairwise_cons.mp hm).1 x hx
    have h2 : HT.lexLt y x = false := by
      rcases List.mem_cons.mp (h.mem_iff.mpr (List.mem_cons_self (a := y) (l := m))) with e | hy
      · rw [e]
        exact (NtL.swo_lexL (α := List Int) id).refl x
      · exact (List.pairwise_cons.mp hl).1 y hy
    have e := lexLt_anti x y h1 h2
    subst e
    rw [rs_uniq h.cons_inv (List.pairwise_cons.mp hl).2 (List.pairwise_cons.mp hm).2]
def srtT (nss : List (List Int)) : List (List Int) := nss.mergeSort fun a b => !HT.lexLt b a
theorem srtT_perm (nss : List (List Int)) : (srtT nss).Perm nss := List.mergeSort_perm _ _
theorem srtT_sorted (nss : List (List Int)) : RSorted (srtT nss) := by
  have h := List.pairwise_mergeSort (le := fun a b : List Int => !HT.lexLt b a) (fun a b c h1 h2 => ?_) (fun a b => ?_) nss
  · exact h.imp fun {a b} q => by simpa using q
  · have a1 : HT.lexLt b a = false := by simpa using h1
    have a2 : HT.lexLt c b = false := by simpa using h2
    have := NtL.lex_tr a b c a1 a2
    simpa using this
  · cases e : HT.lexLt b a with
    | false => simp
    | true =>
      have := NtL.lex_asym b a e
      simp [this]
theorem srtT_of {l nss : List (List Int)} (hp : l.Perm nss) (hs : RSorted l) : l = srtT nss := rs_uniq (hp.trans (srtT_perm nss).symm) hs (srtT_sorted nss)
theorem lexLt_lt : ∀ a b : List Int, HT.lexLt a b = decide (a < b)
  | [], [] => by simp [HT.lexLt_nil_nil]
  | [], b :: bs => by simp [HT.lexLt_nil_cons]
  | a :: as, [] => by simp [HT.lexLt_cons_nil]
  | a :: as, b :: bs => by
    rw [HT.lexLt_cons, lexLt_lt as bs]
    by_cases h : a = b
    · rw [if_pos h]
      simp [h, List.cons_lt_cons_iff]
    · rw [if_neg h]
      simp [h, List.cons_lt_cons_iff]

/-! ### tuples of ints in the heap -/
def IsTI (h : Heap) (v : Value) (ns : List Int) : Prop := ∃ a items, v = .ref a ∧ IsTup h a items ∧ IntsAre items.toList ns
theorem IsTI.keeps {h h' : Heap} {v : Value} {ns : List Int} (x : IsTI h v ns) (k : ∀ b o, v = .ref b → h.get? b = some o → h'.get? b = some o) : IsTI h' v ns := by
  obtain ⟨a, items, e, ⟨o, g, q⟩, i⟩ := x
  exact ⟨a, items, e, ⟨o, k _ _ e g, q⟩, i⟩
theorem IsTI.uniq {h : Heap} {v : Value} {ns ms : List Int} (x : IsTI h v ns) (y : IsTI h v ms) : ns = ms := by
  obtain ⟨a, items, rfl, ⟨o, g, _, n, q⟩, i⟩ := x
  obtain ⟨b, items2, e, ⟨o2, g2, _, n2, q2⟩, i2⟩ := y
  cases e
  rw [g] at g2
  cases g2
  rw [q] at q2
  cases q2
  have a1 := SrtO.iv_ints i
  have a2 := SrtO.iv_ints i2
  rw [← a1, a2]
open Classical in
noncomputable def kOf (h : Heap) (v : Value) : List Int := if q : ∃ ns, IsTI h v ns then q.choose else []
theorem kOf_eq {h : Heap} {v : Value} {ns : List Int} (x : IsTI h v ns) : kOf h v = ns := by
  have q : ∃ ns, IsTI h v ns := ⟨ns, x⟩
  unfold kOf
  rw [dif_pos q]
  exact q.choose_spec.uniq x
section
variable {prog : Program} {w : World} {A : Around} {E : Value → Shared → Prop} {s : Shared}
theorem lt_ti {v u : Value} {ns ms : List Int} {Q : Bool → Shared → Prop} (hu : A.units < cLine) (hv : IsTI s.heap v ns) (hw : IsTI s.heap u ms) (h : Q (HT.lexLt ns ms) s) : wpAny (model prog w) A (keyLt' oneType' v u) Q E s := by
  obtain ⟨a, items, rfl, ⟨⟨cls, dd, data, sl⟩, ho, hc, n, hd⟩, ia⟩ := hv
  obtain ⟨b, items2, rfl, ⟨⟨cls2, dd2, data2, sl2⟩, ho2, hc2, n2, hd2⟩, ib⟩ := hw
  simp only at hc hd hc2 hd2
  subst hc hd hc2 hd2
  rw [keyLt'_oneType, oneLt'_eq]
  simp only [if_true]
  refine wpAny_bind (wpAny_cRoomFor hu ?_)
  refine wpAny_bind (wpAny_callSpecialIfBound?_slot (T := "tuple") ⟨_, ho, rfl⟩ PySem.F.slot_tuple_lt (call_meets PySem.F.slot_tuple_lt ⟨_, ho, rfl⟩ PySem.F.entry_tuple_lt (PySem.F.args_tuple_lt_2 _ _) (HT.tuple_lt_ints a b items items2 n n2 dd dd2 sl sl2 ns ms ia ib) ⟨ho, ho2, ?_⟩))
  exact wpAny_truthy_bool h
theorem mapM_any {M : Model} {α β : Type} {f : α → Sem β} : ∀ (l : List α) {Q : List β → Shared → Prop}, (∀ v ∈ l, ∀ (Q' : β → Shared → Prop), (∀ r, Q' r s) → wpAny M A (f v) Q' E s) → (∀ bs, Q bs s) → wpAny M A (l.mapM f) Q E s
  | [], _, _, h => by rw [List.mapM_nil]; exact wpAny_pure (h [])
  | x :: l, Q, hf, h => by
    rw [List.mapM_cons]
    exact wpAny_bind (hf x (.head _) _ fun r => wpAny_bind (mapM_any l (Q := fun bs s' => wpAny M A (pure (r :: bs)) Q E s') (fun v hv => hf v (.tail _ hv)) fun bs => wpAny_pure (h (r :: bs))))
theorem first_ti {M : Model} {v : Value} {ns : List Int} {Q : Option Value → Shared → Prop} (hv : IsTI s.heap v ns) (h0 : ns = [] → Q none s) (h : ns ≠ [] → ∀ r, Q r s) : wpAny M A (firstOfTuple' v) Q E s := by
  obtain ⟨a, items, rfl, ⟨o, ho, hc, n, hd⟩, ia⟩ := hv
  rw [PySem.W.kas_first_eq]
  refine wpAny_bind (PySem.W.Looks.here (show PySem.W.Looks M s.heap (typeOf (.ref a)) o.cls from (PySem.W.Looks.ld ho).andThen .now) ?_)
  rw [hc, if_neg (by first | decide | simp)]
  refine wpAny_bind (listItems_at ho hd (wpAny_pure ?_))
  by_cases e : ns = []
  · subst e
    have hl := ia.length
    have e0 : items[0]? = none := by
      rw [← Array.getElem?_toList]
      exact List.getElem?_eq_none (by rw [hl]; simp)
    rw [e0]
    exact h0 rfl
  · exact h e _
theorem type_ti {M : Model} {h : Heap} {v : Value} {ns : List Int} (x : IsTI h v ns) : PySem.W.Looks M h (typeOf v) (.type "tuple") := by
  obtain ⟨a, items, rfl, ⟨o, g, hc, _⟩, i⟩ := x
  rw [← hc]
  exact (PySem.W.Looks.ld g).andThen .now
theorem kind_ti {M : Model} {vs : List Value} {k : Value → List Int} {Q : SortKind → Shared → Prop} (h2 : 2 ≤ vs.length) (hv : ∀ v ∈ vs, IsTI s.heap v (k v)) (h0 : ∀ v, vs[0]? = some v → k v = []) (h : Q oneType' s) : wpAny M A (keyKind' vs.toArray) Q E s := by
  obtain ⟨v₁, v₂, rest, rfl⟩ : ∃ v₁ v₂ rest, vs = v₁ :: v₂ :: rest := by
    match vs, h2 with
    | [], h2 => simp at h2
    | [_], h2 => simp at h2
    | v₁ :: v₂ :: rest, _ => exact ⟨v₁, v₂, rest, rfl⟩
  rw [keyKind'_eq, List.mapM_toArray, map_eq_pure_bind]
  refine wpAny_bind (wpAny_bind ?_)
  rw [List.mapM_cons]
  refine wpAny_bind (first_ti (hv v₁ (by simp)) (fun _ => ?_) fun q => absurd (h0 v₁ rfl) q)
  refine wpAny_bind (mapM_any (v₂ :: rest) (fun v hm Q' hq => first_ti (hv v (by simp [List.mem_cons.mp hm])) (fun _ => hq _) fun _ => hq) fun bs => wpAny_pure (wpAny_pure ?_))
  rw [if_neg (by simp), if_neg (by simp)]
  rw [oneTypeOnly'_eq, List.mapM_toArray, map_eq_pure_bind]
  refine wpAny_bind (wpAny_bind (wpAny_bind (PySem.W.kas_mapM (r := Value.type "tuple") _ (fun v hm Q' hq => (type_ti (hv v hm)).here hq) (wpAny_pure ?_))))
  have hall : ((List.map (fun _ => Value.type "tuple") (v₁ :: v₂ :: rest)).toArray.all fun x => x == Value.type "tuple") = true := by
    simp only [List.all_toArray, List.all_map, List.all_eq_true]
    intro _ _
    rfl
  have e0 : (List.map (fun _ => Value.type "tuple") (v₁ :: v₂ :: rest)).toArray[0]? = some (Value.type "tuple") := by simp
  rw [e0]
  simp only [hall, if_true]
  exact wpAny_pure (wpAny_pure h)
theorem ti_sortable {a : Addr} {vs : List Value} {k : Value → List Int} (h2 : 2 ≤ vs.length) (hu : A.units < cLine) (hv : ∀ v ∈ vs, IsTI s.heap v (k v)) (h0 : ∀ v, vs[0]? = some v → k v = []) (ha : ∀ v ∈ vs, v ≠ .ref a) :
    SrtO.SortableO prog w A s a vs fun v u => HT.lexLt (k v) (k u) := by
  intro h' keep
  have hv' : ∀ v ∈ vs, IsTI h' v (k v) := fun v hm => (hv v hm).keeps fun b o e g => keep b o (fun z => ha v hm (by rw [e, z])) g
  refine ⟨oneType', fun Q E hq => ?_, fun p q hp hq => ?_⟩
  · exact kind_ti (s := { s with heap := h' }) h2 hv' h0 hq
  · exact lt_ti (s := { s with heap := h' }) (Q := fun r s' => s' = { s with heap := h' } ∧ r = HT.lexLt (k p.1) (k q.1)) (E := fun _ _ => False) hu (hv' p.1 hp) (hv' q.1 hq) ⟨rfl, rfl⟩
end
section
variable {X : Cx}
theorem its_k {pins : List (Addr × Obj)} {σ : L2.St} {H I0 : Hp} {s : Shared} (I : Inv X pins σ H s) (sm : Same I0 H) : ∀ {nss : List (List Int)} {xs : List V} {its : List Value}, Dats I0 xs (nss.map tI) → Vals xs its →
    its.map (kOf s.heap) = nss ∧ ∀ u ∈ its, IsTI s.heap u (kOf s.heap u) ∧ ∃ a, u = .ref a ∧ Dat I0 (.ref a) (tI (kOf s.heap u))
  | [], xs, its, f, r => by
    have f : Dats I0 xs [] := f
    cases f
    cases r
    exact ⟨rfl, fun u h => by cases h⟩
  | ns :: nss, xs, its, f, r => by
    have f : Dats I0 xs (tI ns :: nss.map tI) := f
    cases f with
    | cons f1 f2 =>
      cases r with
      | cons r1 r2 =>
        obtain ⟨q1, q2⟩ := its_k I sm f2 r2
        have f1' := f1
        cases f1 with
        | @tup a vs ds e g =>
          have gi := g.ints
          subst gi
          rename_i u us
          obtain ⟨its', rv, it, _⟩ := I.tuple (SqT.of (sm _ _ e))
          have hu : u = Value.ref a := r1
          subst hu
          have ti : IsTI s.heap (.ref a) ns := ⟨a, its'.toArray, rfl, it, intsAre_of rv⟩
          have ek := kOf_eq ti
          refine ⟨by rw [List.map_cons, q1, ek], fun u hm => ?_⟩
          rcases List.mem_cons.mp hm with e2 | hm
          · subst e2
            rw [ek]
            exact ⟨ti, a, rfl, f1'⟩
          · exact q2 u hm
theorem out_dats {h : Heap} {I0 : Hp} : ∀ {out : List Value}, (∀ u ∈ out, ∃ a, u = Value.ref a ∧ Dat I0 (.ref a) (tI (kOf h u))) → ∃ ys, Vals ys out ∧ Dats I0 ys ((out.map (kOf h)).map tI)
  | [], _ => ⟨[], .nil, .nil⟩
  | u :: out, hh => by
    obtain ⟨ys, r, f⟩ := out_dats (h := h) fun u hu => hh u (List.mem_cons_of_mem _ hu)
    obtain ⟨a, e, q⟩ := hh u List.mem_cons_self
    exact ⟨.ref a :: ys, .cons (by rw [e]; rfl) r, .cons q f⟩
/-- sorted(tuples of ints), the first one empty or there is but one -/
def rSrtT : List V → Hp → VK → Prop := fun vs H Q => ∃ (I : Hp) (a : Addr) (xs : List V) (nss : List (List Int)), Same I H ∧ vs = [.ref a] ∧ I a = some (.lst xs) ∧ Dats I xs (nss.map tI) ∧ (2 ≤ nss.length → nss[0]? = some []) ∧
  ∀ p ys, Dats I ys ((srtT nss).map tI) → H p = none → Q (.ref p) (upd H p (.lst ys))
theorem cr_sortedT0 (hu : X.A.units + 64 < cLine) : CallR X (.builtin "sorted") rSrtT := by
  intro pins s σ H vs us Q I r q
  obtain ⟨I0, a, xs, nss, sm, rfl, e, f, h0, q⟩ := q
  obtain ⟨its, rv, hl, hz⟩ := I.list (SqL.of (sm _ _ e))
  rw [Vals.ref1 r]
  obtain ⟨q1, q2⟩ := its_k I sm f rv
  have hlen : its.length = nss.length := by rw [← q1, List.length_map]
  refine SrtO.sorted_ord (NtL.swo_lexL (kOf s.heap)) hl.isList (by rw [← rv.length]; exact hz) (fun h2 h₁ a' _ kk => ?_) fun out h1 h2 => ?_
  · refine ti_sortable (s := { s with heap := h₁ }) h2 (by show X.A.units + 1 + 1 < cLine; omega) (fun v hm => (q2 v hm).1.keeps fun b o _ g => (kk b o g).2) (fun v hv => ?_) fun v hm z => ?_
    · have e1 : (its.map (kOf s.heap))[0]? = some (kOf s.heap v) := by rw [List.getElem?_map, hv]; rfl
      rw [q1, h0 (by omega)] at e1
      exact (Option.some.inj e1).symm
    · obtain ⟨⟨b, items, eb, ⟨o, g, _⟩, _⟩, _⟩ := q2 v hm
      rw [z] at eb
      cases eb
      exact (kk _ _ g).1 rfl
  · obtain ⟨ys, ry, fy⟩ := out_dats (h := s.heap) (I0 := I0) (out := out) fun u hm => (q2 u (h2.perm.mem_iff.mp hm)).2
    have hp : (out.map (kOf s.heap)).Perm nss := by
      rw [← q1]
      exact h2.perm.map _
    have hs : RSorted (out.map (kOf s.heap)) := List.pairwise_map.mpr h1
    rw [srtT_of hp hs] at fy
    obtain ⟨ep, he'⟩ := PyProof.Rows.sortedAll_at s.heap its out.toArray
    have hlen2 : ys.length ≤ sizeLine := by
      rw [ry.length, h2.len, ← rv.length]
      exact hz
    exact ⟨.ref _, upd H (s.heap.objs.size + 1) (.lst ys), I.laid (t' := s.toks) (fun _ _ => PyProof.Rows.sortedAll_old) (Nat.le_succ _) ⟨hlen2, out, ep, ry, he'⟩, rfl, q _ _ fy (I.hok.fresh (Nat.le_succ _))⟩
end
end Wr
end
section
set_option maxRecDepth 100000
set_option maxHeartbeats 1000000
/-! Rules: sorted, list(text) as expressions. -/
namespace Wr
open PySem L2
open PySem.W (EachIs AllAlike Sortable dataLe)
theorem sortD_map {α : Type} (en : α → PyData) (zs : List α) (le : α → α → Bool) (h : dataLe false en = le) : sortD (zs.map en) = (zs.mergeSort le).map en := by
  unfold sortD
  rw [List.map_mergeSort (s := dataLe false id)]
  intro a _ b _
  rw [← h]
  rfl
def srtI (ns : List Int) : List Int := ns.mergeSort fun a b => decide (a ≤ b)
def srtS (ls : List (List Nat)) : List (List Nat) := ls.mergeSort fun a b => decide (a ≤ b)
theorem sortD_I (ns : List Int) : sortD (ns.map .int) = (srtI ns).map .int := sortD_map _ _ _ (PySem.W.dataLe_int id)
theorem sortD_S (ls : List (List Nat)) : sortD (ls.map S) = (srtS ls).map S := sortD_map _ _ _ (PySem.W.dataLe_str sOf)
theorem sortD_T (nss : List (List Int)) : sortD (nss.map tI) = (srtT nss).map tI := sortD_map _ _ _ (by
  funext p q
  show (!PySem.W.dataLt (.tuple (q.map .int)) (.tuple (p.map .int))) = _
  rw [PySem.W.dataLt_tuple]
  show (!PySem.W.rowLt (q.map .int) (p.map .int)) = _
  rw [PySem.W.dataLt_ints, ← lexLt_lt])
section
variable {g : Gm} {k : Nat} {N : List Str} {sc : Scope} {gd : Bool} {bl : Option Scope} {c : Cs} {ρ : List (Option Sl)} {M M1 M2 M3 M' : Hp} {a b e : Expr} {es : List Expr} {x y z : Sl} {xs : List Sl} {R : Wish} {pos p : Pos} {I I2 F : Hp} {C : Addr} {Q : VK}
variable {ds : List PyData} {l : List Nat}
theorem dats_signs (l : List Nat) : Dats I (l.map fun c => V.str (sOf [c])) (l.map fun c => S [c]) := by
  induction l with
  | nil => exact .nil
  | cons c l ih => exact .cons (.str _) ih
theorem em_listS (ha : EM ⟨g, k, N, sc, gd, bl⟩ ρ M e (.dat (S l)) M1) (hz : l.length ≤ 1000) (hf : glB sc "list" = true := by decide +kernel) (hs : ∀ env : PySem.Env, starEach (e :: []) env = (false, eval e env) :: starEach [] env := by intro _; rfl) : EM ⟨g, k, N, sc, gd, bl⟩ ρ M (.Call (.Name "list" p) [e] [] pos) (.dat (.list (l.map fun c => S [c]))) M1 :=
  ev_callTy (r := fun _ => rLstS) (fun _ G => cr_listStr G.calm) (am_one ha hs) (fun X G I F vs d i Q hQ => by
    obtain ⟨v, rfl, h⟩ := is1 i
    exact ⟨l, by rw [is_str h], hz, gives_lst hQ only_self d (dats_signs l)⟩) hf (hs := hs)
theorem em_sortStr (ha : EM ⟨g, k, N, sc, gd, bl⟩ ρ M e (.dat (S l)) M1) (hz : l.length ≤ 1000) (hf : glB sc "sorted" = true := by decide +kernel) (hs : ∀ env : PySem.Env, starEach (e :: []) env = (false, eval e env) :: starEach [] env := by intro _; rfl) : EM ⟨g, k, N, sc, gd, bl⟩ ρ M (.Call (.Name "sorted" p) [e] [] pos) (.dat (.list ((srtN l).map fun c => S [c]))) M1 :=
  ev_callB (r := fun _ => rSrtS) (fun _ G => cr_sortedStr G.calm G.hu) (am_one ha hs) (fun X G I F vs d i Q hQ => by
    obtain ⟨v, rfl, h⟩ := is1 i
    exact ⟨l, by rw [is_str h], hz, gives_lst hQ only_self d (dats_signs _)⟩) hf (hs := hs)
theorem em_sortD (ha : EM ⟨g, k, N, sc, gd, bl⟩ ρ M e (.dat (.list ds)) M1) (h1 : AllAlike ds) (h2 : Sortable ds) (h3 : PyData.depthAll ds ≤ 50) (hf : glB sc "sorted" = true := by decide +kernel) (hs : ∀ env : PySem.Env, starEach (e :: []) env = (false, eval e env) :: starEach [] env := by intro _; rfl) : EM ⟨g, k, N, sc, gd, bl⟩ ρ M (.Call (.Name "sorted" p) [e] [] pos) (.dat (.list (sortD ds))) M1 :=
  ev_callB (r := fun _ => rSrtD) (fun _ G => cr_sortedDat G.hu) (am_one ha hs) (fun X G I F vs d i Q hQ => by
    obtain ⟨v, rfl, h⟩ := is1 i
    obtain ⟨q, ys, rfl, e1, f1⟩ := is_lst h
    exact ⟨I, q, ys, ds, same_j3, rfl, e1, f1, h1, h2, h3, fun p zs hz hp => gives_lst hQ only_self d hz p hp⟩) hf (hs := hs)
theorem em_sortI {ns : List Int} (ha : EM ⟨g, k, N, sc, gd, bl⟩ ρ M e (.dat (.list (ns.map .int))) M1) (hf : glB sc "sorted" = true := by decide +kernel) (hs : ∀ env : PySem.Env, starEach (e :: []) env = (false, eval e env) :: starEach [] env := by intro _; rfl) : EM ⟨g, k, N, sc, gd, bl⟩ ρ M (.Call (.Name "sorted" p) [e] [] pos) (.dat (.list ((srtI ns).map .int))) M1 := by
  rw [← sortD_I]
  exact em_sortD ha (AllAlike.of fun b b' => by simp [PySem.W.alike]) (Sortable.others fun b => ⟨by simp, by simp⟩) (by rw [depth_ints]; omega) hf hs
theorem em_sortLS {ls : List (List Nat)} (ha : EM ⟨g, k, N, sc, gd, bl⟩ ρ M e (.dat (.list (ls.map S))) M1) (hf : glB sc "sorted" = true := by decide +kernel) (hs : ∀ env : PySem.Env, starEach (e :: []) env = (false, eval e env) :: starEach [] env := by intro _; rfl) : EM ⟨g, k, N, sc, gd, bl⟩ ρ M (.Call (.Name "sorted" p) [e] [] pos) (.dat (.list ((srtS ls).map S))) M1 := by
  rw [← sortD_S]
  exact em_sortD ha (AllAlike.of fun b b' => by simp [PySem.W.alike]) (Sortable.others fun b => ⟨by simp, by simp⟩) (by rw [map_S, depth_strs]; omega) hf hs
theorem em_sortT {nss : List (List Int)} (ha : EM ⟨g, k, N, sc, gd, bl⟩ ρ M e (.dat (.list (nss.map tI))) M1) (h : (∀ ns ∈ nss, ns ≠ []) ∨ (2 ≤ nss.length → nss[0]? = some [])) (hf : glB sc "sorted" = true := by decide +kernel) (hs : ∀ env : PySem.Env, starEach (e :: []) env = (false, eval e env) :: starEach [] env := by intro _; rfl) : EM ⟨g, k, N, sc, gd, bl⟩ ρ M (.Call (.Name "sorted" p) [e] [] pos) (.dat (.list ((srtT nss).map tI))) M1 := by
  rcases h with h | h
  · rw [← sortD_T]
    refine em_sortD ha (AllAlike.of fun b b' => by show PySem.W.alike (.tuple _) (.tuple _) = true; simp only [PySem.W.alike]; exact PySem.W.alike_ints _ _) (.inl fun d hd => ?_) ?_ hf hs
    · obtain ⟨ns, hm, rfl⟩ := List.mem_map.mp hd
      have := h ns hm
      cases ns with
      | nil => exact absurd rfl this
      | cons n ns => exact ⟨_, _, rfl⟩
    · have := depth_tIs nss
      omega
  · exact ev_callB (r := fun _ => rSrtT) (fun _ G => cr_sortedT0 G.hu) (am_one ha hs) (fun X G I F vs d i Q hQ => by
      obtain ⟨v, rfl, hi⟩ := is1 i
      obtain ⟨q, ys, rfl, e1, f1⟩ := is_lst hi
      exact ⟨I, q, ys, nss, same_j3, rfl, e1, f1, h, fun p zs hz hp => gives_lst hQ only_self d hz p hp⟩) hf (hs := hs)
end
end Wr
end
section
set_option maxRecDepth 100000
set_option maxHeartbeats 1000000
/-! Sources: enumerate of a tuple, zip of a tuple or a list with a text. -/
namespace Wr
open PySem L2

theorem meets_enumerate_newB1 {v : Value} {o : Obj} {H : Heap → Prop} (B : Begins v o H) :
    Meets (Builtin.«enumerate.__new__» ⟨[.type "enumerate", v], []⟩) (fun _ R s => H s.heap ∧
      R (.ok (.ret (.ref (s.heap.push o).objs.size))) { s with heap := (s.heap.push o).push { cls := .type "enumerate", data := .fields #[.none, .bool false, .ref s.heap.objs.size, rawInt 0, .none, .none] } }) :=
  .of_wp fun prog w A R s h => by
    obtain ⟨hp, g, d, tk, os⟩ := s; obtain ⟨h1, h⟩ := h
    have hsub := sub_enumerate
    have q1 : ∀ {A' : Around} {E : Value → Shared → Prop} {Q : Value → Shared → Prop}, Q (.ref hp.objs.size) ⟨hp.push o, g, d, tk, os⟩ → wpAny (model prog w) A' (pyIter v) Q E ⟨hp, g, d, tk, os⟩ :=
      fun q => B.iter prog w _ _ ⟨hp, g, d, tk, os⟩ _ h1 q
    wp_walk using q1
    refine wpAny_stack_any fun st => wpAny_pure ?_
    split
    · rename_i c _ _ _ _ _
      cases (c == Value.type "enumerate")
      · wp_walk using q1
        exact ⟨_, rfl, h⟩
      · wp_walk using q1
        exact ⟨_, rfl, h⟩
    · wp_walk using q1
      exact ⟨_, rfl, h⟩
theorem enum_begins1 {prog : Program} {w : World} {A : Around} {E : Value → Shared → Prop} {s : Shared} {v : Value} {o : Obj} {H : Heap → Prop} {Q : Value → Shared → Prop} (B : Begins v o H) (h1 : H s.heap)
    (h : ∀ h', IsEnum h' (s.heap.objs.size + 1) s.heap.objs.size 0 .none → h'.get? s.heap.objs.size = some o → h'.objs.size = s.heap.objs.size + 2 →
      (∀ b o, s.heap.get? b = some o → h'.get? b = some o) → Q (.ref (s.heap.objs.size + 1)) { s with heap := h' }) :
    wpAny (model prog w) A (call (.type "enumerate") [v]) Q E s := by
  refine callType_new F.called_enumerate (by decide) (F.typeCall_enumerate_1 _) (F.newCall_enumerate_1 _) (fun obj => F.args_object_init_2 obj _) F.entry_enumerate_new
    (meets_enumerate_newB1 B) ⟨h1, ?_⟩
  have hz : (s.heap.push o).objs.size = s.heap.objs.size + 1 := Heap.size_push ..
  show _ ∧ _
  rw [hz]
  have he : IsEnum ((s.heap.push o).push { cls := .type "enumerate", data := .fields #[.none, .bool false, .ref s.heap.objs.size, rawInt 0, .none, .none] }) (s.heap.objs.size + 1) s.heap.objs.size 0 .none := by
    have := Heap.get?_push_size (s.heap.push o) (o := { cls := .type "enumerate", data := .fields #[.none, .bool false, .ref s.heap.objs.size, rawInt 0, .none, .none] }) rfl
    rw [hz] at this; exact this
  refine ⟨⟨_, he, rfl⟩, h _ he (Heap.get?_push_of_some _ (Heap.get?_push_size _ B.free)) (by rw [Heap.size_push, hz]) fun b o x => Heap.get?_push_of_some _ (Heap.get?_push_of_some _ x)⟩

theorem vals_getR : ∀ {xs : List V} {us : List Value} {i : Nat} {u : Value}, Vals xs us → us[i]? = some u → ∃ x, xs[i]? = some x ∧ RelV x u
  | _, _, _, _, .nil, e => by simp at e
  | _, _, 0, _, .cons r _, e => by simp at e; subst e; exact ⟨_, rfl, r⟩
  | _, _, i + 1, u, .cons _ t, e => by
    obtain ⟨x, h1, h2⟩ := vals_getR (i := i) t (by simpa using e)
    exact ⟨x, by simpa using h1, h2⟩
/-! ### pairs that come new at each turn -/
def ItP (ps : List (V × V)) (G : Hp → Prop) : It :=
  ⟨fun i H => i < ps.length ∧ G H, fun i H v H' => ∃ T p, v = .ref T ∧ H T = none ∧ ps[i]? = some p ∧ H' = upd H T (.tup [p.1, p.2]), fun i H => i = ps.length ∧ G H⟩
theorem turn_pairs {P : Program} {w : World} {K : PySem.W.Frag} {elts : List Expr} {kk : Nat} {tpos : Pos} {it : Addr} {fp : List Addr} {ps : List (V × V)} {G : Hp → Prop} {ι : Type} {D : ι → Heap → Prop} {St : Nat → Heap → Prop}
    (mem : it ∈ fp) (obj : ∀ i h, St i h → ∀ b ∈ fp, ∃ o, h.get? b = some o ∧ ∀ v, o.data ≠ .cell v) (keep : ∀ i h h', St i h → (∀ b ∈ fp, ∀ o, h.get? b = some o → h'.get? b = some o) → St i h')
    (hD : ∀ (X : Cx), X.prog = P → X.w = w → X.K = K → ∀ (pins : List (Addr × Obj)) (σ : L2.St) (H : Hp) (s : Shared), Inv X pins σ H s → G H → ∃ j, D j s.heap)
    (W : ∀ (j : ι) (A : Around), A.handled = none → ∃ fp' wr, (∀ b ∈ wr, b ∈ fp) ∧ GoesN P w A (.Tuple elts kk tpos) it fp' wr ps.length (fun i h₀ v h => ∃ T a b p, v = .ref T ∧ h₀.objs.size ≤ T ∧ ps[i]? = some p ∧ RelV p.1 a ∧ RelV p.2 b ∧ h.IsTuple T #[a, b]) (fun i h => St i h ∧ D j h))
    (self : ∀ (A : Around) i (s : Shared) (Q : Value → Shared → Prop) (E : Value → Shared → Prop), St i s.heap → Q (.ref it) s → wpAny (model P w) A (pyIter (.ref it)) Q E s) :
    Turn P w K (.Tuple elts kk tpos) (ItP ps G) fp it St where
  mem := mem
  obj := obj
  keep := keep
  item := by
    intro X hP hw hK hc i pins s σ H E I hf st hg
    obtain ⟨hi, hG⟩ := hg
    obtain ⟨j, hj⟩ := hD X hP hw hK pins σ H s I hG
    obtain ⟨fp', wr, hwr, g⟩ := W j X.A (I.ok.hd hc)
    have key := g.goes i s (fun u s2 => ∃ x H', Inv X pins σ H' s2 ∧ RelV x u ∧ (ItP ps G).yld i H x H' ∧ St (i + 1) s2.heap ∧ ∀ b ∈ fp, H' b = none) E hi ⟨st, hj⟩ fun v h' tk hY st' hk htk => by
      obtain ⟨T, a, b, p, rfl, hT, hp, ra, rb, hI⟩ := hY
      have new : ObjOk X.prog X.w (upd H T (.tup [p.1, p.2])) h' T (.tup [p.1, p.2]) := ⟨by show 2 ≤ sizeLine; decide, [a, b], .cons ra (.cons rb .nil), hI⟩
      refine ⟨.ref T, upd H T (.tup [p.1, p.2]), I.turnedNew (t' := tk) (ch := fp) (fun c o hb q => hk c o (fun z => hb (hwr c z)) q) hf hT new, rfl, ⟨T, p, rfl, I.hok.fresh hT, hp, rfl⟩, st'.1, fun c hm => ?_⟩
      obtain ⟨o, ho, _⟩ := obj i s.heap st c hm
      have hlt := Heap.lt_size ho
      rw [upd_ne (Nat.ne_of_lt (Nat.lt_of_lt_of_le hlt hT))]
      exact (hf c hm).1
    exact key
  done := by
    intro X hP hw hK hc i pins s σ H E I hf st hg
    obtain ⟨hi, hG⟩ := hg
    subst hi
    obtain ⟨j, hj⟩ := hD X hP hw hK pins σ H s I hG
    obtain ⟨fp', wr, hwr, g⟩ := W j X.A (I.ok.hd hc)
    exact g.stops s (fun s1 => Inv X pins σ H s1) E ⟨st, hj⟩ fun h' tk hk htk => I.turnedL (t' := tk) (ch := fp) (fun c o hb q => hk c o (fun z => hb (hwr c z)) q) hf
  self := self
theorem fresh_fp {X : Cx} {pins : List (Addr × Obj)} {σ : L2.St} {H : Hp} {s : Shared} (I : Inv X pins σ H s) (fp : List Addr) (h : ∀ b ∈ fp, s.heap.objs.size ≤ b) : ∀ b ∈ fp, FpOk X pins H b := fun b hb => I.fpOk (h b hb) (I.hok.fresh (h b hb))
/-! #### enumerate(tuple) -/
abbrev TupIs (K : PySem.W.Frag) (a : Addr) (xs : List V) : Hp → Prop := fun H => H a = some (.tup xs)
def enumPs (xs : List V) : List (V × V) := (List.range xs.length).zipWith (fun i x => (V.int (i : Nat), x)) xs
theorem enumPs_len (xs : List V) : (enumPs xs).length = xs.length := by unfold enumPs; simp
theorem enumPs_at {xs : List V} {i : Nat} {x : V} (h : xs[i]? = some x) : (enumPs xs)[i]? = some (.int (i : Nat), x) := by
  unfold enumPs
  rw [List.getElem?_zipWith]
  have hi : i < xs.length := (List.getElem?_eq_some_iff.mp h).1
  rw [List.getElem?_range hi, h]
theorem turn_enumT {P : Program} {w : World} {K : PySem.W.Frag} {elts : List Expr} {kk : Nat} {tpos : Pos} (a e it : Addr) (xs : List V) (hne : e ≠ it) (ha1 : a ≠ e) (ha2 : a ≠ it) :
    Turn P w K (.Tuple elts kk tpos) (ItP (enumPs xs) (TupIs K a xs)) [e, it] e (fun i h => (∃ old, IsEnum h e it (0 + (i : Int)) old) ∧ h.IsTupleIter it a i) :=
  turn_pairs (ι := { its : List Value // Vals xs its }) (D := fun j h => h.IsTuple a j.1.toArray) (by simp)
    (fun i h st b hb => by
      obtain ⟨⟨old, he⟩, ⟨o, ho, hc, hd⟩⟩ := st
      have e' : b = e ∨ b = it := by simpa using hb
      rcases e' with z | z
      · rw [z]; exact ⟨_, he, fun v q => nomatch q⟩
      · rw [z]; exact ⟨o, ho, fun v q => by rw [hd] at q; cases q⟩)
    (fun i h h' st k => let ⟨⟨old, he⟩, hi⟩ := st; ⟨⟨old, k e (by simp) _ he⟩, hi.at fun o q => k it (by simp) o q⟩)
    (fun X hP hw hK pins σ H s I hG => by
      subst hP hw hK
      obtain ⟨its, rv, p, _⟩ := I.tuple (SqT.of hG)
      exact ⟨⟨its, rv⟩, p⟩)
    (fun j A hh => by
      obtain ⟨its, rv⟩ := j
      have D := PySem.Draws.tuple (prog := P) (w := w) (A := A.in1) hh it a ha2 its.toArray
      have g := GoesN.enumFrom (elts := elts) (x1 := kk) (pos := tpos) 0 D e hne (by simp [hne, Ne.symm ha1]) (by simp)
      refine ⟨[e, it, a], [e, it], fun b hb => hb, ?_⟩
      have hn : its.toArray.size = (enumPs xs).length := by rw [enumPs_len, rv.length]; simp
      rw [← hn]
      have g2 := g.mono (Y' := fun i h₀ v h => ∃ T a b p, v = .ref T ∧ h₀.objs.size ≤ T ∧ (enumPs xs)[i]? = some p ∧ RelV p.1 a ∧ RelV p.2 b ∧ h.IsTuple T #[a, b]) fun i h₀ v h hi ⟨T, t, x, ev, hT, hx, hI⟩ => by
        have hx' : its[i]? = some x := by simpa using hx
        obtain ⟨y, hy, ry⟩ := vals_getR rv hx'
        rw [Int.zero_add] at hI
        exact ⟨T, _, x, _, ev, hT, enumPs_at hy, ⟨t, rfl⟩, ry, hI⟩
      exact { sub := g2.sub, frame := fun i h h' st k => (fun q => ⟨⟨q.1, q.2.1⟩, q.2.2⟩) (g2.frame i h h' ⟨st.1.1, st.1.2, st.2⟩ k),
              goes := fun i s Q E hi st hQ => g2.goes i s Q E hi ⟨st.1.1, st.1.2, st.2⟩ fun v h' tk hY st' hk htk => hQ v h' tk hY ⟨⟨st'.1, st'.2.1⟩, st'.2.2⟩ hk htk,
              stops := fun s Q E st hQ => g2.stops s Q E ⟨st.1.1, st.1.2, st.2⟩ hQ, self := fun i s Q E st hq => g2.self i s Q E ⟨st.1.1, st.1.2, st.2⟩ hq })
    (fun A i s Q E st h => let ⟨⟨_, he⟩, _⟩ := st; wpAny_pyIter_enum he h)

def iEnumT (ta : TA) : TI := fun σ H R => ta σ H fun vs H1 => ∃ a xs, vs = [.ref a] ∧ H1 a = some (.tup xs) ∧ ∀ K : PySem.W.Frag, R (ItP (enumPs xs) (TupIs K a xs)) H1
theorem pi_enumT {X : Cx} {e : Expr} {ta : TA} {p pos tpos : Pos} {elts : List Expr} {kk : Nat} (hg : Gl X "enumerate") (hm : X.mg "enumerate" = none) (ha : PA X [e] ta) (hs : starEach [e] X.env = [(false, eval e X.env)] := by rfl) :
    PI X (.Tuple elts kk tpos) (.Call (.Name "enumerate" p) [e] [] pos) (iEnumT ta) := by
  refine ⟨fun pins s σ H R I h => ?_⟩
  refine PyProof.Rows.Call_ (ld_blt I hg hm PyProof.Rows.boot_enumerate (PyProof.Rows.callWith_type1 (thn (ha.run pos pins s σ H _ I h) fun us s1 ⟨vs, H1, I1, r1, q1⟩ => ?_) hs rfl))
  obtain ⟨a, xs, ex, hq, q⟩ := q1
  subst ex
  cases r1 with
  | cons r rr =>
    cases rr
    cases r
    obtain ⟨its, rv, p', hz⟩ := I1.tuple (SqT.of hq)
    have hp : s1.heap.IsTuple a its.toArray := p'
    have hlt : a < s1.heap.objs.size := by obtain ⟨o, ho, _⟩ := id p'; exact Heap.lt_size ho
    refine enum_begins1 (begins_tuple a its.toArray) hp fun h' he hit hsz hk => wpAny_pyIter_enum he ?_
    have I2 : Inv X pins σ H1 { s1 with heap := h' } := I1.kept (t' := s1.toks) hk
    refine ⟨s1.heap.objs.size + 1, [s1.heap.objs.size + 1, s1.heap.objs.size], _, _, H1, rfl, I2, turn_enumT a (s1.heap.objs.size + 1) s1.heap.objs.size xs (Nat.succ_ne_self _) (Nat.ne_of_lt (Nat.lt_succ_of_lt hlt)) (Nat.ne_of_lt hlt), ⟨⟨.none, he⟩, ⟨_, hit, rfl, rfl⟩⟩, fresh_fp I1 _ fun b hb => ?_, q X.K⟩
    have e' : b = s1.heap.objs.size + 1 ∨ b = s1.heap.objs.size := by simpa using hb
    rcases e' with z | z
    · rw [z]; exact Nat.le_add_right _ _
    · rw [z]; exact Nat.le_refl _

/-! #### zip(seq, text) -/
def zipPs (xs : List V) (l : List Nat) : List (V × V) := xs.zipWith (fun x c => (x, V.str (sOf [c]))) l
theorem zipPs_len (xs : List V) (l : List Nat) : (zipPs xs l).length = min xs.length l.length := by unfold zipPs; simp
theorem zipPs_at {xs : List V} {l : List Nat} {i : Nat} {x : V} {c : Nat} (h : xs[i]? = some x) (h2 : l[i]? = some c) : (zipPs xs l)[i]? = some (x, .str (sOf [c])) := by
  unfold zipPs
  rw [List.getElem?_zipWith, h, h2]
/-- the sequence at a: its iterator and what it draws -/
structure SqB (X : Cx) (a : Addr) (xs : List V) (G : Hp → Prop) (o : Obj) (D : List Value → Heap → Prop) (Ti : Heap → Addr → Nat → Prop) : Prop where
  have_ : ∀ (X' : Cx), X'.prog = X.prog → X'.w = X.w → X'.K = X.K → ∀ (pins : List (Addr × Obj)) (σ : L2.St) (H : Hp) (s : Shared), Inv X' pins σ H s → G H → ∃ its, Vals xs its ∧ D its s.heap ∧ a < s.heap.objs.size
  begins : ∀ its, Begins (.ref a) o (D its)
  starts : ∀ h b, h.get? b = some o → Ti h b 0
  draws : ∀ (A : Around) (it : Addr) its, A.handled = none → a ≠ it → Draws X.prog X.w A it [it, a] its.length (fun i v => its[i]? = some v) (fun i h => Ti h it i ∧ D its h)
  obj : ∀ h it i, Ti h it i → ∃ o, h.get? it = some o ∧ ∀ v, o.data ≠ .cell v
  keep : ∀ h h' it i, Ti h it i → (∀ o, h.get? it = some o → h'.get? it = some o) → Ti h' it i
theorem sqb_t {X : Cx} {a : Addr} {xs : List V} : SqB X a xs (fun H => H a = some (.tup xs)) { cls := .type "tuple_iterator", data := .fields #[.ref a, .int 0 0] } (fun its h => h.IsTuple a its.toArray) (fun h it i => h.IsTupleIter it a i) where
  have_ := fun X' h1 h2 h3 pins σ H s I e => by
    obtain ⟨its, rv, p, _⟩ := I.tuple (SqT.of e)
    exact ⟨its, rv, p, by obtain ⟨o, ho, _⟩ := id p; exact Heap.lt_size ho⟩
  begins := fun its => begins_tuple a its.toArray
  starts := fun h b e => ⟨_, e, rfl, rfl⟩
  draws := fun A it its hh hne => by simpa using PySem.Draws.tuple (prog := X.prog) (w := X.w) (A := A) hh it a hne its.toArray
  obj := fun h it i ⟨o, ho, hc, hd⟩ => ⟨o, ho, fun v q => by rw [hd] at q; cases q⟩
  keep := fun h h' it i st k => st.at fun o q => k o q
theorem sqb_l {X : Cx} {a : Addr} {xs : List V} : SqB X a xs (fun H => H a = some (.lst xs)) { cls := .type "list_iterator", data := .fields #[.ref a, .int 0 0] } (fun its h => h.IsList a its.toArray) (fun h it i => h.IsListIter it a i) where
  have_ := fun X' h1 h2 h3 pins σ H s I e => by
    obtain ⟨its, rv, p, _⟩ := I.list (SqL.of e)
    exact ⟨its, rv, p.isList, p.lt⟩
  begins := fun its => begins_list a its.toArray
  starts := fun h b e => ⟨_, e, rfl, rfl⟩
  draws := fun A it its hh hne => by simpa using PySem.Draws.list (prog := X.prog) (w := X.w) (A := A) hh it a hne its.toArray
  obj := fun h it i ⟨o, ho, hc, hd⟩ => ⟨o, ho, fun v q => by rw [hd] at q; cases q⟩
  keep := fun h h' it i st k => st.at fun o q => k o q
theorem turn_zipS {X : Cx} {elts : List Expr} {kk : Nat} {tpos : Pos} {a n : Addr} {xs : List V} {l : List Nat} {G : Hp → Prop} {o : Obj} {D : List Value → Heap → Prop} {Ti : Heap → Addr → Nat → Prop} (B : SqB X a xs G o D Ti) (t : Tok) (ha : a < n) :
    Turn X.prog X.w X.K (.Tuple elts kk tpos) (ItP (zipPs xs l) G) [n + 4, n + 2, n + 3, n, n + 1] (n + 4)
      (fun i h => IsZip h (n + 4) (n + 2) (n + 3) .none ∧ IsTupOf2 h (n + 2) (.ref n) (.ref (n + 1)) ∧ (∃ a1 a2, IsTupOf2 h (n + 3) a1 a2) ∧ Ti h n i ∧ h.IsStrIter (n + 1) (strIterType (sOf l)) (sOf l) t i) :=
  turn_pairs (ι := { its : List Value // Vals xs its }) (D := fun j h => D j.1 h) (by simp)
    (fun i h st b hb => by
      obtain ⟨hz, hT, ⟨a1, a2, hO⟩, h1, ⟨o2, ho2, hc2, hd2⟩⟩ := st
      have e' : b = n + 4 ∨ b = n + 2 ∨ b = n + 3 ∨ b = n ∨ b = n + 1 := by simpa using hb
      rcases e' with z | z | z | z | z
      · rw [z]; exact ⟨_, hz, fun v q => nomatch q⟩
      · rw [z]; exact ⟨_, hT, fun v q => nomatch q⟩
      · rw [z]; exact ⟨_, hO, fun v q => nomatch q⟩
      · rw [z]; exact B.obj h n i h1
      · rw [z]; exact ⟨o2, ho2, fun v q => by rw [hd2] at q; cases q⟩)
    (fun i h h' st k => by
      obtain ⟨hz, hT, ⟨a1, a2, hO⟩, h1, h2⟩ := st
      refine ⟨k _ (by simp) _ hz, k _ (by simp) _ hT, ⟨a1, a2, k _ (by simp) _ hO⟩, B.keep h h' n i h1 fun o q => k n (by simp) o q, ?_⟩
      obtain ⟨o2, ho2, r⟩ := h2
      exact ⟨o2, k _ (by simp) _ ho2, r⟩)
    (fun X' hP hw hK pins σ H s I hG => by
      obtain ⟨its, rv, d, _⟩ := B.have_ X' hP hw hK pins σ H s I hG
      exact ⟨⟨its, rv⟩, d⟩)
    (fun j A hh => by
      obtain ⟨its, rv⟩ := j
      have D1 := B.draws A.in1 n its hh (Nat.ne_of_lt ha)
      have D2 := PySem.Draws.text (prog := X.prog) (w := X.w) (A := A.in1) hh (n + 1) (sOf l) t
      have S : ZipSep2 (n + 4) (n + 2) (n + 3) n (n + 1) [n, a] [n + 1] := zip_sep2 (fp1 := [a]) (fp2 := []) (fun b hb => by
        have e : b = a := by simpa using hb
        rw [e]; exact ha) (fun b hb => by cases hb)
      have g := GoesN.zip2 (elts := elts) (x1 := kk) (pos := tpos) S D1 D2
      refine ⟨(n + 4) :: (n + 2) :: (n + 3) :: ([n, a] ++ [n + 1]), [n + 4, n + 3, n, n + 1], fun b hb => by
        simp only [List.mem_cons, List.mem_nil_iff, or_false] at hb ⊢
        rcases hb with h | h | h | h
        · exact .inl h
        · exact .inr (.inr (.inl h))
        · exact .inr (.inr (.inr (.inl h)))
        · exact .inr (.inr (.inr (.inr h))), ?_⟩
      have hn : min its.length (sOf l).cps.size = (zipPs xs l).length := by rw [zipPs_len, rv.length, sOf_size]
      rw [← hn]
      have g2 := g.mono (Y' := fun i h₀ v h => ∃ T a b p, v = .ref T ∧ h₀.objs.size ≤ T ∧ (zipPs xs l)[i]? = some p ∧ RelV p.1 a ∧ RelV p.2 b ∧ h.IsTuple T #[a, b]) fun i h₀ v h hi ⟨T, x, y, ev, hT, hx, hy, hI⟩ => by
        obtain ⟨u, hu, ru⟩ := vals_getR rv hx
        obtain ⟨ch, tt, hc, rfl⟩ := hy
        exact ⟨T, _, _, _, ev, hT, zipPs_at hu (by rw [← sOf_get]; exact hc), ru, ⟨tt, rfl⟩, hI⟩
      have r1 : ∀ {i h}, (IsZip h (n + 4) (n + 2) (n + 3) .none ∧ IsTupOf2 h (n + 2) (.ref n) (.ref (n + 1)) ∧ (∃ a1 a2, IsTupOf2 h (n + 3) a1 a2) ∧ Ti h n i ∧ h.IsStrIter (n + 1) (strIterType (sOf l)) (sOf l) t i) ∧ D its h →
          IsZip h (n + 4) (n + 2) (n + 3) .none ∧ IsTupOf2 h (n + 2) (.ref n) (.ref (n + 1)) ∧ (∃ a1 a2, IsTupOf2 h (n + 3) a1 a2) ∧ (Ti h n i ∧ D its h) ∧ h.IsStrIter (n + 1) (strIterType (sOf l)) (sOf l) t i := fun q => ⟨q.1.1, q.1.2.1, q.1.2.2.1, ⟨q.1.2.2.2.1, q.2⟩, q.1.2.2.2.2⟩
      have r2 : ∀ {i h}, (IsZip h (n + 4) (n + 2) (n + 3) .none ∧ IsTupOf2 h (n + 2) (.ref n) (.ref (n + 1)) ∧ (∃ a1 a2, IsTupOf2 h (n + 3) a1 a2) ∧ (Ti h n i ∧ D its h) ∧ h.IsStrIter (n + 1) (strIterType (sOf l)) (sOf l) t i) →
          (IsZip h (n + 4) (n + 2) (n + 3) .none ∧ IsTupOf2 h (n + 2) (.ref n) (.ref (n + 1)) ∧ (∃ a1 a2, IsTupOf2 h (n + 3) a1 a2) ∧ Ti h n i ∧ h.IsStrIter (n + 1) (strIterType (sOf l)) (sOf l) t i) ∧ D its h := fun q => ⟨⟨q.1, q.2.1, q.2.2.1, q.2.2.2.1.1, q.2.2.2.2⟩, q.2.2.2.1.2⟩
      exact { sub := g2.sub, frame := fun i h h' st k => r2 (g2.frame i h h' (r1 st) k),
              goes := fun i s Q E hi st hQ => g2.goes i s Q E hi (r1 st) fun v h' tk hY st' hk htk => hQ v h' tk hY (r2 st') hk htk,
              stops := fun s Q E st hQ => g2.stops s Q E (r1 st) hQ, self := fun i s Q E st hq => g2.self i s Q E (r1 st) hq })
    (fun A i s Q E st h => wpAny_pyIter_zip st.1 h)
def iZipS (ta : TA) : TI := fun σ H R => ta σ H fun vs H1 => ∃ a xs l, vs = [.ref a, .str (sOf l)] ∧ ((H1 a = some (.tup xs) ∧ R (ItP (zipPs xs l) fun H => H a = some (.tup xs)) H1) ∨ (H1 a = some (.lst xs) ∧ R (ItP (zipPs xs l) fun H => H a = some (.lst xs)) H1))
theorem pi_zipS {X : Cx} {e e2 : Expr} {ta : TA} {p pos tpos : Pos} {elts : List Expr} {kk : Nat} (hg : Gl X "zip") (hm : X.mg "zip" = none) (ha : PA X [e, e2] ta)
    (hs : starEach [e, e2] X.env = (false, eval e X.env) :: starEach [e2] X.env := by rfl) (hpl : (backTo pos (starEach [e2] X.env)).any (·.1) = false := by rfl) :
    PI X (.Tuple elts kk tpos) (.Call (.Name "zip" p) [e, e2] [] pos) (iZipS ta) := by
  refine ⟨fun pins s σ H R I h => ?_⟩
  refine PyProof.Rows.Call_ (ld_blt I hg hm PyProof.Rows.boot_zip (PyProof.Rows.callWith_type1 (thn (ha.run pos pins s σ H _ I h) fun us s1 ⟨vs, H1, I1, r1, q1⟩ => ?_) hs hpl))
  obtain ⟨a, xs, l, ex, q1⟩ := q1
  subst ex
  cases r1 with
  | cons r rr =>
    cases rr with
    | cons r' rr =>
      cases rr
      cases r
      obtain ⟨t, rfl⟩ := r'
      have go : ∀ {G : Hp → Prop} {o : Obj} {D : List Value → Heap → Prop} {Ti : Heap → Addr → Nat → Prop} (B : SqB X a xs G o D Ti), G H1 → R (ItP (zipPs xs l) G) H1 →
          wpAny (model X.prog X.w) X.A (call (.type "zip") [.ref a, .str (sOf l) t]) (fun v s2 => wpAny (model X.prog X.w) X.A (pyIter v) (PIE X pins σ (.Tuple elts kk tpos) R) X.xe s2) X.xe s1 := fun {G o D Ti} B hG q => by
        obtain ⟨its, rv, d, hlt⟩ := B.have_ X rfl rfl rfl pins σ H1 s1 I1 hG
        refine zip_begins2 (B.begins its) (begins_text (sOf l) t) d trivial fun h' hz hT hO g1 g2 hsz hk => wpAny_pyIter_zip hz ?_
        have I2 : Inv X pins σ H1 { s1 with heap := h' } := I1.kept (t' := s1.toks) hk
        refine ⟨s1.heap.objs.size + 4, [s1.heap.objs.size + 4, s1.heap.objs.size + 2, s1.heap.objs.size + 3, s1.heap.objs.size, s1.heap.objs.size + 1], _, _, H1, rfl, I2, turn_zipS B t hlt, ⟨hz, hT, ⟨_, _, hO⟩, B.starts _ _ g1, ⟨_, g2, rfl, rfl⟩⟩, fresh_fp I1 _ fun b hb => ?_, q⟩
        have e' : b = s1.heap.objs.size + 4 ∨ b = s1.heap.objs.size + 2 ∨ b = s1.heap.objs.size + 3 ∨ b = s1.heap.objs.size ∨ b = s1.heap.objs.size + 1 := by simpa using hb
        rcases e' with z | z | z | z | z <;> rw [z] <;> first | exact Nat.le_add_right _ _ | exact Nat.le_refl _
      rcases q1 with ⟨hq, q⟩ | ⟨hq, q⟩
      · exact go sqb_t hq q
      · exact go sqb_l hq q
end Wr
end
section
set_option maxRecDepth 100000
set_option maxHeartbeats 1000000
/-! Sources over data: enumerate, zip; a text unpacked to two names. -/
namespace Wr
open PySem L2

/-! ### a text of two signs, unpacked -/
section
variable {prog : Program} {w : World} {A : Around} {E : Value → Shared → Prop} {s : Shared} {env : PySem.Env}
theorem unpackItems_two {a b : Nat} {t : Tok} {Q : List Value → Shared → Prop} (hh : A.handled = none)
    (hQ : ∀ h' tk u v, (∀ c o, s.heap.get? c = some o → h'.get? c = some o) → Q [.str ⟨#[a]⟩ u, .str ⟨#[b]⟩ v] { s with heap := h', toks := tk }) : wpAny (model prog w) A (unpackItems (.str (sOf [a, b]) t) 2 none) Q E s := by
  unfold unpackItems
  refine wpAny_bind ?_
  · unfold notIterableAtAll
    refine wpAny_bind (wpAny_specialOf (T := "str") (v := .str (sOf [a, b]) t) rfl F.slot_str_iter.lookup ?_)
    refine wpAny_pure ?_
    simp only [Bool.false_eq_true, if_false]
    refine wpAny_bind (wpAny_holding (wpAny_pyIter_str fun o St W hst => ?_))
    refine wpAny_bind (wpAny_holding ?_)
    show wpAny _ _ (pyNext (.ref s.heap.objs.size) >>= _) _ _ _
    refine wpAny_bind ((W A hh).item 0 _ _ _ (by rw [sOf_size]; simp) hst fun v1 h1 tk1 p1 st1 k1 => ?_)
    obtain ⟨c1, u1, e1, rfl⟩ := p1
    have e1' : a = c1 := by simpa [sOf] using e1
    subst e1'
    refine wpAny_bind (wpAny_holding ?_)
    show wpAny _ _ (pyNext (.ref s.heap.objs.size) >>= _) _ _ _
    refine wpAny_bind ((W A hh).item 1 _ _ _ (by rw [sOf_size]; simp) st1 fun v2 h2 tk2 p2 st2 k2 => ?_)
    obtain ⟨c2, u2, e2, rfl⟩ := p2
    have e2' : b = c2 := by simpa [sOf] using e2
    subst e2'
    refine wpAny_bind (wpAny_holding ?_)
    show wpAny _ _ (pure []) _ _ _
    refine wpAny_pure (wpAny_pure (wpAny_pure ?_))
    rw [if_neg (by simp)]
    have st2' : St (sOf [a, b]).cps.size h2 := by rw [sOf_size]; exact st2
    refine wpAny_bind (wpAny_holding ((W A hh).done _ _ _ st2' fun h3 tk3 k3 => ?_))
    simp only [Option.isSome_none, Bool.false_eq_true, if_false]
    refine wpAny_pure (hQ h3 tk3 u1 u2 fun c o e => ?_)
    have hc : c ∉ [s.heap.objs.size] := by
      intro z
      have := Heap.lt_size e
      have z' : c = s.heap.objs.size := by simpa using z
      exact absurd z' (Nat.ne_of_lt this)
    exact k3 c o hc (k2 c o hc (k1 c o hc (Heap.get?_push_of_some _ e)))
end
/-- (a, b) = a text of two signs -/
def gTwoS (t : TGs) : TG := fun v σ H Q => ∃ a b : Nat, v = .str (sOf [a, b]) ∧ t [.str (sOf [a]), .str (sOf [b])] σ H Q
theorem pg_twoS {X : Cx} {es : List Expr} {k : Nat} {t : TGs} {pos : Pos} (hc : X.calm = true) (h : PGs X es t) (hn : (assignEach es X.env).length = 2) (hst : (assignEach es X.env).findIdx? (·.1) = none) : PG X (.Tuple es k pos) (gTwoS t) := by
  refine ⟨fun pins s σ H v u Q I r hw => ?_⟩
  obtain ⟨a, b, e1, hw⟩ := hw
  subst e1
  obtain ⟨tk, rfl⟩ := r
  rw [PyProof.Rows.assign_Tuple]
  refine wpAny_bind (wpAny_standAt ?_)
  unfold unpack
  rw [hn, hst]
  refine wpAny_bind (wpAny_holding (unpackItems_two (I.ok.hd hc) fun h' tk' u v hx => ?_))
  have I1 : Inv X pins σ H { s with heap := h', toks := tk' } := I.kept hx
  exact h.run pins _ σ H _ _ Q I1 (.cons (show RelV (.str (sOf [a])) _ from ⟨u, rfl⟩) (.cons (show RelV (.str (sOf [b])) _ from ⟨v, rfl⟩) .nil)) hw
section
variable {g : Gm} {k : Nat} {N : List Str} {sc : Scope} {gd : Bool} {bl : Option Scope} {c : Cs} {ρ ρ' : List (Option Sl)} {M M1 M2 M3 M' : Hp} {a b e e1 e2 : Expr} {es : List Expr} {x y z : Sl} {xs : List Sl} {R : Wish} {pos p tpos : Pos} {I I2 F : Hp} {C : Addr} {Q : VK} {elts : List Expr} {kk : Nat}
theorem tg_twoS (i j : Nat) {f f' : Str} {p1 p2 : Pos} {kk : Nat} {d1 d2 : Nat} (hc : chkL N sc bl i f = true := by decide +kernel) (hc2 : chkL N sc bl j f' = true := by decide +kernel) :
    TgD ⟨g, k, N, sc, gd, bl⟩ (.Tuple [.Name f p1, .Name f' p2] kk p) (.dat (S [d1, d2])) [i, j] ρ ((ρ.set i (some (.dat (S [d1])))).set j (some (.dat (S [d2])))) := fun X G σ I M F v en di ix Q hQ => by
  have L := G.loc hc
  have L2 := G.loc hc2
  rw [is_str ix]
  refine wp_pg (pg_twoS G.calm (pgs_cons (pg_name L.nd L.hN L.hx L.hf) (pgs_cons (pg_name L2.nd L2.hN L2.hx L2.hf) pgs_nil)) rfl rfl) ?_
  refine ⟨d1, d2, rfl, _, _, rfl, _, _, rfl, rfl, ?_⟩
  refine hQ _ ((en.set (x := .dat (S [d1])) (.str _)).set (x := .dat (S [d2])) (.str _)) (by rw [List.length_set, List.length_set]) fun m hm => ?_
  rw [List.getElem?_set_ne (fun z => hm (by simp [z])), List.getElem?_set_ne (fun z => hm (by simp [z]))]

/-! ### pairs -/
theorem walk_p {vs : List (V × V)} {ps : List (PyData × PyData)} {G : Hp → Prop} (hl : vs.length = ps.length) (hv : ∀ (i : Nat) (d : PyData × PyData), ps[i]? = some d → ∃ v : V × V, vs[i]? = some v ∧ Dat I v.1 d.1 ∧ Dat I v.2 d.2)
    (hG : ∀ I2 M F, Same I I2 → G (J3 I2 M F)) : WalkOk C (ItP vs G) (ps.map fun q => Sl.dat (.tuple [q.1, q.2])) I F := by
  refine ⟨fun i I2 M hi s d => ⟨by rw [List.length_map] at hi; omega, hG I2 M F s⟩, fun I2 M s d => ⟨by rw [List.length_map]; exact hl.symm, hG I2 M F s⟩, fun i I2 M v H' dd s d hy hd => ?_⟩
  obtain ⟨T, q, rfl, hT, hq, rfl⟩ := hy
  rw [List.getElem?_map] at hd
  cases e : ps[i]? with
  | none => rw [e] at hd; cases hd
  | some r =>
    rw [e] at hd
    have hd' : Sl.dat (.tuple [r.1, r.2]) = dd := by simpa using hd
    subst hd'
    obtain ⟨v, h1, h2, h3⟩ := hv i r e
    rw [hq] at h1
    cases h1
    obtain ⟨n1, n2, n3⟩ := j3_none hT
    refine ⟨upd I2 T (.tup [q.1, q.2]), same_new n1, d.newI hT, upd_I3, ?_⟩
    have s2 := s.trans (same_new (p := T) (o := .tup [q.1, q.2]) n1)
    exact Dat.tup upd_same (.cons (Dat.mono s2 _ _ h2) (.cons (Dat.mono s2 _ _ h3) .nil))
theorem SrcD.ps {ps : List (PyData × PyData)} {ds : List Sl} {tg iter : Expr} (h : SrcD c ρ M tg iter (ps.map fun q => Sl.dat (.tuple [q.1, q.2])) M1) (e : (ps.map fun q => Sl.dat (.tuple [q.1, q.2])) = ds) : SrcD c ρ M tg iter ds M1 := h.is e
def numbered {α : Type} (zs : List α) : List (α × Nat) := zs.zipIdx
theorem src_enumT {α : Type} {zs : List α} {en : α → PyData} (h : EM ⟨g, k, N, sc, gd, bl⟩ ρ M e (.dat (.tuple (zs.map en))) M1) (hf : glB sc "enumerate" = true := by decide +kernel) (hs : ∀ env : PySem.Env, starEach [e] env = [(false, eval e env)] := by intro _; rfl) (hs2 : ∀ env : PySem.Env, starEach (e :: []) env = (false, eval e env) :: starEach [] env := by intro _; rfl) :
    SrcD ⟨g, k, N, sc, gd, bl⟩ ρ M (.Tuple elts kk tpos) (.Call (.Name "enumerate" p) [e] [] pos) ((numbered zs).map fun q => Sl.dat (.tuple [.int (q.2 : Nat), en q.1])) M1 := fun X G σ I F en' di R hR => by
  obtain ⟨h1, _⟩ := G.gl hf
  refine wp_pi (pi_enumT h1 (by rw [G.mg]; exact g.blt _ (by decide +kernel)) (pa_cons pe_wp pa_nil (hs2 _)) (hs _)) ?_
  refine em_bind h G en' di fun v I2 s d i => ?_
  obtain ⟨q, ys, rfl, e1, f1⟩ := is_tup i
  refine ⟨q, ys, rfl, j3_I e1, fun K => hR _ I2 s d fun F' => ?_⟩
  have hl : ys.length = zs.length := by rw [f1.length, List.length_map]
  have key := walk_p (C := g.C) (I := I2) (F := F') (vs := enumPs ys) (ps := (numbered zs).map fun q => (PyData.int (q.2 : Nat), en q.1)) (G := TupIs K q ys) (by rw [enumPs_len, List.length_map, hl]; simp [numbered]) (fun i d hd => ?_) (fun I3 M3 F3 s3 => j3_I (s3 _ _ e1))
  · rw [List.map_map] at key
    exact key
  · rw [List.getElem?_map] at hd
    unfold numbered at hd
    rw [List.getElem?_zipIdx] at hd
    cases ez : zs[i]? with
    | none => rw [ez] at hd; simp at hd
    | some z =>
      rw [ez] at hd
      have hd' : (PyData.int (i : Nat), en z) = d := by simpa using hd
      subst hd'
      obtain ⟨v, h1, h2⟩ := f1.get (i := i) (d := en z) (by rw [List.getElem?_map, ez]; rfl)
      exact ⟨_, enumPs_at h1, .int _, h2⟩
theorem walk_zip {ys : List V} {α : Type} {zs : List α} {en : α → PyData} {l : List Nat} {G : Hp → Prop} (f1 : Dats I ys (zs.map en)) (hG : ∀ I2 M F, Same I I2 → G (J3 I2 M F)) : WalkOk C (ItP (zipPs ys l) G) ((zs.zip l).map fun q => Sl.dat (.tuple [en q.1, S [q.2]])) I F := by
  have hl : ys.length = zs.length := by rw [f1.length, List.length_map]
  have key := walk_p (C := C) (I := I) (F := F) (vs := zipPs ys l) (ps := (zs.zip l).map fun q => (en q.1, S [q.2])) (G := G) (by rw [zipPs_len, List.length_map, hl, List.length_zip]) (fun i d hd => ?_) hG
  · rw [List.map_map] at key
    exact key
  · rw [List.getElem?_map] at hd
    cases ez : (zs.zip l)[i]? with
    | none => rw [ez] at hd; simp at hd
    | some q =>
      rw [ez] at hd
      have hd' : (en q.1, S [q.2]) = d := by simpa using hd
      subst hd'
      obtain ⟨a1, a2⟩ := List.getElem?_zip_eq_some.mp ez
      obtain ⟨v, h1, h2⟩ := f1.get (i := i) (d := en q.1) (by rw [List.getElem?_map, a1]; rfl)
      exact ⟨_, zipPs_at h1 a2, h2, .str _⟩
theorem src_zipT {α : Type} {zs : List α} {en : α → PyData} {l : List Nat} (ha : EM ⟨g, k, N, sc, gd, bl⟩ ρ M e1 (.dat (.tuple (zs.map en))) M1) (hb : EM ⟨g, k, N, sc, gd, bl⟩ ρ M1 e2 (.dat (S l)) M2) (hf : glB sc "zip" = true := by decide +kernel)
    (hs : ∀ env : PySem.Env, starEach [e1, e2] env = (false, eval e1 env) :: starEach [e2] env := by intro _; rfl) (hs2 : ∀ env : PySem.Env, starEach (e2 :: []) env = (false, eval e2 env) :: starEach [] env := by intro _; rfl) (hp : ∀ env : PySem.Env, (backTo pos (starEach [e2] env)).any (·.1) = false := by intro _; rfl) :
    SrcD ⟨g, k, N, sc, gd, bl⟩ ρ M (.Tuple elts kk tpos) (.Call (.Name "zip" p) [e1, e2] [] pos) ((zs.zip l).map fun q => Sl.dat (.tuple [en q.1, S [q.2]])) M2 := fun X G σ I F en' di R hR => by
  obtain ⟨h1, _⟩ := G.gl hf
  refine wp_pi (pi_zipS h1 (by rw [G.mg]; exact g.blt _ (by decide +kernel)) (pa_cons pe_wp (pa_cons pe_wp pa_nil (hs2 _)) (hs _)) (hs _) (hp _)) ?_
  refine em_bind ha G en' di fun v I2 s d i => em_bind hb G (en'.mono s) d fun u I3 s3 d3 i3 => ?_
  obtain ⟨q, ys, rfl, e1, f1⟩ := is_tup (i.mono s3)
  refine ⟨q, ys, l, by rw [is_str i3], .inl ⟨j3_I e1, hR _ I3 (s.trans s3) d3 fun F' => walk_zip f1 fun I4 M4 F4 s4 => j3_I (s4 _ _ e1)⟩⟩
theorem src_zipL {α : Type} {zs : List α} {en : α → PyData} {l : List Nat} (ha : EM ⟨g, k, N, sc, gd, bl⟩ ρ M e1 (.dat (.list (zs.map en))) M1) (hb : EM ⟨g, k, N, sc, gd, bl⟩ ρ M1 e2 (.dat (S l)) M2) (hf : glB sc "zip" = true := by decide +kernel)
    (hs : ∀ env : PySem.Env, starEach [e1, e2] env = (false, eval e1 env) :: starEach [e2] env := by intro _; rfl) (hs2 : ∀ env : PySem.Env, starEach (e2 :: []) env = (false, eval e2 env) :: starEach [] env := by intro _; rfl) (hp : ∀ env : PySem.Env, (backTo pos (starEach [e2] env)).any (·.1) = false := by intro _; rfl) :
    SrcD ⟨g, k, N, sc, gd, bl⟩ ρ M (.Tuple elts kk tpos) (.Call (.Name "zip" p) [e1, e2] [] pos) ((zs.zip l).map fun q => Sl.dat (.tuple [en q.1, S [q.2]])) M2 := fun X G σ I F en' di R hR => by
  obtain ⟨h1, _⟩ := G.gl hf
  refine wp_pi (pi_zipS h1 (by rw [G.mg]; exact g.blt _ (by decide +kernel)) (pa_cons pe_wp (pa_cons pe_wp pa_nil (hs2 _)) (hs _)) (hs _) (hp _)) ?_
  refine em_bind ha G en' di fun v I2 s d i => em_bind hb G (en'.mono s) d fun u I3 s3 d3 i3 => ?_
  obtain ⟨q, ys, rfl, e1, f1⟩ := is_lst (i.mono s3)
  refine ⟨q, ys, l, by rw [is_str i3], .inr ⟨j3_I e1, hR _ I3 (s.trans s3) d3 fun F' => walk_zip f1 fun I4 M4 F4 s4 => j3_I (s4 _ _ e1)⟩⟩
end
end Wr
end
section
set_option maxRecDepth 100000
set_option maxHeartbeats 1000000
/-! Rules: what is forgotten, chains, texts' methods, slices, dict comprehensions. -/
namespace Wr
open PySem L2
section
variable {g : Gm} {k : Nat} {N : List Str} {sc : Scope} {gd : Bool} {bl : Option Scope} {c : Cs} {ρ ρ' : List (Option Sl)} {M M1 M2 M3 M' : Hp} {a b e f : Expr} {es : List Expr} {x y z : Sl} {xs : List Sl} {R : Wish} {pos p pt py : Pos} {I I2 F : Hp} {C : Addr} {Q : VK} {K : Kont} {rest : List Stmt} {tg iter : Expr}

/-! ### what changed and is of no use any more -/
def cutI (I M0 M' : Hp) : Hp := fun a => match I a with
  | some o => some o
  | none => match M0 a with
    | some _ => none
    | none => M' a
theorem cut_same {M0 : Hp} : Same I (cutI I M0 M') := fun a o h => by unfold cutI; rw [h]
theorem cut_j3 {M0 : Hp} (sm : Same M0 M') : J3 I M' F = J3 (cutI I M0 M') M0 F := by
  funext a
  unfold J3 join cutI
  cases e : I a with
  | some o => rfl
  | none =>
    cases e0 : M0 a with
    | some o =>
      rw [sm a o e0]
    | none =>
      cases e1 : M' a with
      | some o => rfl
      | none => rfl
theorem cut_ds {M0 : Hp} (sm : Same M0 M') (d : Ds I M' F) : Ds (cutI I M0 M') M0 F := by
  refine ⟨fun a o h => ?_, fun a o h => d.mf a o (sm a o h)⟩
  unfold cutI at h
  cases e : I a with
  | some u =>
    obtain ⟨q1, q2⟩ := join_none (d.im a u e)
    have z : M0 a = none := by
      cases e0 : M0 a with
      | none => rfl
      | some v => rw [sm a v e0] at q1; cases q1
    unfold join
    rw [z]
    exact q2
  | none =>
    rw [e] at h
    cases e0 : M0 a with
    | some v => rw [e0] at h; cases h
    | none =>
      rw [e0] at h
      unfold join
      rw [e0]
      exact d.mf a o h
def Wish.frz (R : Wish) : Wish := fun x M' => ∃ M0, Same M0 M' ∧ R x M0
theorem Gives.frz (h : Gives C I F R Q) : Gives C I F R.frz Q := fun v I2 x M' ⟨M0, sm, r⟩ s d i => by
  rw [cut_j3 sm]
  exact h v _ x M0 r (s.trans cut_same) (cut_ds sm d) (i.mono cut_same)
theorem ev_frz (h : EV c ρ M e R.frz) : EV c ρ M e R := fun X G σ I F en di Q hQ => h X G σ I F en di Q hQ.frz
theorem KOk.frz {D : Ends} (h : KOk C I F K D) : KOk C I F { K with rt := K.rt.frz } D := ⟨h.nx, h.rt.frz, h.bk, h.ct⟩
theorem bd_frz {B : List Stmt} (h : BD c ρ M B { K with rt := K.rt.frz }) : BD c ρ M B K := fun X G σ I F D en di kk => h X G σ I F D en di kk.frz
theorem same_upd {o : HO} {q : Addr} (h : M q = none) : Same M (upd M q o) := same_new h

/-! ### chains -/
section
variable {i j l : Int}
theorem em_ltle (ha : EM c ρ M a (.dat (.int i)) M) (hb : EM c ρ M b (.dat (.int j)) M) (hc : EM c ρ M f (.dat (.int l)) M) (hm : lastMarks [.Lt, .LtE] [b, f] = false := by with_unfolding_all rfl) : EM c ρ M (.Compare a [.Lt, .LtE] [b, f] pos) (.dat (.bool (decide (i < j) && decide (j ≤ l)))) M := fun X G σ I F en di Q hQ =>
  wp_pe (pe_chain op_lt op_le pe_wp pe_wp pe_wp hm) (em_bind ha G en di fun v I1 s1 d1 i1 => em_bind hb G (en.mono s1) d1 fun u I2 s2 d2 i2 => by
    refine ⟨i, j, is_int (i1.mono s2), is_int i2, _, rfl, ?_⟩
    cases e : decide (i < j) with
    | false =>
      rw [if_neg Bool.false_ne_true]
      rw [e] at hQ
      exact hQ.only (s1.trans s2) d2 (.bl _)
    | true =>
      rw [if_pos rfl]
      rw [e] at hQ
      exact em_bind hc G (en.mono (s1.trans s2)) d2 fun w I3 s3 d3 i3 => ⟨j, l, is_int (i2.mono s3), is_int i3, hQ.only ((s1.trans s2).trans s3) d3 (.bl _)⟩)
theorem em_lele (ha : EM c ρ M a (.dat (.int i)) M) (hb : EM c ρ M b (.dat (.int j)) M) (hc : EM c ρ M f (.dat (.int l)) M) (hm : lastMarks [.LtE, .LtE] [b, f] = false := by with_unfolding_all rfl) : EM c ρ M (.Compare a [.LtE, .LtE] [b, f] pos) (.dat (.bool (decide (i ≤ j) && decide (j ≤ l)))) M := fun X G σ I F en di Q hQ =>
  wp_pe (pe_chain op_le op_le pe_wp pe_wp pe_wp hm) (em_bind ha G en di fun v I1 s1 d1 i1 => em_bind hb G (en.mono s1) d1 fun u I2 s2 d2 i2 => by
    refine ⟨i, j, is_int (i1.mono s2), is_int i2, _, rfl, ?_⟩
    cases e : decide (i ≤ j) with
    | false =>
      rw [if_neg Bool.false_ne_true]
      rw [e] at hQ
      exact hQ.only (s1.trans s2) d2 (.bl _)
    | true =>
      rw [if_pos rfl]
      rw [e] at hQ
      exact em_bind hc G (en.mono (s1.trans s2)) d2 fun w I3 s3 d3 i3 => ⟨j, l, is_int (i2.mono s3), is_int i3, hQ.only ((s1.trans s2).trans s3) d3 (.bl _)⟩)
end

/-! ### texts' methods -/
theorem occ_idx {l : List Nat} {x : Nat} (h : x ∈ l) : ∃ r, Builtin.Str.occurrences (sOf l) (sOf [x]) 0 (sOf l).length 1 = l.idxOf x :: r := by
  have hx : ∀ i, StrLaws.At (sOf l) (sOf [x]) (sOf l).length i ↔ l[i]? = some x := fun i => StrLaws.subAt_one (sOf l) x i
  rcases StrLaws.occ_head (sOf l) (sOf [x]) 1 (Nat.le_refl _) with ⟨_, hn⟩ | ⟨i, r, e, ha, hn⟩
  · obtain ⟨i, hi⟩ := List.getElem?_of_mem h
    exact absurd ((hx i).mpr hi) (hn i)
  · refine ⟨r, ?_⟩
    rw [e]
    have hi := (hx i).mp ha
    have hlt : l.idxOf x < l.length := List.idxOf_lt_length_iff.mpr h
    have hle : l.idxOf x ≤ i := by
      obtain ⟨hl, he⟩ := List.getElem?_eq_some_iff.mp hi
      refine Nat.le_of_not_lt fun q => ?_
      have := List.not_of_lt_findIdx (p := fun y => y == x) (xs := l) q
      simp [he] at this
    have hge : ¬ l.idxOf x < i := fun q => hn _ q ((hx _).mpr (by rw [List.getElem?_eq_getElem hlt, List.getElem_idxOf]))
    rw [show i = l.idxOf x by omega]
theorem em_index {l : List Nat} {n : Nat} {apos : Pos} (ha : EM c ρ M a (.dat (S l)) M1) (hb : EM c ρ M1 b (.dat (S [n])) M2) (h : n ∈ l) (hs : ∀ env : PySem.Env, starEach [b] env = [(false, eval b env)] := by intro _; rfl) (hbase : ∀ env : PySem.Env, attributeBase a "index" env (eval a env) = eval a env := by intro _; rfl)
    (hline : (apos.endLine == pos.line) = true := by rfl) : EM c ρ M (.Call (.Attribute a "index" apos) [b] [] pos) (.dat (.int (l.idxOf n : Nat))) M2 := fun X G σ I F en di Q hQ =>
  wp_pe (pe_m1 PySem.F.slot_str_index PySem.F.type_str_index mt_sindex pe_wp pe_wp (hs _) (hbase _) hline) (em_bind ha G en di fun v I1 s1 d1 i1 => ⟨⟨_, is_str i1⟩, em_bind hb G (en.mono s1) d1 fun u I2 s2 d2 i2 => by
    obtain ⟨r, e⟩ := occ_idx h
    exact ⟨sOf l, sOf [n], _, r, is_str i1, by rw [is_str i2], e, hQ.only (s1.trans s2) d2 (.int _)⟩⟩)
theorem join_flat (ls : List (List Nat)) : Txt.join (sOf []) (ls.map sOf) = sOf ls.flatten := by
  show Builtin.Str.glued _ _ = _
  rw [StrLaws.glued_eq_join]
  induction ls with
  | nil => rfl
  | cons l ls ih =>
    cases ls with
    | nil => simp [Str.join]
    | cons m ls =>
      show sOf l ++ sOf [] ++ Str.join (sOf []) (sOf m :: ls.map sOf) = _
      have ih' : Str.join (sOf []) (sOf m :: ls.map sOf) = sOf (m :: ls).flatten := ih
      rw [ih', sOf_app, sOf_app]
      simp
theorem em_join {ls : List (List Nat)} {apos : Pos} (ha : EM c ρ M a (.dat (S [])) M1) (hb : EM c ρ M1 b (.dat (.list (ls.map S))) M2) (hz : (ls.map List.length).sum ≤ 100000) (hs : ∀ env : PySem.Env, starEach [b] env = [(false, eval b env)] := by intro _; rfl) (hbase : ∀ env : PySem.Env, attributeBase a "join" env (eval a env) = eval a env := by intro _; rfl)
    (hline : (apos.endLine == pos.line) = true := by rfl) : EM c ρ M (.Call (.Attribute a "join" apos) [b] [] pos) (.dat (S ls.flatten)) M2 := fun X G σ I F en di Q hQ =>
  wp_pe (pe_join pe_wp pe_wp (hs _) (hbase _) hline) (em_bind ha G en di fun v I1 s1 d1 i1 => ⟨⟨_, is_str i1⟩, em_bind hb G (en.mono s1) d1 fun u I2 s2 d2 i2 => by
    obtain ⟨q, ys, rfl, e1, f1⟩ := is_lst i2
    rw [map_S] at f1
    have := f1.strs
    subst this
    refine ⟨sOf [], q, ls.map sOf, is_str i1, rfl, .inl (SqL.of (j3_I e1)), ?_, ?_⟩
    · have e2 : ((ls.map sOf).map fun y => y.length) = ls.map List.length := by rw [List.map_map]; exact List.map_congr_left fun l _ => sOf_length l
      rw [e2, sOf_length]
      simp
      omega
    · rw [join_flat]
      exact hQ.only (s1.trans s2) d2 (.str _)⟩)

/-! ### slices -/
def cutD {α : Type} (xs : List α) (lo hi : Option Int) : List α := (xs.drop (HT.sIx xs.length 0 lo)).take (HT.sIx xs.length xs.length hi - HT.sIx xs.length 0 lo)
theorem dats_drop {ds : List PyData} {vs : List V} (h : Dats I vs ds) (n : Nat) : Dats I (vs.drop n) (ds.drop n) := by
  induction n generalizing vs ds with
  | zero => exact h
  | succ n ih =>
    cases ds with
    | nil => cases h; exact .nil
    | cons d ds =>
      cases h with
      | cons _ h2 => exact ih h2
theorem dats_take {ds : List PyData} {vs : List V} (h : Dats I vs ds) (n : Nat) : Dats I (vs.take n) (ds.take n) := by
  induction n generalizing vs ds with
  | zero => exact .nil
  | succ n ih =>
    cases ds with
    | nil => cases h; exact .nil
    | cons d ds =>
      cases h with
      | cons h1 h2 => exact .cons h1 (ih h2)
theorem dats_cut {ds : List PyData} {vs : List V} (h : Dats I vs ds) (lo hi : Option Int) : Dats I (cutV vs lo hi) (cutD ds lo hi) := by
  unfold cutV cutD
  rw [h.length]
  exact dats_take (dats_drop h _) _
/-- a bound of a slice -/
def wpO (X : Cx) (o : Option Expr) : TO := fun σ H Q => ∀ (pins : List (Addr × Obj)) (s : Shared), Inv X pins σ H s → wpAny (model X.prog X.w) X.A (evalPart o X.env) (fun v s' => ∃ i H', Inv X pins σ H' s' ∧ IsPart v i ∧ Q i H') X.xe s
theorem po_wp {X : Cx} {o : Option Expr} : PO X o (wpO X o) := ⟨fun pins s _ _ _ I h => h pins s I⟩
theorem wp_po {X : Cx} {o : Option Expr} {t : TO} (h : PO X o t) {σ : L2.St} {H : Hp} {Q : Option Int → Hp → Prop} (q : t σ H Q) : wpO X o σ H Q := fun pins s I => h.run pins s σ H Q I q
def OM (c : Cs) (ρ : List (Option Sl)) (M : Hp) (o : Option Expr) (i : Option Int) : Prop :=
  ∀ X, Good c X → ∀ (σ : L2.St) (I F : Hp), En c.g.C I σ ρ → Ds I M F → ∀ Q : Option Int → Hp → Prop, (∀ I2, Same I I2 → Ds I2 M F → Q i (J3 I2 M F)) → wpO X o σ (J3 I M F) Q
theorem om_none : OM c ρ M none none := fun X G σ I F en di Q q => wp_po po_none (q I (Same.refl I) di)
theorem om_some {i : Int} (h : EM c ρ M e (.dat (.int i)) M) : OM c ρ M (some e) (some i) := fun X G σ I F en di Q q => wp_po (po_some pe_wp) (em_bind h G en di fun v I2 s2 d2 i2 => ⟨i, is_int i2, q I2 s2 d2⟩)
theorem em_slL {ds : List PyData} {lo hi : Option Expr} {i j : Option Int} {p2 : Pos} (ha : EM c ρ M a (.dat (.list ds)) M) (hl : OM c ρ M lo i) (hh : OM c ρ M hi j) : EM c ρ M (.Subscript a (.Slice lo hi none p2) pos) (.dat (.list (cutD ds i j))) M := fun X G σ I F en di Q hQ =>
  wp_pe (pe_slice sl_list pe_wp po_wp po_wp) (em_bind ha G en di fun v I1 s1 d1 i1 => hl X G σ I1 F (en.mono s1) d1 _ fun I2 s2 d2 => hh X G σ I2 F (en.mono (s1.trans s2)) d2 _ fun I3 s3 d3 => by
    obtain ⟨q, ys, rfl, e1, f1⟩ := is_lst (i1.mono (s2.trans s3))
    exact ⟨q, ys, rfl, SqL.of (j3_I e1), gives_lst (hQ.mono ((s1.trans s2).trans s3)) only_self d3 (dats_cut f1 _ _)⟩)
theorem cutV_all (xs : List V) (lo hi : Option Int) (h : HT.sIx xs.length 0 lo = 0 ∧ HT.sIx xs.length xs.length hi = xs.length) : cutV xs lo hi = xs := by
  unfold cutV
  rw [h.1, h.2]
  simp
theorem em_slT {ds : List PyData} {lo hi : Option Expr} {i j : Option Int} {p2 : Pos} (ha : EM c ρ M a (.dat (.tuple ds)) M) (hl : OM c ρ M lo i) (hh : OM c ρ M hi j) : EM c ρ M (.Subscript a (.Slice lo hi none p2) pos) (.dat (.tuple (cutD ds i j))) M := fun X G σ I F en di Q hQ =>
  wp_pe (pe_slice sl_tupA pe_wp po_wp po_wp) (em_bind ha G en di fun v I1 s1 d1 i1 => hl X G σ I1 F (en.mono s1) d1 _ fun I2 s2 d2 => hh X G σ I2 F (en.mono (s1.trans s2)) d2 _ fun I3 s3 d3 => by
    obtain ⟨q, ys, rfl, e1, f1⟩ := is_tup (i1.mono (s2.trans s3))
    have fc := dats_cut f1 i j
    refine ⟨q, ys, rfl, SqT.of (j3_I e1), fun hw => ?_, fun _ => gives_tup (hQ.mono ((s1.trans s2).trans s3)) only_self d3 fc⟩
    rw [cutV_all _ _ _ hw] at fc
    exact hQ.only ((s1.trans s2).trans s3) d3 (.tup e1 fc))
/-! tuple + tuple -/
theorem em_catT {ds es : List PyData} (ha : EM c ρ M a (.dat (.tuple ds)) M1) (hb : EM c ρ M1 b (.dat (.tuple es)) M2) (hz : ds.length + es.length ≤ 100000) : EM c ρ M (.BinOp a .Add b pos) (.dat (.tuple (ds ++ es))) M2 :=
  ev_op (r := fun X => rCatA X.K) (fun _ _ => op_catA) ha hb fun X G I F v u d h1 h2 Q hQ => by
    obtain ⟨p, xs, rfl, e1, f1⟩ := is_tup h1
    obtain ⟨q, ys, rfl, e2, f2⟩ := is_tup h2
    refine ⟨p, q, xs, ys, rfl, rfl, SqT.of (j3_I e1), SqT.of (j3_I e2), by rw [f1.length, f2.length]; exact Nat.le_trans hz (by decide), fun h => ?_, fun _ h => ?_, fun _ _ => gives_tup hQ only_self d (f1.append f2)⟩
    · have := f1.append f2
      rw [h, List.nil_append] at this
      exact hQ.only (Same.refl I) d (.tup e2 this)
    · have := f1.append f2
      rw [h, List.append_nil] at this
      exact hQ.only (Same.refl I) d (.tup e1 this)
/-! list * int -/
theorem dats_rep {ds : List PyData} {vs : List V} (h : Dats I vs ds) : ∀ n : Nat, Dats I (List.replicate n vs).flatten (List.replicate n ds).flatten
  | 0 => .nil
  | n + 1 => by
    rw [List.replicate_succ, List.replicate_succ, List.flatten_cons, List.flatten_cons]
    exact h.append (dats_rep h n)
theorem rep_len (n : Nat) : ∀ (vs : List V), ((List.replicate n vs).flatten).length = n * vs.length := by
  intro vs
  simp
theorem em_rep {ds : List PyData} {n : Nat} (ha : EM c ρ M a (.dat (.list ds)) M1) (hb : EM c ρ M1 b (.dat (.int n)) M2) (hz : ds.length * n ≤ 100000) (hn : n ≤ 100000) : EM c ρ M (.BinOp a .Mult b pos) (.dat (.list (List.replicate n ds).flatten)) M2 :=
  ev_op (r := fun X => rRep) (fun _ _ => op_rep) ha hb fun X G I F v u d h1 h2 Q hQ => by
    obtain ⟨p, xs, rfl, e1, f1⟩ := is_lst h1
    refine ⟨p, n, xs, rfl, is_int h2, j3_I e1, by omega, by omega, by rw [f1.length]; exact Nat.le_trans hz (by decide), ?_⟩
    exact gives_lst hQ only_self d (dats_rep f1 _)
end
end Wr
end
section
set_option maxRecDepth 100000
set_option maxHeartbeats 1000000
/-! Rules: lists and dicts that change. -/
namespace Wr
open PySem L2

/-! ### flat data -/
def flatD : PyData → Bool
  | .none => true
  | .bool _ => true
  | .int _ => true
  | .str _ => true
  | _ => false
def fV : PyData → V
  | .bool b => .bl b
  | .int i => .int i
  | .str x => .str x
  | _ => .non
def Flats (ds : List PyData) : Prop := ∀ d ∈ ds, flatD d = true
theorem dat_flat {I : Hp} {d : PyData} (h : flatD d = true) : Dat I (fV d) d := by
  cases d with
  | none => exact .non
  | bool b => exact .bl b
  | int i => exact .int i
  | str x => exact .str x
  | _ => cases h
theorem flat_dat {I : Hp} {d : PyData} {v : V} (h : flatD d = true) (q : Dat I v d) : v = fV d := by
  cases q with
  | non => rfl
  | bl b => rfl
  | int i => rfl
  | str x => rfl
  | lst _ _ => cases h
  | tup _ _ => cases h
theorem dats_flat {I : Hp} : ∀ {ds : List PyData}, Flats ds → Dats I (ds.map fV) ds
  | [], _ => .nil
  | d :: ds, h => .cons (dat_flat (h d (by simp))) (dats_flat fun e he => h e (by simp [he]))
theorem flats_dat {I : Hp} : ∀ {ds : List PyData} {vs : List V}, Flats ds → Dats I vs ds → vs = ds.map fV
  | [], _, _, q => by cases q; rfl
  | d :: ds, _, h, q => by
    cases q with
    | cons q1 q2 => rw [flat_dat (h d (by simp)) q1, flats_dat (fun e he => h e (by simp [he])) q2]; rfl
theorem flats_map {α : Type} {f : α → PyData} (h : ∀ a, flatD (f a) = true) (l : List α) : Flats (l.map f) := fun d hd => by
  obtain ⟨a, _, rfl⟩ := List.mem_map.mp hd
  exact h a
theorem flats_int (ns : List Int) : Flats (ns.map .int) := flats_map (fun _ => rfl) ns
theorem flats_S (ls : List (List Nat)) : Flats (ls.map S) := flats_map (fun _ => rfl) ls
theorem Flats.app {a b : List PyData} (h : Flats a) (k : Flats b) : Flats (a ++ b) := fun d hd => by
  rcases List.mem_append.mp hd with q | q
  · exact h d q
  · exact k d q
theorem map_erase {α β : Type} (h : α → β) : ∀ (l : List α) (i : Nat), (l.map h).eraseIdx i = (l.eraseIdx i).map h
  | [], _ => rfl
  | _ :: _, 0 => rfl
  | x :: l, i + 1 => by
    rw [List.map_cons, List.eraseIdx_cons_succ, List.eraseIdx_cons_succ, List.map_cons, map_erase h l i]
def mL (ds : List PyData) : HO := .lst (ds.map fV)
def delM (M : Hp) (p : Addr) : Hp := fun a => if a = p then none else M a
theorem delM_upd {M : Hp} {p : Addr} {o : HO} (h : M p = none) : delM (upd M p o) p = M := by
  funext a
  unfold delM
  by_cases e : a = p
  · subst e
    rw [if_pos rfl, h]
  · rw [if_neg e, upd_ne e]
section
variable {g : Gm} {k : Nat} {N : List Str} {sc : Scope} {gd : Bool} {bl : Option Scope} {c : Cs} {ρ ρ' : List (Option Sl)} {M M1 M2 M3 M' : Hp} {a b e f : Expr} {es : List Expr} {x y z : Sl} {xs : List Sl} {R : Wish} {pos p pt py : Pos} {I I2 F : Hp} {C : Addr} {Q : VK} {K : Kont} {rest : List Stmt} {tg iter : Expr} {q : Addr} {ds es' : List PyData} {d : PyData} {o o2 : HO}
theorem upd_J (h : M q = some o) (d : Ds I M F) : upd (J3 I M F) q o2 = J3 I (upd M q o2) F := upd_M3 (d.noI h)
theorem ds_upd (h : M q = some o) (d : Ds I M F) : Ds I (upd M q o2) F := d.newM (d.noI h) (d.noF h)
/-- what changed stands still from here on -/
theorem frz_J (h : M q = some o) (d : Ds I M F) : J3 I M F = J3 (upd I q o) (delM M q) F := by
  funext a
  unfold J3 join delM
  by_cases e : a = q
  · subst e
    rw [d.noI h, upd_same, h]
  · rw [upd_ne e, if_neg e]
theorem frz_ds (h : M q = some o) (d : Ds I M F) : Ds (upd I q o) (delM M q) F := by
  refine ⟨fun a u e => ?_, fun a u e => ?_⟩
  · unfold join delM
    by_cases z : a = q
    · subst z
      rw [if_pos rfl]
      exact d.noF h
    · rw [if_neg z]
      rw [upd_ne z] at e
      exact d.im a u e
  · unfold delM at e
    by_cases z : a = q
    · rw [if_pos z] at e; cases e
    · rw [if_neg z] at e
      exact d.mf a u e
theorem frz_same (h : M q = some o) (d : Ds I M F) : Same I (upd I q o) := same_new (d.noI h)
/-- something new that will change -/
theorem gives_new {v : HO} (h : Gives C I F R Q) (d : Ds I M F) (r : ∀ p, M p = none → R (.raw (.ref p)) (upd M p v)) : ∀ p, J3 I M F p = none → Q (.ref p) (upd (J3 I M F) p v) := fun p hp => by
  obtain ⟨n1, n2, n3⟩ := j3_none hp
  rw [upd_M3 n1]
  exact h _ I _ _ (r p n2) (Same.refl I) (d.newM n1 n3) rfl
def newO (v : HO) (M : Hp) : Wish := fun x M' => ∃ p, M p = none ∧ x = .raw (.ref p) ∧ M' = upd M p v
theorem ev_newL : EV c ρ M (.List [] pos) (newO (mL []) M) := fun X G σ I F en di Q hQ =>
  wp_pe (pe_lst pa_wp) (am_bind am_nil G en di fun vs I1 s1 d1 i1 => by
    cases i1
    exact ⟨by decide, gives_new (hQ.mono s1) d1 fun p hp => ⟨p, hp, rfl, rfl⟩⟩)
theorem ev_newD : EV c ρ M (.Dict [] [] pos) (newO (.dK []) M) := fun X G σ I F en di Q hQ =>
  wp_pe pe_dnewK (gives_new hQ di fun p hp => ⟨p, hp, rfl, rfl⟩)
/-- list(tuple) that will change -/
theorem ev_newListT (ha : EM ⟨g, k, N, sc, gd, bl⟩ ρ M e (.dat (.tuple ds)) M1) (hfl : Flats ds) (hf : glB sc "list" = true := by decide +kernel) (hs : ∀ env : PySem.Env, starEach (e :: []) env = (false, eval e env) :: starEach [] env := by intro _; rfl) : EV ⟨g, k, N, sc, gd, bl⟩ ρ M (.Call (.Name "list" p) [e] [] pos) (newO (mL ds) M1) :=
  ev_callTy (fun _ _ => call_list_of) (am_one ha hs) (fun X G I F vs d i Q hQ => by
    obtain ⟨v, rfl, h⟩ := is1 i
    obtain ⟨q, ys, rfl, e1, f1⟩ := is_tup h
    have := flats_dat hfl f1
    subst this
    exact ⟨q, _, rfl, .inr (SqT.of (j3_I e1)), gives_new hQ d fun p hp => ⟨p, hp, rfl, rfl⟩⟩) hf (hs := hs)
theorem ev_newListL (ha : EM ⟨g, k, N, sc, gd, bl⟩ ρ M e (.dat (.list ds)) M1) (hfl : Flats ds) (hf : glB sc "list" = true := by decide +kernel) (hs : ∀ env : PySem.Env, starEach (e :: []) env = (false, eval e env) :: starEach [] env := by intro _; rfl) : EV ⟨g, k, N, sc, gd, bl⟩ ρ M (.Call (.Name "list" p) [e] [] pos) (newO (mL ds) M1) :=
  ev_callTy (fun _ _ => call_list_of) (am_one ha hs) (fun X G I F vs d i Q hQ => by
    obtain ⟨v, rfl, h⟩ := is1 i
    obtain ⟨q, ys, rfl, e1, f1⟩ := is_lst h
    have := flats_dat hfl f1
    subst this
    exact ⟨q, _, rfl, .inl (SqL.of (j3_I e1)), gives_new hQ d fun p hp => ⟨p, hp, rfl, rfl⟩⟩) hf (hs := hs)
theorem ev_newListS {l : List Nat} (ha : EM ⟨g, k, N, sc, gd, bl⟩ ρ M e (.dat (S l)) M1) (hz : l.length ≤ 1000) (hf : glB sc "list" = true := by decide +kernel) (hs : ∀ env : PySem.Env, starEach (e :: []) env = (false, eval e env) :: starEach [] env := by intro _; rfl) : EV ⟨g, k, N, sc, gd, bl⟩ ρ M (.Call (.Name "list" p) [e] [] pos) (newO (mL (l.map fun c => S [c])) M1) :=
  ev_callTy (r := fun _ => rLstS) (fun _ G => cr_listStr G.calm) (am_one ha hs) (fun X G I F vs d i Q hQ => by
    obtain ⟨v, rfl, h⟩ := is1 i
    refine ⟨l, by rw [is_str h], hz, ?_⟩
    have e : (HO.lst (l.map fun c => V.str (sOf [c]))) = mL (l.map fun c => S [c]) := by
      unfold mL
      rw [List.map_map]
      rfl
    rw [e]
    exact gives_new hQ d fun p hp => ⟨p, hp, rfl, rfl⟩) hf (hs := hs)
theorem rep_one {v : V} : ∀ n : Nat, (List.replicate n [v]).flatten = List.replicate n v
  | 0 => rfl
  | n + 1 => by rw [List.replicate_succ, List.flatten_cons, rep_one n]; rfl
/-- [d] * n that will change -/
theorem ev_newRep {n : Nat} (ha : EM c ρ M a (.dat (.list [d])) M1) (hb : EM c ρ M1 b (.dat (.int n)) M2) (hfl : flatD d = true) (hz : n ≤ 100000) : EV c ρ M (.BinOp a .Mult b pos) (newO (mL (List.replicate n d)) M2) :=
  ev_op (r := fun X => rRep) (fun _ _ => op_rep) ha hb fun X G I F v u dd h1 h2 Q hQ => by
    obtain ⟨p, xs, rfl, e1, f1⟩ := is_lst h1
    have := flats_dat (ds := [d]) (fun e he => by rw [List.mem_singleton.mp he]; exact hfl) f1
    subst this
    refine ⟨p, n, _, rfl, is_int h2, j3_I e1, by omega, by omega, Nat.le_trans (by simpa using hz) (by decide : 100000 ≤ sizeLine), ?_⟩
    have e : (List.replicate (n : Int).toNat ([d].map fV)).flatten = (List.replicate n d).map fV := by
      rw [Int.toNat_natCast]
      show (List.replicate n [fV d]).flatten = _
      rw [rep_one, List.map_replicate]
    rw [e]
    exact gives_new hQ dd fun p hp => ⟨p, hp, rfl, rfl⟩
/-! reading -/
theorem is_raw {v u : V} (h : Is C I v (.raw u)) : v = u := h
theorem em_ixM {i : Int} (ha : EM c ρ M a (.raw (.ref q)) M1) (hb : EM c ρ M1 b (.dat (.int i)) M2) (hm : M2 q = some (mL ds)) (h : atI ds i = some d) (hfl : flatD d = true) (hs : PlainIx b := by exact fun _ _ => rfl) : EM c ρ M (.Subscript a b pos) (.dat d) M2 := by
  intro X G σ I F en di Q hQ
  refine wp_pe (pe_ix ix_list pe_wp pe_wp hs) (two (ta := wpE X a) G en di ha hb fun I2 v u s dd i1 i2 => ?_)
  refine ⟨q, ds.map fV, i, fV d, is_raw i1, is_int i2, SqL.of (j3_M dd hm), ?_, hQ.only s dd (dat_flat hfl)⟩
  obtain ⟨j, e1, e2⟩ := atI_len h
  unfold atI
  rw [List.length_map, e2]
  show (ds.map fV)[j]? = _
  rw [List.getElem?_map, e1]
  rfl
theorem em_lenM (ha : EM ⟨g, k, N, sc, gd, bl⟩ ρ M e (.raw (.ref q)) M1) (hm : M1 q = some (mL ds)) (hf : glB sc "len" = true := by decide +kernel) (hs : ∀ env : PySem.Env, starEach (e :: []) env = (false, eval e env) :: starEach [] env := by intro _; rfl) : EM ⟨g, k, N, sc, gd, bl⟩ ρ M (.Call (.Name "len" p) [e] [] pos) (.dat (.int ds.length)) M1 :=
  ev_callB (fun _ _ => call_len_seq) (am_one ha hs) (fun X G I F vs d i Q hQ => by
    obtain ⟨v, rfl, h⟩ := is1 i
    refine ⟨q, ds.map fV, by rw [is_raw h], .inl (SqL.of (j3_M d hm)), ?_⟩
    rw [List.length_map]
    exact hQ.only (Same.refl I) d (.int _)) hf (hs := hs)
/-- the list stands still from here on -/
theorem em_frzL (ha : EM c ρ M e (.raw (.ref q)) M1) (hm : M1 q = some (mL ds)) (hfl : Flats ds) : EM c ρ M e (.dat (.list ds)) (delM M1 q) := fun X G σ I F en di Q hQ =>
  em_bind ha G en di fun v I2 s d i => by
    rw [is_raw i, frz_J hm d]
    exact hQ.only (s.trans (frz_same hm d)) (frz_ds hm d) (.lst upd_same (dats_flat hfl))
/-- tuple(of a list that changed); the list stays as it is -/
theorem em_tupleM (ha : EM ⟨g, k, N, sc, gd, bl⟩ ρ M e (.raw (.ref q)) M1) (hm : M1 q = some (mL ds)) (hfl : Flats ds) (hf : glB sc "tuple" = true := by decide +kernel) (hs : ∀ env : PySem.Env, starEach (e :: []) env = (false, eval e env) :: starEach [] env := by intro _; rfl) : EM ⟨g, k, N, sc, gd, bl⟩ ρ M (.Call (.Name "tuple" p) [e] [] pos) (.dat (.tuple ds)) M1 :=
  ev_callTy (fun _ _ => call_tuple_of) (am_one ha hs) (fun X G I F vs d i Q hQ => by
    obtain ⟨v, rfl, h⟩ := is1 i
    exact ⟨q, ds.map fV, by rw [is_raw h], .inl ⟨SqL.of (j3_M d hm), gives_tup hQ only_self d (dats_flat hfl)⟩⟩) hf (hs := hs)
/-! writing -/
theorem ev_append {apos : Pos} (ha : EM c ρ M a (.raw (.ref q)) M) (hm : M q = some (mL ds)) (he : EV c ρ M e fun y M1 => ∃ d ds2, y = .dat d ∧ flatD d = true ∧ M1 q = some (mL ds2) ∧ ds2.length ≤ 100000 ∧ R (.dat .none) (upd M1 q (mL (ds2 ++ [d]))))
    (hs : ∀ env : PySem.Env, starEach (e :: []) env = (false, eval e env) :: starEach [] env := by intro _; rfl) (hbase : ∀ env : PySem.Env, attributeBase a "append" env (eval a env) = eval a env := by intro _; rfl)
    (hfew : ∀ env : PySem.Env, ((backTo pos (starEach [e] env)).all (fun x => !x.1) && (backToKw pos (keywordEach [] env)).all (fun x => x.1.isSome) && decide ([e].length + ([] : List Keyword).length + (if ([] : List Keyword).isEmpty then 0 else 1) < 30)) = true := by intro _; rfl)
    (hline : (apos.endLine == pos.line) = true := by rfl) : EV c ρ M (.Call (.Attribute a "append" apos) [e] [] pos) R := fun X G σ I F en di Q hQ =>
  wp_pe (pe_bm PySem.F.plainAttrs_list PySem.F.slot_list_append PySem.F.type_list_append mt_append pe_wp (pa_cons pe_wp pa_nil (hs _)) (hbase _) (hfew _) hline (hs _)) (em_bind ha G en di fun v I1 s1 d1 i1 => ⟨by
      rw [is_raw i1]
      exact .inl ⟨rfl, _, SqL.of (j3_M d1 hm)⟩, he X G σ I1 F (en.mono s1) d1 _ fun u I2 y M1 ⟨d, ds2, e1, hd, hm2, hz, r⟩ s2 d2 i2 => by
        subst e1
        refine ⟨q, ds2.map fV, fV d, is_raw i1, by rw [flat_dat hd i2], j3_M d2 hm2, ?_, ?_⟩
        · rw [List.length_map]
          exact Nat.lt_of_le_of_lt hz (by decide)
        · rw [upd_J hm2 d2]
          have e2 : HO.lst (ds2.map fV ++ [fV d]) = mL (ds2 ++ [d]) := by unfold mL; rw [List.map_append]; rfl
          rw [e2]
          exact hQ _ I2 _ _ r (s1.trans s2) (ds_upd hm2 d2) .non⟩)
theorem ev_popAt {apos : Pos} (ha : EM c ρ M a (.raw (.ref q)) M) (hm : M q = some (mL ds)) (he : EV c ρ M e fun y M1 => ∃ (i : Nat) (d : PyData) (ds2 : List PyData), y = .dat (.int i) ∧ M1 q = some (mL ds2) ∧ ds2[i]? = some d ∧ flatD d = true ∧ ds2.length ≤ 100000 ∧ R (.dat d) (upd M1 q (mL (ds2.eraseIdx i))))
    (hs : ∀ env : PySem.Env, starEach (e :: []) env = (false, eval e env) :: starEach [] env := by intro _; rfl) (hbase : ∀ env : PySem.Env, attributeBase a "pop" env (eval a env) = eval a env := by intro _; rfl)
    (hfew : ∀ env : PySem.Env, ((backTo pos (starEach [e] env)).all (fun x => !x.1) && (backToKw pos (keywordEach [] env)).all (fun x => x.1.isSome) && decide ([e].length + ([] : List Keyword).length + (if ([] : List Keyword).isEmpty then 0 else 1) < 30)) = true := by intro _; rfl)
    (hline : (apos.endLine == pos.line) = true := by rfl) : EV c ρ M (.Call (.Attribute a "pop" apos) [e] [] pos) R := fun X G σ I F en di Q hQ =>
  wp_pe (pe_bm PySem.F.plainAttrs_list PySem.F.slot_list_pop PySem.F.type_list_pop mt_popAt pe_wp (pa_cons pe_wp pa_nil (hs _)) (hbase _) (hfew _) hline (hs _)) (em_bind ha G en di fun v I1 s1 d1 i1 => ⟨by
      rw [is_raw i1]
      exact .inl ⟨rfl, _, SqL.of (j3_M d1 hm)⟩, he X G σ I1 F (en.mono s1) d1 _ fun u I2 y M1 ⟨i, d, ds2, e1, hm2, hi, hd, hz, r⟩ s2 d2 i2 => by
        subst e1
        have hlt : i < ds2.length := (List.getElem?_eq_some_iff.mp hi).1
        refine ⟨q, ds2.map fV, (i : Int), i, fV d, is_raw i1, by rw [is_int i2], j3_M d2 hm2, by omega, by have := hz; omega, ?_, by rw [List.getElem?_map, hi]; rfl, ?_⟩
        · unfold seqIndex?
          rw [List.length_map]
          have h1 : ¬ (i : Int) < 0 := by omega
          have h2 : (0 : Int) ≤ i := by omega
          have h3 : (i : Int) < (ds2.length : Nat) := by omega
          simp only [h1, if_false, h2, h3, decide_true, Bool.and_self, if_true, Int.toNat_natCast]
        · rw [upd_J hm2 d2]
          have e2 : HO.lst ((ds2.map fV).eraseIdx i) = mL (ds2.eraseIdx i) := by unfold mL; rw [map_erase]
          rw [e2]
          exact hQ _ I2 _ _ r (s1.trans s2) (ds_upd hm2 d2) (dat_flat hd)⟩)
/-- xs[i] = v -/
theorem tg_setM {i : Nat} (ha : ∀ M, EM c ρ M a (.raw (.ref q)) M) (hb : ∀ M, EM c ρ M b (.dat (.int i)) M) (hm : M q = some (mL ds)) (hi : i < ds.length) (hd : flatD d = true)
    (hs : ∀ (env : PySem.Env) v, assign (.Subscript a b pos) env v = (do
      let ov ← holding [v] (eval a env)
      let iv ← holding [v, ov] (eval b env)
      standAt pos
      holding [v, ov, iv] (setItem ov iv v)
      release [v, ov, iv] []) := by intro _ _; rfl) {X : Cx} (G : Good c X) {σ : L2.St} {v : V} (en : En c.g.C I σ ρ) (di : Ds I M F) (iv : Is c.g.C I v (.dat d)) {Q : L2.St → Hp → Prop}
    (hQ : ∀ I2, Same I I2 → Ds I2 (upd M q (mL (ds.set i d))) F → Q σ (J3 I2 (upd M q (mL (ds.set i d))) F)) : wpG X (.Subscript a b pos) v σ (J3 I M F) Q :=
  wp_pg (pg_sub pe_wp pe_wp set_list (hs _)) (em_bind (ha M) G en di fun w I1 s1 d1 i1 => em_bind (hb M) G (en.mono s1) d1 fun u I2 s2 d2 i2 => by
    refine ⟨q, ds.map fV, (i : Int), i, is_raw i1, is_int i2, j3_M d2 hm, ?_, ?_⟩
    · unfold ixN
      rw [if_pos (by omega), List.length_map, if_pos (by omega), Int.toNat_natCast]
    · rw [upd_J hm d2, flat_dat hd iv]
      have e2 : HO.lst ((ds.map fV).set i (fV d)) = mL (ds.set i d) := by unfold mL; rw [List.map_set]
      rw [e2]
      exact hQ I2 (s1.trans s2) (ds_upd hm d2))
theorem bd_setItem {i : Nat} (he : EV c ρ M e fun y M1 => ∃ d ds, y = .dat d ∧ flatD d = true ∧ M1 q = some (mL ds) ∧ i < ds.length ∧ BD c ρ (upd M1 q (mL (ds.set i d))) rest K) (ha : ∀ M, EM c ρ M a (.raw (.ref q)) M) (hb : ∀ M, EM c ρ M b (.dat (.int i)) M)
    (hs : ∀ (env : PySem.Env) v, assign (.Subscript a b p) env v = (do
      let ov ← holding [v] (eval a env)
      let iv ← holding [v, ov] (eval b env)
      standAt p
      holding [v, ov, iv] (setItem ov iv v)
      release [v, ov, iv] []) := by intro _ _; rfl)
    (hsw : ∀ env : PySem.Env, env.scope = c.sc → swapsWithSole [.Subscript a b p] e pos.line env = pure false := by intro env h; cases env; cases h; rfl) (hw : ∀ env : PySem.Env, env.scope = c.sc → swappedStores [.Subscript a b p] e env = pure none := by intro env h; cases env; cases h; rfl) :
    BD c ρ M (.Assign [.Subscript a b p] e pos :: rest) K := bd_cons fun X G σ I F D en di kk => by
  refine wp_ps (ps_asg (g := wpG X (.Subscript a b p)) pe_wp pg_wp (hsw _ G.sc) (hw _ G.sc) rfl) (he X G σ I F en di _ fun v I2 y M2 ⟨d, ds, e1, hd, hm, hi, hB⟩ s2 d2 i2 => ?_)
  subst e1
  exact tg_setM ha hb hm hi hd hs G (en.mono s2) d2 i2 fun I3 s3 d3 => kk.nx σ I3 ρ _ hB (s2.trans s3) ((en.mono s2).mono s3) d3
end
end Wr
end
section
set_option maxRecDepth 100000
set_option maxHeartbeats 1000000
/-! Rules: dicts, several names at once, sum and min of tuples. -/
namespace Wr
open PySem L2

/-! ### the two dicts -/
def uK (U : List Nat) : List (Key × V) := U.map fun i : Nat => (Sum.inl (i : Int), V.bl true)
def hK (pl : List Nat) (h : Nat → Int) : List (Key × V) := pl.map fun c => (Sum.inr (sOf [c]), V.int (h c))
def setF (h : Nat → Int) (c : Nat) (v : Int) : Nat → Int := fun d => if d = c then v else h d
theorem key_c {c d : Nat} : ((Sum.inr (sOf [c]) : Key) = Sum.inr (sOf [d])) ↔ c = d := by
  constructor
  · intro h
    have := sOf_inj (Sum.inr.inj h)
    simpa using this
  · intro h
    rw [h]
theorem valV_uK (i : Nat) : ∀ U : List Nat, (valV (uK U) (Sum.inl (i : Int))).isSome = decide (i ∈ U)
  | [] => by simp [uK, valV]
  | j :: U => by
    have ih := valV_uK i U
    show (valV ((Sum.inl (j : Int), V.bl true) :: uK U) (Sum.inl (i : Int))).isSome = _
    by_cases e : j = i
    · subst e
      rw [valV_pos rfl]
      simp
    · rw [valV_neg (fun z => e (Int.ofNat.inj (Sum.inl.inj z))), ih]
      simp [Ne.symm e]
theorem putK_uK {i : Nat} {U : List Nat} (h : i ∉ U) : putK (uK U) (Sum.inl (i : Int)) (.bl true) = uK (U ++ [i]) := by
  have hn : valV (uK U) (Sum.inl (i : Int)) = none := by
    have := valV_uK i U
    rw [decide_eq_false h] at this
    simpa using this
  rw [putK_new _ hn]
  unfold uK
  rw [List.map_append]
  rfl
theorem valV_hK {c : Nat} {h : Nat → Int} : ∀ {pl : List Nat}, c ∈ pl → valV (hK pl h) (Sum.inr (sOf [c])) = some (.int (h c))
  | [], m => by cases m
  | d :: pl, m => by
    show valV ((Sum.inr (sOf [d]), V.int (h d)) :: hK pl h) (Sum.inr (sOf [c])) = _
    by_cases e : d = c
    · subst e
      rw [valV_pos rfl]
    · rw [valV_neg (fun q => e (key_c.mp q))]
      exact valV_hK ((List.mem_cons.mp m).resolve_left (Ne.symm e))
theorem putK_hK {c : Nat} {h : Nat → Int} {pl : List Nat} {v : Int} (m : c ∈ pl) : putK (hK pl h) (Sum.inr (sOf [c])) (.int v) = hK pl (setF h c v) := by
  unfold putK
  rw [if_pos]
  · unfold hK
    rw [List.map_map]
    refine List.map_congr_left fun d _ => ?_
    show (if (Sum.inr (sOf [d]) : Key) = Sum.inr (sOf [c]) then _ else _) = _
    by_cases e : d = c
    · subst e
      rw [if_pos rfl]
      simp [setF]
    · rw [if_neg (fun q => e (key_c.mp q))]
      simp [setF, e]
  · refine List.any_eq_true.mpr ⟨(Sum.inr (sOf [c]), V.int (h c)), List.mem_map.mpr ⟨c, m, rfl⟩, by simp⟩
theorem merge_hK {h : Nat → Int} : ∀ (pl pre : List Nat), (pre ++ pl).Nodup → mergeK (hK pre h) (hK pl h) = hK (pre ++ pl) h
  | [], pre, _ => by rw [List.append_nil]; rfl
  | c :: pl, pre, nd => by
    show mergeK (putK (hK pre h) (Sum.inr (sOf [c])) (.int (h c))) (hK pl h) = _
    have hn : valV (hK pre h) (Sum.inr (sOf [c])) = none := by
      have nc : c ∉ pre := fun z => (List.nodup_append.mp nd).2.2 c z c (by simp) rfl
      clear nd
      induction pre with
      | nil => rfl
      | cons d pre ih =>
        show valV ((Sum.inr (sOf [d]), V.int (h d)) :: hK pre h) _ = _
        rw [valV_neg (fun q => nc (by rw [key_c.mp q]; simp))]
        exact ih fun z => nc (List.mem_cons_of_mem _ z)
    rw [putK_new _ hn]
    have e : hK pre h ++ [(Sum.inr (sOf [c]), V.int (h c))] = hK (pre ++ [c]) h := by unfold hK; rw [List.map_append]; rfl
    rw [e, merge_hK pl (pre ++ [c]) (by rw [List.append_assoc]; exact nd), List.append_assoc]
    rfl
section
variable {g : Gm} {k : Nat} {N : List Str} {sc : Scope} {gd : Bool} {bl : Option Scope} {c : Cs} {ρ ρ' : List (Option Sl)} {M M1 M2 M3 M' : Hp} {a b e f : Expr} {es : List Expr} {x y z : Sl} {xs : List Sl} {R : Wish} {pos p pt py : Pos} {I I2 F : Hp} {C : Addr} {Q : VK} {K : Kont} {rest : List Stmt} {tg iter : Expr} {q : Addr} {ds es' : List PyData} {d : PyData} {o o2 : HO}
/-- dict([(place, 0) ..]) -/
theorem ev_newHits {pl : List Nat} {h : Nat → Int} (ha : EM ⟨g, k, N, sc, gd, bl⟩ ρ M e (.dat (.list (pl.map fun n => .tuple [S [n], .int (h n)]))) M1) (nd : pl.Nodup) (hf : glB sc "dict" = true := by decide +kernel) (hs : ∀ env : PySem.Env, starEach (e :: []) env = (false, eval e env) :: starEach [] env := by intro _; rfl) : EV ⟨g, k, N, sc, gd, bl⟩ ρ M (.Call (.Name "dict" p) [e] [] pos) (newO (.dK (hK pl h)) M1) :=
  ev_callTy (fun _ G => call_dictP G.calm) (am_one ha hs) (fun X G I F vs d i Q hQ => by
    obtain ⟨v, rfl, hi⟩ := is1 i
    obtain ⟨q, ys, rfl, e1, f1⟩ := is_lst hi
    have key : ∀ (pl : List Nat) (ys : List V), Dats I ys (pl.map fun n => .tuple [S [n], .int (h n)]) → ∃ ps : List Addr, ys = ps.map V.ref ∧ Paired (fun p kv => SqT X.K (J3 I M1 F) p [kV kv.1, kv.2]) ps (hK pl h) := by
      intro pl
      induction pl with
      | nil =>
        intro ys f
        cases f
        exact ⟨[], rfl, .nil⟩
      | cons n pl ih =>
        intro ys f
        cases f with
        | cons f1 f2 =>
          obtain ⟨ps, e, r⟩ := ih _ f2
          cases f1 with
          | @tup a vs _ h1 h2 =>
            cases h2 with
            | cons h2 h3 =>
              cases h3 with
              | cons h3 h4 =>
                cases h4
                cases h2
                cases h3
                exact ⟨a :: ps, by rw [e]; rfl, .cons (SqT.of (j3_I h1)) r⟩
    obtain ⟨ps, e, r⟩ := key pl ys f1
    subst e
    refine ⟨q, ps, hK pl h, rfl, SqL.of (j3_I e1), r, ?_⟩
    have em : mergeK [] (hK pl h) = hK pl h := by simpa [hK] using merge_hK (h := h) pl [] (by simpa using nd)
    rw [em]
    exact gives_new hQ d fun p hp => ⟨p, hp, rfl, rfl⟩) hf (hs := hs)
/-- i not in used -/
theorem tm_nuK {i : Nat} {U : List Nat} (ha : EM c ρ M a (.dat (.int i)) M) (hb : EM c ρ M b (.raw (.ref q)) M) (hm : M q = some (.dK (uK U))) (hmk : behindInMarks .NotIn b = false := by rfl) : TM c ρ M (.Compare a [.NotIn] [b] pos) (!decide (i ∈ U)) M := fun X G σ I F en di Q hQ =>
  wp_pt (pt_cmp (pc_dnotin (by have := G.hu; have := G.room.un; unfold cLine at *; omega) pe_wp pe_wp) hmk) (em_bind ha G en di fun v I1 s1 d1 i1 => em_bind hb G (en.mono s1) d1 fun u I2 s2 d2 i2 => by
    refine ⟨q, _, is_raw i2, (by rw [is_int i1]; exact DGet.k (k := Sum.inl (i : Int)) (j3_M d2 hm)), _, rfl, ?_⟩
    rw [valV_uK]
    exact hQ I2 (s1.trans s2) d2)
/-- used[i] = True -/
theorem bd_putU {i : Nat} {U : List Nat} {j p2} (ha : EM c ρ M a (.raw (.ref q)) M) (hb : EM c ρ M b (.dat (.int i)) M) (hm : M q = some (.dK (uK U))) (hi : i ∉ U) (hz : U.length ≤ 100000) (hk : BD c ρ (upd M q (.dK (uK (U ++ [i])))) rest K)
    (hs : ∀ env : PySem.Env, env.scope = c.sc → swapsWith (.Constant (.bool true) j p2) (some (.Subscript a b p)) pos.line env = pure false := by intro env h; cases env; cases h; rfl) : BD c ρ M (.Assign [.Subscript a b p] (.Constant (.bool true) j p2) pos :: rest) K := bd_cons fun X G σ I F D en di kk =>
  wp_ps (ps_dput (by have := G.hu; have := G.room.un; unfold cLine at *; omega) pe_wp pe_wp pe_wp (hs _ G.sc)) (em_bind em_bool G en di fun w I0 s0 d0 i0 => em_bind ha G (en.mono s0) d0 fun v I1 s1 d1 i1 => em_bind hb G (en.mono (s0.trans s1)) d1 fun u I2 s2 d2 i2 => by
    refine ⟨q, _, is_raw (i1.mono s2), (by rw [is_int i2, is_bl ((i0.mono s1).mono s2)]; exact DPut.k (k := Sum.inl (i : Int)) (j3_M d2 hm) (by unfold uK; rw [List.length_map]; exact Nat.lt_of_le_of_lt hz (by decide : 100000 < sizeLine))), ?_⟩
    rw [putK_uK hi, upd_J hm d2]
    exact kk.nx σ I2 ρ _ hk ((s0.trans s1).trans s2) (en.mono ((s0.trans s1).trans s2)) (ds_upd hm d2))
/-- hits[c] += 1 -/
theorem bd_augH {n : Nat} {pl : List Nat} {h : Nat → Int} {j p2} (ha : EM c ρ M a (.raw (.ref q)) M) (hb : EM c ρ M b (.dat (S [n])) M) (hm : M q = some (.dK (hK pl h))) (hn : n ∈ pl) (hz : pl.length ≤ 100000) (hk : BD c ρ (upd M q (.dK (hK pl (setF h n (h n + 1))))) rest K)
    (hau : ∀ ov iv new, augStore b ov iv new = (do holding [new, ov, iv] (setItem ov iv new); release [new, ov, iv] []; pure .next) := by intro _ _ _; rfl) : BD c ρ M (.AugAssign (.Subscript a b p) .Add (.Constant (.int 1) j p2) pos :: rest) K := bd_cons fun X G σ I F D en di kk =>
  wp_ps (ps_daug (rd := rAdd) (by have := G.hu; have := G.room.un; unfold cLine at *; omega) pe_wp pe_wp pe_wp in_add hau) (em_bind ha G en di fun v I1 s1 d1 i1 => em_bind hb G (en.mono s1) d1 fun u I2 s2 d2 i2 => by
    refine ⟨q, .int (h n), is_raw (i1.mono s2), (by rw [is_str i2, ← valV_hK (h := h) hn]; exact DGet.k (k := Sum.inr (sOf [n])) (j3_M d2 hm)), ?_⟩
    refine em_bind em_int G (en.mono (s1.trans s2)) d2 fun w I3 s3 d3 i3 => ⟨h n, 1, rfl, is_int i3, ?_⟩
    refine ⟨_, (by rw [is_str i2]; exact DPut.k (k := Sum.inr (sOf [n])) (j3_M d3 hm) (by unfold hK; rw [List.length_map]; exact Nat.lt_of_le_of_lt hz (by decide : 100000 < sizeLine))), ?_⟩
    rw [putK_hK hn, upd_J hm d3]
    exact kk.nx σ I3 ρ _ hk ((s1.trans s2).trans s3) (en.mono ((s1.trans s2).trans s3)) (ds_upd hm d3))
/-- hits[c] -/
theorem em_getH {n : Nat} {pl : List Nat} {h : Nat → Int} (ha : EM c ρ M a (.raw (.ref q)) M) (hb : EM c ρ M b (.dat (S [n])) M) (hm : M q = some (.dK (hK pl h))) (hn : n ∈ pl) (hs : NoSl b := by exact fun _ _ => rfl) : EM c ρ M (.Subscript a b pos) (.dat (.int (h n))) M := fun X G σ I F en di Q hQ =>
  wp_pe (pe_dget (by have := G.hu; have := G.room.un; unfold cLine at *; omega) pe_wp pe_wp hs) (em_bind ha G en di fun v I1 s1 d1 i1 => em_bind hb G (en.mono s1) d1 fun u I2 s2 d2 i2 => by
    refine ⟨q, .int (h n), is_raw (i1.mono s2), (by rw [is_str i2, ← valV_hK (h := h) hn]; exact DGet.k (k := Sum.inr (sOf [n])) (j3_M d2 hm)), ?_⟩
    exact hQ.only (s1.trans s2) d2 (.int _))

/-! ### sum, min of a tuple -/
theorem cr_sumT {X : Cx} (hc : X.calm = true) : CallR X (.builtin "sum") (fun vs H Q => ∃ (a : Addr) (ns : List Int), vs = [V.ref a] ∧ SqT X.K H a (ns.map V.int) ∧ Q (.int ns.sum) H) := by
  intro pins s σ H vs us Q I r h
  obtain ⟨a, ns, rfl, hs, q⟩ := h
  obtain ⟨its, rv, ht, hz⟩ := I.tuple hs
  rw [Vals.ref1 r]
  have hi : PyProof.Rows.IntsAre its ns := intsAre_of rv
  have hl : s.heap.IsTuple a its.toArray := ht
  obtain ⟨xs, hx⟩ := hi.allInts.items
  have hn : numsOf its.toArray.toList = ns := by rw [show its.toArray.toList = its from rfl, hi.numsOf]
  rw [hx] at hl hn
  rw [nums_intItems] at hn
  refine PySem.W.ktm_sumG (I.ok.hd hc) hl fun h' tk t' hk => ?_
  have e : ns.sum = preSum (numAt xs) xs.size := by rw [preSum_eq, List.take_of_length_le (by simp), hn]
  rw [e] at q
  exact ⟨.int _, H, I.kept hk, ⟨t', rfl⟩, q⟩
theorem em_sumT {ns : List Int} (ha : EM ⟨g, k, N, sc, gd, bl⟩ ρ M e (.dat (tI ns)) M1) (hf : glB sc "sum" = true := by decide +kernel) (hs : ∀ env : PySem.Env, starEach (e :: []) env = (false, eval e env) :: starEach [] env := by intro _; rfl) : EM ⟨g, k, N, sc, gd, bl⟩ ρ M (.Call (.Name "sum" p) [e] [] pos) (.dat (.int ns.sum)) M1 :=
  ev_callB (fun _ G => cr_sumT G.calm) (am_one ha hs) (fun X G I F vs d i Q hQ => by
    obtain ⟨v, rfl, h⟩ := is1 i
    obtain ⟨q, ys, rfl, e1, f1⟩ := is_tup h
    have := f1.ints
    subst this
    exact ⟨q, ns, rfl, SqT.of (j3_I e1), hQ.only (Same.refl I) d (.int _)⟩) hf (hs := hs)
theorem cr_minT {X : Cx} (hc : X.calm = true) (hu : X.A.units + 64 < cLine) : CallR X (.builtin "min") (fun vs H Q => ∃ (a : Addr) (n : Int) (ns : List Int), vs = [V.ref a] ∧ H a = some (.tup ((n :: ns).map V.int)) ∧ Q (.int (ns.foldl min n)) H) := by
  intro pins s σ H vs us Q I r h
  obtain ⟨a, n, ns, rfl, hs, q⟩ := h
  obtain ⟨its, rv, ht, hz⟩ := I.tuple (SqT.of hs)
  rw [Vals.ref1 r]
  obtain ⟨as, hr⟩ := Dp.readsAll I ((n :: ns).map PyData.int) ((n :: ns).map V.int) its (Dats.dp _ _ (Dats.of_ints (I := H) (n :: ns))) rv
  have hr' : ReadsAll s.heap its.toArray.toList (.int n :: ns.map PyData.int) as := hr
  have hd : PyData.depthAll (.int n :: ns.map PyData.int) = 0 := depth_ints (n :: ns)
  refine PySem.W.min_tuple_data (I.ok.hd hc) (show s.heap.IsTuple a its.toArray from ht) hr' ⟨fun x hx y hy => ?_, fun x hx => ?_⟩ (by rw [hd]; omega) fun i v h' tk bs hv hrd hk => ?_
  · have hx' : x ∈ (n :: ns).map PyData.int := hx
    have hy' : y ∈ (n :: ns).map PyData.int := hy
    obtain ⟨i, _, rfl⟩ := List.mem_map.mp hx'
    obtain ⟨j, _, rfl⟩ := List.mem_map.mp hy'
    simp [PySem.W.alike]
  · have hx' : x ∈ (n :: ns).map PyData.int := hx
    obtain ⟨i, _, rfl⟩ := List.mem_map.mp hx'
    simp
  · rw [PySem.W.minD_ints] at hrd
    cases hrd
    exact ⟨.int _, H, I.kept hk, ⟨_, rfl⟩, q⟩
theorem em_minT {ns : List Int} (ha : EM ⟨g, k, N, sc, gd, bl⟩ ρ M e (.dat (tI ns)) M1) (hne : 0 < ns.length) (hf : glB sc "min" = true := by decide +kernel) (hs : ∀ env : PySem.Env, starEach (e :: []) env = (false, eval e env) :: starEach [] env := by intro _; rfl) : EM ⟨g, k, N, sc, gd, bl⟩ ρ M (.Call (.Name "min" p) [e] [] pos) (.dat (.int (minL ns))) M1 :=
  ev_callB (fun _ G => cr_minT G.calm G.hu) (am_one ha hs) (fun X G I F vs d i Q hQ => by
    obtain ⟨v, rfl, h⟩ := is1 i
    obtain ⟨q, ys, rfl, e1, f1⟩ := is_tup h
    have := f1.ints
    subst this
    cases ns with
    | nil => simp at hne
    | cons n ns => exact ⟨q, n, ns, rfl, j3_I e1, hQ.only (Same.refl I) d (.int _)⟩) hf (hs := hs)

/-! ### several names at once -/
def swOk (sc : Scope) (tgs : List Expr) (e : Expr) (line : Nat) (r : Option (List Str)) : Prop := ∀ env : PySem.Env, env.scope = sc → swapsWithSole tgs e line env = pure false ∧ swappedStores tgs e env = pure r
theorem iss_two {vs : List V} (h : Iss C I vs [x, y]) : ∃ v u, vs = [v, u] ∧ Is C I v x ∧ Is C I u y := is2 h
def locL (sc : Scope) (x : Str) : Bool := match sc.names.lookup x with
  | some .local => true
  | _ => false
theorem locL_of {x : Str} (h : locL sc x = true) : sc.names.lookup x = some .local := by
  unfold locL at h
  split at h
  · assumption
  · cases h
/-- x, y = a, b, both plain locals -/
theorem bd_par2 (i j : Nat) {f1 f2 : Str} {p1 p2 pt2 : Pos} {kt k2} (h : AM ⟨g, k, N, sc, gd, bl⟩ ρ M [a, b] [x, y] M1) (hk : BD ⟨g, k, N, sc, gd, bl⟩ ((ρ.set i (some x)).set j (some y)) M1 rest K)
    (hc : chkL N sc bl i f1 = true := by decide +kernel) (hc2 : chkL N sc bl j f2 = true := by decide +kernel) (hij : i ≠ j := by decide) (hl1 : locL sc f1 = true := by decide +kernel) (hl2 : locL sc f2 = true := by decide +kernel)
    (hw : ∀ env : PySem.Env, env.scope = sc → swappedStores [.Tuple [.Name f1 p1, .Name f2 p2] kt pt] (.Tuple [a, b] k2 pt2) env = pure (some [f1, f2]) := by intro env h; cases env; cases h; rfl)
    (hs : ∀ env : PySem.Env, env.scope = sc → swapsWithSole [.Tuple [.Name f1 p1, .Name f2 p2] kt pt] (.Tuple [a, b] k2 pt2) pos.line env = pure false := by intro env h; cases env; cases h; rfl) :
    BD ⟨g, k, N, sc, gd, bl⟩ ρ M (.Assign [.Tuple [.Name f1 p1, .Name f2 p2] kt pt] (.Tuple [a, b] k2 pt2) pos :: rest) K := bd_cons fun X G σ I F D en di kk => by
  have L1 := G.loc hc
  have L2 := G.loc hc2
  refine wp_ps (ps_par G.calm L1.nd L1.hN L2.hN hij (by rw [G.sc]; exact locL_of hl1) (by rw [G.sc]; exact locL_of hl2) pa_wp (hw _ G.sc) (hs _ G.sc)) (am_bind h G en di fun vs I1 s1 d1 i1 => ?_)
  obtain ⟨v, u, rfl, h1, h2⟩ := is2 i1
  exact ⟨v, u, rfl, kk.nx _ I1 _ M1 hk s1 (((en.mono s1).set h1).set h2) d1⟩
/-- the arguments, some of them wished for -/
def AV (c : Cs) (ρ : List (Option Sl)) (M : Hp) (es : List Expr) (R : List Sl → Hp → Prop) : Prop :=
  ∀ X, Good c X → ∀ (σ : L2.St) (I F : Hp), En c.g.C I σ ρ → Ds I M F → ∀ Q : List V → Hp → Prop, (∀ vs I2 xs M', R xs M' → Same I I2 → Ds I2 M' F → Iss c.g.C I2 vs xs → Q vs (J3 I2 M' F)) → wpA X es σ (J3 I M F) Q
theorem av_nil {R : List Sl → Hp → Prop} (h : R [] M) : AV c ρ M [] R := fun X G σ I F en di Q hQ => wp_pa pa_nil (hQ [] I [] M h (Same.refl I) di .nil)
theorem av_cons {R : List Sl → Hp → Prop} (h : EV c ρ M e fun x M1 => AV c ρ M1 es fun xs M2 => R (x :: xs) M2) (hs : ∀ env : PySem.Env, starEach (e :: es) env = (false, eval e env) :: starEach es env := by intro _; rfl) : AV c ρ M (e :: es) R := fun X G σ I F en di Q hQ =>
  wp_pa (pa_cons pe_wp pa_wp (hs X.env)) (h X G σ I F en di _ fun v I1 x M1 r s1 d1 i1 => r X G σ I1 F (en.mono s1) d1 _ fun vs I2 xs M2 r2 s2 d2 i2 => hQ (v :: vs) I2 (x :: xs) M2 r2 (s1.trans s2) d2 (.cons (i1.mono s2) i2))
theorem av_am {R : List Sl → Hp → Prop} (h : AM c ρ M es xs M1) (r : R xs M1) : AV c ρ M es R := fun X G σ I F en di Q hQ => h X G σ I F en di Q fun vs I2 s d i => hQ vs I2 xs M1 r s d i
theorem bd_par2V (i j : Nat) {f1 f2 : Str} {p1 p2 pt2 : Pos} {kt k2} (h : AV ⟨g, k, N, sc, gd, bl⟩ ρ M [a, b] fun xs M1 => ∃ x y, xs = [x, y] ∧ BD ⟨g, k, N, sc, gd, bl⟩ ((ρ.set i (some x)).set j (some y)) M1 rest K)
    (hc : chkL N sc bl i f1 = true := by decide +kernel) (hc2 : chkL N sc bl j f2 = true := by decide +kernel) (hij : i ≠ j := by decide) (hl1 : locL sc f1 = true := by decide +kernel) (hl2 : locL sc f2 = true := by decide +kernel)
    (hw : ∀ env : PySem.Env, env.scope = sc → swappedStores [.Tuple [.Name f1 p1, .Name f2 p2] kt pt] (.Tuple [a, b] k2 pt2) env = pure (some [f1, f2]) := by intro env h; cases env; cases h; rfl)
    (hs : ∀ env : PySem.Env, env.scope = sc → swapsWithSole [.Tuple [.Name f1 p1, .Name f2 p2] kt pt] (.Tuple [a, b] k2 pt2) pos.line env = pure false := by intro env h; cases env; cases h; rfl) :
    BD ⟨g, k, N, sc, gd, bl⟩ ρ M (.Assign [.Tuple [.Name f1 p1, .Name f2 p2] kt pt] (.Tuple [a, b] k2 pt2) pos :: rest) K := bd_cons fun X G σ I F D en di kk => by
  have L1 := G.loc hc
  have L2 := G.loc hc2
  refine wp_ps (ps_par G.calm L1.nd L1.hN L2.hN hij (by rw [G.sc]; exact locL_of hl1) (by rw [G.sc]; exact locL_of hl2) pa_wp (hw _ G.sc) (hs _ G.sc)) (h X G σ I F en di _ fun vs I1 xs M1 r s1 d1 i1 => ?_)
  obtain ⟨x, y, rfl, hk⟩ := r
  obtain ⟨v, u, rfl, h1, h2⟩ := is2 i1
  exact ⟨v, u, rfl, kk.nx _ I1 _ M1 hk s1 (((en.mono s1).set h1).set h2) d1⟩
theorem bd_par3V (i j l : Nat) {f1 f2 f3 : Str} {p1 p2 p3 pt2 : Pos} {kt k2} (h : AV ⟨g, k, N, sc, gd, bl⟩ ρ M [a, b, e] fun xs M1 => ∃ x y z, xs = [x, y, z] ∧ BD ⟨g, k, N, sc, gd, bl⟩ (((ρ.set i (some x)).set j (some y)).set l (some z)) M1 rest K)
    (hc : chkL N sc bl i f1 = true := by decide +kernel) (hc2 : chkL N sc bl j f2 = true := by decide +kernel) (hc3 : chkL N sc bl l f3 = true := by decide +kernel) (hij : i ≠ j := by decide) (hil : i ≠ l := by decide) (hjl : j ≠ l := by decide)
    (hl1 : locL sc f1 = true := by decide +kernel) (hl2 : locL sc f2 = true := by decide +kernel) (hl3 : locL sc f3 = true := by decide +kernel)
    (hw : ∀ env : PySem.Env, env.scope = sc → swappedStores [.Tuple [.Name f1 p1, .Name f2 p2, .Name f3 p3] kt pt] (.Tuple [a, b, e] k2 pt2) env = pure (some [f1, f2, f3]) := by intro env h; cases env; cases h; rfl)
    (hs : ∀ env : PySem.Env, env.scope = sc → swapsWithSole [.Tuple [.Name f1 p1, .Name f2 p2, .Name f3 p3] kt pt] (.Tuple [a, b, e] k2 pt2) pos.line env = pure false := by intro env h; cases env; cases h; rfl) :
    BD ⟨g, k, N, sc, gd, bl⟩ ρ M (.Assign [.Tuple [.Name f1 p1, .Name f2 p2, .Name f3 p3] kt pt] (.Tuple [a, b, e] k2 pt2) pos :: rest) K := bd_cons fun X G σ I F D en di kk => by
  have L1 := G.loc hc
  have L2 := G.loc hc2
  have L3 := G.loc hc3
  refine wp_ps (ps_par3 G.calm L1.nd L1.hN L2.hN L3.hN hij hil hjl (by rw [G.sc]; exact locL_of hl1) (by rw [G.sc]; exact locL_of hl2) (by rw [G.sc]; exact locL_of hl3) pa_wp (hw _ G.sc) (hs _ G.sc)) (h X G σ I F en di _ fun vs I1 xs M1 r s1 d1 i1 => ?_)
  obtain ⟨x, y, z, rfl, hk⟩ := r
  cases i1 with
  | cons h1 i1 =>
    obtain ⟨u, w, rfl, h2, h3⟩ := is2 i1
    exact ⟨_, u, w, rfl, kk.nx _ I1 _ M1 hk s1 ((((en.mono s1).set h1).set h2).set h3) d1⟩
/-- the same where a tuple is made: names that blocks see, or four of them -/
theorem tup_new {vs : List V} {p' : Addr} (d : Ds I M F) (hp : J3 I M F p' = none) : upd (J3 I M F) p' (.tup vs) = J3 (upd I p' (.tup vs)) M F ∧ Same I (upd I p' (.tup vs)) ∧ Ds (upd I p' (.tup vs)) M F := by
  obtain ⟨n1, n2, n3⟩ := j3_none hp
  exact ⟨upd_I3, same_new n1, d.newI hp⟩
theorem bd_tup2V (i j : Nat) {f1 f2 : Str} {p1 p2 pt2 : Pos} {kt k2} (h : AV ⟨g, k, N, sc, gd, bl⟩ ρ M [a, b] fun xs M1 => ∃ x y, xs = [x, y] ∧ BD ⟨g, k, N, sc, gd, bl⟩ ((ρ.set i (some x)).set j (some y)) M1 rest K)
    (hc : chkL N sc bl i f1 = true := by decide +kernel) (hc2 : chkL N sc bl j f2 = true := by decide +kernel)
    (hw : ∀ env : PySem.Env, env.scope = sc → swappedStores [.Tuple [.Name f1 p1, .Name f2 p2] kt pt] (.Tuple [a, b] k2 pt2) env = pure none := by intro env h; cases env; cases h; rfl)
    (hs : ∀ env : PySem.Env, env.scope = sc → swapsWithSole [.Tuple [.Name f1 p1, .Name f2 p2] kt pt] (.Tuple [a, b] k2 pt2) pos.line env = pure false := by intro env h; cases env; cases h; rfl) :
    BD ⟨g, k, N, sc, gd, bl⟩ ρ M (.Assign [.Tuple [.Name f1 p1, .Name f2 p2] kt pt] (.Tuple [a, b] k2 pt2) pos :: rest) K := bd_cons fun X G σ I F D en di kk => by
  have L1 := G.loc hc
  have L2 := G.loc hc2
  refine wp_ps (ps_asg (pe_tup pa_wp) (pg_tup G.calm (pgs_cons (pg_name L1.nd L1.hN L1.hx L1.hf) (pgs_cons (pg_name L2.nd L2.hN L2.hx L2.hf) pgs_nil))) (hs _ G.sc) (hw _ G.sc)) (h X G σ I F en di _ fun vs I1 xs M1 r s1 d1 i1 => ?_)
  obtain ⟨x, y, rfl, hk⟩ := r
  obtain ⟨v, u, rfl, h1, h2⟩ := is2 i1
  refine ⟨by show 2 ≤ sizeLine; decide, fun q hq => ?_⟩
  obtain ⟨e1, s2, d2⟩ := tup_new (vs := [v, u]) d1 hq
  rw [e1]
  exact ⟨q, _, rfl, SqT.of (j3_I upd_same), rfl, _, _, rfl, _, _, rfl, rfl, kk.nx _ _ _ M1 hk (s1.trans s2) (((en.mono (s1.trans s2)).set (h1.mono s2)).set (h2.mono s2)) d2⟩
theorem bd_tup3V (i j l : Nat) {f1 f2 f3 : Str} {p1 p2 p3 pt2 : Pos} {kt k2} (h : AV ⟨g, k, N, sc, gd, bl⟩ ρ M [a, b, e] fun xs M1 => ∃ x y z, xs = [x, y, z] ∧ BD ⟨g, k, N, sc, gd, bl⟩ (((ρ.set i (some x)).set j (some y)).set l (some z)) M1 rest K)
    (hc : chkL N sc bl i f1 = true := by decide +kernel) (hc2 : chkL N sc bl j f2 = true := by decide +kernel) (hc3 : chkL N sc bl l f3 = true := by decide +kernel)
    (hw : ∀ env : PySem.Env, env.scope = sc → swappedStores [.Tuple [.Name f1 p1, .Name f2 p2, .Name f3 p3] kt pt] (.Tuple [a, b, e] k2 pt2) env = pure none := by intro env h; cases env; cases h; rfl)
    (hs : ∀ env : PySem.Env, env.scope = sc → swapsWithSole [.Tuple [.Name f1 p1, .Name f2 p2, .Name f3 p3] kt pt] (.Tuple [a, b, e] k2 pt2) pos.line env = pure false := by intro env h; cases env; cases h; rfl) :
    BD ⟨g, k, N, sc, gd, bl⟩ ρ M (.Assign [.Tuple [.Name f1 p1, .Name f2 p2, .Name f3 p3] kt pt] (.Tuple [a, b, e] k2 pt2) pos :: rest) K := bd_cons fun X G σ I F D en di kk => by
  have L1 := G.loc hc
  have L2 := G.loc hc2
  have L3 := G.loc hc3
  refine wp_ps (ps_asg (pe_tup pa_wp) (pg_tup G.calm (pgs_cons (pg_name L1.nd L1.hN L1.hx L1.hf) (pgs_cons (pg_name L2.nd L2.hN L2.hx L2.hf) (pgs_cons (pg_name L3.nd L3.hN L3.hx L3.hf) pgs_nil)))) (hs _ G.sc) (hw _ G.sc)) (h X G σ I F en di _ fun vs I1 xs M1 r s1 d1 i1 => ?_)
  obtain ⟨x, y, z, rfl, hk⟩ := r
  cases i1 with
  | @cons v _ _ _ h1 i1 =>
    obtain ⟨u, w, rfl, h2, h3⟩ := is2 i1
    refine ⟨by show 3 ≤ sizeLine; decide, fun q hq => ?_⟩
    obtain ⟨e1, s2, d2⟩ := tup_new (vs := [v, u, w]) d1 hq
    rw [e1]
    exact ⟨q, _, rfl, SqT.of (j3_I upd_same), rfl, _, _, rfl, _, _, rfl, _, _, rfl, rfl, kk.nx _ _ _ M1 hk (s1.trans s2) ((((en.mono (s1.trans s2)).set (h1.mono s2)).set (h2.mono s2)).set (h3.mono s2)) d2⟩
theorem bd_tup4V (i j l m : Nat) {f1 f2 f3 f4 : Str} {p1 p2 p3 p4 pt2 : Pos} {kt k2} {e' : Expr} (h : AV ⟨g, k, N, sc, gd, bl⟩ ρ M [a, b, e, e'] fun xs M1 => ∃ x y z w, xs = [x, y, z, w] ∧ BD ⟨g, k, N, sc, gd, bl⟩ ((((ρ.set i (some x)).set j (some y)).set l (some z)).set m (some w)) M1 rest K)
    (hc : chkL N sc bl i f1 = true := by decide +kernel) (hc2 : chkL N sc bl j f2 = true := by decide +kernel) (hc3 : chkL N sc bl l f3 = true := by decide +kernel) (hc4 : chkL N sc bl m f4 = true := by decide +kernel)
    (hw : ∀ env : PySem.Env, env.scope = sc → swappedStores [.Tuple [.Name f1 p1, .Name f2 p2, .Name f3 p3, .Name f4 p4] kt pt] (.Tuple [a, b, e, e'] k2 pt2) env = pure none := by intro env h; cases env; cases h; rfl)
    (hs : ∀ env : PySem.Env, env.scope = sc → swapsWithSole [.Tuple [.Name f1 p1, .Name f2 p2, .Name f3 p3, .Name f4 p4] kt pt] (.Tuple [a, b, e, e'] k2 pt2) pos.line env = pure false := by intro env h; cases env; cases h; rfl) :
    BD ⟨g, k, N, sc, gd, bl⟩ ρ M (.Assign [.Tuple [.Name f1 p1, .Name f2 p2, .Name f3 p3, .Name f4 p4] kt pt] (.Tuple [a, b, e, e'] k2 pt2) pos :: rest) K := bd_cons fun X G σ I F D en di kk => by
  have L1 := G.loc hc
  have L2 := G.loc hc2
  have L3 := G.loc hc3
  have L4 := G.loc hc4
  refine wp_ps (ps_asg (pe_tup pa_wp) (pg_tup G.calm (pgs_cons (pg_name L1.nd L1.hN L1.hx L1.hf) (pgs_cons (pg_name L2.nd L2.hN L2.hx L2.hf) (pgs_cons (pg_name L3.nd L3.hN L3.hx L3.hf) (pgs_cons (pg_name L4.nd L4.hN L4.hx L4.hf) pgs_nil))))) (hs _ G.sc) (hw _ G.sc)) (h X G σ I F en di _ fun vs I1 xs M1 r s1 d1 i1 => ?_)
  obtain ⟨x, y, z, w, rfl, hk⟩ := r
  cases i1 with
  | @cons v _ _ _ h1 i1 =>
    cases i1 with
    | @cons v2 _ _ _ h2 i1 =>
      obtain ⟨u, w, rfl, h3, h4⟩ := is2 i1
      refine ⟨by show 4 ≤ sizeLine; decide, fun q hq => ?_⟩
      obtain ⟨e1, s2, d2⟩ := tup_new (vs := [v, v2, u, w]) d1 hq
      rw [e1]
      exact ⟨q, _, rfl, SqT.of (j3_I upd_same), rfl, _, _, rfl, _, _, rfl, _, _, rfl, _, _, rfl, rfl, kk.nx _ _ _ M1 hk (s1.trans s2) (((((en.mono (s1.trans s2)).set (h1.mono s2)).set (h2.mono s2)).set (h3.mono s2)).set (h4.mono s2)) d2⟩
end
end Wr
end
section
set_option maxRecDepth 100000
set_option maxHeartbeats 1000000
/-! Rules: methods, the class, keyword calls, the length of a dict comprehension. -/
namespace Wr
open PySem L2
section
variable {g : Gm} {k : Nat} {N : List Str} {sc : Scope} {gd : Bool} {bl : Option Scope} {c : Cs} {ρ ρ' : List (Option Sl)} {M M1 M2 M3 M' : Hp} {a b e f : Expr} {es : List Expr} {x y z : Sl} {xs : List Sl} {R : Wish} {pos p pt py : Pos} {I I2 F : Hp} {C : Addr} {Q : VK} {K : Kont} {rest : List Stmt} {tg iter : Expr} {q : Addr} {ds es' : List PyData} {d : PyData} {o o2 : HO}
/-- a value that is known: as data -/
theorem em_at {v : V} (h : EM c ρ M e (.at v d) M1) : EM c ρ M e (.dat d) M1 := fun X G σ I F en di Q hQ => em_bind h G en di fun u I2 s d2 i => hQ.only s d2 i.2

/-! ### a method's promise -/
structure FnM (g : Gm) (f : Addr) (kf : Nat) (ps : List Str) (T : Spec) : Prop where
  ex : ∃ fd, FnOk g.P g.w g.K g.mg g.base CX0 kf f fd ps (spT g.C T) ∧ Binds g.K fd ps []
theorem fnM_ok {nm ql : Str} {st : Stmt} {N ps : List Str} {k : Nat} {T : Spec} {f : Addr} {fd : FuncData} (F : Fun g.K nm ql st f fd) (S : FnScope N ps (defScope st))
    (hb : ∀ (kV doc pm : Value) (an : Option Addr) (cdv ct : Value) (us : List Value), us.length = ps.length → bindArgs (PySem.W.fnOf nm ql (defArgs st) (defBody st) (defScope st) .none kV doc pm an cdv ct) ⟨us, []⟩ = pure (ps.zip us))
    (h : ∀ xs M R, T xs M R → xs.length = ps.length ∧ BD ⟨g, k, N, defScope st, false, none⟩ (startR N xs) M (defBody st) { nx := fun _ M' => R (.dat .none) M', rt := R }) : FnM g f (k + 1) ps T := by
  refine ⟨fd, F.ok S (fun vs H Q E hsp => ?_) (fun cdv A outer s H vs Q E hr hsp => ?_), F.binds hb⟩
  · obtain ⟨I, M, F, xs, R, _, _, i, hT, _⟩ := hsp
    rw [i.length]
    exact (h xs M R hT).1
  · obtain ⟨I, M, F, xs, R, rfl, d, i, hT, q⟩ := hsp
    refine ⟨_, pss_wp, ?_⟩
    have G : Good ⟨g, k, N, defScope st, false, none⟩ (cxOf CX0 g.P g.w g.K g.mg g.base N ql (defScope st) f cdv A outer s (J3 I M F) E).nox :=
      ⟨rfl, rfl, rfl, rfl, rfl, rfl, rfl, hr, rfl, fun _ _ => rfl, rfl, fun z => nomatch z⟩
    exact (h xs M R hT).2 _ G _ I F _ (en_start i) d ⟨fun σ I2 ρ M2 hn s2 en2 d2 => q .non I2 _ M2 hn s2 d2 .non, q, fun _ _ _ _ z => z.elim, fun _ _ _ _ z => z.elim⟩
/-! ### len(web) -/
def T_len : Spec := fun xs M R => ∃ pl ts, xs = [.web pl ts] ∧ R (.dat (.int ts.length)) M
def rLenW (C : Addr) (T : Spec) : List V → Hp → VK → Prop := fun vs H Q => ∃ a dx fs, vs = [.ref a] ∧ H a = some (.ins C dx fs) ∧ spT C T [.ref a] H (fun v H' => ∃ n : Int, v = .int n ∧ 0 ≤ n ∧ n < 2 ^ 63 ∧ Q (.int n) H') E0
theorem cr_lenW {X : Cx} {kf : Nat} {T : Spec} (G : Good c X) (hr : Room (kf + 1) X.A) (Fl : FnM c.g c.g.fLen kf ["self"] T) : CallR X (.builtin "len") (rLenW c.g.C T) := by
  intro pins s σ H vs us Q I r q
  obtain ⟨a, dx, fs, rfl, ea, hsp⟩ := q
  obtain ⟨u, rfl, rx⟩ := vals1 r
  cases rx
  obtain ⟨mA, O, _⟩ := ins_get I.hok ea
  obtain ⟨od, J, _⟩ := O.look
  obtain ⟨m, fr⟩ := I.fr
  obtain ⟨fd, hF, hb⟩ := Fl.ex
  rw [← G.prog, ← G.w, ← G.K, ← G.mg, ← G.base] at hF
  rw [← G.K] at hb
  refine PySem.W.len_K (K := X.K) fr I.ok.mod.kin J (by rw [G.K]; exact c.g.hLen) (by rw [G.K]; exact c.g.kLen) ?_
  have e0 : Env0 X.prog X.w X.K X.mg X.base X.A.in1 X.stack s H := I.env0.in1
  refine wpAny_call (codeAny_mono (hF.run X.A.in1 X.stack s H ⟨[.ref a], []⟩ [.ref a] [.ref a] _ E0 hr.in1 e0 (by simpa using hb s [.ref a] I.kIn rfl) (.cons rfl .nil) hsp) fun r s' hq => ?_)
  cases r with
  | error e => exact hq.elim
  | ok fl =>
    cases fl with
    | ret u =>
      obtain ⟨v, H', I3, rv, n, rfl, h0, h1, q3⟩ := I.after hq
      obtain ⟨t, rfl⟩ := (show ∃ t, u = Value.int n t from rv)
      exact ⟨⟨h0, h1⟩, ⟨.int n, H', I3.tok _, ⟨_, rfl⟩, q3⟩⟩
    | next => exact False.elim hq
    | brk => exact False.elim hq
    | cont => exact False.elim hq
theorem em_lenW {pl : List Nat} {ts : List (Nat × Nat)} {kf : Nat} (Fl : FnM g g.fLen kf ["self"] T_len) (ha : EM ⟨g, k, N, sc, gd, bl⟩ ρ M e (.web pl ts) M1) (hz : ts.length ≤ 100000) (hk : kf + 1 ≤ k := by decide) (hf : glB sc "len" = true := by decide +kernel) (hs : ∀ env : PySem.Env, starEach (e :: []) env = (false, eval e env) :: starEach [] env := by intro _; rfl) :
    EM ⟨g, k, N, sc, gd, bl⟩ ρ M (.Call (.Name "len" p) [e] [] pos) (.dat (.int ts.length)) M1 :=
  ev_callB (r := fun _ => rLenW g.C T_len) (fun X G => cr_lenW G (G.room.mono hk) Fl) (am_one ha hs) (fun X G I F vs d i Q hQ => by
    obtain ⟨v, rfl, h⟩ := is1 i
    have h' := h
    obtain ⟨q, dx, t, rfl, e1, _, _⟩ := h'
    refine ⟨q, dx, _, rfl, j3_I e1, I, _, F, [.web pl ts], only (.dat (.int ts.length)) M1, rfl, d, .cons h .nil, ⟨pl, ts, rfl, only_self⟩, ?_⟩
    intro w I2 y M2 ⟨e2, e3⟩ s2 d2 i2
    subst e2 e3
    exact ⟨_, is_int i2, by omega, by omega, hQ.only s2 d2 (.int _)⟩) hf (hs := hs)
/-! ### Web(places, ties) -/
structure WOk (pl : List Nat) (ts : List (Nat × Nat)) : Prop where
  asc : pl.Pairwise (· < ·)
  pos : 1 ≤ pl.length
  few : pl.length ≤ 4
  let_ : ∀ c ∈ pl, 97 ≤ c ∧ c ≤ 104
  fewT : ts.length ≤ 6
  ends : ∀ q ∈ ts, q.1 ∈ pl ∧ q.2 ∈ pl ∧ q.1 < q.2
abbrev tiesD (ts : List (Nat × Nat)) : PyData := .tuple (ts.map fun q => S (tS q))
def T_init (C : Addr) : Spec := fun xs M R => ∃ x dx t pl ts, xs = [.raw (.ref x), .dat (S pl), .at (.ref t) (tiesD ts)] ∧ WOk pl ts ∧ M x = some (.ins C dx []) ∧ R (.dat .none) (upd M x (.ins C dx [("places", .str (sOf pl)), ("ties", .ref t)]))
theorem bd_fldS {f' : Str} {l : List Nat} {dx : Addr} {fs : List (Str × V)} (ha : EM c ρ M a (.raw (.ref q)) M) (hv : EM c ρ M e (.dat (S l)) M) (hm : M q = some (.ins c.g.C dx fs)) (hl : fs.length < 1000) (hn : NoAttr c.g.K c.g.C f') (hk : BD c ρ (upd M q (.ins c.g.C dx (putF f' (.str (sOf l)) fs))) rest K)
    (hs : ∀ env : PySem.Env, env.scope = c.sc → swapsWith e (some (.Attribute a f' p)) pos.line env = pure false := by intro env h; cases env; cases h; rfl) : BD c ρ M (.Assign [.Attribute a f' p] e pos :: rest) K := bd_cons fun X G σ I F D en di kk =>
  wp_ps (ps_fld pe_wp pe_wp (hs _ G.sc)) (em_bind hv G en di fun v I1 s1 d1 i1 => em_bind ha G (en.mono s1) d1 fun u I2 s2 d2 i2 => by
    refine ⟨q, c.g.C, dx, fs, is_raw i2, j3_M d2 hm, by rw [G.K]; exact c.g.cls.cl, by rw [G.K]; exact hn, hl, ?_⟩
    rw [upd_J hm d2, is_str i1]
    exact kk.nx σ I2 ρ _ hk (s1.trans s2) (en.mono (s1.trans s2)) (ds_upd hm d2))
theorem bd_fldA {f' : Str} {w : V} {dx : Addr} {fs : List (Str × V)} (ha : EM c ρ M a (.raw (.ref q)) M) (hv : EM c ρ M e (.at w d) M) (hm : M q = some (.ins c.g.C dx fs)) (hl : fs.length < 1000) (hn : NoAttr c.g.K c.g.C f') (hk : BD c ρ (upd M q (.ins c.g.C dx (putF f' w fs))) rest K)
    (hs : ∀ env : PySem.Env, env.scope = c.sc → swapsWith e (some (.Attribute a f' p)) pos.line env = pure false := by intro env h; cases env; cases h; rfl) : BD c ρ M (.Assign [.Attribute a f' p] e pos :: rest) K := bd_cons fun X G σ I F D en di kk =>
  wp_ps (ps_fld pe_wp pe_wp (hs _ G.sc)) (em_bind hv G en di fun v I1 s1 d1 i1 => em_bind ha G (en.mono s1) d1 fun u I2 s2 d2 i2 => by
    refine ⟨q, c.g.C, dx, fs, is_raw i2, j3_M d2 hm, by rw [G.K]; exact c.g.cls.cl, by rw [G.K]; exact hn, hl, ?_⟩
    rw [upd_J hm d2, i1.1]
    exact kk.nx σ I2 ρ _ hk (s1.trans s2) (en.mono (s1.trans s2)) (ds_upd hm d2))
theorem em_makeW {pl : List Nat} {ts : List (Nat × Nat)} {kf : Nat} {fI : Addr} (Mk_ : Mk g.K g.C fI) (Fi : FnM g fI kf ["self", "places", "ties"] (T_init g.C)) (ok : WOk pl ts) (ha : EM ⟨g, k, N, sc, gd, bl⟩ ρ M a (.dat (S pl)) M1) (hb : EM ⟨g, k, N, sc, gd, bl⟩ ρ M1 b (.dat (tiesD ts)) M2) (hk : kf + 1 ≤ k := by decide) (hf : glB sc "Web" = true := by decide +kernel)
    (hs : ∀ env : PySem.Env, starEach (a :: [b]) env = (false, eval a env) :: starEach [b] env := by intro _; rfl) (hs2 : ∀ env : PySem.Env, starEach (b :: []) env = (false, eval b env) :: starEach [] env := by intro _; rfl) (hp : ∀ env : PySem.Env, (backTo pos (starEach [b] env)).any (·.1) = false := by intro _; rfl) :
    EM ⟨g, k, N, sc, gd, bl⟩ ρ M (.Call (.Name "Web" p) [a, b] [] pos) (.web pl ts) M2 := fun X G σ I F en di Q hQ => by
  obtain ⟨h1, h2⟩ := G.gl hf
  obtain ⟨fd, hF, hbd⟩ := Fi.ex
  refine wp_pe (pe_make (dvs := []) (ds := []) (E := E0) (CX := CX0) (k := kf) (f := fI) (fd := fd) (ps := ["self", "places", "ties"]) (sp := spT g.C (T_init g.C)) (C := g.C) (by rw [G.K]; exact Mk_) (by rw [G.prog, G.w, G.K, G.mg, G.base]; exact hF) (G.room.mono hk) h1 (by rw [G.mg]; exact g.gW) (by rw [G.K]; exact hbd) .nil pass0 (pa_cons pe_wp (pa_cons pe_wp pa_nil (hs2 _)) (hs _)) h2 (hs _) (hp _)) ?_
  refine em_bind ha G en di fun v I1 s1 d1 i1 => em_bind hb G (en.mono s1) d1 fun u I2 s2 d2 i2 x dx hx hdx hne => ?_
  obtain ⟨t, ys, rfl, e1, f1⟩ := is_tup i2
  have e1' : I2 t = some (.tup (ts.map fun p => .str (sOf (tS p)))) := by
    have f2 : Dats I2 ys ((ts.map fun p => sOf (tS p)).map .str) := by rw [List.map_map]; exact f1
    rw [e1, f2.strs, List.map_map]
    rfl
  obtain ⟨n1, n2, n3⟩ := j3_none hx
  obtain ⟨m1, m2, m3⟩ := j3_none hdx
  -- what is made may change until it is done
  have eJ : upd (upd (J3 I2 M2 F) dx (.own x)) x (.ins g.C dx []) = J3 I2 (upd (upd M2 dx (.own x)) x (.ins g.C dx [])) F := by
    rw [upd_M3 m1, upd_M3 n1]
  have dd1 : Ds I2 (upd M2 dx (.own x)) F := d2.newM m1 m3
  have dd2 : Ds I2 (upd (upd M2 dx (.own x)) x (.ins g.C dx [])) F := dd1.newM n1 n3
  rw [eJ]
  refine ⟨I2, _, F, [.raw (.ref x), .dat (S pl), .at (.ref t) (tiesD ts)], only (.dat .none) (upd (upd (upd M2 dx (.own x)) x (.ins g.C dx [])) x (.ins g.C dx [("places", .str (sOf pl)), ("ties", .ref t)])), rfl, dd2, ?_, ⟨x, dx, t, pl, ts, rfl, ok, upd_same, only_self⟩, ?_⟩
  · rw [is_str (i1.mono s2)]
    exact .cons rfl (.cons (.str _) (.cons ⟨rfl, i2⟩ .nil))
  · intro w I3 y M3 ⟨e2, e3⟩ s3 d3 i3
    subst e2 e3
    refine ⟨is_non i3, ?_⟩
    rw [upd_upd]
    rw [upd_upd] at d3
    -- it stands still now
    have hx3 : (upd (upd M2 dx (.own x)) x (.ins g.C dx [("places", .str (sOf pl)), ("ties", .ref t)])) x = some (.ins g.C dx [("places", .str (sOf pl)), ("ties", .ref t)]) := upd_same
    rw [frz_J hx3 d3]
    have d4 := frz_ds hx3 d3
    have sa := frz_same hx3 d3
    rw [delM_upd (by rw [upd_ne (Ne.symm hne)]; exact n2)] at d4 ⊢
    have hd3 : (upd M2 dx (.own x)) dx = some (.own x) := upd_same
    rw [frz_J hd3 d4]
    have d5 := frz_ds hd3 d4
    have sb := frz_same hd3 d4
    rw [delM_upd m2] at d5 ⊢
    have st := ((s3.trans sa).trans sb)
    refine hQ.only ((s1.trans s2).trans st) d5 ⟨x, dx, t, rfl, ?_, upd_same, st _ _ e1'⟩
    rw [upd_ne (Ne.symm hne)]
    exact upd_same

/-! ### calls by keyword alone, the names from the last to the first -/
structure FnK (g : Gm) (f : Str) (kf : Nat) (ks : List Str) (T : Spec) : Prop where
  ex : ∃ (a : Addr) (fd : FuncData) (ps : List Str), FnOk g.P g.w g.K g.mg g.base CX0 kf a fd ps (spT g.C T) ∧ g.mg f = some (.ref a) ∧ PySem.W.keepIn g.K (.ref a) = true ∧ ∀ (s : Shared) (ws : List Value), ws.length = ps.length → BindsTo s fd ⟨[], ks.zip ws⟩ (ps.zip ws.reverse)
def wpK (X : Cx) (kws : List Keyword) : TA := fun σ H Q => ∀ (pos : Pos) (pins : List (Addr × Obj)) (s : Shared), Inv X pins σ H s → wpAny (model X.prog X.w) X.A (evalAll ((backToKw pos (keywordEach kws X.env)).map (·.2))) (AP X pins σ Q) X.xe s
theorem pk_wp {X : Cx} {kws : List Keyword} : PK X kws (wpK X kws) := ⟨fun pos pins s _ _ _ I h => h pos pins s I⟩
theorem wp_pk {X : Cx} {kws : List Keyword} {t : TA} (h : PK X kws t) {σ : L2.St} {H : Hp} {Q : List V → Hp → Prop} (q : t σ H Q) : wpK X kws σ H Q := fun pos pins s I => h.run pos pins s σ H Q I q
def KM (c : Cs) (ρ : List (Option Sl)) (M : Hp) (kws : List Keyword) (xs : List Sl) (M' : Hp) : Prop :=
  ∀ X, Good c X → ∀ (σ : L2.St) (I F : Hp), En c.g.C I σ ρ → Ds I M F → ∀ Q : List V → Hp → Prop, (∀ vs I2, Same I I2 → Ds I2 M' F → Iss c.g.C I2 vs xs → Q vs (J3 I2 M' F)) → wpK X kws σ (J3 I M F) Q
theorem km_nil : KM c ρ M [] [] M := fun X G σ I F en di Q hQ => wp_pk pk_nil (hQ [] I (Same.refl I) di .nil)
theorem km_cons {nm} {kpos : Pos} {kws : List Keyword} (h : EM c ρ M e x M1) (ht : KM c ρ M1 kws xs M2) : KM c ρ M (⟨nm, e, kpos⟩ :: kws) (x :: xs) M2 := fun X G σ I F en di Q hQ =>
  wp_pk (pk_cons pe_wp pk_wp) (em_bind h G en di fun v I1 s1 d1 i1 => ht X G σ I1 F (en.mono s1) d1 _ fun vs I2 s2 d2 i2 => hQ (v :: vs) I2 (s1.trans s2) d2 (.cons (i1.mono s2) i2))
theorem Iss.append {vs ws : List V} {xs ys : List Sl} (h : Iss C I vs xs) (k : Iss C I ws ys) : Iss C I (vs ++ ws) (xs ++ ys) := by
  induction h with
  | nil => exact k
  | cons h1 _ ih => exact .cons h1 ih
theorem Iss.reverse {vs : List V} {xs : List Sl} (h : Iss C I vs xs) : Iss C I vs.reverse xs.reverse := by
  induction h with
  | nil => exact .nil
  | cons h1 _ ih =>
    rw [List.reverse_cons, List.reverse_cons]
    exact ih.append (.cons h1 .nil)
theorem ev_callKw {T : Spec} {kf : Nat} {f' : Str} {ks : List Str} {kws : List Keyword} (Fk : FnK g f' kf ks T) (ha : KM ⟨g, k, N, sc, gd, bl⟩ ρ M kws xs M1) (hT : T xs.reverse M1 R) (hk : kf ≤ k := by decide) (hf : glB sc f' = true := by decide +kernel)
    (hall : ∀ env : PySem.Env, (backToKw pos (keywordEach kws env)).all (·.1.isSome) = true := by intro _; rfl) (hks : ∀ env : PySem.Env, (backToKw pos (keywordEach kws env)).filterMap (·.1) = ks := by intro _; rfl)
    (hpl : ∀ env : PySem.Env, ((backTo pos (starEach [] env)).any (·.1) || (backToKw pos (keywordEach kws env)).any (·.1.isNone)) = false := by intro _; rfl) : EV ⟨g, k, N, sc, gd, bl⟩ ρ M (.Call (.Name f' p) [] kws pos) R := fun X G σ I F en di Q hQ => by
  obtain ⟨a, fd, ps, h1, h2, h3, h4⟩ := Fk.ex
  obtain ⟨g1, g2⟩ := G.gl hf
  rw [← G.prog, ← G.w, ← G.K, ← G.mg, ← G.base] at h1
  rw [← G.mg] at h2
  rw [← G.K] at h3
  intro pins s Iv
  refine wpAny_Call_Name_kw (ld_glob Iv g1 h2 ?_ g2)
  refine PySem.W.callWith_KW0 (h₀ := X.base) Iv.ok.mod.kin h3 (hall _) ?_ (hpl _)
  refine thn (ha X G σ I F en di (fun zs H2 => spT g.C T zs.reverse H2 Q E0) (fun vs I2 s2 d2 i2 => ⟨I2, M1, F, xs.reverse, R, rfl, d2, i2.reverse, hT, hQ.mono s2⟩) pos pins s Iv) fun ws s2 ⟨zs, H2, Iv2, rz, q2⟩ => ⟨Iv2.kIn, ?_⟩
  rw [hks]
  have r2 : Vals zs.reverse ws.reverse := rz.reverse
  have hl : ws.length = ps.length := by
    have := h1.len _ _ _ _ q2
    rw [r2.length, List.length_reverse] at this
    exact this
  refine wpAny_call (codeAny_mono (h1.run X.A X.stack s2 H2 ⟨[], ks.zip ws⟩ ws.reverse zs.reverse Q E0 (G.room.mono hk) Iv2.env0 (h4 s2 ws hl) r2 q2) fun r s' hq => ?_)
  cases r with
  | error e => exact hq.elim
  | ok fl =>
    cases fl with
    | ret u => exact Iv2.after hq
    | next => exact False.elim hq
    | brk => exact False.elim hq
    | cont => exact False.elim hq
end
end Wr
end
section
set_option maxRecDepth 100000
set_option maxHeartbeats 1000000
/-! Rules: {sign: True for sign in text}, its length. -/
namespace Wr
open PySem L2
section
variable {g : Gm} {k : Nat} {N : List Str} {sc : Scope} {gd : Bool} {bl : Option Scope} {c : Cs} {ρ ρ' : List (Option Sl)} {M M1 M2 M3 M' : Hp} {a b e f : Expr} {es : List Expr} {x y z : Sl} {xs : List Sl} {R : Wish} {pos p pt py pk : Pos} {I I2 F : Hp} {C : Addr} {Q : VK} {K : Kont} {rest : List Stmt} {tg iter : Expr} {q : Addr} {ds es' : List PyData} {d : PyData} {o o2 : HO} {scope : Scope}
def dcK (l : List Nat) : List (Key × V) := l.map fun c => (Sum.inr (sOf [c]), V.bl true)
theorem dcK_put {l : List Nat} {n : Nat} (h : n ∉ l) : putK (dcK l) (Sum.inr (sOf [n])) (.bl true) = dcK (l ++ [n]) := by
  have hn : valV (dcK l) (Sum.inr (sOf [n])) = none := by
    induction l with
    | nil => rfl
    | cons d l ih =>
      show valV ((Sum.inr (sOf [d]), V.bl true) :: dcK l) _ = _
      rw [valV_neg (fun q => h (by rw [key_c.mp q]; simp))]
      exact ih fun z => h (List.mem_cons_of_mem _ z)
  rw [putK_new _ hn]
  unfold dcK
  rw [List.map_append]
  rfl
theorem ev_dcS {fn : Str} {l : List Nat} {jj} {pv : Pos} (j : Nat) (h : EM ⟨g, k, N, sc, gd, bl⟩ ρ M iter (.dat (S l)) M1) (ndl : l.Nodup) (hz : l.length ≤ 100000) (ok : blkC N sc scope [(fn, j)] = true := by decide +kernel) (nd : decide N.Nodup = true := by decide +kernel) (hc : chkL N (relS scope sc) (some scope) j fn = true := by decide +kernel) (hcv : chkV N (relS scope sc) j fn = true := by decide +kernel) (hj : decide (j < ρ.length) = true)
    (hfs : ∀ (env : PySem.Env) (x : Value), foldedSetIterable iter env x = pure x := by intro _ _; rfl) : EV ⟨g, k, N, sc, gd, bl⟩ ρ M (.DictComp (.Name fn pk) (.Constant (.bool true) jj pv) [⟨.Name fn pt, iter, [], 0⟩] scope pos) (newO (.dK (dcK l)) M1) := fun X G σ I F en di Q hQ => by
  refine wp_pe (pe_dc (own := [(fn, j)]) (wi := wpI X (.Name fn pt) iter) (g := lcG X scope (.Name fn pt)) (tt := lcT X scope []) (tk := lcE X scope (.Name fn pk)) (tv := lcE X scope (.Constant (.bool true) jj pv))
    G.calm (by rw [G.N]; exact of_decide_eq_true nd) pi_wp (by rw [G.N, G.sc]; exact blkOk_by ok)
    (fun s0 H0 C' cl fp => ⟨fun pins s2 σ H v u Q I r h => h s0 H0 C' cl fp pins s2 u I r⟩) (fun s0 H0 C' cl fp => ⟨fun pins s2 σ H Q I h => h s0 H0 C' cl fp pins s2 I⟩) (fun s0 H0 C' cl fp => ⟨fun pins s2 σ H Q I h => h s0 H0 C' cl fp pins s2 I⟩) (fun s0 H0 C' cl fp => ⟨fun pins s2 σ H Q I h => h s0 H0 C' cl fp pins s2 I⟩) (fun x => hfs _ x)) ?_
  refine src_s (tg := .Name fn pt) h X G σ I F en di _ fun It I1 s1 d1 wk Dl hD => ?_
  obtain ⟨n1, n2, n3⟩ := j3_none hD
  refine ⟨fun i m H => m = l.length - i ∧ i ≤ l.length ∧ ∃ I2, H = J3 I2 (upd M1 Dl (.dK (dcK (l.take i)))) F ∧ Same I1 I2 ∧ Ds I2 (upd M1 Dl (.dK (dcK (l.take i)))) F, ⟨l.length, by simp, Nat.zero_le _, I1, by rw [upd_M3 n1]; rfl, Same.refl I1, d1.newM n1 n3⟩, ?_⟩
  rintro i m H ⟨rfl, hi, I2, rfl, s2, d2⟩
  have hat : (upd M1 Dl (.dK (dcK (l.take i)))) Dl = some (.dK (dcK (l.take i))) := upd_same
  by_cases hlt : i < l.length
  · obtain ⟨ch, hch⟩ : ∃ ch, l[i]? = some ch := ⟨_, List.getElem?_eq_getElem hlt⟩
    refine .inr ⟨(wk F).go i I2 _ (by rw [List.length_map]; exact hlt) s2 d2, fun H3 => ∃ I3, H3 = J3 I3 (upd M1 Dl (.dK (dcK (l.take (i + 1))))) F ∧ Same I1 I3 ∧ Ds I3 (upd M1 Dl (.dK (dcK (l.take (i + 1))))) F, fun H3 q => ⟨l.length - (i + 1), by omega, rfl, hlt, q⟩, fun v H' hy s0 H0 C' cl fp => ?_⟩
    obtain ⟨I3, s3, d3, rfl, i3⟩ := (wk F).yld i I2 _ v H' (.dat (S [ch])) s2 d2 hy (by rw [List.getElem?_map, hch]; rfl)
    have en0 := ((en.mono s1).mono s2).mono s3
    have tgd := tg_name (g := g) (k := k) (N := N) (sc := relS scope sc) (gd := gd) (bl := some scope) (p := pt) (ρ := wipeR ρ [j]) (x := .dat (S [ch])) j hc
    refine tgd _ (G.blk s0 H0 cl C' fp) (wipe σ [j]) I3 _ F v (en0.wipe _) d3 i3 _ fun σ4 en4 hl4 hn4 => ?_
    refine ⟨?_, fun s5 H5 C5 cl5 fp5 => ?_⟩
    · show wipe σ4 [j] = wipe σ [j]
      rw [← wipe_wipe σ [j]]
      exact wipe_same hl4 fun m hm => hn4 m hm
    · refine wp_pts pts_nil ?_
      unfold tYes
      dsimp only
      rw [if_pos rfl]
      intro s6 H6 C6 cl6 fp6
      have hat2 : ((wipeR ρ [j]).set j (some (.dat (S [ch]))))[j]? = some (some (.dat (S [ch]))) := by
        have hlen : (wipeR ρ [j]).length = ρ.length := by show (ρ.set j none).length = _; rw [List.length_set]
        rw [List.getElem?_set_self (by rw [hlen]; exact of_decide_eq_true hj)]
      have ek := em_var (g := g) (k := k) (N := N) (sc := relS scope sc) (gd := gd) (bl := some scope) (ρ := (wipeR ρ [j]).set j (some (.dat (S [ch])))) (M := upd M1 Dl (.dK (dcK (l.take i)))) (pos := pk) j hcv hat2
      refine em_bind ek (G.blk s6 H6 cl6 C6 fp6) en4 d3 fun w I5 s5' d5 i5 s7 H7 C7 cl7 fp7 => ?_
      refine em_bind (c := Cs.blk ⟨g, k, N, sc, gd, bl⟩ scope) em_bool (G.blk s7 H7 cl7 C7 fp7) (en4.mono s5') d5 fun w2 I6 s6' d6 i6 => ?_
      refine ⟨dcK (l.take i), Sum.inr (sOf [ch]), is_str i5, j3_M d6 hat, ?_, I6, ?_, ((s2.trans s3).trans s5').trans s6', ?_⟩
      · unfold dcK
        rw [List.length_map, List.length_take]
        exact Nat.lt_of_le_of_lt (Nat.le_trans (Nat.min_le_right _ _) hz) (by decide : 100000 < sizeLine)
      · have hni : ch ∉ l.take i := by
          intro z
          have hd : ch ∈ l.drop i := List.mem_of_getElem? (i := 0) (by rw [List.getElem?_drop, Nat.add_zero, hch])
          have nd2 : (l.take i ++ l.drop i).Nodup := by rw [List.take_append_drop]; exact ndl
          exact (List.nodup_append.mp nd2).2.2 ch z ch hd rfl
        rw [is_bl i6, dcK_put hni, upd_J hat d6, upd_upd, List.take_add_one, hch]
        rfl
      · have := ds_upd (o2 := .dK (dcK (l.take (i + 1)))) hat d6
        rw [upd_upd] at this
        exact this
  · have e : i = l.length := by omega
    subst e
    refine .inl ⟨by have := (wk F).stop I2 (upd M1 Dl (.dK (dcK (l.take l.length)))) s2 d2; rw [List.length_map] at this; exact this, ?_⟩
    rw [List.take_length] at d2 ⊢
    exact hQ _ I2 _ _ ⟨Dl, n2, rfl, rfl⟩ (s1.trans s2) d2 rfl
theorem ev_lenD (h : EV ⟨g, k, N, sc, gd, bl⟩ ρ M e fun x M1 => ∃ p kvs, x = .raw (.ref p) ∧ M1 p = some (.dK kvs) ∧ R (.dat (.int kvs.length)) M1) (hf : glB sc "len" = true := by decide +kernel) (hs : ∀ env : PySem.Env, starEach (e :: []) env = (false, eval e env) :: starEach [] env := by intro _; rfl) (hp : ∀ env : PySem.Env, (backTo pos (starEach [] env)).any (·.1) = false := by intro _; rfl) : EV ⟨g, k, N, sc, gd, bl⟩ ρ M (.Call (.Name "len" p) [e] [] pos) R := fun X G σ I F en di Q hQ => by
  obtain ⟨h1, h2⟩ := G.gl hf
  refine wp_pe (pe_callB call_lenD h1 (by rw [G.mg]; exact g.blt "len" (by decide +kernel)) (by decide +kernel : bootBuiltins "len" = some (.builtin "len")) (pa_cons pe_wp pa_nil (hs _)) (by decide +kernel) h2 (hs _) (hp _)) ?_
  refine h X G σ I F en di _ fun v I1 x M1 ⟨q, kvs, e1, hm, r⟩ s1 d1 i1 => ?_
  subst e1
  exact ⟨q, kvs, by rw [is_raw i1], j3_M d1 hm, hQ _ I1 _ _ r s1 d1 (.int _)⟩
/-- len({sign: True for sign in a text of different signs}) -/
theorem em_lenDC {fn : Str} {l : List Nat} {jj} {pv pd : Pos} (j : Nat) (h : EM ⟨g, k, N, sc, gd, bl⟩ ρ M iter (.dat (S l)) M1) (ndl : l.Nodup) (hz : l.length ≤ 100000) (hj : decide (j < ρ.length) = true := by rfl) (ok : blkC N sc scope [(fn, j)] = true := by decide +kernel) (nd : decide N.Nodup = true := by decide +kernel) (hc : chkL N (relS scope sc) (some scope) j fn = true := by decide +kernel) (hcv : chkV N (relS scope sc) j fn = true := by decide +kernel)
    (hf : glB sc "len" = true := by decide +kernel) (hfs : ∀ (env : PySem.Env) (x : Value), foldedSetIterable iter env x = pure x := by intro _ _; rfl)
    (hs : ∀ env : PySem.Env, starEach ((.DictComp (.Name fn pk) (.Constant (.bool true) jj pv) [⟨.Name fn pt, iter, [], 0⟩] scope pd) :: []) env = (false, eval (.DictComp (.Name fn pk) (.Constant (.bool true) jj pv) [⟨.Name fn pt, iter, [], 0⟩] scope pd) env) :: starEach [] env := by intro _; rfl) :
    EM ⟨g, k, N, sc, gd, bl⟩ ρ M (.Call (.Name "len" p) [.DictComp (.Name fn pk) (.Constant (.bool true) jj pv) [⟨.Name fn pt, iter, [], 0⟩] scope pd] [] pos) (.dat (.int l.length)) M1 :=
  ev_frz (ev_lenD (EV.imp (ev_dcS j h ndl hz ok nd hc hcv hj hfs) fun x M' ⟨q, hq, e1, e2⟩ => ⟨q, dcK l, e1, by rw [e2]; exact upd_same, M1, by rw [e2]; exact same_upd hq, by unfold dcK; rw [List.length_map], rfl⟩) hf hs)
end
end Wr
end
section
set_option maxRecDepth 100000
set_option maxHeartbeats 1000000
/-! Rules for what is drawn: wishes in the places of values. -/
namespace Wr
open PySem L2
section
variable {g : Gm} {k : Nat} {N : List Str} {sc : Scope} {gd : Bool} {bl : Option Scope} {c : Cs} {ρ ρ' : List (Option Sl)} {M M1 M2 M3 M' : Hp} {a b e f : Expr} {es : List Expr} {x y z : Sl} {xs : List Sl} {R : Wish} {pos p pt py : Pos} {I I2 F : Hp} {C : Addr} {Q : VK} {K : Kont} {rest : List Stmt} {tg iter : Expr} {q : Addr} {ds es' : List PyData} {d : PyData} {o o2 : HO}
/-! ### the well -/
structure WellOk (x y : Int) : Prop where
  x0 : 0 ≤ x
  y0 : 0 ≤ y
  y1 : y < 2147483563
def wellO (x y : Int) : HO := mL [.int x, .int y]
def WellIn (M : Hp) (a : Addr) : Prop := ∃ x y, WellOk x y ∧ M a = some (wellO x y)
def Wl (a : Addr) (M M' : Hp) : Prop := ∃ x y, WellOk x y ∧ M' = upd M a (wellO x y)
theorem Wl.trans {a : Addr} (h : Wl a M M1) (k : Wl a M1 M2) : Wl a M M2 := by
  obtain ⟨x, y, w, rfl⟩ := h
  obtain ⟨x', y', w', rfl⟩ := k
  exact ⟨x', y', w', by rw [upd_upd]⟩
theorem Wl.at_ {a : Addr} (h : Wl a M M1) : WellIn M1 a := by
  obtain ⟨x, y, w, rfl⟩ := h
  exact ⟨x, y, w, upd_same⟩
theorem WellIn.self {a : Addr} (h : WellIn M a) : Wl a M M := by
  obtain ⟨x, y, w, e⟩ := h
  refine ⟨x, y, w, ?_⟩
  funext b
  by_cases hb : b = a
  · subst hb
    rw [upd_same, e]
  · rw [upd_ne hb]
theorem Wl.ne {a b : Addr} (h : Wl a M M1) (hb : b ≠ a) : M1 b = M b := by
  obtain ⟨x, y, w, rfl⟩ := h
  exact upd_ne hb
theorem Wl.none {a b : Addr} (h : Wl a M M1) (hw : WellIn M a) (hb : M b = none) : M1 b = none := by
  have : b ≠ a := fun z => by
    obtain ⟨x, y, _, e⟩ := hw
    rw [z, e] at hb
    cases hb
  rw [h.ne this]
  exact hb
/-! ### calls, items, sums of two with a wish for a part -/
theorem ev_ixLE (ha : EM c ρ M a (.dat (.list ds)) M1) (hb : EV c ρ M1 b fun y M2 => ∃ i d, y = .dat (.int i) ∧ atI ds i = some d ∧ R (.dat d) M2) (hs : PlainIx b := by exact fun _ _ => rfl) : EV c ρ M (.Subscript a b pos) R := by
  intro X G σ I F en di Q hQ
  refine wp_pe (pe_ix ix_list pe_wp pe_wp hs) ?_
  refine em_bind ha G en di fun v I1 s1 d1 i1 => hb X G σ I1 F (en.mono s1) d1 _ fun u I2 y M2 ⟨i, d, e1, h, r⟩ s2 d2 i2 => ?_
  subst e1
  obtain ⟨p, xs, rfl, e1, f1⟩ := is_lst (i1.mono s2)
  obtain ⟨w, e2, f2⟩ := dats_atI f1 h
  exact ⟨p, xs, i, w, rfl, is_int i2, SqL.of (j3_I e1), e2, hQ _ I2 _ _ r (s1.trans s2) d2 f2⟩
theorem ev_ixSE {l : List Nat} (ha : EM c ρ M a (.dat (S l)) M1) (hb : EV c ρ M1 b fun y M2 => ∃ (i : Int) (n : Nat), y = .dat (.int i) ∧ atI l i = some n ∧ R (.dat (S [n])) M2) (hz : l.length ≤ 100000) (hs : PlainIx b := by exact fun _ _ => rfl) : EV c ρ M (.Subscript a b pos) R := by
  intro X G σ I F en di Q hQ
  refine wp_pe (pe_ix ix_str pe_wp pe_wp hs) ?_
  refine em_bind ha G en di fun v I1 s1 d1 i1 => hb X G σ I1 F (en.mono s1) d1 _ fun u I2 y M2 ⟨i, n, e1, h, r⟩ s2 d2 i2 => ?_
  subst e1
  exact ⟨sOf l, i, n, is_str (i1.mono s2), is_int i2, by rw [sOf_length]; exact Nat.le_trans hz (by decide), h, hQ _ I2 _ _ r (s1.trans s2) d2 (.str _)⟩
theorem ev_addE (ha : EV c ρ M a fun x M1 => ∃ i : Int, x = .dat (.int i) ∧ EV c ρ M1 b fun y M2 => ∃ j : Int, y = .dat (.int j) ∧ R (.dat (.int (i + j))) M2) : EV c ρ M (.BinOp a .Add b pos) R :=
  ev_opE (fun _ _ => op_add) (EV.imp ha fun x M1 ⟨i, e, h⟩ => EV.imp h fun y M2 ⟨j, e2, h2⟩ => by
    subst e e2
    exact fun X G I F v u d h1 h3 Q hQ => ⟨i, j, is_int h1, is_int h3, hQ.now h2 d (.int _)⟩)
theorem ev_subE (ha : EV c ρ M a fun x M1 => ∃ i : Int, x = .dat (.int i) ∧ EV c ρ M1 b fun y M2 => ∃ j : Int, y = .dat (.int j) ∧ R (.dat (.int (i - j))) M2) : EV c ρ M (.BinOp a .Sub b pos) R :=
  ev_opE (fun _ _ => op_sub) (EV.imp ha fun x M1 ⟨i, e, h⟩ => EV.imp h fun y M2 ⟨j, e2, h2⟩ => by
    subst e e2
    exact fun X G I F v u d h1 h3 Q hQ => ⟨i, j, is_int h1, is_int h3, hQ.now h2 d (.int _)⟩)
theorem ev_addSE (ha : EV c ρ M a fun x M1 => ∃ l : List Nat, x = .dat (S l) ∧ EV c ρ M1 b fun y M2 => ∃ m : List Nat, y = .dat (S m) ∧ l.length + m.length ≤ 100000 ∧ R (.dat (S (l ++ m))) M2) : EV c ρ M (.BinOp a .Add b pos) R :=
  ev_opE (fun _ _ => op_add_str) (EV.imp ha fun x M1 ⟨l, e, h⟩ => EV.imp h fun y M2 ⟨m, e2, hz, h2⟩ => by
    subst e e2
    exact fun X G I F v u d h1 h3 Q hQ => ⟨sOf l, sOf m, is_str h1, is_str h3, by rw [sOf_length, sOf_length]; exact Nat.le_trans hz (by decide), by
      rw [sOf_app]
      exact hQ.now h2 d (.str _)⟩)
/-- a def called, its arguments wished for -/
theorem ev_callV {T : Spec} {kf : Nat} {f : Str} (Fh : Fn g f kf T) (ha : AV ⟨g, k, N, sc, gd, bl⟩ ρ M (e :: es) fun xs M1 => T xs M1 R) (hk : kf ≤ k := by decide) (hf : glB sc f = true := by decide +kernel)
    (hs : ∀ env : PySem.Env, starEach (e :: es) env = (false, eval e env) :: starEach es env := by intro _; rfl) (hp : ∀ env : PySem.Env, (backTo pos (starEach es env)).any (·.1) = false := by intro _; rfl) : EV ⟨g, k, N, sc, gd, bl⟩ ρ M (.Call (.Name f p) (e :: es) [] pos) R := fun X G σ I F en di Q hQ => by
  obtain ⟨a, fd, ps, h1, h2, h3, h4⟩ := Fh.ex
  obtain ⟨g1, g2⟩ := G.gl hf
  refine wp_pe (pe_call (CX := CX0) (k := kf) (f := a) (fd := fd) (ps := ps) (sp := spT g.C T) (dvs := []) (ds := []) (E := E0) (by rw [G.prog, G.w, G.K, G.mg, G.base]; exact h1) (G.room.mono hk) g1 (by rw [G.mg]; exact h2) (by rw [G.K]; exact h3) (by rw [G.K]; exact h4) .nil pass0 pa_wp g2 (hs _) (hp _)) ?_
  refine ha X G σ I F en di _ fun vs I2 xs M1 hT s d i => ?_
  exact ⟨I2, M1, F, xs, R, rfl, d, by rw [List.append_nil]; exact i, hT, hQ.mono s⟩
/-- tuple(list) -/
theorem ev_tupleE (h : EV ⟨g, k, N, sc, gd, bl⟩ ρ M e fun x M1 => ∃ ds, x = .dat (.list ds) ∧ R (.dat (.tuple ds)) M1) (hf : glB sc "tuple" = true := by decide +kernel) (hs : ∀ env : PySem.Env, starEach (e :: []) env = (false, eval e env) :: starEach [] env := by intro _; rfl) (hp : ∀ env : PySem.Env, (backTo pos (starEach [] env)).any (·.1) = false := by intro _; rfl) : EV ⟨g, k, N, sc, gd, bl⟩ ρ M (.Call (.Name "tuple" p) [e] [] pos) R := fun X G σ I F en di Q hQ => by
  obtain ⟨h1, h2⟩ := G.gl hf
  refine wp_pe (pe_callTy call_tuple_of h1 (by rw [G.mg]; exact g.blt "tuple" (by decide +kernel)) (by decide +kernel : bootBuiltins "tuple" = some (.type "tuple")) (pa_cons pe_wp pa_nil (hs _)) (by decide +kernel) h2 (hs _) (hp _)) ?_
  refine h X G σ I F en di _ fun v I1 x M1 ⟨ds, e1, r⟩ s1 d1 i1 => ?_
  subst e1
  obtain ⟨q, ys, rfl, e1, f1⟩ := is_lst i1
  exact ⟨q, ys, rfl, .inl ⟨SqL.of (j3_I e1), gives_tup (hQ.mono s1) r d1 f1⟩⟩
/-- list(tuple) that will change, wished for -/
theorem ev_newListE (h : EV ⟨g, k, N, sc, gd, bl⟩ ρ M e fun x M1 => ∃ ds, x = .dat (.tuple ds) ∧ Flats ds ∧ ∀ p, M1 p = none → R (.raw (.ref p)) (upd M1 p (mL ds))) (hf : glB sc "list" = true := by decide +kernel) (hs : ∀ env : PySem.Env, starEach (e :: []) env = (false, eval e env) :: starEach [] env := by intro _; rfl) (hp : ∀ env : PySem.Env, (backTo pos (starEach [] env)).any (·.1) = false := by intro _; rfl) : EV ⟨g, k, N, sc, gd, bl⟩ ρ M (.Call (.Name "list" p) [e] [] pos) R := fun X G σ I F en di Q hQ => by
  obtain ⟨h1, h2⟩ := G.gl hf
  refine wp_pe (pe_callTy call_list_of h1 (by rw [G.mg]; exact g.blt "list" (by decide +kernel)) (by decide +kernel : bootBuiltins "list" = some (.type "list")) (pa_cons pe_wp pa_nil (hs _)) (by decide +kernel) h2 (hs _) (hp _)) ?_
  refine h X G σ I F en di _ fun v I1 x M1 ⟨ds, e1, hfl, r⟩ s1 d1 i1 => ?_
  subst e1
  obtain ⟨q, ys, rfl, e1, f1⟩ := is_tup i1
  have := flats_dat hfl f1
  subst this
  exact ⟨q, _, rfl, .inr (SqT.of (j3_I e1)), gives_new (hQ.mono s1) d1 r⟩
/-- a list written out that will change -/
theorem ev_newLst (h : AM c ρ M es (ds.map Sl.dat) M1) (hfl : Flats ds) (hz : ds.length ≤ 1000) : EV c ρ M (.List es pos) (newO (mL ds) M1) := fun X G σ I F en di Q hQ =>
  wp_pe (pe_lst pa_wp) (am_bind h G en di fun vs I1 s1 d1 i1 => by
    have hd := dats_of i1
    have := flats_dat hfl hd
    subst this
    exact ⟨by rw [List.length_map]; exact Nat.le_of_lt (small1000 hz), gives_new (hQ.mono s1) d1 fun p hp => ⟨p, hp, rfl, rfl⟩⟩)
/-! ### sources -/
theorem walk_r2 {lo : Int} {n : Nat} : WalkOk C (Itr lo n) ((List.range n).map fun i : Nat => Sl.dat (.int (lo + i))) I F := by
  refine ⟨fun i I2 M hi s d => by show i < n; simpa using hi, fun I2 M s d => by show n ≤ _; simp, fun i I2 M v H' dd s d hy hd => ?_⟩
  obtain ⟨rfl, rfl⟩ := hy
  refine ⟨I2, Same.refl I2, d, rfl, ?_⟩
  rw [List.getElem?_map] at hd
  by_cases hi : i < n
  · rw [List.getElem?_range hi] at hd
    have hd' : Sl.dat (.int (lo + (i : Int))) = dd := by simpa using hd
    subst hd'
    exact Dat.int _
  · rw [List.getElem?_eq_none (by simpa using hi)] at hd
    simp at hd
theorem src_r2 {n : Nat} (h1 : EM ⟨g, k, N, sc, gd, bl⟩ ρ M a (.dat (.int 1)) M1) (h2 : EM ⟨g, k, N, sc, gd, bl⟩ ρ M1 b (.dat (.int n)) M2) (hz : n ≤ 1000000) (hf : glB sc "range" = true := by decide +kernel) (hs : ∀ env : PySem.Env, starEach [a, b] env = [(false, eval a env), (false, eval b env)] := by intro _; rfl) (hs2 : ∀ env : PySem.Env, starEach [b] env = [(false, eval b env)] := by intro _; rfl)
    (hs3 : ∀ env : PySem.Env, starEach (a :: [b]) env = (false, eval a env) :: starEach [b] env := by intro _; rfl) (hs4 : ∀ env : PySem.Env, starEach (b :: []) env = (false, eval b env) :: starEach [] env := by intro _; rfl) :
    SrcD ⟨g, k, N, sc, gd, bl⟩ ρ M tg (.Call (.Name "range" p) [a, b] [] pos) ((List.range (n - 1)).map fun i : Nat => Sl.dat (.int (1 + i))) M2 := fun X G σ I F en di R hR => by
  obtain ⟨g1, _⟩ := G.gl hf
  refine wp_pi (pi_range2 g1 (by rw [G.mg]; exact g.blt _ (by decide +kernel)) (pa_cons pe_wp (pa_cons pe_wp pa_nil (hs4 _)) (hs3 _)) (hs _) (hs2 _)) ?_
  refine em_bind h1 G en di fun v I2 s d i => em_bind h2 G (en.mono s) d fun u I3 s3 d3 i3 => ?_
  refine ⟨1, (n : Int), by rw [is_int i, is_int i3], ⟨by omega, by omega, by omega, by omega⟩, ?_⟩
  have e : ((n : Int) - 1).toNat = n - 1 := by omega
  rw [e]
  exact hR _ I3 (s.trans s3) d3 fun F' => walk_r2
/-- a walked source that is wished for -/
def SrcV (c : Cs) (ρ : List (Option Sl)) (M : Hp) (tg iter : Expr) (P : List Sl → Hp → Prop) : Prop :=
  ∀ X, Good c X → ∀ (σ : L2.St) (I F : Hp), En c.g.C I σ ρ → Ds I M F → ∀ R : It → Hp → Prop, (∀ J I2 ds M1, P ds M1 → Same I I2 → Ds I2 M1 F → (∀ F', WalkOk c.g.C J ds I2 F') → R J (J3 I2 M1 F)) → wpI X tg iter σ (J3 I M F) R
theorem SrcD.v {ds : List Sl} {P : List Sl → Hp → Prop} (h : SrcD c ρ M tg iter ds M1) (hp : P ds M1) : SrcV c ρ M tg iter P := fun X G σ I F en di R hR => h X G σ I F en di R fun J I2 s d w => hR J I2 ds M1 hp s d w
theorem src_rV {P : List Sl → Hp → Prop} (h : EV ⟨g, k, N, sc, gd, bl⟩ ρ M e fun x M1 => ∃ n : Nat, x = .dat (.int n) ∧ n ≤ 1000000 ∧ P ((List.range n).map fun i : Nat => Sl.dat (.int i)) M1) (hf : glB sc "range" = true := by decide +kernel) (hs : ∀ env : PySem.Env, starEach [e] env = [(false, eval e env)] := by intro _; rfl) (hs2 : ∀ env : PySem.Env, starEach (e :: []) env = (false, eval e env) :: starEach [] env := by intro _; rfl) :
    SrcV ⟨g, k, N, sc, gd, bl⟩ ρ M tg (.Call (.Name "range" p) [e] [] pos) P := fun X G σ I F en di R hR => by
  obtain ⟨h1, _⟩ := G.gl hf
  refine wp_pi (pi_range1 h1 (by rw [G.mg]; exact g.blt _ (by decide +kernel)) (pa_cons pe_wp pa_nil (hs2 _)) (hs _)) ?_
  refine h X G σ I F en di _ fun v I2 x M1 ⟨n, e1, hz, hp⟩ s d i => ?_
  subst e1
  refine ⟨(n : Int), by rw [is_int i], by omega, by omega, ?_⟩
  exact hR _ I2 _ M1 hp s d fun F' => walk_r
/-- what a loop asks -/
structure LoopOk (c : Cs) (ρ : List (Option Sl)) (M1 : Hp) (tg : Expr) (ds : List Sl) (body : List Stmt) (K : Kont) : Prop where
  ex : ∃ (js : List Nat) (J : Nat → List (Option Sl) → Hp → Prop), J 0 ρ M1 ∧ (∀ i d ρ' M', ds[i]? = some d → J i ρ' M' → ∃ ρ2, TgD c tg d js ρ' ρ2 ∧ BD c ρ2 M' body { nx := J (i + 1), ct := J (i + 1), bk := K.nx, rt := K.rt }) ∧ ∀ ρ' M', J ds.length ρ' M' → K.nx ρ' M'
theorem sd_forV {P : List Sl → Hp → Prop} {body : List Stmt} (src : SrcV c ρ M tg iter P) (hp : ∀ ds M1, P ds M1 → LoopOk c ρ M1 tg ds body K) (hfs : ∀ (env : PySem.Env) (x : Value), foldedSetIterable iter env x = pure x := by intro _ _; rfl) : SD c ρ M (.For tg iter body [] pos) K := fun X G σ I F D en di kk => by
  have hpo : PassesOwn (model X.prog X.w) X.A X.env X.xe := by
    rw [G.xe]
    exact PassesOwn.never
  refine wp_ps (ps_for hpo G.calm pi_wp pg_wp pss_wp (fun x => hfs _ x)) ?_
  refine src X G σ I F en di _ fun It I1 ds M1 hP s1 d1 wk => ?_
  obtain ⟨js, J, h0, hs, hd⟩ := (hp ds M1 hP).ex
  refine ⟨fun i m σ H => m = ds.length - i ∧ i ≤ ds.length ∧ ∃ I2 ρ' M', H = J3 I2 M' F ∧ Same I1 I2 ∧ En c.g.C I2 σ ρ' ∧ Ds I2 M' F ∧ J i ρ' M', ⟨ds.length, by simp, Nat.zero_le _, I1, ρ, M1, rfl, Same.refl I1, en.mono s1, d1, h0⟩, ?_⟩
  rintro i m σ' H ⟨rfl, hi, I2, ρ', M', rfl, s2, en2, d2, hJ⟩
  by_cases hlt : i < ds.length
  · obtain ⟨d, hdd⟩ : ∃ d, ds[i]? = some d := ⟨_, List.getElem?_eq_getElem hlt⟩
    obtain ⟨ρ2, ht, hb⟩ := hs i d ρ' M' hdd hJ
    refine .inr ⟨(wk F).go i I2 M' hlt s2 d2, fun σ3 H3 => ∃ I3 ρ3 M3, H3 = J3 I3 M3 F ∧ Same I1 I3 ∧ En c.g.C I3 σ3 ρ3 ∧ Ds I3 M3 F ∧ J (i + 1) ρ3 M3, fun σ3 H3 q => ⟨ds.length - (i + 1), by omega, rfl, hlt, q⟩, fun v H' hy => ?_⟩
    obtain ⟨I3, s3, d3, rfl, i3⟩ := (wk F).yld i I2 M' v H' d s2 d2 hy hdd
    refine ht X G σ' I3 M' F v (en2.mono s3) d3 i3 _ fun σ4 en4 _ _ => ?_
    refine hb X G σ4 I3 F _ en4 d3 ?_
    exact ⟨fun σ5 I5 ρ5 M5 h5 s5 en5 d5 => ⟨I5, ρ5, M5, rfl, (s2.trans s3).trans s5, en5, d5, h5⟩, kk.rt.mono (((s1.trans s2)).trans s3), fun σ5 I5 ρ5 M5 h5 s5 en5 d5 => kk.nx σ5 I5 ρ5 M5 h5 (((s1.trans s2).trans s3).trans s5) en5 d5,
      fun σ5 I5 ρ5 M5 h5 s5 en5 d5 => ⟨I5, ρ5, M5, rfl, (s2.trans s3).trans s5, en5, d5, h5⟩⟩
  · have e : i = ds.length := by omega
    subst e
    exact .inl ⟨(wk F).stop I2 M' s2 d2, kk.nx σ' I2 ρ' M' (hd ρ' M' hJ) (s1.trans s2) en2 d2⟩
/-! ### xs[i], name = a pair -/
theorem bd_subName {i : Nat} (j : Nat) {f2 : Str} {p1 p2 : Pos} {kt : Nat} {d1 d2 : PyData} (he : EM ⟨g, k, N, sc, gd, bl⟩ ρ M e (.dat (.tuple [d1, d2])) M1) (hd : flatD d1 = true) (hm : M1 q = some (mL ds)) (hi : i < ds.length) (ha : ∀ M, EM ⟨g, k, N, sc, gd, bl⟩ ρ M a (.raw (.ref q)) M) (hb : ∀ M, EM ⟨g, k, N, sc, gd, bl⟩ ρ M b (.dat (.int i)) M)
    (hk : BD ⟨g, k, N, sc, gd, bl⟩ (ρ.set j (some (.dat d2))) (upd M1 q (mL (ds.set i d1))) rest K) (hc2 : chkL N sc bl j f2 = true := by decide +kernel)
    (hs : ∀ (env : PySem.Env) v, assign (.Subscript a b p1) env v = (do
      let ov ← holding [v] (eval a env)
      let iv ← holding [v, ov] (eval b env)
      standAt p1
      holding [v, ov, iv] (setItem ov iv v)
      release [v, ov, iv] []) := by intro _ _; rfl)
    (hst : ∀ env : PySem.Env, (assignEach [.Subscript a b p1, .Name f2 p2] env).map (·.2) = assign (.Subscript a b p1) env :: (assignEach [.Name f2 p2] env).map (·.2) := by intro _; rfl) (hn : ∀ env : PySem.Env, (assignEach [.Subscript a b p1, .Name f2 p2] env).length = 2 := by intro _; rfl) (hfi : ∀ env : PySem.Env, (assignEach [.Subscript a b p1, .Name f2 p2] env).findIdx? (·.1) = none := by intro _; rfl)
    (hsw : ∀ env : PySem.Env, env.scope = sc → swapsWithSole [.Tuple [.Subscript a b p1, .Name f2 p2] kt pt] e pos.line env = pure false := by intro env h; cases env; cases h; rfl) (hw : ∀ env : PySem.Env, env.scope = sc → swappedStores [.Tuple [.Subscript a b p1, .Name f2 p2] kt pt] e env = pure none := by intro env h; cases env; cases h; rfl) :
    BD ⟨g, k, N, sc, gd, bl⟩ ρ M (.Assign [.Tuple [.Subscript a b p1, .Name f2 p2] kt pt] e pos :: rest) K := bd_cons fun X G σ I F D en di kk => by
  have L2 := G.loc hc2
  refine wp_ps (ps_asg pe_wp (pg_tup (n := 2) G.calm (pgs_cons (t := wpG X (.Subscript a b p1)) pg_wp (pgs_cons (pg_name L2.nd L2.hN L2.hx L2.hf) pgs_nil) (hst _)) (hn _) (hfi _)) (hsw _ G.sc) (hw _ G.sc) rfl) (em_bind he G en di fun v I1 s1 dd1 i1 => ?_)
  obtain ⟨t, ys, rfl, e1, f1⟩ := is_tup i1
  cases f1 with
  | cons h1 h2 =>
    cases h2 with
    | cons h2 h3 =>
      cases h3
      refine ⟨t, _, rfl, SqT.of (j3_I e1), rfl, _, _, rfl, ?_⟩
      refine tg_setM ha hb hm hi hd hs G (en.mono s1) dd1 h1 fun I3 s3 d3 => ⟨_, _, rfl, rfl, ?_⟩
      exact kk.nx _ I3 _ _ hk (s1.trans s3) (((en.mono s1).mono s3).set (x := .dat d2) (Dat.mono s3 _ _ h2)) d3
end
end Wr
end
section
set_option maxRecDepth 100000
set_option maxHeartbeats 1000000
/-! More rules for what is drawn: a cut, sorted, joined; perms of texts. -/
namespace Wr
open PySem L2
section
variable {g : Gm} {k : Nat} {N : List Str} {sc : Scope} {gd : Bool} {bl : Option Scope} {c : Cs} {ρ ρ' : List (Option Sl)} {M M1 M2 M3 M' : Hp} {a b e f : Expr} {es : List Expr} {x y z : Sl} {xs : List Sl} {R : Wish} {pos p pt py : Pos} {I I2 F : Hp} {C : Addr} {Q : VK} {K : Kont} {rest : List Stmt} {tg iter : Expr} {q : Addr} {ds es' : List PyData} {d : PyData} {o o2 : HO}
theorem ev_slLE {lo hi : Option Expr} {i j : Option Int} {p2 : Pos} (ha : EV c ρ M a fun x M1 => ∃ ds, x = .dat (.list ds) ∧ OM c ρ M1 lo i ∧ OM c ρ M1 hi j ∧ R (.dat (.list (cutD ds i j))) M1) : EV c ρ M (.Subscript a (.Slice lo hi none p2) pos) R := fun X G σ I F en di Q hQ =>
  wp_pe (pe_slice sl_list pe_wp po_wp po_wp) (ha X G σ I F en di _ fun v I1 x M1 ⟨ds, e1, hl, hh, r⟩ s1 d1 i1 => hl X G σ I1 F (en.mono s1) d1 _ fun I2 s2 d2 => hh X G σ I2 F (en.mono (s1.trans s2)) d2 _ fun I3 s3 d3 => by
    subst e1
    obtain ⟨q, ys, rfl, e1, f1⟩ := is_lst (i1.mono (s2.trans s3))
    exact ⟨q, ys, rfl, SqL.of (j3_I e1), gives_lst (hQ.mono ((s1.trans s2).trans s3)) r d3 (dats_cut f1 _ _)⟩)
theorem ev_callBE {id : String} {r : Cx → List V → Hp → VK → Prop} {f : Str} (hc : ∀ X, Good c X → CallR X (.builtin id) (r X)) (ha : EV c ρ M e fun x M1 => CD c r [x] M1 R)
    (hf : glB c.sc f = true) (hb : f ∈ bltNames := by decide +kernel) (hv : bootBuiltins f = some (.builtin id) := by decide +kernel) (hn : f ≠ "__name__" := by decide +kernel)
    (hs : ∀ env : PySem.Env, starEach (e :: []) env = (false, eval e env) :: starEach [] env := by intro _; rfl) (hp : ∀ env : PySem.Env, (backTo pos (starEach [] env)).any (·.1) = false := by intro _; rfl) : EV c ρ M (.Call (.Name f p) [e] [] pos) R := by
  intro X G σ I F en di Q hQ
  obtain ⟨h1, h2⟩ := G.gl hf
  refine wp_pe (pe_callB (hc X G) h1 (by rw [G.mg]; exact c.g.blt f hb) hv (pa_cons pe_wp pa_nil (hs _)) hn h2 (hs _) (hp _)) ?_
  exact ha X G σ I F en di _ fun v I2 x M2 r s d i => r X G I2 F [v] d (.cons i .nil) Q (hQ.mono s)
theorem ev_sortLSE (ha : EV ⟨g, k, N, sc, gd, bl⟩ ρ M e fun x M1 => ∃ ls : List (List Nat), x = .dat (.list (ls.map S)) ∧ R (.dat (.list ((srtS ls).map S))) M1) (hf : glB sc "sorted" = true := by decide +kernel) (hs : ∀ env : PySem.Env, starEach (e :: []) env = (false, eval e env) :: starEach [] env := by intro _; rfl) : EV ⟨g, k, N, sc, gd, bl⟩ ρ M (.Call (.Name "sorted" p) [e] [] pos) R :=
  ev_callBE (r := fun _ => rSrtD) (fun _ G => cr_sortedDat G.hu) (EV.imp ha fun x M1 ⟨ls, e1, r⟩ => by
    subst e1
    intro X G I F vs d i Q hQ
    obtain ⟨v, rfl, h⟩ := is1 i
    obtain ⟨q, ys, rfl, e1, f1⟩ := is_lst h
    rw [← sortD_S] at r
    exact ⟨I, q, ys, _, same_j3, rfl, e1, f1, PySem.W.AllAlike.of fun b b' => by simp [PySem.W.alike], PySem.W.Sortable.others fun b => ⟨by simp, by simp⟩, by rw [map_S, depth_strs]; omega, fun p zs hz hp => gives_lst hQ r d hz p hp⟩) hf (hs := hs)
theorem ev_joinE {apos : Pos} (ha : EM c ρ M a (.dat (S [])) M1) (hb : EV c ρ M1 b fun x M2 => ∃ ls : List (List Nat), x = .dat (.list (ls.map S)) ∧ (ls.map List.length).sum ≤ 100000 ∧ R (.dat (S ls.flatten)) M2) (hs : ∀ env : PySem.Env, starEach [b] env = [(false, eval b env)] := by intro _; rfl) (hbase : ∀ env : PySem.Env, attributeBase a "join" env (eval a env) = eval a env := by intro _; rfl)
    (hline : (apos.endLine == pos.line) = true := by rfl) : EV c ρ M (.Call (.Attribute a "join" apos) [b] [] pos) R := fun X G σ I F en di Q hQ =>
  wp_pe (pe_join pe_wp pe_wp (hs _) (hbase _) hline) (em_bind ha G en di fun v I1 s1 d1 i1 => ⟨⟨_, is_str i1⟩, hb X G σ I1 F (en.mono s1) d1 _ fun u I2 x M2 ⟨ls, e1, hz, r⟩ s2 d2 i2 => by
    subst e1
    obtain ⟨q, ys, rfl, e1, f1⟩ := is_lst i2
    rw [map_S] at f1
    have := f1.strs
    subst this
    refine ⟨sOf [], q, ls.map sOf, is_str (i1.mono s2), rfl, .inl (SqL.of (j3_I e1)), ?_, ?_⟩
    · have e2 : ((ls.map sOf).map fun y => y.length) = ls.map List.length := by rw [List.map_map]; exact List.map_congr_left fun l _ => sOf_length l
      rw [e2, sOf_length]
      simp
      omega
    · rw [join_flat]
      exact hQ _ I2 _ M2 r (s1.trans s2) d2 (.str _)⟩)
theorem ev_tupV {es : List Expr} {x1} (h : AV c ρ M es fun xs M1 => ∃ ds, xs = ds.map Sl.dat ∧ ds.length ≤ 1000 ∧ R (.dat (.tuple ds)) M1) : EV c ρ M (.Tuple es x1 pos) R := fun X G σ I F en di Q hQ =>
  wp_pe (pe_tup pa_wp) (h X G σ I F en di _ fun vs I1 xs M1 ⟨ds, e1, hz, r⟩ s1 d1 i1 => by
    subst e1
    exact ⟨by rw [(dats_of i1).length]; exact Nat.le_of_lt (small1000 hz), gives_tup (hQ.mono s1) r d1 (dats_of i1)⟩)
/-! ### plain -/
theorem cut_take {α : Type} (xs : List α) (n : Nat) : cutD xs none (some (n : Int)) = xs.take n := by
  unfold cutD
  have h1 : HT.sIx xs.length 0 none = 0 := rfl
  have h2 : HT.sIx xs.length xs.length (some (n : Int)) = min n xs.length := by
    unfold HT.sIx
    simp only
    rw [if_neg (by omega)]
    simp
  rw [h1, h2, List.drop_zero, Nat.sub_zero]
  rcases Nat.le_total n xs.length with h | h
  · rw [Nat.min_eq_left h]
  · rw [Nat.min_eq_right h, List.take_of_length_le (Nat.le_refl _), List.take_of_length_le h]
theorem perm_map_of {α β : Type} {f : α → β} {es m : List β} (h : es.Perm m) : ∀ l : List α, m = l.map f → ∃ l' : List α, l'.Perm l ∧ es = l'.map f := by
  induction h with
  | nil => exact fun l e => ⟨[], (by cases l with
    | nil => exact List.Perm.refl _
    | cons => cases e), rfl⟩
  | cons x h ih =>
    intro l e
    cases l with
    | nil => cases e
    | cons y l =>
      cases e
      obtain ⟨l', h1, h2⟩ := ih l rfl
      exact ⟨y :: l', h1.cons y, by rw [h2]; rfl⟩
  | swap x y l0 =>
    intro l e
    cases l with
    | nil => cases e
    | cons u l =>
      cases l with
      | nil => cases e
      | cons v l =>
        cases e
        exact ⟨v :: u :: l, List.Perm.swap u v l, rfl⟩
  | trans h1 h2 ih1 ih2 =>
    intro l e
    obtain ⟨l', k1, k2⟩ := ih2 l e
    obtain ⟨l'', k3, k4⟩ := ih1 l' k2
    exact ⟨l'', k3.trans k1, k4⟩
theorem one_le {a b : Nat} : ([a] : List Nat) ≤ [b] ↔ a ≤ b := by
  constructor
  · intro h
    rcases Nat.lt_or_ge b a with q | q
    · exact absurd (List.Lex.rel q) h
    · exact q
  · intro h
    show ¬ List.Lex _ _ _
    intro q
    cases q with
    | rel q => omega
    | cons q => cases q
theorem srtS_ones {l : List Nat} (hn : l.Nodup) : ∃ m : List Nat, m.Perm l ∧ m.Pairwise (· < ·) ∧ srtS (l.map fun c => [c]) = m.map fun c => [c] := by
  have hp : (srtS (l.map fun c => [c])).Perm (l.map fun c => [c]) := List.mergeSort_perm _ _
  have hs : (srtS (l.map fun c => [c])).Pairwise fun a b => decide (a ≤ b) = true := List.pairwise_mergeSort (le := fun a b : List Nat => decide (a ≤ b)) (fun (a b c : List Nat) h1 h2 => decide_eq_true (List.le_trans (α := Nat) (of_decide_eq_true h1) (of_decide_eq_true h2))) (fun (a b : List Nat) => by
    rcases List.le_total (α := Nat) a b with q | q
    · simp [q]
    · simp [q]) _
  obtain ⟨m, h1, h2⟩ := perm_map_of hp l rfl
  refine ⟨m, h1, ?_, h2⟩
  rw [h2, List.pairwise_map] at hs
  have hnd : m.Nodup := h1.nodup_iff.mpr hn
  exact (hs.and hnd).imp fun ⟨q1, q2⟩ => by
    have := one_le.mp (of_decide_eq_true q1)
    omega
theorem flat_ones (m : List Nat) : (m.map fun c => [c]).flatten = m := by
  induction m with
  | nil => rfl
  | cons x m ih => rw [List.map_cons, List.flatten_cons, ih]; rfl
end
end Wr
end
section
set_option maxRecDepth 100000
set_option maxHeartbeats 1000000
/-! The text by places; the first defs. -/
namespace Wr
open PySem L2
def topS (i : Nat) : Stmt := PySem.Challenge.pw_webreckon_k40_whole_lasting_heaps.main.body.getD i (.Pass ⟨0, 0, 0, 0⟩)
def clsBody : Stmt → List Stmt
  | .ClassDef (body := b) .. => b
  | _ => []
def webS (i : Nat) : Stmt := (clsBody (topS 24)).getD i (.Pass ⟨0, 0, 0, 0⟩)
structure Fs (g : Gm) : Prop where
  is_integer : FunAt g "is_integer" (topS 16)
  is_between : FunAt g "is_between" (topS 17)
  are_letters : FunAt g "are_letters" (topS 20)
  are_places : FunAt g "are_places" (topS 21)
  is_tie : FunAt g "is_tie" (topS 22)
  wrong_tie : FunAt g "wrong_tie" (topS 23)
  init : ∃ f fd, Fun g.K "__init__" "Web.__init__" (webS 0) f fd ∧ Mk g.K g.C f
  len : ∃ fd, Fun g.K "__len__" "Web.__len__" (webS 2) g.fLen fd
  check_web : FunAt g "check_web" (topS 25)
  is_place : FunAt g "is_place" (topS 26)
  check_place : FunAt g "check_place" (topS 27)
  herds_of : FunAt g "herds_of" (topS 28)
  is_one : FunAt g "is_one" (topS 29)
  every_tie : FunAt g "every_tie" (topS 31)
  ties_of : FunAt g "ties_of" (topS 32)
  pieces_of : FunAt g "pieces_of" (topS 33)
  rank_of : FunAt g "rank_of" (topS 34)
  spare_of : FunAt g "spare_of" (topS 35)
  is_free_lot : FunAt g "is_free_lot" (topS 36)
  every_lot : FunAt g "every_lot" (topS 37)
  every_tree : FunAt g "every_tree" (topS 38)
  check_heap : FunAt g "check_heap" (topS 40)
  check_heaped : FunAt g "check_heaped" (topS 41)
  ties_at : FunAt g "ties_at" (topS 42)
  burnt : FunAt g "burnt" (topS 43)
  check_both : FunAt g "check_both" (topS 44)
  is_rich : FunAt g "is_rich" (topS 45)
  check_rich : FunAt g "check_rich" (topS 46)
  lit_by : FunAt g "lit_by" (topS 47)
  bare : FunAt g "bare" (topS 49)
  mirrored : FunAt g "mirrored" (topS 50)
  does_last : FunAt g "does_last" (topS 51)
  is_lasting : FunAt g "is_lasting" (topS 52)
  check_bank : FunAt g "check_bank" (topS 53)
  lasting_heaps : FunAt g "lasting_heaps" (topS 54)
  check_lasting : FunAt g "check_lasting" (topS 55)
  level_of : FunAt g "level_of" (topS 56)
  level : FunAt g "level" (topS 57)
  law_well : FunAt g "_law_well" (topS 59)
  law_dip : FunAt g "_law_dip" (topS 60)
  law_one_of : FunAt g "_law_one_of" (topS 61)
  law_mixed : FunAt g "_law_mixed" (topS 62)
  law_net : FunAt g "_law_net" (topS 63)
  law_at : FunAt g "_law_at" (topS 64)
  law_shared : FunAt g "_law_shared" (topS 65)
  law_given : FunAt g "_law_given" (topS 66)
  law_herds : FunAt g "_law_herds" (topS 67)
  law_is_low : FunAt g "_law_is_low" (topS 68)
  law_settled : FunAt g "_law_settled" (topS 69)
  law_bare : FunAt g "_law_bare" (topS 70)
  law_lasts : FunAt g "_law_lasts" (topS 71)
  law_stays : FunAt g "_law_stays" (topS 72)
  law_pile : FunAt g "_law_pile" (topS 73)
  law_joined : FunAt g "_law_joined" (topS 74)
  law_trees : FunAt g "_law_trees" (topS 75)
  law_late : FunAt g "_law_late" (topS 76)
  law_right : FunAt g "_law_right" (topS 77)
section
variable {g : Gm}
section
variable {k : Nat} {N : List Str} {sc : Scope} {gd : Bool} {bl : Option Scope} {ρ : List (Option Sl)} {M M1 M2 : Hp} {a b : Expr} {pos p pt : Pos}
theorem em_ty {f : Str} (T : String) (hf : glB sc f = true := by decide +kernel) (hb : f ∈ bltNames := by decide +kernel) (hv : bootBuiltins f = some (.type T) := by decide +kernel) (hn : f ≠ "__name__" := by decide +kernel) : EM ⟨g, k, N, sc, gd, bl⟩ ρ M (.Name f pos) (.raw (.ty T)) M := em_bty T hf hb hv hn
theorem em_isT {d : PyData} {T : String} {t : Bool} (s : String) (ha : EM ⟨g, k, N, sc, gd, bl⟩ ρ M a (.dat d) M1) (hb : EM ⟨g, k, N, sc, gd, bl⟩ ρ M1 b (.raw (.ty T)) M2) (hd : tyOfD d = s := by rfl) (h : kitB s T = some t := by decide +kernel)
    (hf : glB sc "isinstance" = true := by decide +kernel) (hs : ∀ env : PySem.Env, starEach (a :: [b]) env = (false, eval a env) :: starEach [b] env := by intro _; rfl) (hs2 : ∀ env : PySem.Env, starEach (b :: []) env = (false, eval b env) :: starEach [] env := by intro _; rfl)
    (hp : ∀ env : PySem.Env, (backTo pos (starEach [b] env)).any (·.1) = false := by intro _; rfl) : EM ⟨g, k, N, sc, gd, bl⟩ ρ M (.Call (.Name "isinstance" p) [a, b] [] pos) (.dat (.bool t)) M2 := em_isi ha hb (by rw [hd]; exact h) hf hs hs2 hp
end
/-! ### is_integer, is_between -/
def T_isInt : Spec := fun xs M R => ∃ i, xs = [.dat (.int i)] ∧ R (.dat (.bool true)) M
theorem sc_isInt : FnScope ["value"] ["value"] (defScope (topS 16)) := ⟨rfl, rfl, rfl, by decide +kernel, rfl, by decide +kernel, by decide +kernel⟩
theorem fn_isInt (F : Fs g) : Fn g "is_integer" 1 T_isInt :=
  fn_ok F.is_integer sc_isInt (fun _ _ _ _ _ _ us hl => match us, hl with | [_], _ => rfl) fun xs M R h => by
    obtain ⟨i, rfl, hR⟩ := h
    refine ⟨rfl, ?_⟩
    exact bd_ret (EM.to (em_and (em_isT (t := true) "int" (em_var 0) (em_ty "int")) fun _ => em_not (em_isT (t := false) "int" (em_var 0) (em_ty "bool"))) hR)
def T_btw : Spec := fun xs M R => ∃ v l m, xs = [.dat (.int v), .dat (.int l), .dat (.int m)] ∧ R (.dat (.bool (decide (l ≤ v) && decide (v ≤ m)))) M
theorem sc_btw : FnScope ["value", "least", "most"] ["value", "least", "most"] (defScope (topS 17)) := ⟨rfl, rfl, rfl, by decide +kernel, rfl, by decide +kernel, by decide +kernel⟩
theorem fn_btw (F : Fs g) : Fn g "is_between" 2 T_btw :=
  fn_ok F.is_between sc_btw (fun _ _ _ _ _ _ us hl => match us, hl with | [_, _, _], _ => rfl) fun xs M R h => by
    obtain ⟨v, l, m, rfl, hR⟩ := h
    refine ⟨rfl, ?_⟩
    exact bd_ret (EM.to (em_and (ev_call (fn_isInt F) (am_one (em_var 0)) ⟨_, rfl, only_self⟩) fun _ => em_lele (em_var 1) (em_var 0) (em_var 2)) hR)
/-! ### are_letters, are_places, is_tie, wrong_tie -/
def OkL (l : List Nat) : Prop := l.Nodup ∧ l.length ≤ 7 ∧ ∀ c ∈ l, 97 ≤ c ∧ c ≤ 104
def T_letters : Spec := fun xs M R => ∃ l, xs = [.dat (S l)] ∧ OkL l ∧ R (.dat (.bool true)) M
theorem sc_letters : FnScope ["value", "letter"] ["value"] (defScope (topS 20)) := ⟨rfl, rfl, rfl, by decide +kernel, rfl, by decide +kernel, by decide +kernel⟩
theorem fn_letters (F : Fs g) : Fn g "are_letters" 1 T_letters :=
  fn_ok F.are_letters sc_letters (fun _ _ _ _ _ _ us hl => match us, hl with | [_], _ => rfl) fun xs M R h => by
    obtain ⟨l, rfl, ⟨nd, hz, hl⟩, hR⟩ := h
    refine ⟨rfl, ?_⟩
    refine bd_pass (TM.is (tm_or (tm_not (tm_val (em_isT (t := true) "str" (em_var 0) (em_ty "str")))) fun _ => tm_neI (em_lenDC 1 (em_var 0) nd (by omega)) (em_lenS (em_var 0) (by omega))) (by simp)) ?_
    obtain ⟨t, hm⟩ := g.mL
    refine bd_ret (EM.to (em_all (bs := l.map fun n => decide (n ∈ [97, 98, 99, 100, 101, 102, 103, 104])) (EM.is (em_lc1n (r := fun n => .bool (decide (n ∈ [97, 98, 99, 100, 101, 102, 103, 104]))) 1 (src_s (em_var 0)) (fun n _ => em_in1 (em_var 1) (EM.is (em_globS hm) rfl)) (by omega)) (by rw [List.map_map]; rfl))) ?_)
    have e : ((l.map fun n => decide (n ∈ [97, 98, 99, 100, 101, 102, 103, 104])).all id) = true := by
      rw [List.all_map, List.all_eq_true]
      intro n hn
      have := hl n hn
      show decide _ = true
      apply decide_eq_true
      simp
      omega
    rw [e]
    exact hR
theorem srtN_asc {l : List Nat} (h : l.Pairwise (· < ·)) : srtN l = l := by
  unfold srtN
  refine List.mergeSort_of_pairwise (h.imp fun {a b} q => ?_)
  exact decide_eq_true (by omega)
theorem nodup_asc {l : List Nat} (h : l.Pairwise (· < ·)) : l.Nodup := h.imp fun {a b} q => Nat.ne_of_lt q
theorem WOk.okL {pl : List Nat} {ts : List (Nat × Nat)} (w : WOk pl ts) : OkL pl := ⟨nodup_asc w.asc, by have := w.few; omega, w.let_⟩
theorem map_S1 (l : List Nat) : (l.map fun c => S [c]) = (l.map fun c => [c]).map S := by rw [List.map_map]; rfl
def T_places : Spec := fun xs M R => ∃ l, xs = [.dat (S l)] ∧ OkL l ∧ l.Pairwise (· < ·) ∧ 1 ≤ l.length ∧ R (.dat (.bool true)) M
theorem sc_places : FnScope ["value"] ["value"] (defScope (topS 21)) := ⟨rfl, rfl, rfl, by decide +kernel, rfl, by decide +kernel, by decide +kernel⟩
theorem fn_places (F : Fs g) : Fn g "are_places" 2 T_places :=
  fn_ok F.are_places sc_places (fun _ _ _ _ _ _ us hl => match us, hl with | [_], _ => rfl) fun xs M R h => by
    obtain ⟨l, rfl, hok, ha, hp, hR⟩ := h
    obtain ⟨nd, hz, hl⟩ := id hok
    refine ⟨rfl, ?_⟩
    obtain ⟨t, hm⟩ := g.mP
    have hs : SeqAt.shaped (.list (l.map fun c => S [c])) = true := by
      rw [map_S1]
      refine shaped_lS _ fun m hmm c hc => ?_
      obtain ⟨d, hd, rfl⟩ := List.mem_map.mp hmm
      have := hl d hd
      have := List.mem_singleton.mp hc
      omega
    refine bd_ret (EM.to (em_and3 (u := true) (ev_call (fn_letters F) (am_one (em_var 0)) ⟨l, rfl, hok, only_self⟩) (fun _ => em_ltle (i := 0) em_int (em_lenS (em_var 0) (by omega)) (em_globI hm)) fun _ _ => em_eqD (em_listS (em_var 0) (by omega)) (EM.is (em_sortStr (em_var 0) (by omega)) (by rw [srtN_asc ha])) hs hs (by rw [map_S1, eqv_lS]; simp)) ?_)
    have e : (true && ((decide ((0 : Int) < (l.length : Int)) && decide ((l.length : Int) ≤ 7)) && true)) = true := by
      have h1 : (0 : Int) < (l.length : Int) := by omega
      have h2 : (l.length : Int) ≤ 7 := by omega
      rw [decide_eq_true h1, decide_eq_true h2]
      rfl
    rw [e]
    exact hR
def T_tie : Spec := fun xs M R => ∃ pl a b, xs = [.dat (S pl), .dat (S [a, b])] ∧ pl.length ≤ 7 ∧ a ∈ pl ∧ b ∈ pl ∧ a ≤ b ∧ R (.dat (.bool true)) M
theorem sc_tie : FnScope ["places", "value"] ["places", "value"] (defScope (topS 22)) := ⟨rfl, rfl, rfl, by decide +kernel, rfl, by decide +kernel, by decide +kernel⟩
theorem fn_tie (F : Fs g) : Fn g "is_tie" 1 T_tie :=
  fn_ok F.is_tie sc_tie (fun _ _ _ _ _ _ us hl => match us, hl with | [_, _], _ => rfl) fun xs M R h => by
    obtain ⟨pl, a, b, rfl, hz, ha, hb, hab, hR⟩ := h
    refine ⟨rfl, ?_⟩
    refine bd_pass (TM.is (tm_or (tm_not (tm_val (em_isT (t := true) "str" (em_var 1) (em_ty "str")))) fun _ => tm_neI (em_lenS (em_var 1) (by show 2 ≤ 100000; decide)) em_int) (by rfl)) ?_
    refine bd_ret (EM.to (em_and3 (em_in1 (em_ixS (em_var 1) em_int rfl (by show 2 ≤ 100000; decide)) (em_var 0)) (fun _ => em_in1 (em_ixS (em_var 1) em_int rfl (by show 2 ≤ 100000; decide)) (em_var 0)) fun _ _ => em_leC (em_ixS (em_var 1) em_int rfl (by show 2 ≤ 100000; decide)) (em_ixS (em_var 1) em_int rfl (by show 2 ≤ 100000; decide))) ?_)
    rw [decide_eq_true ha, decide_eq_true hb, decide_eq_true hab]
    exact hR
end
end Wr
end
section
set_option maxRecDepth 100000
set_option maxHeartbeats 1000000
/-! wrong_tie, Web, check_web, is_place, check_place. -/
namespace Wr
open PySem L2
section
variable {g : Gm}
theorem numb_at {α : Type} {zs : List α} {i : Nat} {q : α × Nat} (h : (numbered zs)[i]? = some q) : q.2 = i ∧ zs[i]? = some q.1 := by
  unfold numbered at h
  rw [List.getElem?_zipIdx] at h
  cases e : zs[i]? with
  | none => rw [e] at h; simp at h
  | some z =>
    rw [e] at h
    simp at h
    rw [← h]
    exact ⟨rfl, rfl⟩
def T_wrong : Spec := fun xs M R => ∃ pl ts, xs = [.dat (S pl), .dat (tiesD ts)] ∧ WOk pl ts ∧ R (.dat .none) M
theorem sc_wrong : FnScope ["places", "ties", "index", "tie"] ["places", "ties"] (defScope (topS 23)) := ⟨rfl, rfl, rfl, by decide +kernel, rfl, by decide +kernel, by decide +kernel⟩
theorem fn_wrong (F : Fs g) : Fn g "wrong_tie" 2 T_wrong :=
  fn_ok F.wrong_tie sc_wrong (fun _ _ _ _ _ _ us hl => match us, hl with | [_, _], _ => rfl) fun xs M R h => by
    obtain ⟨pl, ts, rfl, ok, hR⟩ := h
    refine ⟨rfl, ?_⟩
    obtain ⟨t, hm⟩ := g.mT
    refine bd_for (js := [2, 3]) (src_enumT (em_var 1)) (fun i ρ' M' => M' = M ∧ ∃ a b, ρ' = [some (.dat (S pl)), some (.dat (tiesD ts)), a, b]) ⟨rfl, none, none, rfl⟩ (fun i d ρ' M' hd hJ => ?_) (fun ρ' M' hJ => ?_)
    · obtain ⟨rfl, a, b, rfl⟩ := hJ
      rw [List.getElem?_map] at hd
      cases e : (numbered ts)[i]? with
      | none => rw [e] at hd; cases hd
      | some q =>
        rw [e] at hd
        have hd' := Option.some.inj hd
        subst hd'
        obtain ⟨e1, e2⟩ := numb_at e
        have hi : i < 6 := by
          have := (List.getElem?_eq_some_iff.mp e2).1
          have := ok.fewT
          omega
        obtain ⟨h1, h2, h3⟩ := ok.ends q.1 (List.mem_of_getElem? e2)
        refine ⟨_, tg_two 2 3, ?_⟩
        refine bd_one (sd_if (t := false) (TM.is (tm_or (tm_eqI (i := (q.2 : Int)) (em_var 2) (em_globI hm)) fun _ => tm_not (tm_val (ev_call (fn_tie F) (am_two (em_var 0) (em_var 3)) ⟨pl, q.1.1, q.1.2, rfl, by have := ok.few; omega, h1, h2, by omega, only_self⟩))) ?_) (fun z => nomatch z) fun _ => bd_nil ⟨rfl, _, _, rfl⟩)
        rw [e1]
        have : ¬ (i : Int) = 11 := by omega
        rw [decide_eq_false this]
        rfl
    · obtain ⟨rfl, a, b, rfl⟩ := hJ
      exact bd_ret (EM.to em_none hR)
theorem sc_init : FnScope ["self", "places", "ties", "wrong"] ["self", "places", "ties"] (defScope (webS 0)) := ⟨rfl, rfl, rfl, by decide +kernel, rfl, by decide +kernel, by decide +kernel⟩
theorem fn_init (F : Fs g) : ∃ f, FnM g f 3 ["self", "places", "ties"] (T_init g.C) ∧ Mk g.K g.C f := by
  obtain ⟨f, fd, Ff, mk⟩ := F.init
  refine ⟨f, fnM_ok Ff sc_init (fun _ _ _ _ _ _ us hl => match us, hl with | [_, _, _], _ => rfl) (fun xs M R h => ?_), mk⟩
  obtain ⟨x, dx, t, pl, ts, rfl, ok, hm, hR⟩ := h
  refine ⟨rfl, ?_⟩
  refine bd_pass (TM.is (tm_not (tm_val (ev_call (fn_places F) (am_one (em_var 1)) ⟨pl, rfl, ok.okL, ok.asc, ok.pos, only_self⟩))) rfl) ?_
  refine bd_pass (TM.is (tm_not (tm_val (em_isT (t := true) "tuple" (em_at (em_var 2)) (em_ty "tuple")))) rfl) ?_
  refine bd_set 3 (ev_call (fn_wrong F) (am_two (em_var 1) (em_at (em_var 2))) ⟨pl, ts, rfl, ok, only_self⟩) ?_
  refine bd_pass (TM.is (tm_isNotNone (em_var 3)) rfl) ?_
  refine bd_fldS (q := x) (em_var 0) (em_var 1) hm (by decide) g.nP ?_
  refine bd_fldA (q := x) (em_var 0) (em_var 2) upd_same (by show 1 < 1000; decide) g.nT ?_
  refine bd_nil ?_
  rw [upd_upd]
  exact hR
theorem sc_len : FnScope ["self"] ["self"] (defScope (webS 2)) := ⟨rfl, rfl, rfl, by decide +kernel, rfl, by decide +kernel, by decide +kernel⟩
theorem fn_len (F : Fs g) : FnM g g.fLen 1 ["self"] T_len := by
  obtain ⟨fd, Ff⟩ := F.len
  refine fnM_ok Ff sc_len (fun _ _ _ _ _ _ us hl => match us, hl with | [_], _ => rfl) fun xs M R h => ?_
  obtain ⟨pl, ts, rfl, hR⟩ := h
  refine ⟨rfl, ?_⟩
  exact bd_ret (EM.to (EM.is (em_lenT (em_ties (em_var 0))) (by rw [List.length_map])) hR)
def T_chkWeb : Spec := fun xs M R => ∃ pl ts, xs = [.web pl ts] ∧ R (.dat .none) M
theorem sc_chkWeb : FnScope ["web"] ["web"] (defScope (topS 25)) := ⟨rfl, rfl, rfl, by decide +kernel, rfl, by decide +kernel, by decide +kernel⟩
theorem fn_chkWeb (F : Fs g) : Fn g "check_web" 1 T_chkWeb :=
  fn_ok F.check_web sc_chkWeb (fun _ _ _ _ _ _ us hl => match us, hl with | [_], _ => rfl) fun xs M R h => by
    obtain ⟨pl, ts, rfl, hR⟩ := h
    refine ⟨rfl, ?_⟩
    exact bd_pass (TM.is (tm_not (tm_val (em_isiW (em_var 0)))) rfl) (bd_nil hR)
def T_isPlace : Spec := fun xs M R => ∃ pl ts n, xs = [.web pl ts, .dat (S [n])] ∧ R (.dat (.bool (decide (n ∈ pl)))) M
theorem sc_isPlace : FnScope ["web", "value"] ["web", "value"] (defScope (topS 26)) := ⟨rfl, rfl, rfl, by decide +kernel, rfl, by decide +kernel, by decide +kernel⟩
theorem fn_isPlace (F : Fs g) : Fn g "is_place" 1 T_isPlace :=
  fn_ok F.is_place sc_isPlace (fun _ _ _ _ _ _ us hl => match us, hl with | [_, _], _ => rfl) fun xs M R h => by
    obtain ⟨pl, ts, n, rfl, hR⟩ := h
    refine ⟨rfl, ?_⟩
    refine bd_ret (EM.to (em_and3 (em_isT (t := true) "str" (em_var 1) (em_ty "str")) (fun _ => em_eqI (em_lenS (em_var 1) (by show 1 ≤ 100000; decide)) em_int) fun _ _ => em_in1 (em_var 1) (em_places (em_var 0))) ?_)
    exact hR
def T_chkPlace : Spec := fun xs M R => ∃ pl ts n, xs = [.web pl ts, .dat (S [n])] ∧ n ∈ pl ∧ R (.dat .none) M
theorem sc_chkPlace : FnScope ["web", "place"] ["web", "place"] (defScope (topS 27)) := ⟨rfl, rfl, rfl, by decide +kernel, rfl, by decide +kernel, by decide +kernel⟩
theorem fn_chkPlace (F : Fs g) : Fn g "check_place" 2 T_chkPlace :=
  fn_ok F.check_place sc_chkPlace (fun _ _ _ _ _ _ us hl => match us, hl with | [_, _], _ => rfl) fun xs M R h => by
    obtain ⟨pl, ts, n, rfl, hn, hR⟩ := h
    refine ⟨rfl, ?_⟩
    exact bd_pass (TM.is (tm_not (tm_val (ev_call (fn_isPlace F) (am_two (em_var 0) (em_var 1)) ⟨pl, ts, n, rfl, only_self⟩))) (by rw [decide_eq_true hn]; rfl)) (bd_nil hR)
end
end Wr
end
section
set_option maxRecDepth 100000
set_option maxHeartbeats 1000000
/-! herds_of .. every_tree. -/
namespace Wr
open PySem L2
section
variable {g : Gm}
/-! ### herds_of -/
def hit (q : Nat × Nat) (h : List Nat) : Bool := decide (q.1 ∈ h) || decide (q.2 ∈ h)
def herdStep (found : List (List Nat)) (q : Nat × Nat) : List (List Nat) :=
  [srtN ((found.filter (hit q)).flatten)] ++ found.filter fun h => !decide (h ∈ found.filter (hit q))
def herdsOf (pl : List Nat) (ts : List (Nat × Nat)) : List (List Nat) := srtS (ts.foldl herdStep (pl.map fun c => [c]))
def totL (found : List (List Nat)) : Nat := (found.map List.length).sum
theorem totL_filter (found : List (List Nat)) (t : List Nat → Bool) : totL (found.filter t) + totL (found.filter fun h => !t h) = totL found := by
  induction found with
  | nil => rfl
  | cons h l ih =>
    unfold totL at *
    cases e : t h <;> simp [List.filter_cons, e] <;> omega
theorem herd_rest (found : List (List Nat)) (q : Nat × Nat) : (found.filter fun h => !decide (h ∈ found.filter (hit q))) = found.filter fun h => !hit q h := by
  refine List.filter_congr fun h hh => ?_
  have e : decide (h ∈ found.filter (hit q)) = hit q h := by
    cases e : hit q h with
    | true => exact decide_eq_true (List.mem_filter.mpr ⟨hh, e⟩)
    | false => exact decide_eq_false fun z => by have := (List.mem_filter.mp z).2; rw [e] at this; cases this
  rw [e]
theorem flat_len (l : List (List Nat)) : l.flatten.length = totL l := by rw [List.length_flatten]; rfl
theorem totL_step (found : List (List Nat)) (q : Nat × Nat) : totL (herdStep found q) = totL found := by
  unfold herdStep
  rw [herd_rest]
  show totL ([srtN _] ++ _) = _
  have h1 : totL ([srtN ((found.filter (hit q)).flatten)] ++ found.filter fun h => !hit q h) = totL (found.filter (hit q)) + totL (found.filter fun h => !hit q h) := by
    show ((([srtN ((found.filter (hit q)).flatten)] ++ found.filter fun h => !hit q h).map List.length).sum) = _
    rw [List.map_append, List.sum_append, List.map_singleton, List.sum_singleton]
    unfold srtN
    rw [List.length_mergeSort, flat_len]
    rfl
  rw [h1]
  exact totL_filter found (hit q)
theorem len_step (found : List (List Nat)) (q : Nat × Nat) : (herdStep found q).length ≤ found.length + 1 := by
  unfold herdStep
  rw [List.length_append, List.length_singleton]
  have := List.length_filter_le (fun h => !decide (h ∈ found.filter (hit q))) found
  omega
theorem totL_ones (pl : List Nat) : totL (pl.map fun c => [c]) = pl.length := by
  induction pl with
  | nil => rfl
  | cons c pl ih =>
    unfold totL at *
    simp only [List.map_cons, List.sum_cons, List.length_cons, List.length_nil] at *
    omega
theorem flat_ones2 (l : List Nat) : (l.map fun c => [c]).flatten = l := by
  induction l with
  | nil => rfl
  | cons c l ih => rw [List.map_cons, List.flatten_cons, ih]; rfl
def T_herds : Spec := fun xs M R => ∃ pl ts d, xs = [.dat (S pl), .dat d] ∧ (d = tiesD ts ∨ d = .list (ts.map fun q => S (tS q))) ∧ pl.length ≤ 7 ∧ ts.length ≤ 11 ∧ R (.dat (.list ((herdsOf pl ts).map S))) M
abbrev N_herds : List Str := ["places", "ties", "found", "one", "other", "joined", "whole", "herd"]
theorem sc_herds : FnScope N_herds ["places", "ties"] (defScope (topS 28)) := ⟨rfl, rfl, rfl, by decide +kernel, rfl, by decide +kernel, by decide +kernel⟩
theorem fn_herds (F : Fs g) : Fn g "herds_of" 1 T_herds :=
  fn_ok F.herds_of sc_herds (fun _ _ _ _ _ _ us hl => match us, hl with | [_, _], _ => rfl) fun xs M R h => by
    obtain ⟨pl, ts, d, rfl, hd, hz, hzt, hR⟩ := h
    refine ⟨rfl, ?_⟩
    refine bd_set 2 (EM.is (em_listS (em_var 0) (by omega)) (by rw [map_S1])) ?_
    refine bd_for (js := [3, 4]) (ds := ts.map fun q => Sl.dat (S (tS q))) (by
      rcases hd with rfl | rfl
      · exact src_tT (em_var 1)
      · exact src_lT (em_var 1))
      (fun i ρ' M' => M' = M ∧ ∃ a b e f, ρ' = [some (.dat (S pl)), some (.dat d), some (.dat (.list (((ts.take i).foldl herdStep (pl.map fun c => [c])).map S))), a, b, e, f, none]) ⟨rfl, none, none, none, none, rfl⟩ (fun i dd ρ' M' hdd hJ => ?_) (fun ρ' M' hJ => ?_)
    · obtain ⟨rfl, a, b, e, f, rfl⟩ := hJ
      rw [List.getElem?_map] at hdd
      cases eq : ts[i]? with
      | none => rw [eq] at hdd; cases hdd
      | some q =>
        rw [eq] at hdd
        have hdd' := Option.some.inj hdd
        subst hdd'
        have hi : i < ts.length := (List.getElem?_eq_some_iff.mp eq).1
        refine ⟨_, tg_twoS 3 4, ?_⟩
        -- the herds so far
        have hsz : ∀ j, j ≤ ts.length → totL ((ts.take j).foldl herdStep (pl.map fun c => [c])) = pl.length ∧ ((ts.take j).foldl herdStep (pl.map fun c => [c])).length ≤ pl.length + j := by
          intro j hj
          induction j with
          | zero => exact ⟨totL_ones pl, by simp⟩
          | succ j ih =>
            obtain ⟨h1, h2⟩ := ih (by omega)
            rw [List.take_add_one, List.foldl_append]
            cases e1 : ts[j]? with
            | none => simpa using ⟨h1, by omega⟩
            | some q1 =>
              show totL (herdStep _ q1) = _ ∧ (herdStep _ q1).length ≤ _
              have := len_step ((ts.take j).foldl herdStep (pl.map fun c => [c])) q1
              exact ⟨by rw [totL_step]; exact h1, by omega⟩
        obtain ⟨z1, z2⟩ := hsz i (by omega)
        generalize hfd : (ts.take i).foldl herdStep (pl.map fun c => [c]) = found at z1 z2
        have zj : totL (found.filter (hit q)) ≤ 7 := by
          have := totL_filter found (hit q)
          omega
        have zl : found.length ≤ 100 := by omega
        refine bd_set 5 (em_lc1 (zs := found) (enc := fun h => .dat (S h)) (t := hit q) (r := fun h => S h) 7 (src_lT (em_var 2)) (fun h _ => ts_one (tm_or (tm_in1 (em_var 3) (em_var 7)) fun _ => tm_in1 (em_var 4) (em_var 7))) (fun h _ _ => em_var 7) (by omega)) ?_
        refine bd_set 6 (EM.is (em_join (ls := (srtN (found.filter (hit q)).flatten).map fun c => [c]) (em_txt []) (EM.is (em_sortStr (em_join (ls := found.filter (hit q)) (em_txt []) (em_var 5) (by show totL _ ≤ _; omega)) (by rw [flat_len]; omega)) (by rw [map_S1])) (by
          show totL _ ≤ _
          rw [totL_ones]
          unfold srtN
          rw [List.length_mergeSort, flat_len]
          omega)) (by rw [flat_ones])) ?_
        refine bd_set 2 (x := .dat (.list ((herdStep found q).map S))) (EM.is (em_cat (em_lst [S (srtN (found.filter (hit q)).flatten)] (am_one (em_var 6)) (by show 1 ≤ 1000; decide)) (em_lc1 (zs := found) (enc := fun h => .dat (S h)) (t := fun h => !decide (h ∈ found.filter (hit q))) (r := fun h => S h) 7 (src_lT (em_var 2)) (fun h _ => ts_one (tm_niLS (em_var 7) (em_var 5))) (fun h _ _ => em_var 7) (by omega)) (by
          have := List.length_filter_le (fun h => !decide (h ∈ found.filter (hit q))) found
          rw [List.length_map, List.length_singleton]
          omega)) (by unfold herdStep; rw [List.map_append]; rfl)) ?_
        have e2 : (ts.take (i + 1)).foldl herdStep (pl.map fun c => [c]) = herdStep found q := by
          rw [List.take_add_one, List.foldl_append, eq, hfd]
          rfl
        refine bd_nil ?_
        dsimp only
        rw [e2]
        exact ⟨rfl, _, _, _, _, rfl⟩
    · obtain ⟨rfl, a, b, e, f, rfl⟩ := hJ
      rw [List.length_map, List.take_length]
      exact bd_ret (EM.to (em_sortLS (em_var 2)) hR)
end
end Wr
end
section
set_option maxRecDepth 100000
set_option maxHeartbeats 1000000
/-! is_one .. every_tree. -/
namespace Wr
open PySem L2
section
variable {g : Gm}
/-! ### is_one -/
def T_isOne : Spec := fun xs M R => ∃ pl ts, xs = [.web pl ts] ∧ pl.length ≤ 7 ∧ ts.length ≤ 11 ∧ R (.dat (.bool (decide ((herdsOf pl ts).length = 1)))) M
theorem sc_isOne : FnScope ["web"] ["web"] (defScope (topS 29)) := ⟨rfl, rfl, rfl, by decide +kernel, rfl, by decide +kernel, by decide +kernel⟩
theorem fn_isOne (F : Fs g) : Fn g "is_one" 2 T_isOne :=
  fn_ok F.is_one sc_isOne (fun _ _ _ _ _ _ us hl => match us, hl with | [_], _ => rfl) fun xs M R h => by
    obtain ⟨pl, ts, rfl, hz, hzt, hR⟩ := h
    refine ⟨rfl, ?_⟩
    refine bd_ret (EM.to (em_eqI (em_lenL (ev_call (fn_herds F) (am_two (em_places (em_var 0)) (em_ties (em_var 0))) ⟨pl, ts, _, rfl, .inl rfl, hz, hzt, only_self⟩)) em_int) ?_)
    have e : decide ((((herdsOf pl ts).map S).length : Int) = 1) = decide ((herdsOf pl ts).length = 1) := by
      rw [List.length_map]
      by_cases q : (herdsOf pl ts).length = 1
      · rw [q]; rfl
      · rw [decide_eq_false q, decide_eq_false (by omega)]
    rw [e]
    exact hR
/-! ### lots -/
def toI (l : List Nat) : List Int := l.map fun i : Nat => (i : Int)
def tN (l : List Nat) : PyData := tI (toI l)
theorem toI_inj {a b : List Nat} (h : toI a = toI b) : a = b := by
  induction a generalizing b with
  | nil =>
    cases b with
    | nil => rfl
    | cons y b => cases h
  | cons x a ih =>
    cases b with
    | nil => cases h
    | cons y b =>
      have h' : (x : Int) :: toI a = (y : Int) :: toI b := h
      injection h' with h1 h2
      rw [ih h2, Int.ofNat.inj h1]
def srtL (ls : List (List Nat)) : List (List Nat) := ls.mergeSort fun a b => !HT.lexLt (toI b) (toI a)
theorem srtL_T (ls : List (List Nat)) : srtT (ls.map toI) = (srtL ls).map toI := by
  unfold srtT srtL
  rw [List.map_mergeSort (s := fun a b : List Int => !HT.lexLt b a)]
  intro a _ b _
  rfl
theorem map_tN (ls : List (List Nat)) : ls.map tN = (ls.map toI).map tI := by rw [List.map_map]; rfl
def T_everyTie : Spec := fun xs M R => ∃ pl ts, xs = [.web pl ts] ∧ ts.length ≤ 11 ∧ R (.dat (tN (List.range ts.length))) M
theorem sc_everyTie : FnScope ["web"] ["web"] (defScope (topS 31)) := ⟨rfl, rfl, rfl, by decide +kernel, rfl, by decide +kernel, by decide +kernel⟩
theorem fn_everyTie (F : Fs g) : Fn g "every_tie" 3 T_everyTie :=
  fn_ok F.every_tie sc_everyTie (fun _ _ _ _ _ _ us hl => match us, hl with | [_], _ => rfl) fun xs M R h => by
    obtain ⟨pl, ts, rfl, hz, hR⟩ := h
    refine ⟨rfl, ?_⟩
    exact bd_ret (EM.to (em_tupleRange (em_lenW (fn_len F) (em_var 0) (by omega)) (by omega)) hR)
def tieAt (ts : List (Nat × Nat)) (i : Nat) : Nat × Nat := ts.getD i (0, 0)
def tiesOf (ts : List (Nat × Nat)) (lot : List Nat) : List (Nat × Nat) := lot.map (tieAt ts)
theorem atI_nat {α : Type} {xs : List α} {i : Nat} {x : α} (h : xs[i]? = some x) : atI xs (i : Int) = some x := by
  have hi : i < xs.length := (List.getElem?_eq_some_iff.mp h).1
  unfold atI ixN
  rw [if_pos (by omega), if_pos (by omega), Int.toNat_natCast]
  exact h
theorem tieAt_get {ts : List (Nat × Nat)} {i : Nat} (h : i < ts.length) : ts[i]? = some (tieAt ts i) := by
  unfold tieAt
  rw [List.getD_eq_getElem?_getD, List.getElem?_eq_getElem h]
  rfl
theorem tie_ix {ts : List (Nat × Nat)} {i : Nat} (h : i < ts.length) : atI (ts.map fun q => S (tS q)) (i : Int) = some (S (tS (tieAt ts i))) := atI_nat (by rw [List.getElem?_map, tieAt_get h]; rfl)
def T_tiesOf : Spec := fun xs M R => ∃ pl ts lot, xs = [.web pl ts, .dat (tN lot)] ∧ (∀ i ∈ lot, i < ts.length) ∧ lot.length ≤ 11 ∧ R (.dat (.list ((tiesOf ts lot).map fun q => S (tS q)))) M
theorem sc_tiesOf : FnScope ["web", "lot", "index"] ["web", "lot"] (defScope (topS 32)) := ⟨rfl, rfl, rfl, by decide +kernel, rfl, by decide +kernel, by decide +kernel⟩
theorem tN_map (lot : List Nat) : tN lot = .tuple (lot.map fun i : Nat => PyData.int i) := by
  show PyData.tuple ((lot.map fun i : Nat => (i : Int)).map .int) = _
  rw [List.map_map]
  rfl
theorem fn_tiesOf (F : Fs g) : Fn g "ties_of" 1 T_tiesOf :=
  fn_ok F.ties_of sc_tiesOf (fun _ _ _ _ _ _ us hl => match us, hl with | [_, _], _ => rfl) fun xs M R h => by
    obtain ⟨pl, ts, lot, rfl, hi, hz, hR⟩ := h
    refine ⟨rfl, ?_⟩
    refine bd_ret (EM.to (em_lc1n (zs := lot) (r := fun i => S (tS (tieAt ts i))) 2 (src_tT (EM.is (em_var 1) (by rw [tN_map]))) (fun i hm => em_ixT (em_ties (em_var 0)) (em_var 2) (tie_ix (hi i hm))) (by omega)) ?_)
    have e : (lot.map fun i => S (tS (tieAt ts i))) = (tiesOf ts lot).map fun q => S (tS q) := by unfold tiesOf; rw [List.map_map]; rfl
    rw [e]
    exact hR
def pieces (pl : List Nat) (ts : List (Nat × Nat)) (lot : List Nat) : List (List Nat) := herdsOf pl (tiesOf ts lot)
structure LotOk (pl : List Nat) (ts : List (Nat × Nat)) (lot : List Nat) : Prop where
  ix : ∀ i ∈ lot, i < ts.length
  len : lot.length ≤ 11
  pl : pl.length ≤ 7
  ts : ts.length ≤ 11
def T_pieces : Spec := fun xs M R => ∃ pl ts lot, xs = [.web pl ts, .dat (tN lot)] ∧ LotOk pl ts lot ∧ R (.dat (.list ((pieces pl ts lot).map S))) M
theorem sc_pieces : FnScope ["web", "lot"] ["web", "lot"] (defScope (topS 33)) := ⟨rfl, rfl, rfl, by decide +kernel, rfl, by decide +kernel, by decide +kernel⟩
theorem fn_pieces (F : Fs g) : Fn g "pieces_of" 2 T_pieces :=
  fn_ok F.pieces_of sc_pieces (fun _ _ _ _ _ _ us hl => match us, hl with | [_, _], _ => rfl) fun xs M R h => by
    obtain ⟨pl, ts, lot, rfl, ok, hR⟩ := h
    refine ⟨rfl, ?_⟩
    exact bd_ret (EM.to (ev_call (fn_herds F) (am_two (em_places (em_var 0)) (ev_call (fn_tiesOf F) (am_two (em_var 0) (em_var 1)) ⟨pl, ts, lot, rfl, ok.ix, ok.len, only_self⟩)) ⟨pl, tiesOf ts lot, _, rfl, .inr rfl, ok.pl, by unfold tiesOf; rw [List.length_map]; exact ok.len, only_self⟩) hR)
def rankOf (pl : List Nat) (ts : List (Nat × Nat)) (lot : List Nat) : Int := (pl.length : Int) - ((pieces pl ts lot).length : Int)
def T_rank : Spec := fun xs M R => ∃ pl ts lot, xs = [.web pl ts, .dat (tN lot)] ∧ LotOk pl ts lot ∧ R (.dat (.int (rankOf pl ts lot))) M
theorem sc_rank : FnScope ["web", "lot"] ["web", "lot"] (defScope (topS 34)) := ⟨rfl, rfl, rfl, by decide +kernel, rfl, by decide +kernel, by decide +kernel⟩
theorem fn_rank (F : Fs g) : Fn g "rank_of" 3 T_rank :=
  fn_ok F.rank_of sc_rank (fun _ _ _ _ _ _ us hl => match us, hl with | [_, _], _ => rfl) fun xs M R h => by
    obtain ⟨pl, ts, lot, rfl, ok, hR⟩ := h
    refine ⟨rfl, ?_⟩
    refine bd_ret (EM.to (em_sub (em_lenS (em_places (em_var 0)) (by have := ok.pl; omega)) (em_lenL (ev_call (fn_pieces F) (am_two (em_var 0) (em_var 1)) ⟨pl, ts, lot, rfl, ok, only_self⟩))) ?_)
    rw [List.length_map]
    exact hR
def T_spare : Spec := fun xs M R => ∃ pl ts lot, xs = [.web pl ts, .dat (tN lot)] ∧ LotOk pl ts lot ∧ R (.dat (.int ((lot.length : Int) - rankOf pl ts lot))) M
theorem sc_spare : FnScope ["web", "lot"] ["web", "lot"] (defScope (topS 35)) := ⟨rfl, rfl, rfl, by decide +kernel, rfl, by decide +kernel, by decide +kernel⟩
theorem len_tN (lot : List Nat) : ((toI lot).map PyData.int).length = lot.length := by unfold toI; rw [List.length_map, List.length_map]
theorem fn_spare (F : Fs g) : Fn g "spare_of" 4 T_spare :=
  fn_ok F.spare_of sc_spare (fun _ _ _ _ _ _ us hl => match us, hl with | [_, _], _ => rfl) fun xs M R h => by
    obtain ⟨pl, ts, lot, rfl, ok, hR⟩ := h
    refine ⟨rfl, ?_⟩
    refine bd_ret (EM.to (em_sub (em_lenT (ds := (toI lot).map .int) (em_var 1)) (ev_call (fn_rank F) (am_two (em_var 0) (em_var 1)) ⟨pl, ts, lot, rfl, ok, only_self⟩)) ?_)
    rw [len_tN]
    exact hR
def freeLot (pl : List Nat) (ts : List (Nat × Nat)) (lot : List Nat) : Bool := decide ((lot.length : Int) - rankOf pl ts lot = 0)
def T_free : Spec := fun xs M R => ∃ pl ts lot, xs = [.web pl ts, .dat (tN lot)] ∧ LotOk pl ts lot ∧ R (.dat (.bool (freeLot pl ts lot))) M
theorem sc_free : FnScope ["web", "lot"] ["web", "lot"] (defScope (topS 36)) := ⟨rfl, rfl, rfl, by decide +kernel, rfl, by decide +kernel, by decide +kernel⟩
theorem fn_free (F : Fs g) : Fn g "is_free_lot" 5 T_free :=
  fn_ok F.is_free_lot sc_free (fun _ _ _ _ _ _ us hl => match us, hl with | [_, _], _ => rfl) fun xs M R h => by
    obtain ⟨pl, ts, lot, rfl, ok, hR⟩ := h
    refine ⟨rfl, ?_⟩
    exact bd_ret (EM.to (em_eqI (ev_call (fn_spare F) (am_two (em_var 0) (em_var 1)) ⟨pl, ts, lot, rfl, ok, only_self⟩) em_int) hR)
/-! ### every_lot -/
def lotStep (found : List (List Nat)) (i : Nat) : List (List Nat) := found ++ found.map fun l => l ++ [i]
def lotsRaw (n : Nat) : List (List Nat) := (List.range n).foldl lotStep [[]]
def everyLot (n : Nat) : List (List Nat) := srtL (lotsRaw n)
theorem range_take (n i : Nat) (h : i ≤ n) : (List.range n).take i = List.range i := by rw [List.take_range]; rw [Nat.min_eq_left h]
theorem lotsRaw_succ (n : Nat) : lotsRaw (n + 1) = lotStep (lotsRaw n) n := by
  unfold lotsRaw
  rw [List.range_succ, List.foldl_append]
  rfl
theorem lots_len : ∀ n : Nat, (lotsRaw n).length = 2 ^ n
  | 0 => rfl
  | n + 1 => by
    rw [lotsRaw_succ]
    unfold lotStep
    rw [List.length_append, List.length_map, lots_len n]
    omega
theorem lots_mem : ∀ (n : Nat) (l : List Nat), l ∈ lotsRaw n → l.length ≤ n ∧ (∀ i ∈ l, i < n) ∧ l.Pairwise (· < ·)
  | 0, l, h => by
    have e : l = [] := List.mem_singleton.mp h
    subst e
    exact ⟨Nat.le_refl _, fun i hi => by (cases hi), .nil⟩
  | n + 1, l, h => by
    rw [lotsRaw_succ] at h
    unfold lotStep at h
    rcases List.mem_append.mp h with h | h
    · obtain ⟨a, b, c⟩ := lots_mem n l h
      exact ⟨by omega, fun i hi => Nat.lt_succ_of_lt (b i hi), c⟩
    · obtain ⟨m, hm, rfl⟩ := List.mem_map.mp h
      obtain ⟨a, b, c⟩ := lots_mem n m hm
      refine ⟨by simp; omega, fun i hi => ?_, ?_⟩
      · rcases List.mem_append.mp hi with q | q
        · exact Nat.lt_succ_of_lt (b i q)
        · have := List.mem_singleton.mp q; omega
      · refine List.pairwise_append.mpr ⟨c, List.pairwise_singleton _ _, fun x hx y hy => ?_⟩
        rw [List.mem_singleton.mp hy]
        exact b x hx
theorem lots_first : ∀ n : Nat, (lotsRaw n)[0]? = some []
  | 0 => rfl
  | n + 1 => by
    rw [lotsRaw_succ]
    unfold lotStep
    rw [List.getElem?_append_left (by rw [lots_len]; exact Nat.two_pow_pos n)]
    exact lots_first n
def T_everyLot : Spec := fun xs M R => ∃ pl ts, xs = [.web pl ts] ∧ ts.length ≤ 11 ∧ R (.dat (.list ((everyLot ts.length).map tN))) M
theorem sc_everyLot : FnScope ["web", "found", "index", "lot"] ["web"] (defScope (topS 37)) := ⟨rfl, rfl, rfl, by decide +kernel, rfl, by decide +kernel, by decide +kernel⟩
theorem tN_snoc (l : List Nat) (i : Nat) : PyData.tuple ((toI l).map PyData.int ++ [.int (i : Int)]) = tN (l ++ [i]) := by
  show _ = PyData.tuple ((toI (l ++ [i])).map .int)
  unfold toI
  rw [List.map_append, List.map_append]
  rfl
theorem fn_everyLot (F : Fs g) : Fn g "every_lot" 4 T_everyLot :=
  fn_ok F.every_lot sc_everyLot (fun _ _ _ _ _ _ us hl => match us, hl with | [_], _ => rfl) fun xs M R h => by
    obtain ⟨pl, ts, rfl, hz, hR⟩ := h
    refine ⟨rfl, ?_⟩
    refine bd_set 1 (x := .dat (.list ((lotsRaw 0).map tN))) (em_lst [tN []] (am_one (em_tup [] am_nil)) (by simp)) ?_
    refine bd_for (js := [2]) (ds := (List.range ts.length).map fun i : Nat => Sl.dat (.int (i : Int))) (src_tT (EM.is (ev_call (fn_everyTie F) (am_one (em_var 0)) ⟨pl, ts, rfl, hz, only_self⟩) (by rw [tN_map])))
      (fun i ρ' M' => M' = M ∧ i ≤ ts.length ∧ ∃ a, ρ' = [some (.web pl ts), some (.dat (.list ((lotsRaw i).map tN))), a, none]) ⟨rfl, Nat.zero_le _, none, rfl⟩ (fun i dd ρ' M' hdd hJ => ?_) (fun ρ' M' hJ => ?_)
    · obtain ⟨rfl, hile, a, rfl⟩ := hJ
      rw [List.getElem?_map] at hdd
      cases eq : (List.range ts.length)[i]? with
      | none => rw [eq] at hdd; cases hdd
      | some q =>
        rw [eq] at hdd
        have hdd' := Option.some.inj hdd
        subst hdd'
        have hi : i < ts.length := by simpa using (List.getElem?_eq_some_iff.mp eq).1
        have hq : q = i := by
          rw [List.getElem?_range hi] at eq
          exact (Option.some.inj eq).symm
        subst hq
        refine ⟨_, tg_name 2, ?_⟩
        have hl := lots_len q
        have hp : 2 ^ q ≤ 2 ^ 11 := Nat.pow_le_pow_right (by decide) (by omega)
        have hp2 : (2 : Nat) ^ 11 = 2048 := by decide
        refine bd_set 1 (x := .dat (.list ((lotsRaw (q + 1)).map tN))) (EM.is (em_cat (em_var 1) (em_lc1n (zs := lotsRaw q) (enc := fun l => .dat (tN l)) (r := fun l => tN (l ++ [q])) 3 (src_lT (em_var 1)) (fun l hm => EM.is (em_catT (ds := (toI l).map .int) (es := [.int (q : Int)]) (em_var 3) (em_tup [.int (q : Int)] (am_one (em_var 2)) (by simp)) (by rw [len_tN]; have := (lots_mem q l hm).1; show l.length + 1 ≤ _; omega)) (by rw [tN_snoc])) (by omega)) (by rw [List.length_map, List.length_map]; omega)) (by
          rw [lotsRaw_succ]
          unfold lotStep
          rw [List.map_append, List.map_map]
          rfl)) ?_
        refine bd_nil ⟨rfl, hi, _, rfl⟩
    · obtain ⟨rfl, hile, a, rfl⟩ := hJ
      rw [List.length_map, List.length_range]
      refine bd_ret (EM.to (em_sortT (nss := (lotsRaw ts.length).map toI) (EM.is (em_var 1) (by rw [map_tN])) (.inr fun _ => by rw [List.getElem?_map, lots_first]; rfl)) ?_)
      rw [srtL_T, ← map_tN]
      exact hR
/-! ### every_tree -/
def treesOf (pl : List Nat) (ts : List (Nat × Nat)) : List (List Nat) := (everyLot ts.length).filter fun l => decide ((l.length : Int) = rankOf pl ts (List.range ts.length)) && freeLot pl ts l
theorem lot_okR {pl : List Nat} {ts : List (Nat × Nat)} (h : pl.length ≤ 7) (h2 : ts.length ≤ 11) : LotOk pl ts (List.range ts.length) := ⟨fun i hi => List.mem_range.mp hi, by simpa using h2, h, h2⟩
theorem lot_ok {pl : List Nat} {ts : List (Nat × Nat)} {l : List Nat} (h : pl.length ≤ 7) (h2 : ts.length ≤ 11) (hl : l ∈ everyLot ts.length) : LotOk pl ts l := by
  have hm : l ∈ lotsRaw ts.length := (List.mergeSort_perm _ _).mem_iff.mp hl
  obtain ⟨a, b, _⟩ := lots_mem _ _ hm
  exact ⟨b, by omega, h, h2⟩
def T_everyTree : Spec := fun xs M R => ∃ pl ts, xs = [.web pl ts] ∧ pl.length ≤ 7 ∧ ts.length ≤ 11 ∧ R (.dat (.list ((treesOf pl ts).map tN))) M
theorem sc_everyTree : FnScope ["web", "many", "lot"] ["web"] (defScope (topS 38)) := ⟨rfl, rfl, rfl, by decide +kernel, rfl, by decide +kernel, by decide +kernel⟩
theorem fn_everyTree (F : Fs g) : Fn g "every_tree" 6 T_everyTree :=
  fn_ok F.every_tree sc_everyTree (fun _ _ _ _ _ _ us hl => match us, hl with | [_], _ => rfl) fun xs M R h => by
    obtain ⟨pl, ts, rfl, hz, hzt, hR⟩ := h
    refine ⟨rfl, ?_⟩
    refine bd_set 1 (ev_call (fn_rank F) (am_two (em_var 0) (ev_call (fn_everyTie F) (am_one (em_var 0)) ⟨pl, ts, rfl, hzt, only_self⟩)) ⟨pl, ts, _, rfl, lot_okR hz hzt, only_self⟩) ?_
    refine bd_ret (EM.to (em_lc1 (zs := everyLot ts.length) (enc := fun l => .dat (tN l)) (t := fun l => decide ((l.length : Int) = rankOf pl ts (List.range ts.length)) && freeLot pl ts l) (r := fun l => tN l) 2
      (src_lT (ev_call (fn_everyLot F) (am_one (em_var 0)) ⟨pl, ts, rfl, hzt, only_self⟩))
      (fun l hl => ts_one (tm_and (tm_eqI (EM.is (em_lenT (ds := (toI l).map .int) (em_var 2)) (by rw [len_tN])) (em_var 1)) fun _ => tm_val (ev_call (fn_free F) (am_two (em_var 0) (em_var 2)) ⟨pl, ts, l, rfl, lot_ok hz hzt hl, only_self⟩))) (fun l _ _ => em_var 2) (by
        unfold everyLot srtL
        rw [List.length_mergeSort, lots_len]
        have hp : 2 ^ ts.length ≤ 2 ^ 11 := Nat.pow_le_pow_right (by decide) hzt
        have hp2 : (2 : Nat) ^ 11 = 2048 := by decide
        omega)) hR)
/-! ### check_heap, check_heaped, check_both, check_bank -/
def OkH (pl : List Nat) (ns : List Int) : Prop := ns.length = pl.length ∧ ∀ n ∈ ns, -1000000 ≤ n ∧ n ≤ 1000000
def T_chkHeap : Spec := fun xs M R => ∃ pl ts ns, xs = [.web pl ts, .dat (tI ns)] ∧ pl.length ≤ 7 ∧ OkH pl ns ∧ R (.dat .none) M
theorem sc_chkHeap : FnScope ["web", "heap", "index", "number"] ["web", "heap"] (defScope (topS 40)) := ⟨rfl, rfl, rfl, by decide +kernel, rfl, by decide +kernel, by decide +kernel⟩
theorem fn_chkHeap (F : Fs g) : Fn g "check_heap" 3 T_chkHeap :=
  fn_ok F.check_heap sc_chkHeap (fun _ _ _ _ _ _ us hl => match us, hl with | [_, _], _ => rfl) fun xs M R h => by
    obtain ⟨pl, ts, ns, rfl, hz, ⟨hl, hn⟩, hR⟩ := h
    refine ⟨rfl, ?_⟩
    obtain ⟨t, hm⟩ := g.mH
    refine bd_pass (TM.is (tm_or (tm_not (tm_val (em_isT (t := true) "tuple" (em_var 1) (em_ty "tuple")))) fun _ => tm_neI (em_lenT (ds := ns.map .int) (em_var 1)) (em_lenS (em_places (em_var 0)) (by omega))) (by rw [List.length_map, hl]; simp)) ?_
    refine bd_for (js := [2, 3]) (src_enumT (zs := ns) (en := .int) (em_var 1)) (fun i ρ' M' => M' = M ∧ ∃ a b, ρ' = [some (.web pl ts), some (.dat (tI ns)), a, b]) ⟨rfl, none, none, rfl⟩ (fun i d ρ' M' hd hJ => ?_) (fun ρ' M' hJ => ?_)
    · obtain ⟨rfl, a, b, rfl⟩ := hJ
      rw [List.getElem?_map] at hd
      cases e : (numbered ns)[i]? with
      | none => rw [e] at hd; cases hd
      | some q =>
        rw [e] at hd
        have hd' := Option.some.inj hd
        subst hd'
        obtain ⟨e1, e2⟩ := numb_at e
        obtain ⟨h1, h2⟩ := hn q.1 (List.mem_of_getElem? e2)
        refine ⟨_, tg_two 2 3, ?_⟩
        refine bd_one (sd_if (t := false) (TM.is (tm_not (tm_val (ev_call (fn_btw F) (am_cons (em_var 3) (am_two (em_neg (em_globI hm)) (em_globI hm))) ⟨q.1, -1000000, 1000000, rfl, only_self⟩))) ?_) (fun z => nomatch z) fun _ => bd_nil ⟨rfl, _, _, rfl⟩)
        rw [decide_eq_true h1, decide_eq_true h2]
        rfl
    · obtain ⟨rfl, a, b, rfl⟩ := hJ
      exact bd_nil hR
def T_chkHeaped : Spec := fun xs M R => ∃ pl ts, xs = [.web pl ts] ∧ WOk pl ts ∧ (herdsOf pl ts).length = 1 ∧ R (.dat .none) M
theorem sc_chkHeaped : FnScope ["web", "tie"] ["web"] (defScope (topS 41)) := ⟨rfl, rfl, rfl, by decide +kernel, rfl, by decide +kernel, by decide +kernel⟩
theorem fn_chkHeaped (F : Fs g) : Fn g "check_heaped" 3 T_chkHeaped :=
  fn_ok F.check_heaped sc_chkHeaped (fun _ _ _ _ _ _ us hl => match us, hl with | [_], _ => rfl) fun xs M R h => by
    obtain ⟨pl, ts, rfl, ok, h1, hR⟩ := h
    refine ⟨rfl, ?_⟩
    refine bd_pass (TM.is (tm_not (tm_val (ev_call (fn_isOne F) (am_one (em_var 0)) ⟨pl, ts, rfl, by have := ok.few; omega, by have := ok.fewT; omega, only_self⟩))) (by rw [decide_eq_true h1]; rfl)) ?_
    refine bd_pass (TM.is (tm_val (em_any (bs := ts.map fun q => decide (q.1 = q.2)) (EM.is (em_lc1n (zs := ts) (enc := fun q => .dat (S (tS q))) (r := fun q => .bool (decide (q.1 = q.2))) 1 (src_tT (em_ties (em_var 0))) (fun q _ => EM.is (em_eqS (l := [q.1]) (m := [q.2]) (em_ixS (em_var 1) em_int rfl (by show 2 ≤ 100000; decide)) (em_ixS (em_var 1) em_int rfl (by show 2 ≤ 100000; decide))) (by simp)) (by have := ok.fewT; omega)) (by rw [List.map_map]; rfl)))) ?_) (bd_nil hR)
    rw [List.any_map, List.any_eq_false]
    intro q hq
    have := (ok.ends q hq).2.2
    show ¬ decide _ = true
    rw [decide_eq_false (by omega)]
    simp
end
end Wr
end
section
set_option maxRecDepth 100000
set_option maxHeartbeats 1000000
/-! ties_at, bare, mirrored, is_rich, the checks, burnt. -/
namespace Wr
open PySem L2
section
variable {g : Gm} {k : Nat} {N : List Str} {sc : Scope} {gd : Bool} {bl : Option Scope} {ρ : List (Option Sl)} {M M1 : Hp} {pos pt : Pos} {iter elt : Expr} {scope : Scope} {α : Type} {zs : List α} {r : α → PyData}
theorem em_lc2n {f f' : Str} {p1 p2 : Pos} {kk : Nat} {e1 e2 : α → PyData} (i j : Nat) (src : SrcD ⟨g, k, N, sc, gd, bl⟩ ρ M (.Tuple [.Name f p1, .Name f' p2] kk pt) iter (zs.map fun z => .dat (.tuple [e1 z, e2 z])) M1)
    (he : ∀ z ∈ zs, EM ⟨g, k, N, relS scope sc, gd, some scope⟩ ((ρ.set i (some (.dat (e1 z)))).set j (some (.dat (e2 z)))) M1 elt (.dat (r z)) M1) (hz : zs.length ≤ 100000) (ok : blkC N sc scope [(f, i), (f', j)] = true := by decide +kernel) (nd : decide N.Nodup = true := by decide +kernel)
    (hc : chkL N (relS scope sc) (some scope) i f = true := by decide +kernel) (hc2 : chkL N (relS scope sc) (some scope) j f' = true := by decide +kernel)
    (hfs : ∀ (env : PySem.Env) (x : Value), foldedSetIterable iter env x = pure x := by intro _ _; rfl) : EM ⟨g, k, N, sc, gd, bl⟩ ρ M (.ListComp elt [⟨.Tuple [.Name f p1, .Name f' p2] kk pt, iter, [], 0⟩] scope pos) (.dat (.list (zs.map r))) M1 := by
  have h := em_lc2 (t := fun _ => true) (r := r) (pos := pos) (ifs := []) i j src (fun z hz => ts_nil) (fun z hz _ => he z hz) hz ok nd hc hc2 hfs
  have e : zs.filter (fun _ => true) = zs := List.filter_eq_self.mpr (fun _ _ => rfl)
  rw [e] at h
  exact h
end
section
variable {g : Gm}
/-! ### ties_at -/
def tiesAt (ts : List (Nat × Nat)) (a : Nat) : Nat := (ts.filter fun q => decide (a ∈ tS q)).length
def T_tiesAt : Spec := fun xs M R => ∃ pl ts a, xs = [.web pl ts, .dat (S [a])] ∧ ts.length ≤ 11 ∧ R (.dat (.int (tiesAt ts a))) M
abbrev N_tiesAt : List Str := ["web", "place", "tie"]
theorem sc_tiesAt : FnScope N_tiesAt ["web", "place"] (defScope (topS 42)) := ⟨rfl, rfl, rfl, by decide +kernel, rfl, by decide +kernel, by decide +kernel⟩
theorem fn_tiesAt (F : Fs g) : Fn g "ties_at" 1 T_tiesAt :=
  fn_ok F.ties_at sc_tiesAt (fun _ _ _ _ _ _ us hl => match us, hl with | [_, _], _ => rfl) fun xs M R h => by
    obtain ⟨pl, ts, a, rfl, hz, hR⟩ := h
    refine ⟨rfl, ?_⟩
    refine bd_ret (EM.to (em_lenL (em_lc1 2 (src_tT (em_ties (em_var 0))) (fun z _ => ts_one (tm_in1 (em_var 1) (em_var 2))) (fun z _ _ => em_var 2) (by omega))) ?_)
    have e : ((ts.filter fun q => decide (a ∈ tS q)).map fun q => S (tS q)).length = tiesAt ts a := by rw [List.length_map]; rfl
    rw [e]
    exact hR
/-! ### check_both, check_bank, is_rich, check_rich -/
def T_chkBoth : Spec := fun xs M R => ∃ pl ts ns b, xs = [.web pl ts, .dat (tI ns), .dat (S [b])] ∧ WOk pl ts ∧ (herdsOf pl ts).length = 1 ∧ OkH pl ns ∧ b ∈ pl ∧ R (.dat .none) M
theorem sc_chkBoth : FnScope ["web", "heap", "bank"] ["web", "heap", "bank"] (defScope (topS 44)) := ⟨rfl, rfl, rfl, by decide +kernel, rfl, by decide +kernel, by decide +kernel⟩
theorem bd_do {c : Cs} {ρ : List (Option Sl)} {M M1 : Hp} {e : Expr} {x : Sl} {pos : Pos} {rest : List Stmt} {K : Kont} (h : EM c ρ M e x M1) (hk : BD c ρ M1 rest K) (hs : ∀ env : PySem.Env, swapsWith e none pos.line env = pure false := by intro _; rfl) : BD c ρ M (.Expr e pos :: rest) K := bd_cons (sd_expr (EM.to h hk) hs)
theorem fn_chkBoth (F : Fs g) : Fn g "check_both" 4 T_chkBoth :=
  fn_ok F.check_both sc_chkBoth (fun _ _ _ _ _ _ us hl => match us, hl with | [_, _, _], _ => rfl) fun xs M R h => by
    obtain ⟨pl, ts, ns, b, rfl, ok, h1, hh, hb, hR⟩ := h
    refine ⟨rfl, ?_⟩
    refine bd_do (ev_call (fn_chkWeb F) (am_one (em_var 0)) ⟨pl, ts, rfl, only_self⟩) ?_
    refine bd_do (ev_call (fn_chkHeap F) (am_two (em_var 0) (em_var 1)) ⟨pl, ts, ns, rfl, by have := ok.few; omega, hh, only_self⟩) ?_
    refine bd_do (ev_call (fn_chkPlace F) (am_two (em_var 0) (em_var 2)) ⟨pl, ts, b, rfl, hb, only_self⟩) ?_
    exact bd_do (ev_call (fn_chkHeaped F) (am_one (em_var 0)) ⟨pl, ts, rfl, ok, h1, only_self⟩) (bd_nil hR)
def T_chkBank : Spec := fun xs M R => ∃ pl ts b, xs = [.web pl ts, .dat (S [b])] ∧ WOk pl ts ∧ (herdsOf pl ts).length = 1 ∧ b ∈ pl ∧ R (.dat .none) M
theorem sc_chkBank : FnScope ["web", "bank"] ["web", "bank"] (defScope (topS 53)) := ⟨rfl, rfl, rfl, by decide +kernel, rfl, by decide +kernel, by decide +kernel⟩
theorem fn_chkBank (F : Fs g) : Fn g "check_bank" 4 T_chkBank :=
  fn_ok F.check_bank sc_chkBank (fun _ _ _ _ _ _ us hl => match us, hl with | [_, _], _ => rfl) fun xs M R h => by
    obtain ⟨pl, ts, b, rfl, ok, h1, hb, hR⟩ := h
    refine ⟨rfl, ?_⟩
    refine bd_do (ev_call (fn_chkWeb F) (am_one (em_var 0)) ⟨pl, ts, rfl, only_self⟩) ?_
    refine bd_do (ev_call (fn_chkPlace F) (am_two (em_var 0) (em_var 1)) ⟨pl, ts, b, rfl, hb, only_self⟩) ?_
    exact bd_do (ev_call (fn_chkHeaped F) (am_one (em_var 0)) ⟨pl, ts, rfl, ok, h1, only_self⟩) (bd_nil hR)
def richB (pl : List Nat) (ns : List Int) (b : Nat) : Bool := (ns.zip pl).all fun q => decide (0 ≤ q.1) || decide (q.2 = b)
def T_rich : Spec := fun xs M R => ∃ pl ts ns b, xs = [.web pl ts, .dat (tI ns), .dat (S [b])] ∧ pl.length ≤ 7 ∧ R (.dat (.bool (richB pl ns b))) M
theorem sc_rich : FnScope ["web", "heap", "bank", "number", "place"] ["web", "heap", "bank"] (defScope (topS 45)) := ⟨rfl, rfl, rfl, by decide +kernel, rfl, by decide +kernel, by decide +kernel⟩
theorem zip_len {α β : Type} (a : List α) (b : List β) : (a.zip b).length ≤ b.length := by rw [List.length_zip]; omega
theorem fn_rich (F : Fs g) : Fn g "is_rich" 1 T_rich :=
  fn_ok F.is_rich sc_rich (fun _ _ _ _ _ _ us hl => match us, hl with | [_, _, _], _ => rfl) fun xs M R h => by
    obtain ⟨pl, ts, ns, b, rfl, hz, hR⟩ := h
    refine ⟨rfl, ?_⟩
    refine bd_ret (EM.to (em_all (bs := (ns.zip pl).map fun q => decide (0 ≤ q.1) || decide (q.2 = b)) (EM.is (em_lc2n (zs := ns.zip pl) (r := fun q => .bool (decide (0 ≤ q.1) || decide (q.2 = b))) (e1 := fun q : Int × Nat => .int q.1) (e2 := fun q : Int × Nat => S [q.2]) 3 4 (src_zipT (zs := ns) (en := .int) (em_var 1) (em_places (em_var 0)))
      (fun q _ => EM.is (em_or (em_ge (em_var 3) em_int) fun _ => em_eqS (l := [q.2]) (m := [b]) (em_var 4) (em_var 2)) (by simp)) (by have := zip_len ns pl; omega)) (by rw [List.map_map]; rfl))) ?_)
    have e : (((ns.zip pl).map fun q => decide (0 ≤ q.1) || decide (q.2 = b)).all id) = richB pl ns b := by rw [List.all_map]; rfl
    rw [e]
    exact hR
def T_chkRich : Spec := fun xs M R => ∃ pl ts ns b, xs = [.web pl ts, .dat (tI ns), .dat (S [b])] ∧ WOk pl ts ∧ (herdsOf pl ts).length = 1 ∧ OkH pl ns ∧ b ∈ pl ∧ richB pl ns b = true ∧ R (.dat .none) M
theorem sc_chkRich : FnScope ["web", "heap", "bank"] ["web", "heap", "bank"] (defScope (topS 46)) := ⟨rfl, rfl, rfl, by decide +kernel, rfl, by decide +kernel, by decide +kernel⟩
theorem fn_chkRich (F : Fs g) : Fn g "check_rich" 5 T_chkRich :=
  fn_ok F.check_rich sc_chkRich (fun _ _ _ _ _ _ us hl => match us, hl with | [_, _, _], _ => rfl) fun xs M R h => by
    obtain ⟨pl, ts, ns, b, rfl, ok, h1, hh, hb, hr, hR⟩ := h
    refine ⟨rfl, ?_⟩
    refine bd_do (ev_call (fn_chkBoth F) (am_cons (em_var 0) (am_two (em_var 1) (em_var 2))) ⟨pl, ts, ns, b, rfl, ok, h1, hh, hb, only_self⟩) ?_
    exact bd_pass (TM.is (tm_not (tm_val (ev_call (fn_rich F) (am_cons (em_var 0) (am_two (em_var 1) (em_var 2))) ⟨pl, ts, ns, b, rfl, by have := ok.few; omega, only_self⟩))) (by rw [hr]; rfl)) (bd_nil hR)
/-! ### bare, mirrored -/
def bareL (pl : List Nat) (ns : List Int) (b : Nat) : List Int := (ns.zip pl).map fun q => if q.2 = b then 0 else q.1
def T_bare : Spec := fun xs M R => ∃ pl ts ns b d, xs = [.web pl ts, .dat d, .dat (S [b])] ∧ (d = tI ns ∨ d = .list (ns.map .int)) ∧ pl.length ≤ 7 ∧ R (.dat (tI (bareL pl ns b))) M
theorem sc_bare : FnScope ["web", "heap", "bank", "number", "place"] ["web", "heap", "bank"] (defScope (topS 49)) := ⟨rfl, rfl, rfl, by decide +kernel, rfl, by decide +kernel, by decide +kernel⟩
theorem if_int (t : Bool) (i j : Int) : (if t then PyData.int i else PyData.int j) = .int (if t then i else j) := by cases t <;> rfl
theorem fn_bare (F : Fs g) : Fn g "bare" 1 T_bare :=
  fn_ok F.bare sc_bare (fun _ _ _ _ _ _ us hl => match us, hl with | [_, _, _], _ => rfl) fun xs M R h => by
    obtain ⟨pl, ts, ns, b, d, rfl, hd, hz, hR⟩ := h
    refine ⟨rfl, ?_⟩
    refine bd_ret (EM.to (em_tupleL (ds := (bareL pl ns b).map .int) (EM.is (em_lc2n (zs := ns.zip pl) (r := fun q => .int (if decide (q.2 = b) then 0 else q.1)) (e1 := fun q : Int × Nat => .int q.1) (e2 := fun q : Int × Nat => S [q.2]) 3 4 (by
        rcases hd with rfl | rfl
        · exact src_zipT (zs := ns) (en := .int) (em_var 1) (em_places (em_var 0))
        · exact src_zipL (zs := ns) (en := .int) (em_var 1) (em_places (em_var 0)))
      (fun q _ => EM.is (em_if (tm_eqS (l := [q.2]) (m := [b]) (em_var 4) (em_var 2)) (fun _ => em_int) fun _ => em_var 3) (by rw [if_int]; simp)) (by have := zip_len ns pl; omega)) (by
        unfold bareL
        rw [List.map_map]
        refine congrArg _ (congrArg _ (List.map_congr_left fun q _ => ?_))
        by_cases e : q.2 = b <;> simp [e]))) hR)
def lackL (pl : List Nat) (ts : List (Nat × Nat)) (ns : List Int) : List Int := (ns.zip pl).map fun q => (tiesAt ts q.2 : Int) - 1 - q.1
def mirL (pl : List Nat) (ts : List (Nat × Nat)) (ns : List Int) (b : Nat) : List Int := bareL pl (lackL pl ts ns) b
def T_mir : Spec := fun xs M R => ∃ pl ts ns b, xs = [.web pl ts, .dat (tI ns), .dat (S [b])] ∧ pl.length ≤ 7 ∧ ts.length ≤ 11 ∧ R (.dat (tI (mirL pl ts ns b))) M
theorem sc_mir : FnScope ["web", "heap", "bank", "number", "place"] ["web", "heap", "bank"] (defScope (topS 50)) := ⟨rfl, rfl, rfl, by decide +kernel, rfl, by decide +kernel, by decide +kernel⟩
theorem fn_mir (F : Fs g) : Fn g "mirrored" 2 T_mir :=
  fn_ok F.mirrored sc_mir (fun _ _ _ _ _ _ us hl => match us, hl with | [_, _, _], _ => rfl) fun xs M R h => by
    obtain ⟨pl, ts, ns, b, rfl, hz, hzt, hR⟩ := h
    refine ⟨rfl, ?_⟩
    refine bd_ret (EM.to (ev_call (fn_bare F) (am_cons (em_var 0) (am_two (x := .dat (.list ((lackL pl ts ns).map .int))) (EM.is (em_lc2n (zs := ns.zip pl) (r := fun q => .int ((tiesAt ts q.2 : Int) - 1 - q.1)) (e1 := fun q : Int × Nat => .int q.1) (e2 := fun q : Int × Nat => S [q.2]) 3 4
      (src_zipT (zs := ns) (en := .int) (em_var 1) (em_places (em_var 0)))
      (fun q _ => em_sub (em_sub (ev_call (fn_tiesAt F) (am_two (em_var 0) (em_var 4)) ⟨pl, ts, q.2, rfl, hzt, only_self⟩) em_int) (em_var 3)) (by have := zip_len ns pl; omega)) (by
        unfold lackL
        rw [List.map_map]
        rfl)) (em_var 2))) ⟨pl, ts, lackL pl ts ns, b, _, rfl, .inr rfl, hz, only_self⟩) hR)
/-! ### level_of -/
def levelL (pl : List Nat) (ts : List (Nat × Nat)) (ns : List Int) (b : Nat) : Int := (bareL pl ns b).sum + tiesAt ts b - ts.length
def T_levelOf : Spec := fun xs M R => ∃ pl ts ns b, xs = [.web pl ts, .dat (tI ns), .dat (S [b])] ∧ pl.length ≤ 7 ∧ ts.length ≤ 11 ∧ R (.dat (.int (levelL pl ts ns b))) M
theorem sc_levelOf : FnScope ["web", "heap", "bank"] ["web", "heap", "bank"] (defScope (topS 56)) := ⟨rfl, rfl, rfl, by decide +kernel, rfl, by decide +kernel, by decide +kernel⟩
theorem fn_levelOf (F : Fs g) : Fn g "level_of" 3 T_levelOf :=
  fn_ok F.level_of sc_levelOf (fun _ _ _ _ _ _ us hl => match us, hl with | [_, _, _], _ => rfl) fun xs M R h => by
    obtain ⟨pl, ts, ns, b, rfl, hz, hzt, hR⟩ := h
    refine ⟨rfl, ?_⟩
    exact bd_ret (EM.to (em_sub (em_add (em_sumT (ev_call (fn_bare F) (am_cons (em_var 0) (am_two (em_var 1) (em_var 2))) ⟨pl, ts, ns, b, _, rfl, .inl rfl, hz, only_self⟩)) (ev_call (fn_tiesAt F) (am_two (em_var 0) (em_var 2)) ⟨pl, ts, b, rfl, hzt, only_self⟩)) (em_lenW (fn_len F) (em_var 0) (by omega))) hR)
end
end Wr
end
section
set_option maxRecDepth 100000
set_option maxHeartbeats 1000000
/-! burnt. -/
namespace Wr
open PySem L2
section
variable {g : Gm}
/-! ### one turn of the fire -/
structure BS where
  seen : List Nat
  fuses : List Nat
  used : List Nat
  hits : Nat → Int
def crosses (q : Nat × Nat) (seen : List Nat) : Bool := decide (q.1 ∈ seen) != decide (q.2 ∈ seen)
def opens (ts : List (Nat × Nat)) (seen used : List Nat) : List Nat := ((numbered ts).filter fun q => !decide (q.2 ∈ used) && crosses q.1 seen).map (·.2)
def farEnd (ts : List (Nat × Nat)) (seen : List Nat) (i : Nat) : Nat := if (tieAt ts i).1 ∈ seen then (tieAt ts i).2 else (tieAt ts i).1
def hAt (pl : List Nat) (h : List Int) (c : Nat) : Int := h.getD (pl.idxOf c) 0
def burnStep (pl : List Nat) (ts : List (Nat × Nat)) (h : List Int) (s : BS) (i : Nat) : BS :=
  let e := farEnd ts s.seen i
  let hits' := setF s.hits e (s.hits e + 1)
  if hAt pl h e < s.hits e + 1 then ⟨s.seen ++ [e], s.fuses ++ [i], s.used ++ [i], hits'⟩ else ⟨s.seen, s.fuses, s.used ++ [i], hits'⟩
def burnGo (pl : List Nat) (ts : List (Nat × Nat)) (h : List Int) : Nat → BS → BS
  | 0, s => s
  | n + 1, s => match (opens ts s.seen s.used).getLast? with
    | none => s
    | some i => burnGo pl ts h n (burnStep pl ts h s i)
def burnt (pl : List Nat) (ts : List (Nat × Nat)) (h : List Int) (b : Nat) : BS := burnGo pl ts h (ts.length + 1) ⟨[b], [], [], fun _ => 0⟩
theorem upd_comm' {M : Hp} {p q : Addr} {a b : HO} (h : q ≠ p) : upd (upd M q a) p b = upd (upd M p b) q a := by
  funext x
  by_cases e : x = p
  · subst e
    rw [upd_same, upd_ne (Ne.symm h), upd_same]
  · rw [upd_ne e]
    by_cases e2 : x = q
    · subst e2
      rw [upd_same, upd_same]
    · rw [upd_ne e2, upd_ne e2, upd_ne e]
theorem burnGo_some {pl : List Nat} {ts : List (Nat × Nat)} {h : List Int} {n : Nat} {s : BS} {i : Nat} (e : (opens ts s.seen s.used).getLast? = some i) : burnGo pl ts h (n + 1) s = burnGo pl ts h n (burnStep pl ts h s i) := by
  show (match (opens ts s.seen s.used).getLast? with
    | none => s
    | some i => burnGo pl ts h n (burnStep pl ts h s i)) = _
  rw [e]
theorem mem_opens {ts : List (Nat × Nat)} {seen used : List Nat} {i : Nat} (h : i ∈ opens ts seen used) : i < ts.length ∧ i ∉ used ∧ crosses (tieAt ts i) seen = true := by
  unfold opens at h
  obtain ⟨q, hq, rfl⟩ := List.mem_map.mp h
  obtain ⟨h1, h2⟩ := List.mem_filter.mp hq
  obtain ⟨j, hj⟩ := List.getElem?_of_mem h1
  obtain ⟨e1, e2⟩ := numb_at hj
  subst e1
  have hlt := (List.getElem?_eq_some_iff.mp e2).1
  simp only [Bool.and_eq_true, Bool.not_eq_true', decide_eq_false_iff_not] at h2
  refine ⟨hlt, h2.1, ?_⟩
  rw [tieAt_get hlt] at e2
  rw [Option.some.inj e2]
  exact h2.2
theorem tieAt_mem {ts : List (Nat × Nat)} {i : Nat} (h : i < ts.length) : tieAt ts i ∈ ts := List.mem_of_getElem? (tieAt_get h)
theorem far_in {pl : List Nat} {ts : List (Nat × Nat)} {seen : List Nat} {i : Nat} (hp : ∀ q ∈ ts, q.1 ∈ pl ∧ q.2 ∈ pl) (h : i < ts.length) : farEnd ts seen i ∈ pl := by
  obtain ⟨a, b⟩ := hp _ (tieAt_mem h)
  unfold farEnd
  split
  · exact b
  · exact a
theorem opens_short (ts : List (Nat × Nat)) (seen used : List Nat) : (opens ts seen used).length ≤ ts.length := by
  unfold opens
  rw [List.length_map]
  have := List.length_filter_le (fun q : (Nat × Nat) × Nat => !decide (q.2 ∈ used) && crosses q.1 seen) (numbered ts)
  have e : (numbered ts).length = ts.length := by simp [numbered]
  omega
theorem nodup_bound {l : List Nat} {n : Nat} (nd : l.Nodup) (h : ∀ i ∈ l, i < n) : l.length ≤ n := by
  have := List.Nodup.length_le_of_subset (l₂ := List.range n) nd fun i hi => List.mem_range.mpr (h i hi)
  simpa using this
def T_burnt : Spec := fun xs M R => ∃ pl ts ns b, xs = [.web pl ts, .dat (tI ns), .dat (S [b])] ∧ WOk pl ts ∧ ns.length = pl.length ∧ R (.dat (.tuple [S (burnt pl ts ns b).seen, .list ((burnt pl ts ns b).fuses.map fun i : Nat => .int (i : Int))])) M
abbrev N_burnt : List Str := ["web", "heap", "bank", "seen", "fuses", "used", "hits", "open_ties", "index", "end", "place", "k", "tie"]
theorem sc_burnt : FnScope N_burnt ["web", "heap", "bank"] (defScope (topS 43)) := ⟨rfl, rfl, rfl, by decide +kernel, rfl, by decide +kernel, by decide +kernel⟩
def bM (M : Hp) (pU pH : Addr) (pl : List Nat) (s : BS) : Hp := upd (upd M pU (.dK (uK s.used))) pH (.dK (hK pl s.hits))
structure BInv (pl : List Nat) (ts : List (Nat × Nat)) (s : BS) : Prop where
  nd : s.used.Nodup
  lt : ∀ i ∈ s.used, i < ts.length
  sl : s.seen.length ≤ 1 + s.used.length
  fl : s.fuses.length ≤ s.used.length
theorem last_map {α β : Type} (f : α → β) (l : List α) : (l.map f).getLast? = l.getLast?.map f := List.getLast?_map
theorem atI_last {α : Type} {xs : List α} {x : α} (h : xs.getLast? = some x) : atI xs (-1) = some x := by
  have hne : xs ≠ [] := by intro z; rw [z] at h; cases h
  have hpos : 0 < xs.length := List.length_pos_iff.mpr hne
  unfold atI ixN
  rw [if_neg (by decide), if_pos (by omega)]
  have e : ((-1 : Int) + (xs.length : Nat)).toNat = xs.length - 1 := by omega
  show xs[((-1 : Int) + (xs.length : Nat)).toNat]? = some x
  rw [e, ← List.getLast?_eq_getElem?]
  exact h
theorem fn_burnt (F : Fs g) : Fn g "burnt" 1 T_burnt :=
  fn_ok F.burnt sc_burnt (fun _ _ _ _ _ _ us hl => match us, hl with | [_, _, _], _ => rfl) fun xs M R h => by
    obtain ⟨pl, ts, ns, b, rfl, ok, hns, hR⟩ := h
    have hpl : pl.length ≤ 4 := ok.few
    have hts : ts.length ≤ 6 := ok.fewT
    refine ⟨rfl, bd_frz ?_⟩
    refine bd_tup4V 3 4 5 6 (av_cons (EM.to (em_var 2) (av_cons (EM.to (em_lst [] am_nil) (av_cons (EV.imp ev_newD fun x M1 hx => ?_)))))) 
    obtain ⟨pU, hU, rfl, rfl⟩ := hx
    refine av_cons (EV.imp (ev_newHits (h := fun _ => 0) (pl := pl) (em_lc1n (zs := pl) (enc := fun n => .dat (S [n])) (r := fun n => .tuple [S [n], .int 0]) 10 (src_s (em_places (em_var 0))) (fun n _ => em_tup [S [n], .int 0] (am_two (em_var 10) em_int) (by simp)) (by omega)) (nodup_asc ok.asc)) fun x M1 hx => ?_)
    obtain ⟨pH, hH, rfl, rfl⟩ := hx
    refine av_nil ⟨_, _, _, _, rfl, ?_⟩
    have hne : pH ≠ pU := fun z => by rw [z, upd_same] at hH; cases hH
    have hH0 : M pH = none := by rw [upd_ne hne] at hH; exact hH
    have atU : ∀ s : BS, bM M pU pH pl s pU = some (.dK (uK s.used)) := fun s => by
      unfold bM
      rw [upd_ne (Ne.symm hne)]
      exact upd_same
    have atH : ∀ s : BS, bM M pU pH pl s pH = some (.dK (hK pl s.hits)) := fun s => upd_same
    have hsame : ∀ s : BS, Same M (bM M pU pH pl s) := fun s => (same_upd hU).trans (same_upd (by rw [upd_ne hne]; exact hH0))
    refine bd_one (sd_while (fun m ρ' M' => ∃ s : BS, M' = bM M pU pH pl s ∧ BInv pl ts s ∧ m + s.used.length = ts.length + 1 ∧ burnGo pl ts ns m s = burnt pl ts ns b ∧
      ∃ o1 o2 o3 o4 o5 o6, ρ' = [some (.web pl ts), some (.dat (tI ns)), some (.dat (S [b])), some (.dat (S s.seen)), some (.dat (.list (s.fuses.map fun i : Nat => .int (i : Int)))), some (.raw (.ref pU)), some (.raw (.ref pH)), o1, o2, o3, o4, o5, o6]) (ts.length + 1)
      ⟨⟨[b], [], [], fun _ => 0⟩, rfl, ⟨List.nodup_nil, fun i hi => by (cases hi), Nat.le_refl _, Nat.le_refl _⟩, rfl, rfl, none, none, none, none, none, none, rfl⟩ (fun m ρ' M' hW => ?_))
    obtain ⟨s, rfl, bi, hm, hgo, o1, o2, o3, o4, o5, o6, rfl⟩ := hW
    have hul : s.used.length ≤ ts.length := nodup_bound bi.nd bi.lt
    have hsl := bi.sl
    have hfl := bi.fl
    refine ⟨true, _, tm_val em_bool, fun _ => ?_, fun z => nomatch z⟩
    refine bd_setLc2 (zs := numbered ts) (e1 := fun q : (Nat × Nat) × Nat => .int (q.2 : Nat)) (e2 := fun q : (Nat × Nat) × Nat => S (tS q.1)) (t := fun q => !decide (q.2 ∈ s.used) && crosses q.1 s.seen) (r := fun q => .int (q.2 : Nat)) 7 11 12
      (src_enumT (em_ties (em_var 0)))
      (fun q _ => ts_one (tm_and (tm_nuK (em_var 11) (em_var 5) (atU s)) fun _ => tm_neB (em_in1 (em_ixS (l := tS q.1) (em_var 12) em_int rfl (by show 2 ≤ 100000; decide)) (em_var 3)) (em_in1 (em_ixS (l := tS q.1) (em_var 12) em_int rfl (by show 2 ≤ 100000; decide)) (em_var 3))))
      (fun q _ _ => em_var 11) (by simp [numbered]; omega) ?_
    have eo : (((numbered ts).filter fun q => !decide (q.2 ∈ s.used) && crosses q.1 s.seen).map fun q => PyData.int (q.2 : Nat)) = (opens ts s.seen s.used).map fun i : Nat => .int (i : Int) := by unfold opens; rw [List.map_map]; rfl
    rw [eo]
    have hsh : SeqAt.shaped (.list ((opens ts s.seen s.used).map fun i : Nat => .int (i : Int))) = true := by
      have := shaped_lI (toI (opens ts s.seen s.used))
      unfold toI at this
      rw [List.map_map] at this
      exact this
    refine bd_when (tm_eqD (em_var 7) (em_lst [] am_nil) hsh shaped_nil (eqv_nil _)) (fun he => ?_) (fun he => ?_)
    · -- nothing is open
      have hnil : opens ts s.seen s.used = [] := by
        have := List.isEmpty_iff.mp he
        exact List.map_eq_nil_iff.mp this
      have hend : burnt pl ts ns b = s := by
        rw [← hgo]
        cases m with
        | zero => rfl
        | succ m => unfold burnGo; rw [hnil]; rfl
      rw [hend] at hR
      exact bd_ret (EM.to (em_tup [S s.seen, .list (s.fuses.map fun i : Nat => .int (i : Int))] (am_two (em_var 3) (em_var 4)) (by simp)) ⟨M, hsame s, hR⟩)
    · obtain ⟨i, hi⟩ : ∃ i, (opens ts s.seen s.used).getLast? = some i := by
        cases e : (opens ts s.seen s.used).getLast? with
        | some i => exact ⟨i, rfl⟩
        | none =>
          rw [List.getLast?_eq_none_iff] at e
          rw [e] at he
          cases he
      obtain ⟨hlt, hnu, hcr⟩ := mem_opens (List.mem_of_getLast? hi)
      have hfar : farEnd ts s.seen i ∈ pl := far_in (fun q hq => ⟨(ok.ends q hq).1, (ok.ends q hq).2.1⟩) hlt
      have nd2 : (s.used ++ [i]).Nodup := List.nodup_append.mpr ⟨bi.nd, List.pairwise_singleton _ _, fun x hx y hy => by rw [List.mem_singleton.mp hy]; exact fun z => hnu (z ▸ hx)⟩
      have lt2 : ∀ x ∈ s.used ++ [i], x < ts.length := fun x hx => by
        rcases List.mem_append.mp hx with q | q
        · exact bi.lt x q
        · rw [List.mem_singleton.mp q]; exact hlt
      have hul2 : s.used.length + 1 ≤ ts.length := by
        have := nodup_bound nd2 lt2
        simpa using this
      obtain ⟨m', rfl⟩ : ∃ m', m = m' + 1 := ⟨m - 1, by omega⟩
      refine bd_set 8 (x := .dat (.int (i : Int))) (em_ixL (em_var 7) (em_neg em_int) (atI_last (by rw [last_map, hi]; rfl))) ?_
      refine bd_putU (em_var 5) (em_var 8) (atU s) hnu (by omega) ?_
      have eM1 : upd (bM M pU pH pl s) pU (.dK (uK (s.used ++ [i]))) = bM M pU pH pl ⟨s.seen, s.fuses, s.used ++ [i], s.hits⟩ := by
        unfold bM
        rw [upd_comm' hne, upd_upd]
      rw [eM1]
      refine bd_set 9 (x := .dat (S [farEnd ts s.seen i])) (EM.is (em_if (d := S [(tieAt ts i).2]) (f := S [(tieAt ts i).1]) (tm_in1 (em_ixS (l := tS (tieAt ts i)) (em_ixT (em_ties (em_var 0)) (em_var 8) (tie_ix hlt)) em_int rfl (by show 2 ≤ 100000; decide)) (em_var 3))
        (fun _ => em_ixS (l := tS (tieAt ts i)) (em_ixT (em_ties (em_var 0)) (em_var 8) (tie_ix hlt)) em_int rfl (by show 2 ≤ 100000; decide)) (fun _ => em_ixS (l := tS (tieAt ts i)) (em_ixT (em_ties (em_var 0)) (em_var 8) (tie_ix hlt)) em_int rfl (by show 2 ≤ 100000; decide))) (by
          unfold farEnd
          by_cases q : (tieAt ts i).1 ∈ s.seen <;> simp [q])) ?_
      refine bd_augH (pl := pl) (h := s.hits) (em_var 6) (em_var 9) (atH _) hfar (by omega) ?_
      have eM2 : upd (bM M pU pH pl ⟨s.seen, s.fuses, s.used ++ [i], s.hits⟩) pH (.dK (hK pl (setF s.hits (farEnd ts s.seen i) (s.hits (farEnd ts s.seen i) + 1)))) = bM M pU pH pl ⟨s.seen, s.fuses, s.used ++ [i], setF s.hits (farEnd ts s.seen i) (s.hits (farEnd ts s.seen i) + 1)⟩ := by
        unfold bM
        rw [upd_upd]
      rw [eM2]
      have hix : atI (ns.map PyData.int) ((pl.idxOf (farEnd ts s.seen i) : Nat) : Int) = some (.int (hAt pl ns (farEnd ts s.seen i))) := by
        refine atI_nat ?_
        have : pl.idxOf (farEnd ts s.seen i) < ns.length := by rw [hns]; exact List.idxOf_lt_length_iff.mpr hfar
        unfold hAt
        rw [List.getElem?_map, List.getD_eq_getElem?_getD, List.getElem?_eq_getElem this]
        rfl
      have hst : setF s.hits (farEnd ts s.seen i) (s.hits (farEnd ts s.seen i) + 1) (farEnd ts s.seen i) = s.hits (farEnd ts s.seen i) + 1 := by simp [setF]
      refine bd_one (sd_if (TM.is (tm_gt (em_getH (pl := pl) (h := setF s.hits (farEnd ts s.seen i) (s.hits (farEnd ts s.seen i) + 1)) (em_var 6) (em_var 9) (atH _) hfar) (em_ixT (ds := ns.map .int) (em_var 1) (em_index (em_places (em_var 0)) (em_var 9) hfar) hix)) (by rw [hst])) (fun ht => ?_) (fun ht => ?_))
      · have ht' := of_decide_eq_true ht
        refine bd_tup2V 3 4 (av_am (am_two (em_addS (em_var 3) (em_var 9) (by show s.seen.length + 1 ≤ 100000; omega)) (EM.is (y := .dat (.list ((s.fuses ++ [i]).map fun i : Nat => .int (i : Int)))) (em_cat (em_var 4) (em_lst [.int (i : Int)] (am_one (em_var 8)) (by simp)) (by rw [List.length_map]; show s.fuses.length + 1 ≤ 100000; omega)) (by rw [List.map_append]; rfl))) ⟨_, _, rfl, ?_⟩)
        refine bd_nil ⟨m', by omega, ⟨s.seen ++ [farEnd ts s.seen i], s.fuses ++ [i], s.used ++ [i], setF s.hits (farEnd ts s.seen i) (s.hits (farEnd ts s.seen i) + 1)⟩, rfl, ⟨nd2, lt2, by simp; omega, by simp; omega⟩, by simp; omega, ?_, _, _, _, _, _, _, rfl⟩
        rw [← hgo, burnGo_some hi]
        unfold burnStep
        simp only [ht', if_true]
      · have ht' := of_decide_eq_false ht
        refine bd_nil ⟨m', by omega, ⟨s.seen, s.fuses, s.used ++ [i], setF s.hits (farEnd ts s.seen i) (s.hits (farEnd ts s.seen i) + 1)⟩, rfl, ⟨nd2, lt2, by simp; omega, by simp; omega⟩, by simp; omega, ?_, _, _, _, _, _, _, rfl⟩
        rw [← hgo, burnGo_some hi]
        unfold burnStep
        simp only [ht', if_false]
end
end Wr
end
section
set_option maxRecDepth 100000
set_option maxHeartbeats 1000000
/-! lit_by, does_last, is_lasting, lasting_heaps, level. -/
namespace Wr
open PySem L2
section
variable {g : Gm}
/-! ### lit_by -/
structure LS where
  seen : List Nat
  used : List Nat
  hits : Nat → Int
def litStep (ts : List (Nat × Nat)) (lot : List Nat) (s : LS) (i : Nat) : LS :=
  if i ∈ lot then ⟨s.seen ++ [farEnd ts s.seen i], s.used ++ [i], s.hits⟩ else ⟨s.seen, s.used ++ [i], setF s.hits (farEnd ts s.seen i) (s.hits (farEnd ts s.seen i) + 1)⟩
def litGo (pl : List Nat) (ts : List (Nat × Nat)) (lot : List Nat) : Nat → LS → LS
  | 0, s => s
  | n + 1, s => if s.seen.length < pl.length then (match (opens ts s.seen s.used).getLast? with
    | none => s
    | some i => litGo pl ts lot n (litStep ts lot s i)) else s
def litEnd (pl : List Nat) (ts : List (Nat × Nat)) (lot : List Nat) (b : Nat) : LS := litGo pl ts lot (ts.length + 1) ⟨[b], [], fun _ => 0⟩
def litBy (pl : List Nat) (ts : List (Nat × Nat)) (lot : List Nat) (b : Nat) : List Int := pl.map (litEnd pl ts lot b).hits
def Spans (pl : List Nat) (ts : List (Nat × Nat)) (lot : List Nat) (b : Nat) : Prop := ∀ seen : List Nat, b ∈ seen → (∃ c ∈ pl, c ∉ seen) → ∃ i ∈ lot, crosses (tieAt ts i) seen = true
structure LInv (pl : List Nat) (ts : List (Nat × Nat)) (lot : List Nat) (b : Nat) (s : LS) : Prop where
  nd : s.used.Nodup
  lt : ∀ i ∈ s.used, i < ts.length
  snd : s.seen.Nodup
  sub : ∀ c ∈ s.seen, c ∈ pl
  bank : b ∈ s.seen
  tree : ∀ i ∈ s.used, i ∈ lot → (tieAt ts i).1 ∈ s.seen ∧ (tieAt ts i).2 ∈ s.seen
theorem far_new {ts : List (Nat × Nat)} {seen : List Nat} {i : Nat} (h : crosses (tieAt ts i) seen = true) : farEnd ts seen i ∉ seen ∧ (∀ c, (c = (tieAt ts i).1 ∨ c = (tieAt ts i).2) → c ∈ seen ∨ c = farEnd ts seen i) := by
  unfold crosses at h
  unfold farEnd
  by_cases h1 : (tieAt ts i).1 ∈ seen <;> by_cases h2 : (tieAt ts i).2 ∈ seen
  · simp [h1, h2] at h
  · rw [if_pos h1]
    refine ⟨h2, fun c hc => ?_⟩
    rcases hc with q | q
    · exact .inl (q ▸ h1)
    · exact .inr q
  · rw [if_neg h1]
    refine ⟨h1, fun c hc => ?_⟩
    rcases hc with q | q
    · exact .inr q
    · exact .inl (q ▸ h2)
  · simp [h1, h2] at h
theorem litGo_some {pl : List Nat} {ts : List (Nat × Nat)} {lot : List Nat} {n : Nat} {s : LS} {i : Nat} (hl : s.seen.length < pl.length) (e : (opens ts s.seen s.used).getLast? = some i) : litGo pl ts lot (n + 1) s = litGo pl ts lot n (litStep ts lot s i) := by
  show (if s.seen.length < pl.length then (match (opens ts s.seen s.used).getLast? with
    | none => s
    | some i => litGo pl ts lot n (litStep ts lot s i)) else s) = _
  rw [if_pos hl, e]
theorem litGo_stop {pl : List Nat} {ts : List (Nat × Nat)} {lot : List Nat} {s : LS} (hl : ¬ s.seen.length < pl.length) : ∀ n, litGo pl ts lot n s = s
  | 0 => rfl
  | n + 1 => by
    show (if s.seen.length < pl.length then _ else s) = s
    rw [if_neg hl]
theorem lit_next {pl : List Nat} {ts : List (Nat × Nat)} {lot : List Nat} {b : Nat} {s : LS} (hp : ∀ q ∈ ts, q.1 ∈ pl ∧ q.2 ∈ pl) (sp : Spans pl ts lot b) (hlot : ∀ i ∈ lot, i < ts.length) (li : LInv pl ts lot b s) (hl : s.seen.length < pl.length) (ndp : pl.Nodup) :
    ∃ i, (opens ts s.seen s.used).getLast? = some i ∧ i < ts.length ∧ i ∉ s.used ∧ crosses (tieAt ts i) s.seen = true ∧ LInv pl ts lot b (litStep ts lot s i) := by
  have hex : ∃ c ∈ pl, c ∉ s.seen := by
    apply Classical.byContradiction
    intro hno
    have hsub : ∀ c ∈ pl, c ∈ s.seen := fun c hc => Classical.byContradiction fun z => hno ⟨c, hc, z⟩
    have := List.Nodup.length_le_of_subset ndp hsub
    omega
  obtain ⟨j, hj, hcj⟩ := sp s.seen li.bank hex
  have hjo : j ∈ opens ts s.seen s.used := by
    have hjl := hlot j hj
    have hju : j ∉ s.used := fun z => by
      obtain ⟨a, b'⟩ := li.tree j z hj
      unfold crosses at hcj
      simp [a, b'] at hcj
    unfold opens
    refine List.mem_map.mpr ⟨(tieAt ts j, j), List.mem_filter.mpr ⟨?_, ?_⟩, rfl⟩
    · unfold numbered
      refine List.mem_of_getElem? (i := j) ?_
      rw [List.getElem?_zipIdx, tieAt_get hjl]
      simp
    · simp [hju, hcj]
  obtain ⟨i, hi⟩ : ∃ i, (opens ts s.seen s.used).getLast? = some i := by
    cases e : (opens ts s.seen s.used).getLast? with
    | some i => exact ⟨i, rfl⟩
    | none =>
      rw [List.getLast?_eq_none_iff] at e
      rw [e] at hjo
      cases hjo
  obtain ⟨hlt, hnu, hcr⟩ := mem_opens (List.mem_of_getLast? hi)
  refine ⟨i, hi, hlt, hnu, hcr, ?_⟩
  obtain ⟨hfn, hfe⟩ := far_new hcr
  have nd2 : (s.used ++ [i]).Nodup := List.nodup_append.mpr ⟨li.nd, List.pairwise_singleton _ _, fun x hx y hy => by rw [List.mem_singleton.mp hy]; exact fun z => hnu (z ▸ hx)⟩
  have lt2 : ∀ x ∈ s.used ++ [i], x < ts.length := fun x hx => by
    rcases List.mem_append.mp hx with q | q
    · exact li.lt x q
    · rw [List.mem_singleton.mp q]; exact hlt
  unfold litStep
  by_cases hin : i ∈ lot
  · rw [if_pos hin]
    refine ⟨nd2, lt2, List.nodup_append.mpr ⟨li.snd, List.pairwise_singleton _ _, fun x hx y hy => by rw [List.mem_singleton.mp hy]; exact fun z => hfn (z ▸ hx)⟩, fun c hc => ?_, List.mem_append_left _ li.bank, fun x hx hxl => ?_⟩
    · rcases List.mem_append.mp hc with q | q
      · exact li.sub c q
      · rw [List.mem_singleton.mp q]; exact far_in hp hlt
    · rcases List.mem_append.mp hx with q | q
      · obtain ⟨a, b'⟩ := li.tree x q hxl
        exact ⟨List.mem_append_left _ a, List.mem_append_left _ b'⟩
      · rw [List.mem_singleton.mp q]
        refine ⟨?_, ?_⟩
        · rcases hfe _ (.inl rfl) with z | z
          · exact List.mem_append_left _ z
          · exact List.mem_append_right _ (by rw [← z]; simp)
        · rcases hfe _ (.inr rfl) with z | z
          · exact List.mem_append_left _ z
          · exact List.mem_append_right _ (by rw [← z]; simp)
  · rw [if_neg hin]
    refine ⟨nd2, lt2, li.snd, li.sub, li.bank, fun x hx hxl => ?_⟩
    rcases List.mem_append.mp hx with q | q
    · exact li.tree x q hxl
    · rw [List.mem_singleton.mp q] at hxl
      exact absurd hxl hin
def T_lit : Spec := fun xs M R => ∃ pl ts lot b, xs = [.web pl ts, .dat (tN lot), .dat (S [b])] ∧ WOk pl ts ∧ b ∈ pl ∧ (∀ i ∈ lot, i < ts.length) ∧ Spans pl ts lot b ∧ R (.dat (tI (litBy pl ts lot b))) M
abbrev N_lit : List Str := ["web", "tree", "bank", "seen", "used", "hits", "some", "index", "end", "place", "k", "tie"]
theorem sc_lit : FnScope N_lit ["web", "tree", "bank"] (defScope (topS 47)) := ⟨rfl, rfl, rfl, by decide +kernel, rfl, by decide +kernel, by decide +kernel⟩
def lM (M : Hp) (pU pH : Addr) (pl : List Nat) (s : LS) : Hp := upd (upd M pU (.dK (uK s.used))) pH (.dK (hK pl s.hits))
theorem mem_toI {i : Nat} {l : List Nat} : ((i : Int) ∈ toI l) ↔ i ∈ l := by
  unfold toI
  rw [List.mem_map]
  constructor
  · rintro ⟨j, hj, e⟩
    rw [← Int.ofNat.inj e]
    exact hj
  · intro h
    exact ⟨i, h, rfl⟩
theorem fn_lit (F : Fs g) : Fn g "lit_by" 1 T_lit :=
  fn_ok F.lit_by sc_lit (fun _ _ _ _ _ _ us hl => match us, hl with | [_, _, _], _ => rfl) fun xs M R h => by
    obtain ⟨pl, ts, lot, b, rfl, ok, hb, hlot, sp, hR⟩ := h
    have hpl : pl.length ≤ 4 := ok.few
    have hts : ts.length ≤ 6 := ok.fewT
    have hp : ∀ q ∈ ts, q.1 ∈ pl ∧ q.2 ∈ pl := fun q hq => ⟨(ok.ends q hq).1, (ok.ends q hq).2.1⟩
    have ndp : pl.Nodup := nodup_asc ok.asc
    refine ⟨rfl, bd_frz ?_⟩
    refine bd_tup3V 3 4 5 (av_cons (EM.to (em_var 2) (av_cons (EV.imp ev_newD fun x M1 hx => ?_))))
    obtain ⟨pU, hU, rfl, rfl⟩ := hx
    refine av_cons (EV.imp (ev_newHits (h := fun _ => 0) (pl := pl) (em_lc1n (zs := pl) (enc := fun n => .dat (S [n])) (r := fun n => .tuple [S [n], .int 0]) 9 (src_s (em_places (em_var 0))) (fun n _ => em_tup [S [n], .int 0] (am_two (em_var 9) em_int) (by simp)) (by omega)) ndp) fun x M1 hx => ?_)
    obtain ⟨pH, hH, rfl, rfl⟩ := hx
    refine av_nil ⟨_, _, _, rfl, ?_⟩
    have hne : pH ≠ pU := fun z => by rw [z, upd_same] at hH; cases hH
    have hH0 : M pH = none := by rw [upd_ne hne] at hH; exact hH
    have atU : ∀ s : LS, lM M pU pH pl s pU = some (.dK (uK s.used)) := fun s => by
      unfold lM
      rw [upd_ne (Ne.symm hne)]
      exact upd_same
    have atH : ∀ s : LS, lM M pU pH pl s pH = some (.dK (hK pl s.hits)) := fun s => upd_same
    have hsame : ∀ s : LS, Same M (lM M pU pH pl s) := fun s => (same_upd hU).trans (same_upd (by rw [upd_ne hne]; exact hH0))
    refine bd_cons (sd_while (fun m ρ' M' => ∃ s : LS, M' = lM M pU pH pl s ∧ LInv pl ts lot b s ∧ m + s.used.length = ts.length + 1 ∧ litGo pl ts lot m s = litEnd pl ts lot b ∧
      ∃ o1 o2 o3 o4 o5 o6, ρ' = [some (.web pl ts), some (.dat (tN lot)), some (.dat (S [b])), some (.dat (S s.seen)), some (.raw (.ref pU)), some (.raw (.ref pH)), o1, o2, o3, o4, o5, o6]) (ts.length + 1)
      ⟨⟨[b], [], fun _ => 0⟩, rfl, ⟨List.nodup_nil, fun i hi => by (cases hi), List.pairwise_singleton _ _, fun c hc => by rw [List.mem_singleton.mp hc]; exact hb, List.mem_singleton.mpr rfl, fun i hi => by (cases hi)⟩, rfl, rfl, none, none, none, none, none, none, rfl⟩ (fun m ρ' M' hW => ?_))
    obtain ⟨s, rfl, li, hm, hgo, o1, o2, o3, o4, o5, o6, rfl⟩ := hW
    have hul : s.used.length ≤ ts.length := nodup_bound li.nd li.lt
    have hsl : s.seen.length ≤ pl.length := List.Nodup.length_le_of_subset li.snd li.sub
    refine ⟨decide ((s.seen.length : Int) < (pl.length : Int)), _, tm_lt (em_lenS (em_var 3) (by omega)) (em_lenS (em_places (em_var 0)) (by omega)), fun ht => ?_, fun ht => ?_⟩
    · have hlt0 : s.seen.length < pl.length := by
        have := of_decide_eq_true ht
        omega
      obtain ⟨i, hi, hlt, hnu, hcr, li2⟩ := lit_next hp sp hlot li hlt0 ndp
      have hfar : farEnd ts s.seen i ∈ pl := far_in hp hlt
      have hul2 : s.used.length + 1 ≤ ts.length := by
        have e : (litStep ts lot s i).used = s.used ++ [i] := by unfold litStep; split <;> rfl
        have := nodup_bound li2.nd li2.lt
        rw [e] at this
        simpa using this
      obtain ⟨m', rfl⟩ : ∃ m', m = m' + 1 := ⟨m - 1, by omega⟩
      refine bd_setLc2 (zs := numbered ts) (e1 := fun q : (Nat × Nat) × Nat => .int (q.2 : Nat)) (e2 := fun q : (Nat × Nat) × Nat => S (tS q.1)) (t := fun q => !decide (q.2 ∈ s.used) && crosses q.1 s.seen) (r := fun q => .int (q.2 : Nat)) 6 10 11
        (src_enumT (em_ties (em_var 0)))
        (fun q _ => ts_one (tm_and (tm_nuK (em_var 10) (em_var 4) (atU s)) fun _ => tm_neB (em_in1 (em_ixS (l := tS q.1) (em_var 11) em_int rfl (by show 2 ≤ 100000; decide)) (em_var 3)) (em_in1 (em_ixS (l := tS q.1) (em_var 11) em_int rfl (by show 2 ≤ 100000; decide)) (em_var 3))))
        (fun q _ _ => em_var 10) (by simp [numbered]; omega) ?_
      have eo : (((numbered ts).filter fun q => !decide (q.2 ∈ s.used) && crosses q.1 s.seen).map fun q => PyData.int (q.2 : Nat)) = (opens ts s.seen s.used).map fun i : Nat => .int (i : Int) := by unfold opens; rw [List.map_map]; rfl
      rw [eo]
      refine bd_set 7 (x := .dat (.int (i : Int))) (em_ixL (em_var 6) (em_neg em_int) (atI_last (by rw [last_map, hi]; rfl))) ?_
      refine bd_putU (em_var 4) (em_var 7) (atU s) hnu (by omega) ?_
      have eM1 : upd (lM M pU pH pl s) pU (.dK (uK (s.used ++ [i]))) = lM M pU pH pl ⟨s.seen, s.used ++ [i], s.hits⟩ := by
        unfold lM
        rw [upd_comm' hne, upd_upd]
      rw [eM1]
      refine bd_set 8 (x := .dat (S [farEnd ts s.seen i])) (EM.is (em_if (d := S [(tieAt ts i).2]) (f := S [(tieAt ts i).1]) (tm_in1 (em_ixS (l := tS (tieAt ts i)) (em_ixT (em_ties (em_var 0)) (em_var 7) (tie_ix hlt)) em_int rfl (by show 2 ≤ 100000; decide)) (em_var 3))
        (fun _ => em_ixS (l := tS (tieAt ts i)) (em_ixT (em_ties (em_var 0)) (em_var 7) (tie_ix hlt)) em_int rfl (by show 2 ≤ 100000; decide)) (fun _ => em_ixS (l := tS (tieAt ts i)) (em_ixT (em_ties (em_var 0)) (em_var 7) (tie_ix hlt)) em_int rfl (by show 2 ≤ 100000; decide))) (by
          unfold farEnd
          by_cases q : (tieAt ts i).1 ∈ s.seen <;> simp [q])) ?_
      refine bd_one (sd_if (t := decide (i ∈ lot)) (TM.is (tm_inTI (ns := toI lot) (em_var 7) (em_var 1)) (by
        by_cases q : i ∈ lot
        · rw [decide_eq_true q, decide_eq_true (mem_toI.mpr q)]
        · rw [decide_eq_false q, decide_eq_false (fun z => q (mem_toI.mp z))])) (fun hin => ?_) (fun hin => ?_))
      · have hin' := of_decide_eq_true hin
        have est : litStep ts lot s i = ⟨s.seen ++ [farEnd ts s.seen i], s.used ++ [i], s.hits⟩ := if_pos hin'
        rw [est] at li2
        refine bd_set 3 (em_addS (em_var 3) (em_var 8) (by show s.seen.length + 1 ≤ 100000; omega)) ?_
        refine bd_nil ⟨m', by omega, ⟨s.seen ++ [farEnd ts s.seen i], s.used ++ [i], s.hits⟩, rfl, li2, by simp; omega, ?_, _, _, _, _, _, _, rfl⟩
        rw [← hgo, litGo_some hlt0 hi, est]
      · have hin' := of_decide_eq_false hin
        have est : litStep ts lot s i = ⟨s.seen, s.used ++ [i], setF s.hits (farEnd ts s.seen i) (s.hits (farEnd ts s.seen i) + 1)⟩ := if_neg hin'
        rw [est] at li2
        refine bd_augH (pl := pl) (h := s.hits) (em_var 5) (em_var 8) (atH _) hfar (by omega) ?_
        have eM2 : upd (lM M pU pH pl ⟨s.seen, s.used ++ [i], s.hits⟩) pH (.dK (hK pl (setF s.hits (farEnd ts s.seen i) (s.hits (farEnd ts s.seen i) + 1)))) = lM M pU pH pl ⟨s.seen, s.used ++ [i], setF s.hits (farEnd ts s.seen i) (s.hits (farEnd ts s.seen i) + 1)⟩ := by
          unfold lM
          rw [upd_upd]
        rw [eM2]
        refine bd_nil ⟨m', by omega, ⟨s.seen, s.used ++ [i], setF s.hits (farEnd ts s.seen i) (s.hits (farEnd ts s.seen i) + 1)⟩, rfl, li2, by simp; omega, ?_, _, _, _, _, _, _, rfl⟩
        rw [← hgo, litGo_some hlt0 hi, est]
    · have hlt0 : ¬ s.seen.length < pl.length := by
        have := of_decide_eq_false ht
        omega
      rw [litGo_stop hlt0] at hgo
      refine bd_ret (EM.to (em_tupleL (ds := (pl.map s.hits).map .int) (EM.is (em_lc1n (zs := pl) (enc := fun n => .dat (S [n])) (r := fun n => .int (s.hits n)) 9 (src_s (em_places (em_var 0))) (fun n hn => em_getH (pl := pl) (h := s.hits) (em_var 5) (em_var 9) (atH s) hn) (by omega)) (by rw [List.map_map]; rfl))) ⟨M, hsame s, ?_⟩)
      have e : litBy pl ts lot b = pl.map s.hits := by unfold litBy; rw [← hgo]
      rw [e] at hR
      exact hR
end
end Wr
end
section
set_option maxRecDepth 100000
set_option maxHeartbeats 1000000
/-! does_last, is_lasting, lasting_heaps, level. -/
namespace Wr
open PySem L2
section
variable {g : Gm}
theorem burn_seen (pl : List Nat) (ts : List (Nat × Nat)) (h : List Int) : ∀ (n : Nat) (s : BS), (burnGo pl ts h n s).seen.length ≤ s.seen.length + n
  | 0, s => Nat.le_refl _
  | n + 1, s => by
    show (match (opens ts s.seen s.used).getLast? with
      | none => s
      | some i => burnGo pl ts h n (burnStep pl ts h s i)).seen.length ≤ _
    cases (opens ts s.seen s.used).getLast? with
    | none => show s.seen.length ≤ _; omega
    | some i =>
      have h1 := burn_seen pl ts h n (burnStep pl ts h s i)
      have h2 : (burnStep pl ts h s i).seen.length ≤ s.seen.length + 1 := by
        unfold burnStep
        simp only
        split
        · simp
        · show s.seen.length ≤ _; omega
      show (burnGo pl ts h n (burnStep pl ts h s i)).seen.length ≤ _
      omega
theorem bare_len (pl : List Nat) (ns : List Int) (b : Nat) (h : ns.length = pl.length) : (bareL pl ns b).length = pl.length := by unfold bareL; rw [List.length_map, List.length_zip, h]; omega
theorem mir_len (pl : List Nat) (ts : List (Nat × Nat)) (ns : List Int) (b : Nat) (h : ns.length = pl.length) : (mirL pl ts ns b).length = pl.length := bare_len _ _ _ (by unfold lackL; rw [List.length_map, List.length_zip, h]; omega)
theorem lit_len (pl : List Nat) (ts : List (Nat × Nat)) (lot : List Nat) (b : Nat) : (litBy pl ts lot b).length = pl.length := by unfold litBy; rw [List.length_map]
/-! ### does_last -/
def lastB (pl : List Nat) (ts : List (Nat × Nat)) (ns : List Int) (b : Nat) : Bool := richB pl ns b && (decide (0 ≤ minL (mirL pl ts ns b)) && decide ((burnt pl ts (mirL pl ts ns b) b).seen.length = pl.length))
def T_last : Spec := fun xs M R => ∃ pl ts ns b, xs = [.web pl ts, .dat (tI ns), .dat (S [b])] ∧ WOk pl ts ∧ ns.length = pl.length ∧ R (.dat (.bool (lastB pl ts ns b))) M
theorem sc_last : FnScope ["web", "heap", "bank", "other"] ["web", "heap", "bank"] (defScope (topS 51)) := ⟨rfl, rfl, rfl, by decide +kernel, rfl, by decide +kernel, by decide +kernel⟩
theorem fn_last (F : Fs g) : Fn g "does_last" 3 T_last :=
  fn_ok F.does_last sc_last (fun _ _ _ _ _ _ us hl => match us, hl with | [_, _, _], _ => rfl) fun xs M R h => by
    obtain ⟨pl, ts, ns, b, rfl, ok, hl, hR⟩ := h
    have hpl : pl.length ≤ 4 := ok.few
    have hp1 := ok.pos
    have hts : ts.length ≤ 6 := ok.fewT
    have hml := mir_len pl ts ns b hl
    refine ⟨rfl, ?_⟩
    refine bd_set 3 (ev_call (fn_mir F) (am_cons (em_var 0) (am_two (em_var 1) (em_var 2))) ⟨pl, ts, ns, b, rfl, by omega, by omega, only_self⟩) ?_
    refine bd_ret (EM.to (em_and3 (ev_call (fn_rich F) (am_cons (em_var 0) (am_two (em_var 1) (em_var 2))) ⟨pl, ts, ns, b, rfl, by omega, only_self⟩) (fun _ => em_ge (em_minT (em_var 3) (by omega)) em_int) fun _ _ => em_eqI (em_lenS (em_ixT (ds := [S (burnt pl ts (mirL pl ts ns b) b).seen, .list ((burnt pl ts (mirL pl ts ns b) b).fuses.map fun i : Nat => .int (i : Int))]) (ev_call (fn_burnt F) (am_cons (em_var 0) (am_two (em_var 3) (em_var 2))) ⟨pl, ts, mirL pl ts ns b, b, rfl, ok, hml, only_self⟩) em_int rfl) (by
        have := burn_seen pl ts (mirL pl ts ns b) (ts.length + 1) ⟨[b], [], [], fun _ => 0⟩
        show (burnGo pl ts (mirL pl ts ns b) (ts.length + 1) ⟨[b], [], [], fun _ => 0⟩).seen.length ≤ _
        simp at this
        omega)) (em_lenS (em_places (em_var 0)) (by omega))) ?_)
    have e : decide (((burnt pl ts (mirL pl ts ns b) b).seen.length : Int) = (pl.length : Int)) = decide ((burnt pl ts (mirL pl ts ns b) b).seen.length = pl.length) := by
      by_cases q : (burnt pl ts (mirL pl ts ns b) b).seen.length = pl.length
      · rw [q]; simp
      · rw [decide_eq_false q, decide_eq_false (by omega)]
    rw [e]
    exact hR
/-! ### by place and by name -/
theorem fnok_of {x : Str} {st : Stmt} {N ps : List Str} {k : Nat} {T : Spec} {f : Addr} {fd : FuncData} (F : Fun g.K x x st f fd) (S : FnScope N ps (defScope st))
    (h : ∀ xs M R, T xs M R → xs.length = ps.length ∧ BD ⟨g, k, N, defScope st, false, none⟩ (startR N xs) M (defBody st) { nx := fun _ M' => R (.dat .none) M', rt := R }) : FnOk g.P g.w g.K g.mg g.base CX0 (k + 1) f fd ps (spT g.C T) := by
  refine F.ok S (fun vs H Q E hsp => ?_) (fun cdv A outer s H vs Q E hr hsp => ?_)
  · obtain ⟨I, M, F, xs, R, _, _, i, hT, _⟩ := hsp
    rw [i.length]
    exact (h xs M R hT).1
  · obtain ⟨I, M, F, xs, R, rfl, d, i, hT, q⟩ := hsp
    refine ⟨_, pss_wp, ?_⟩
    have G : Good ⟨g, k, N, defScope st, false, none⟩ (cxOf CX0 g.P g.w g.K g.mg g.base N x (defScope st) f cdv A outer s (J3 I M F) E).nox :=
      ⟨rfl, rfl, rfl, rfl, rfl, rfl, rfl, hr, rfl, fun _ _ => rfl, rfl, fun z => nomatch z⟩
    exact (h xs M R hT).2 _ G _ I F _ (en_start i) d ⟨fun σ I2 ρ M2 hn s2 en2 d2 => q .non I2 _ M2 hn s2 d2 .non, q, fun _ _ _ _ z => z.elim, fun _ _ _ _ z => z.elim⟩
theorem fnk_ok {x : Str} {st : Stmt} {N ps ks : List Str} {k : Nat} {T : Spec} (Fh : FunAt g x st) (S : FnScope N ps (defScope st))
    (hb : ∀ (kV doc pm : Value) (an : Option Addr) (cdv ct : Value) (ws : List Value), ws.length = ps.length → bindArgs (PySem.W.fnOf x x (defArgs st) (defBody st) (defScope st) .none kV doc pm an cdv ct) ⟨[], ks.zip ws⟩ = pure (ps.zip ws.reverse))
    (h : ∀ xs M R, T xs M R → xs.length = ps.length ∧ BD ⟨g, k, N, defScope st, false, none⟩ (startR N xs) M (defBody st) { nx := fun _ M' => R (.dat .none) M', rt := R }) : FnK g x (k + 1) ks T := by
  obtain ⟨f, fd, F, hm⟩ := Fh
  refine ⟨f, fd, ps, fnok_of F S h, hm, F.kp, fun s ws hl => ?_⟩
  obtain ⟨oc, od, kV, doc, pm, an, cdv, ct, osl, rfl, lk, hcd⟩ := F.ex
  exact .of_eq (hb kV doc pm an cdv ct ws hl)
/-! ### is_lasting -/
def T_isLast : Spec := fun xs M R => ∃ pl ts ns b, xs = [.web pl ts, .dat (tI ns), .dat (S [b])] ∧ WOk pl ts ∧ (herdsOf pl ts).length = 1 ∧ OkH pl ns ∧ b ∈ pl ∧ richB pl ns b = true ∧ R (.dat (.bool (lastB pl ts ns b))) M
theorem sc_isLast : FnScope ["web", "heap", "bank"] ["web", "heap", "bank"] (defScope (topS 52)) := ⟨rfl, rfl, rfl, by decide +kernel, rfl, by decide +kernel, by decide +kernel⟩
theorem bd_isLast (F : Fs g) (xs : List Sl) (M : Hp) (R : Wish) (h : T_isLast xs M R) : xs.length = 3 ∧ BD ⟨g, 5, ["web", "heap", "bank"], defScope (topS 52), false, none⟩ (startR ["web", "heap", "bank"] xs) M (defBody (topS 52)) { nx := fun _ M' => R (.dat .none) M', rt := R } := by
  obtain ⟨pl, ts, ns, b, rfl, ok, h1, hh, hb, hr, hR⟩ := h
  refine ⟨rfl, ?_⟩
  refine bd_do (ev_call (fn_chkRich F) (am_cons (em_var 0) (am_two (em_var 1) (em_var 2))) ⟨pl, ts, ns, b, rfl, ok, h1, hh, hb, hr, only_self⟩) ?_
  exact bd_ret (ev_call (fn_last F) (am_cons (em_var 0) (am_two (em_var 1) (em_var 2))) ⟨pl, ts, ns, b, rfl, ok, hh.1, hR⟩)
theorem fn_isLast (F : Fs g) : Fn g "is_lasting" 6 T_isLast := fn_ok F.is_lasting sc_isLast (fun _ _ _ _ _ _ us hl => match us, hl with | [_, _, _], _ => rfl) (bd_isLast F)
theorem fnk_isLast (F : Fs g) : FnK g "is_lasting" 6 ["bank", "heap", "web"] T_isLast := fnk_ok F.is_lasting sc_isLast (fun _ _ _ _ _ _ us hl => match us, hl with | [_, _, _], _ => rfl) (bd_isLast F)
/-! ### lasting_heaps -/
def lastHeaps (pl : List Nat) (ts : List (Nat × Nat)) (b : Nat) : List (List Int) := srtT ((treesOf pl ts).map fun l => mirL pl ts (litBy pl ts l b) b)
def T_heaps : Spec := fun xs M R => ∃ pl ts b, xs = [.web pl ts, .dat (S [b])] ∧ WOk pl ts ∧ (herdsOf pl ts).length = 1 ∧ b ∈ pl ∧ (∀ l ∈ treesOf pl ts, Spans pl ts l b) ∧ R (.dat (.tuple ((lastHeaps pl ts b).map tI))) M
theorem sc_heaps : FnScope ["web", "bank", "tree"] ["web", "bank"] (defScope (topS 54)) := ⟨rfl, rfl, rfl, by decide +kernel, rfl, by decide +kernel, by decide +kernel⟩
theorem trees_ix {pl : List Nat} {ts : List (Nat × Nat)} {l : List Nat} (h : l ∈ treesOf pl ts) : ∀ i ∈ l, i < ts.length := by
  have hm : l ∈ everyLot ts.length := (List.mem_filter.mp h).1
  have hm2 : l ∈ lotsRaw ts.length := (List.mergeSort_perm _ _).mem_iff.mp hm
  exact (lots_mem _ _ hm2).2.1
theorem trees_few {pl : List Nat} {ts : List (Nat × Nat)} (h : ts.length ≤ 11) : (treesOf pl ts).length ≤ 100000 := by
  unfold treesOf
  have h1 := List.length_filter_le (fun l : List Nat => decide ((l.length : Int) = rankOf pl ts (List.range ts.length)) && freeLot pl ts l) (everyLot ts.length)
  have h2 : (everyLot ts.length).length = 2 ^ ts.length := by unfold everyLot srtL; rw [List.length_mergeSort, lots_len]
  have hp : 2 ^ ts.length ≤ 2 ^ 11 := Nat.pow_le_pow_right (by decide) h
  have hp2 : (2 : Nat) ^ 11 = 2048 := by decide
  omega
theorem bd_heaps (F : Fs g) (xs : List Sl) (M : Hp) (R : Wish) (h : T_heaps xs M R) : xs.length = 2 ∧ BD ⟨g, 6, ["web", "bank", "tree"], defScope (topS 54), false, none⟩ (startR ["web", "bank", "tree"] xs) M (defBody (topS 54)) { nx := fun _ M' => R (.dat .none) M', rt := R } := by
  obtain ⟨pl, ts, b, rfl, ok, h1, hb, hsp, hR⟩ := h
  have hpl : pl.length ≤ 4 := ok.few
  have hp1 := ok.pos
  have hts : ts.length ≤ 6 := ok.fewT
  refine ⟨rfl, ?_⟩
  refine bd_do (ev_call (fn_chkBank F) (am_two (em_var 0) (em_var 1)) ⟨pl, ts, b, rfl, ok, h1, hb, only_self⟩) ?_
  refine bd_ret (EM.to (em_tupleL (em_sortT (nss := (treesOf pl ts).map fun l => mirL pl ts (litBy pl ts l b) b) (EM.is (em_lc1n (zs := treesOf pl ts) (enc := fun l => .dat (tN l)) (r := fun l => tI (mirL pl ts (litBy pl ts l b) b)) 2 (src_lT (ev_call (fn_everyTree F) (am_one (em_var 0)) ⟨pl, ts, rfl, by omega, by omega, only_self⟩))
    (fun l hl => ev_call (fn_mir F) (am_cons (em_var 0) (am_two (ev_call (fn_lit F) (am_cons (em_var 0) (am_two (em_var 2) (em_var 1))) ⟨pl, ts, l, b, rfl, ok, hb, trees_ix hl, hsp l hl, only_self⟩) (em_var 1))) ⟨pl, ts, litBy pl ts l b, b, rfl, by omega, by omega, only_self⟩) (trees_few (by omega))) (by rw [List.map_map]; rfl)) (.inl fun ns hns => by
      obtain ⟨l, _, rfl⟩ := List.mem_map.mp hns
      intro z
      have := mir_len pl ts (litBy pl ts l b) b (lit_len pl ts l b)
      rw [z] at this
      simp at this
      omega))) hR)
theorem fn_heaps (F : Fs g) : Fn g "lasting_heaps" 7 T_heaps := fn_ok F.lasting_heaps sc_heaps (fun _ _ _ _ _ _ us hl => match us, hl with | [_, _], _ => rfl) (bd_heaps F)
theorem fnk_heaps (F : Fs g) : FnK g "lasting_heaps" 7 ["bank", "web"] T_heaps := fnk_ok F.lasting_heaps sc_heaps (fun _ _ _ _ _ _ us hl => match us, hl with | [_, _], _ => rfl) (bd_heaps F)
/-! ### level -/
def T_chkLast : Spec := fun xs M R => ∃ pl ts ns b, xs = [.web pl ts, .dat (tI ns), .dat (S [b])] ∧ WOk pl ts ∧ ns.length = pl.length ∧ lastB pl ts ns b = true ∧ R (.dat .none) M
theorem sc_chkLast : FnScope ["web", "heap", "bank"] ["web", "heap", "bank"] (defScope (topS 55)) := ⟨rfl, rfl, rfl, by decide +kernel, rfl, by decide +kernel, by decide +kernel⟩
theorem fn_chkLast (F : Fs g) : Fn g "check_lasting" 4 T_chkLast :=
  fn_ok F.check_lasting sc_chkLast (fun _ _ _ _ _ _ us hl => match us, hl with | [_, _, _], _ => rfl) fun xs M R h => by
    obtain ⟨pl, ts, ns, b, rfl, ok, hl, h1, hR⟩ := h
    refine ⟨rfl, ?_⟩
    exact bd_pass (TM.is (tm_not (tm_val (ev_call (fn_last F) (am_cons (em_var 0) (am_two (em_var 1) (em_var 2))) ⟨pl, ts, ns, b, rfl, ok, hl, only_self⟩))) (by rw [h1]; rfl)) (bd_nil hR)
def T_level : Spec := fun xs M R => ∃ pl ts ns b, xs = [.web pl ts, .dat (tI ns), .dat (S [b])] ∧ WOk pl ts ∧ (herdsOf pl ts).length = 1 ∧ OkH pl ns ∧ b ∈ pl ∧ lastB pl ts ns b = true ∧ R (.dat (.int (levelL pl ts ns b))) M
theorem sc_level : FnScope ["web", "heap", "bank"] ["web", "heap", "bank"] (defScope (topS 57)) := ⟨rfl, rfl, rfl, by decide +kernel, rfl, by decide +kernel, by decide +kernel⟩
theorem bd_level (F : Fs g) (xs : List Sl) (M : Hp) (R : Wish) (h : T_level xs M R) : xs.length = 3 ∧ BD ⟨g, 4, ["web", "heap", "bank"], defScope (topS 57), false, none⟩ (startR ["web", "heap", "bank"] xs) M (defBody (topS 57)) { nx := fun _ M' => R (.dat .none) M', rt := R } := by
  obtain ⟨pl, ts, ns, b, rfl, ok, h1, hh, hb, hl, hR⟩ := h
  have hpl : pl.length ≤ 4 := ok.few
  have hts : ts.length ≤ 6 := ok.fewT
  refine ⟨rfl, ?_⟩
  refine bd_do (ev_call (fn_chkBoth F) (am_cons (em_var 0) (am_two (em_var 1) (em_var 2))) ⟨pl, ts, ns, b, rfl, ok, h1, hh, hb, only_self⟩) ?_
  refine bd_do (ev_call (fn_chkLast F) (am_cons (em_var 0) (am_two (em_var 1) (em_var 2))) ⟨pl, ts, ns, b, rfl, ok, hh.1, hl, only_self⟩) ?_
  exact bd_ret (ev_call (fn_levelOf F) (am_cons (em_var 0) (am_two (em_var 1) (em_var 2))) ⟨pl, ts, ns, b, rfl, by omega, by omega, hR⟩)
theorem fn_level (F : Fs g) : Fn g "level" 5 T_level := fn_ok F.level sc_level (fun _ _ _ _ _ _ us hl => match us, hl with | [_, _, _], _ => rfl) (bd_level F)
theorem fnk_level (F : Fs g) : FnK g "level" 5 ["bank", "heap", "web"] T_level := fnk_ok F.level sc_level (fun _ _ _ _ _ _ us hl => match us, hl with | [_, _, _], _ => rfl) (bd_level F)
end
end Wr
end
section
set_option maxRecDepth 100000
set_option maxHeartbeats 1000000
/-! The law's own defs: at, shared, given, herds, bare, joined. -/
namespace Wr
open PySem L2
section
variable {g : Gm}
abbrev joinsD (ts : List (Nat × Nat)) : PyData := .list (ts.map fun q => S (tS q))
def T_lat : Spec := fun xs M R => ∃ ts a, xs = [.dat (joinsD ts), .dat (S [a])] ∧ ts.length ≤ 100 ∧ R (.dat (.int (tiesAt ts a))) M
theorem sc_lat : FnScope ["_law_joins", "_law_a", "_law_both"] ["_law_joins", "_law_a"] (defScope (topS 64)) := ⟨rfl, rfl, rfl, by decide +kernel, rfl, by decide +kernel, by decide +kernel⟩
theorem fn_lat (F : Fs g) : Fn g "_law_at" 1 T_lat :=
  fn_ok F.law_at sc_lat (fun _ _ _ _ _ _ us hl => match us, hl with | [_, _], _ => rfl) fun xs M R h => by
    obtain ⟨ts, a, rfl, hz, hR⟩ := h
    refine ⟨rfl, ?_⟩
    refine bd_ret (EM.to (em_lenL (em_lc1 2 (src_lT (em_var 0)) (fun z _ => ts_one (tm_in1 (em_var 1) (em_var 2))) (fun z _ _ => em_var 2) (by omega))) ?_)
    have e : ((ts.filter fun q => decide (a ∈ tS q)).map fun q => S (tS q)).length = tiesAt ts a := by rw [List.length_map]; rfl
    rw [e]
    exact hR
def sharedN (ts : List (Nat × Nat)) (a b : Nat) : Nat := (ts.filter fun q => decide (a ∈ tS q) && decide (b ∈ tS q)).length
def T_lsh : Spec := fun xs M R => ∃ ts a b, xs = [.dat (joinsD ts), .dat (S [a]), .dat (S [b])] ∧ ts.length ≤ 100 ∧ R (.dat (.int (sharedN ts a b))) M
theorem sc_lsh : FnScope ["_law_joins", "_law_a", "_law_b", "_law_both"] ["_law_joins", "_law_a", "_law_b"] (defScope (topS 65)) := ⟨rfl, rfl, rfl, by decide +kernel, rfl, by decide +kernel, by decide +kernel⟩
theorem fn_lsh (F : Fs g) : Fn g "_law_shared" 1 T_lsh :=
  fn_ok F.law_shared sc_lsh (fun _ _ _ _ _ _ us hl => match us, hl with | [_, _, _], _ => rfl) fun xs M R h => by
    obtain ⟨ts, a, b, rfl, hz, hR⟩ := h
    refine ⟨rfl, ?_⟩
    refine bd_ret (EM.to (em_lenL (em_lc1 3 (src_lT (em_var 0)) (fun z _ => ts_one (tm_and (tm_in1 (em_var 1) (em_var 3)) fun _ => tm_in1 (em_var 2) (em_var 3))) (fun z _ _ => em_var 3) (by omega))) ?_)
    have e : ((ts.filter fun q => decide (a ∈ tS q) && decide (b ∈ tS q)).map fun q => S (tS q)).length = sharedN ts a b := by rw [List.length_map]; rfl
    rw [e]
    exact hR
/-! ### given -/
def piAt (ns : List Int) (k : Nat) : Int := ns.getD k 0
def plAt (pl : List Nat) (k : Nat) : Nat := pl.getD k 0
theorem pl_ix {pl : List Nat} {k : Nat} (h : k < pl.length) : atI pl (k : Int) = some (plAt pl k) := atI_nat (by
  unfold plAt
  rw [List.getD_eq_getElem?_getD, List.getElem?_eq_getElem h]
  rfl)
theorem pi_ix {ns : List Int} {k : Nat} (h : k < ns.length) : atI (ns.map PyData.int) (k : Int) = some (.int (piAt ns k)) := atI_nat (by
  unfold piAt
  rw [List.getElem?_map, List.getD_eq_getElem?_getD, List.getElem?_eq_getElem h]
  rfl)
def gotL (pl : List Nat) (ts : List (Nat × Nat)) (dg : List Int) (k : Nat) : Int := (((List.range pl.length).filter fun j => !decide (j = k)).map fun j => piAt dg j * (sharedN ts (plAt pl j) (plAt pl k) : Int)).sum
def givenAt (pl : List Nat) (ts : List (Nat × Nat)) (ns dg : List Int) (k : Nat) : Int := piAt ns k + gotL pl ts dg k - piAt dg k * (tiesAt ts (plAt pl k) : Int)
def givenL (pl : List Nat) (ts : List (Nat × Nat)) (ns dg : List Int) : List Int := (List.range pl.length).map (givenAt pl ts ns dg)
def T_given : Spec := fun xs M R => ∃ pl ts ns dg d, xs = [.dat (S pl), .dat (joinsD ts), .dat d, .dat (.list (dg.map .int))] ∧ (d = tI ns ∨ d = .list (ns.map .int)) ∧ pl.length ≤ 7 ∧ ts.length ≤ 100 ∧ ns.length = pl.length ∧ dg.length = pl.length ∧ R (.dat (tI (givenL pl ts ns dg))) M
abbrev N_given : List Str := ["_law_signs", "_law_joins", "_law_pile_here", "_law_doings", "_law_found", "_law_k", "_law_got", "_law_j"]
theorem sc_given : FnScope N_given ["_law_signs", "_law_joins", "_law_pile_here", "_law_doings"] (defScope (topS 66)) := ⟨rfl, rfl, rfl, by decide +kernel, rfl, by decide +kernel, by decide +kernel⟩
theorem small64 {n : Nat} (h : n ≤ 1000000) : CMul i (n : Int) := .inr ⟨by omega, by omega⟩
theorem em_ixP {c : Cs} {ρ : List (Option Sl)} {M M1 M2 : Hp} {a b : Expr} {pos : Pos} {ns : List Int} {d : PyData} {k : Nat} (hd : d = tI ns ∨ d = .list (ns.map .int)) (ha : EM c ρ M a (.dat d) M1) (hb : EM c ρ M1 b (.dat (.int (k : Int))) M2) (h : k < ns.length) (hs : PlainIx b := by exact fun _ _ => rfl) : EM c ρ M (.Subscript a b pos) (.dat (.int (piAt ns k))) M2 := by
  rcases hd with rfl | rfl
  · exact em_ixT (ds := ns.map .int) ha hb (pi_ix h) hs
  · exact em_ixL ha hb (pi_ix h) hs
theorem cnt_le (ts : List (Nat × Nat)) (t : Nat × Nat → Bool) : (ts.filter t).length ≤ ts.length := List.length_filter_le t ts
theorem fn_given (F : Fs g) : Fn g "_law_given" 2 T_given :=
  fn_ok F.law_given sc_given (fun _ _ _ _ _ _ us hl => match us, hl with | [_, _, _, _], _ => rfl) fun xs M R h => by
    obtain ⟨pl, ts, ns, dg, d, rfl, hd, hz, hzt, hn, hg, hR⟩ := h
    refine ⟨rfl, bd_frz ?_⟩
    refine bd_setE 4 ev_newL (fun x M' hx => ?_)
    obtain ⟨q, hq, rfl, rfl⟩ := hx
    refine bd_for (js := [5]) (ds := (List.range pl.length).map fun i : Nat => Sl.dat (.int (i : Int))) (src_r (em_lenS (em_var 0) (by omega)) (by omega))
      (fun i ρ' M' => i ≤ pl.length ∧ M' = upd M q (mL (((List.range i).map (givenAt pl ts ns dg)).map .int)) ∧ ∃ o1 o2, ρ' = [some (.dat (S pl)), some (.dat (joinsD ts)), some (.dat d), some (.dat (.list (dg.map .int))), some (.raw (.ref q)), o1, o2, none]) ⟨Nat.zero_le _, rfl, none, none, rfl⟩ (fun i dd ρ' M' hdd hJ => ?_) (fun ρ' M' hJ => ?_)
    · obtain ⟨hile, rfl, o1, o2, rfl⟩ := hJ
      rw [List.getElem?_map] at hdd
      cases eq : (List.range pl.length)[i]? with
      | none => rw [eq] at hdd; cases hdd
      | some j0 =>
        rw [eq] at hdd
        have hdd' := Option.some.inj hdd
        subst hdd'
        have hi : i < pl.length := by simpa using (List.getElem?_eq_some_iff.mp eq).1
        have hj0 : j0 = i := by
          rw [List.getElem?_range hi] at eq
          exact (Option.some.inj eq).symm
        subst hj0
        refine ⟨_, tg_name 5, ?_⟩
        refine bd_set 6 (x := .dat (.int (gotL pl ts dg j0))) (em_sumL (ns := ((List.range pl.length).filter fun j => !decide (j = j0)).map fun j => piAt dg j * (sharedN ts (plAt pl j) (plAt pl j0) : Int))
          (EM.is (em_lc1 (zs := List.range pl.length) (enc := fun i : Nat => .dat (.int (i : Int))) (t := fun j => !decide (j = j0)) (r := fun j => .int (piAt dg j * (sharedN ts (plAt pl j) (plAt pl j0) : Int))) 7 (src_r (em_lenS (em_var 0) (by omega)) (by omega))
            (fun j _ => ts_one (TM.is (tm_neI (em_var 7) (em_var 5)) (by
              by_cases q : j = j0
              · subst q; simp
              · rw [decide_eq_false q, decide_eq_false (by omega)])))
            (fun j hj _ => by
              have hj' : j < pl.length := List.mem_range.mp hj
              have hsm : sharedN ts (plAt pl j) (plAt pl j0) ≤ 100 := Nat.le_trans (cnt_le _ _) hzt
              exact em_mul (small64 (by omega)) (em_ixL (em_var 3) (em_var 7) (pi_ix (by omega))) (ev_call (fn_lsh F) (am_cons (em_var 1) (am_two (em_ixS (em_var 0) (em_var 7) (pl_ix hj') (by omega)) (em_ixS (em_var 0) (em_var 5) (pl_ix hi) (by omega)))) ⟨ts, _, _, rfl, hzt, only_self⟩)) (by rw [List.length_range]; omega)) (by rw [List.map_map]; rfl))) ?_
        have hsm : tiesAt ts (plAt pl j0) ≤ 100 := Nat.le_trans (cnt_le _ _) hzt
        refine bd_cons (sd_expr (ev_append (q := q) (em_var 4) upd_same (EM.to (em_sub (em_add (em_ixP hd (em_var 2) (em_var 5) (by omega)) (em_var 6)) (em_mul (small64 (by omega)) (em_ixL (em_var 3) (em_var 5) (pi_ix (by omega))) (ev_call (fn_lat F) (am_two (em_var 1) (em_ixS (em_var 0) (em_var 5) (pl_ix hi) (by omega))) ⟨ts, _, rfl, hzt, only_self⟩))) ⟨_, _, rfl, rfl, upd_same, by rw [List.length_map, List.length_map, List.length_range]; omega, ?_⟩)))
        refine bd_nil ⟨hi, ?_, _, _, rfl⟩
        rw [upd_upd]
        refine congrArg (fun o => upd M q (mL o)) ?_
        rw [List.range_succ, List.map_append, List.map_append]
        rfl
    · obtain ⟨hile, rfl, o1, o2, rfl⟩ := hJ
      rw [List.length_map, List.length_range]
      exact bd_ret (EM.to (em_tupleM (em_var 4) upd_same (flats_int _)) ⟨M, same_upd hq, hR⟩)
/-! ### herds, bare -/
def lawHerds (l : List Nat) : List (List Nat) := l.foldl lotStep [[]]
def T_lherds : Spec := fun xs M R => ∃ l, xs = [.dat (S l)] ∧ l.length ≤ 7 ∧ R (.dat (.list ((lawHerds l).map S))) M
theorem sc_lherds : FnScope ["_law_some", "_law_found", "_law_sign", "_law_herd"] ["_law_some"] (defScope (topS 67)) := ⟨rfl, rfl, rfl, by decide +kernel, rfl, by decide +kernel, by decide +kernel⟩
theorem herd_fold : ∀ (l : List Nat) (f : List (List Nat)) (B : Nat), (∀ h ∈ f, h.length ≤ B) → (l.foldl lotStep f).length = f.length * 2 ^ l.length ∧ ∀ h ∈ l.foldl lotStep f, h.length ≤ B + l.length
  | [], f, B, hB => ⟨by simp, fun h hh => by have := hB h hh; simpa using this⟩
  | c :: l, f, B, hB => by
    have hB2 : ∀ h ∈ lotStep f c, h.length ≤ B + 1 := fun h hh => by
      unfold lotStep at hh
      rcases List.mem_append.mp hh with q | q
      · have := hB h q; omega
      · obtain ⟨m, hm, rfl⟩ := List.mem_map.mp q
        have := hB m hm
        rw [List.length_append, List.length_singleton]
        omega
    obtain ⟨h1, h2⟩ := herd_fold l (lotStep f c) (B + 1) hB2
    refine ⟨?_, fun h hh => by have := h2 h hh; rw [List.length_cons]; omega⟩
    rw [List.foldl_cons, h1]
    unfold lotStep
    rw [List.length_append, List.length_map, List.length_cons, Nat.pow_succ]
    have : (f.length + f.length) = f.length * 2 := by omega
    rw [this, Nat.mul_assoc, Nat.mul_comm 2]
theorem fn_lherds (F : Fs g) : Fn g "_law_herds" 1 T_lherds :=
  fn_ok F.law_herds sc_lherds (fun _ _ _ _ _ _ us hl => match us, hl with | [_], _ => rfl) fun xs M R h => by
    obtain ⟨l, rfl, hz, hR⟩ := h
    refine ⟨rfl, ?_⟩
    refine bd_set 1 (x := .dat (.list (([[]] : List (List Nat)).map S))) (em_lst [S []] (am_one (em_txt []))) ?_
    refine bd_for (js := [2]) (ds := l.map fun i : Nat => Sl.dat (S [i])) (src_s (em_var 0)) (fun i ρ' M' => M' = M ∧ ∃ o1, ρ' = [some (.dat (S l)), some (.dat (.list (((l.take i).foldl lotStep [[]]).map S))), o1, none]) ⟨rfl, none, rfl⟩ (fun i dd ρ' M' hdd hJ => ?_) (fun ρ' M' hJ => ?_)
    · obtain ⟨rfl, o1, rfl⟩ := hJ
      rw [List.getElem?_map] at hdd
      cases eq : l[i]? with
      | none => rw [eq] at hdd; cases hdd
      | some ch =>
        rw [eq] at hdd
        have hdd' := Option.some.inj hdd
        subst hdd'
        refine ⟨_, tg_name 2, ?_⟩
        obtain ⟨z1, z2⟩ := herd_fold (l.take i) [[]] 0 (fun h hh => by rw [List.mem_singleton.mp hh]; simp)
        have hti : (l.take i).length ≤ 7 := by rw [List.length_take]; omega
        have hp : 2 ^ (l.take i).length ≤ 2 ^ 7 := Nat.pow_le_pow_right (by decide) hti
        have hp2 : (2 : Nat) ^ 7 = 128 := by decide
        have e2 : (l.take (i + 1)).foldl lotStep [[]] = lotStep ((l.take i).foldl lotStep [[]]) ch := by
          rw [List.take_add_one, List.foldl_append, eq]
          rfl
        rw [List.length_singleton, Nat.one_mul] at z1
        generalize (l.take i).foldl lotStep [[]] = fd at z1 z2 e2
        refine bd_set 1 (x := .dat (.list ((lotStep fd ch).map S))) (EM.is (em_cat (em_var 1) (em_lc1n (zs := fd) (enc := fun h => .dat (S h)) (r := fun h => S (h ++ [ch])) 3 (src_lT (em_var 1)) (fun h hm => em_addS (em_var 3) (em_var 2) (by have := z2 h hm; show h.length + 1 ≤ 100000; omega)) (by omega)) (by rw [List.length_map, List.length_map]; omega)) (by
          unfold lotStep
          rw [List.map_append, List.map_map]
          rfl)) ?_
        refine bd_nil ?_
        dsimp only
        rw [e2]
        exact ⟨rfl, _, rfl⟩
    · obtain ⟨rfl, o1, rfl⟩ := hJ
      rw [List.length_map, List.take_length]
      exact bd_ret (EM.to (em_var 1) hR)
def T_lbare : Spec := fun xs M R => ∃ pl ns b d, xs = [.dat (S pl), .dat d, .dat (S [b])] ∧ (d = tI ns ∨ d = .list (ns.map .int)) ∧ pl.length ≤ 7 ∧ ns.length = pl.length ∧ R (.dat (tI (bareL pl ns b))) M
theorem sc_lbare : FnScope ["_law_signs", "_law_pile_here", "_law_home", "_law_k"] ["_law_signs", "_law_pile_here", "_law_home"] (defScope (topS 70)) := ⟨rfl, rfl, rfl, by decide +kernel, rfl, by decide +kernel, by decide +kernel⟩
theorem bareL_range (pl : List Nat) (ns : List Int) (b : Nat) (h : ns.length = pl.length) : bareL pl ns b = (List.range pl.length).map fun k => if plAt pl k = b then 0 else piAt ns k := by
  unfold bareL
  apply List.ext_getElem?
  intro i
  rw [List.getElem?_map, List.getElem?_map]
  by_cases hi : i < pl.length
  · have h1 : (ns.zip pl)[i]? = some (piAt ns i, plAt pl i) := by
      refine List.getElem?_zip_eq_some.mpr ⟨?_, ?_⟩
      · unfold piAt; rw [List.getD_eq_getElem?_getD, List.getElem?_eq_getElem (by omega)]; rfl
      · unfold plAt; rw [List.getD_eq_getElem?_getD, List.getElem?_eq_getElem hi]; rfl
    rw [h1, List.getElem?_range hi]
    rfl
  · rw [List.getElem?_eq_none (by rw [List.length_zip]; omega), List.getElem?_eq_none (by rw [List.length_range]; omega)]
    rfl
theorem fn_lbare (F : Fs g) : Fn g "_law_bare" 1 T_lbare :=
  fn_ok F.law_bare sc_lbare (fun _ _ _ _ _ _ us hl => match us, hl with | [_, _, _], _ => rfl) fun xs M R h => by
    obtain ⟨pl, ns, b, d, rfl, hd, hz, hn, hR⟩ := h
    refine ⟨rfl, ?_⟩
    refine bd_ret (EM.to (em_tupleL (ds := (bareL pl ns b).map .int) (EM.is (em_lc1n (zs := List.range pl.length) (enc := fun i : Nat => .dat (.int (i : Int))) (r := fun k => .int (if decide (plAt pl k = b) then 0 else piAt ns k)) 3 (src_r (em_lenS (em_var 0) (by omega)) (by omega))
      (fun k hk => by
        have hk' : k < pl.length := List.mem_range.mp hk
        exact EM.is (em_if (t := decide (plAt pl k = b)) (TM.is (tm_eqS (l := [plAt pl k]) (m := [b]) (em_ixS (em_var 0) (em_var 3) (pl_ix hk') (by omega)) (em_var 2)) (by simp)) (fun _ => em_int) fun _ => em_ixP hd (em_var 1) (em_var 3) (by omega)) (by rw [if_int])) (by rw [List.length_range]; omega)) (by
        rw [bareL_range pl ns b hn, List.map_map]
        refine congrArg _ (congrArg _ (List.map_congr_left fun k _ => ?_))
        by_cases e : plAt pl k = b <;> simp [e]))) hR)
/-! ### joined -/
def jStep (seen : List Nat) (q : Nat × Nat) : List Nat := if crosses q seen then seen ++ [q.1, q.2] else seen
def jSeen (pl : List Nat) (ts : List (Nat × Nat)) : List Nat := pl.foldl (fun s _ => ts.foldl jStep s) [plAt pl 0]
def joinedB (pl : List Nat) (ts : List (Nat × Nat)) : Bool := (pl.filter fun c => !decide (c ∈ jSeen pl ts)).isEmpty
theorem jStep_len (seen : List Nat) (q : Nat × Nat) : (jStep seen q).length ≤ seen.length + 2 := by
  unfold jStep
  split
  · simp
  · omega
theorem jFold_len : ∀ (ts : List (Nat × Nat)) (seen : List Nat), (ts.foldl jStep seen).length ≤ seen.length + 2 * ts.length
  | [], seen => by simp
  | q :: ts, seen => by
    have h1 := jFold_len ts (jStep seen q)
    have h2 := jStep_len seen q
    rw [List.foldl_cons, List.length_cons]
    omega
theorem jOut_len (ts : List (Nat × Nat)) : ∀ (l : List Nat) (seen : List Nat), (l.foldl (fun s _ => ts.foldl jStep s) seen).length ≤ seen.length + 2 * ts.length * l.length
  | [], seen => by simp
  | c :: l, seen => by
    have h1 := jOut_len ts l (ts.foldl jStep seen)
    have h2 := jFold_len ts seen
    rw [List.foldl_cons, List.length_cons, Nat.mul_add]
    omega
def T_joined : Spec := fun xs M R => ∃ pl ts, xs = [.dat (S pl), .dat (joinsD ts)] ∧ 1 ≤ pl.length ∧ pl.length ≤ 7 ∧ ts.length ≤ 100 ∧ (∀ c ∈ pl, c < 1000) ∧ R (.dat (.bool (joinedB pl ts))) M
abbrev N_joined : List Str := ["_law_signs", "_law_joins", "_law_seen", "_law_turn", "_law_both", "_law_sign"]
theorem sc_joined : FnScope N_joined ["_law_signs", "_law_joins"] (defScope (topS 74)) := ⟨rfl, rfl, rfl, by decide +kernel, rfl, by decide +kernel, by decide +kernel⟩
theorem fn_joined (F : Fs g) : Fn g "_law_joined" 1 T_joined :=
  fn_ok F.law_joined sc_joined (fun _ _ _ _ _ _ us hl => match us, hl with | [_, _], _ => rfl) fun xs M R h => by
    obtain ⟨pl, ts, rfl, hp, hz, hzt, hch, hR⟩ := h
    refine ⟨rfl, ?_⟩
    refine bd_set 2 (em_ixS (em_var 0) em_int (pl_ix (k := 0) (by omega)) (by omega)) ?_
    refine bd_for (js := [3]) (ds := pl.map fun i : Nat => Sl.dat (S [i])) (src_s (em_var 0)) (fun i ρ' M' => M' = M ∧ ∃ o1 o2, ρ' = [some (.dat (S pl)), some (.dat (joinsD ts)), some (.dat (S ((pl.take i).foldl (fun s _ => ts.foldl jStep s) [plAt pl 0]))), o1, o2, none]) ⟨rfl, none, none, rfl⟩ (fun i dd ρ' M' hdd hJ => ?_) (fun ρ' M' hJ => ?_)
    · obtain ⟨rfl, o1, o2, rfl⟩ := hJ
      rw [List.getElem?_map] at hdd
      cases eq : pl[i]? with
      | none => rw [eq] at hdd; cases hdd
      | some ch =>
        rw [eq] at hdd
        have hdd' := Option.some.inj hdd
        subst hdd'
        refine ⟨_, tg_name 3, ?_⟩
        have z1 := jOut_len ts (pl.take i) [plAt pl 0]
        have hti : (pl.take i).length ≤ 7 := by rw [List.length_take]; omega
        have hmul : 2 * ts.length * (pl.take i).length ≤ 2 * 100 * 7 := Nat.mul_le_mul (by omega) hti
        have e2 : (pl.take (i + 1)).foldl (fun s _ => ts.foldl jStep s) [plAt pl 0] = ts.foldl jStep ((pl.take i).foldl (fun s _ => ts.foldl jStep s) [plAt pl 0]) := by
          rw [List.take_add_one, List.foldl_append, eq]
          rfl
        rw [e2]
        rw [List.length_singleton] at z1
        generalize (pl.take i).foldl (fun s _ => ts.foldl jStep s) [plAt pl 0] = sn at z1 e2
        refine bd_one (sd_for (js := [4]) (ds := ts.map fun q => Sl.dat (S (tS q))) (src_lT (em_var 1)) (fun m ρ'' M'' => M'' = M' ∧ ∃ o1 o2, ρ'' = [some (.dat (S pl)), some (.dat (joinsD ts)), some (.dat (S ((ts.take m).foldl jStep sn))), o1, o2, none]) ⟨rfl, _, _, rfl⟩ (fun m dd ρ'' M'' hdd hJ => ?_) (fun ρ'' M'' hJ => ?_))
        · obtain ⟨rfl, o3, o4, rfl⟩ := hJ
          rw [List.getElem?_map] at hdd
          cases eq2 : ts[m]? with
          | none => rw [eq2] at hdd; cases hdd
          | some q =>
            rw [eq2] at hdd
            have hdd' := Option.some.inj hdd
            subst hdd'
            refine ⟨_, tg_name 4, ?_⟩
            have z3 := jFold_len (ts.take m) sn
            have htm : (ts.take m).length ≤ 100 := by rw [List.length_take]; omega
            have e3 : (ts.take (m + 1)).foldl jStep sn = jStep ((ts.take m).foldl jStep sn) q := by
              rw [List.take_add_one, List.foldl_append, eq2]
              rfl
            rw [e3]
            generalize (ts.take m).foldl jStep sn = s2 at z3 e3
            refine bd_one (sd_if (t := crosses q s2) (tm_neB (em_in1 (em_ixS (l := tS q) (em_var 4) em_int rfl (by show 2 ≤ 100000; decide)) (em_var 2)) (em_in1 (em_ixS (l := tS q) (em_var 4) em_int rfl (by show 2 ≤ 100000; decide)) (em_var 2))) (fun ht => ?_) (fun ht => ?_))
            · refine bd_set 2 (x := .dat (S (jStep s2 q))) (EM.is (em_addS (em_addS (em_var 2) (em_ixS (l := tS q) (em_var 4) em_int rfl (by show 2 ≤ 100000; decide)) (by show s2.length + 1 ≤ _; omega)) (em_ixS (l := tS q) (em_var 4) em_int rfl (by show 2 ≤ 100000; decide)) (by rw [List.length_append, List.length_singleton]; show s2.length + 1 + 1 ≤ _; omega)) (by
                unfold jStep
                rw [if_pos ht, List.append_assoc]
                rfl)) ?_
              exact bd_nil ⟨rfl, _, _, rfl⟩
            · refine bd_nil ⟨rfl, o3, some (.dat (S (tS q))), ?_⟩
              unfold jStep
              rw [if_neg (by rw [ht]; simp)]
              rfl
        · obtain ⟨rfl, o3, o4, rfl⟩ := hJ
          rw [List.length_map, List.take_length]
          exact ⟨rfl, o3, o4, rfl⟩
    · obtain ⟨rfl, o1, o2, rfl⟩ := hJ
      rw [List.length_map, List.take_length]
      refine bd_ret (EM.to (em_eqD (em_lc1 (zs := pl) (enc := fun n => .dat (S [n])) (t := fun c => !decide (c ∈ jSeen pl ts)) (r := fun n => S [n]) 5 (src_s (em_var 0)) (fun n _ => ts_one (tm_ni1 (em_var 5) (em_var 2))) (fun n _ _ => em_var 5) (by omega)) (em_lst [] am_nil) ?_ shaped_nil (eqv_nil _)) ?_)
      · rw [map_S1]
        refine shaped_lS _ fun l hl c hc => ?_
        obtain ⟨d, hd, rfl⟩ := List.mem_map.mp hl
        rw [List.mem_singleton.mp hc]
        exact hch d (List.mem_filter.mp hd).1
      · have e : ((pl.filter fun c => !decide (c ∈ jSeen pl ts)).map fun n => S [n]).isEmpty = joinedB pl ts := by
          unfold joinedB
          cases (pl.filter fun c => !decide (c ∈ jSeen pl ts)) <;> rfl
        rw [e]
        exact hR
end
end Wr
end
section
set_option maxRecDepth 100000
set_option maxHeartbeats 1000000
/-! The law's own defs: trees, late. -/
namespace Wr
open PySem L2
section
variable {g : Gm}
/-! ### trees -/
def ltStep (n : Nat) (found : List (List Nat)) (i : Nat) : List (List Nat) := found ++ (found.filter fun l => decide ((l.length : Int) < (n : Int) - 1)).map fun l => l ++ [i]
def ltRaw (n m : Nat) : List (List Nat) := (List.range m).foldl (ltStep n) [[]]
def ltFull (n m : Nat) : List (List Nat) := (ltRaw n m).filter fun l => decide ((l.length : Int) = (n : Int) - 1)
def lawTrees (pl : List Nat) (ts : List (Nat × Nat)) : List (List Nat) := srtL ((ltFull pl.length ts.length).filter fun l => joinedB pl (tiesOf ts l))
theorem ltRaw_succ (n m : Nat) : ltRaw n (m + 1) = ltStep n (ltRaw n m) m := by
  unfold ltRaw
  rw [List.range_succ, List.foldl_append]
  rfl
theorem lt_mem (n : Nat) : ∀ (m : Nat) (l : List Nat), l ∈ ltRaw n m → l.length ≤ m ∧ (∀ i ∈ l, i < m) ∧ l.Pairwise (· < ·)
  | 0, l, h => by
    have e : l = [] := List.mem_singleton.mp h
    subst e
    exact ⟨Nat.le_refl _, fun i hi => by (cases hi), .nil⟩
  | m + 1, l, h => by
    rw [ltRaw_succ] at h
    unfold ltStep at h
    rcases List.mem_append.mp h with h | h
    · obtain ⟨a, b, c⟩ := lt_mem n m l h
      exact ⟨by omega, fun i hi => Nat.lt_succ_of_lt (b i hi), c⟩
    · obtain ⟨m', hm, rfl⟩ := List.mem_map.mp h
      obtain ⟨a, b, c⟩ := lt_mem n m m' (List.mem_filter.mp hm).1
      refine ⟨by simp; omega, fun i hi => ?_, ?_⟩
      · rcases List.mem_append.mp hi with q | q
        · exact Nat.lt_succ_of_lt (b i q)
        · have := List.mem_singleton.mp q; omega
      · refine List.pairwise_append.mpr ⟨c, List.pairwise_singleton _ _, fun x hx y hy => ?_⟩
        rw [List.mem_singleton.mp hy]
        exact b x hx
theorem lt_len (n : Nat) : ∀ m : Nat, (ltRaw n m).length ≤ 2 ^ m
  | 0 => Nat.le_refl _
  | m + 1 => by
    rw [ltRaw_succ]
    unfold ltStep
    have h1 := lt_len n m
    have h2 := List.length_filter_le (fun l : List Nat => decide ((l.length : Int) < (n : Int) - 1)) (ltRaw n m)
    rw [List.length_append, List.length_map]
    omega
theorem lt_one : ∀ m : Nat, ltRaw 1 m = [[]]
  | 0 => rfl
  | m + 1 => by
    rw [ltRaw_succ, lt_one m]
    rfl
def T_ltrees : Spec := fun xs M R => ∃ pl ts, xs = [.dat (S pl), .dat (joinsD ts)] ∧ 1 ≤ pl.length ∧ pl.length ≤ 7 ∧ ts.length ≤ 11 ∧ (∀ c ∈ pl, c < 1000) ∧ R (.dat (.list ((lawTrees pl ts).map tN))) M
abbrev N_ltrees : List Str := ["_law_signs", "_law_joins", "_law_found", "_law_k", "_law_some"]
theorem sc_ltrees : FnScope N_ltrees ["_law_signs", "_law_joins"] (defScope (topS 75)) := ⟨rfl, rfl, rfl, by decide +kernel, rfl, by decide +kernel, by decide +kernel⟩
theorem lot_ties {c : Cs} {ρ : List (Option Sl)} {M : Hp} {a b : Expr} {pos : Pos} {ts : List (Nat × Nat)} {i : Nat} (ha : EM c ρ M a (.dat (joinsD ts)) M) (hb : EM c ρ M b (.dat (.int (i : Int))) M) (h : i < ts.length) (hs : PlainIx b := by exact fun _ _ => rfl) : EM c ρ M (.Subscript a b pos) (.dat (S (tS (tieAt ts i)))) M := em_ixL ha hb (tie_ix h) hs
theorem fn_ltrees (F : Fs g) : Fn g "_law_trees" 2 T_ltrees :=
  fn_ok F.law_trees sc_ltrees (fun _ _ _ _ _ _ us hl => match us, hl with | [_, _], _ => rfl) fun xs M R h => by
    obtain ⟨pl, ts, rfl, hp, hz, hzt, hch, hR⟩ := h
    have hp2 : (2 : Nat) ^ 11 = 2048 := by decide
    refine ⟨rfl, ?_⟩
    refine bd_set 2 (x := .dat (.list ((ltRaw pl.length 0).map tN))) (em_lst [tN []] (am_one (em_tup [] am_nil)) (by simp)) ?_
    refine bd_for (js := [3]) (ds := (List.range ts.length).map fun i : Nat => Sl.dat (.int (i : Int))) (src_r (n := ts.length) (EM.is (em_lenL (em_var 1)) (by rw [List.length_map])) (by omega))
      (fun i ρ' M' => M' = M ∧ i ≤ ts.length ∧ ∃ o1, ρ' = [some (.dat (S pl)), some (.dat (joinsD ts)), some (.dat (.list ((ltRaw pl.length i).map tN))), o1, none]) ⟨rfl, Nat.zero_le _, none, rfl⟩ (fun i dd ρ' M' hdd hJ => ?_) (fun ρ' M' hJ => ?_)
    · obtain ⟨rfl, hile, o1, rfl⟩ := hJ
      rw [List.getElem?_map] at hdd
      cases eq : (List.range ts.length)[i]? with
      | none => rw [eq] at hdd; cases hdd
      | some q =>
        rw [eq] at hdd
        have hdd' := Option.some.inj hdd
        subst hdd'
        have hi : i < ts.length := by simpa using (List.getElem?_eq_some_iff.mp eq).1
        have hq : q = i := by
          rw [List.getElem?_range hi] at eq
          exact (Option.some.inj eq).symm
        subst hq
        refine ⟨_, tg_name 3, ?_⟩
        have hl := lt_len pl.length q
        have hpw : 2 ^ q ≤ 2 ^ 11 := Nat.pow_le_pow_right (by decide) (by omega)
        have hfl := List.length_filter_le (fun l : List Nat => decide ((l.length : Int) < (pl.length : Int) - 1)) (ltRaw pl.length q)
        refine bd_set 2 (x := .dat (.list ((ltRaw pl.length (q + 1)).map tN))) (EM.is (em_cat (em_var 2) (em_lc1 (zs := ltRaw pl.length q) (enc := fun l => .dat (tN l)) (t := fun l => decide ((l.length : Int) < (pl.length : Int) - 1)) (r := fun l => tN (l ++ [q])) 4 (src_lT (em_var 2))
          (fun l _ => ts_one (tm_lt (EM.is (em_lenT (ds := (toI l).map .int) (em_var 4)) (by rw [len_tN])) (em_sub (em_lenS (em_var 0) (by omega)) em_int)))
          (fun l hm _ => EM.is (em_catT (ds := (toI l).map .int) (es := [.int (q : Int)]) (em_var 4) (em_tup [.int (q : Int)] (am_one (em_var 3)) (by simp)) (by rw [len_tN]; have := (lt_mem _ q l hm).1; show l.length + 1 ≤ _; omega)) (by rw [tN_snoc])) (by omega)) (by rw [List.length_map, List.length_map]; omega)) (by
          rw [ltRaw_succ]
          unfold ltStep
          rw [List.map_append, List.map_map]
          rfl)) ?_
        exact bd_nil ⟨rfl, hi, _, rfl⟩
    · obtain ⟨rfl, hile, o1, rfl⟩ := hJ
      rw [List.length_map, List.length_range]
      have hl := lt_len pl.length ts.length
      have hpw : 2 ^ ts.length ≤ 2 ^ 11 := Nat.pow_le_pow_right (by decide) hzt
      have hmem : ∀ l ∈ ltFull pl.length ts.length, l.length ≤ 11 ∧ (∀ i ∈ l, i < ts.length) := fun l hlm => by
        obtain ⟨a, b, _⟩ := lt_mem _ _ l (List.mem_filter.mp hlm).1
        exact ⟨by omega, b⟩
      refine bd_setLc1 (zs := ltRaw pl.length ts.length) (enc := fun l => .dat (tN l)) (t := fun l => decide ((l.length : Int) = (pl.length : Int) - 1)) (r := fun l => tN l) 2 4 (src_lT (em_var 2))
        (fun l _ => ts_one (tm_eqI (EM.is (em_lenT (ds := (toI l).map .int) (em_var 4)) (by rw [len_tN])) (em_sub (em_lenS (em_var 0) (by omega)) em_int))) (fun l _ _ => em_var 4) (by omega) ?_
      have hfl := List.length_filter_le (fun l : List Nat => decide ((l.length : Int) = (pl.length : Int) - 1)) (ltRaw pl.length ts.length)
      refine bd_ret (EM.to (em_sortT (nss := ((ltFull pl.length ts.length).filter fun l => joinedB pl (tiesOf ts l)).map toI) (EM.is (em_lc1 (zs := ltFull pl.length ts.length) (enc := fun l => .dat (tN l)) (t := fun l => joinedB pl (tiesOf ts l)) (r := fun l => tN l) 4 (src_lT (em_var 2))
        (fun l hlm => ts_one (tm_val (ev_call (fn_joined F) (am_two (em_var 0) (EM.is (em_lc1n (zs := l) (enc := fun i : Nat => .dat (.int (i : Int))) (r := fun i => S (tS (tieAt ts i))) 3 (src_tT (EM.is (em_var 4) (by rw [tN_map]))) (fun i hi => lot_ties (em_var 1) (em_var 3) ((hmem l hlm).2 i hi)) (by have := (hmem l hlm).1; omega)) (by
          show _ = Sl.dat (.list ((l.map (tieAt ts)).map fun q => S (tS q)))
          rw [List.map_map]
          rfl))) ⟨pl, tiesOf ts l, rfl, hp, hz, by unfold tiesOf; rw [List.length_map]; have := (hmem l hlm).1; omega, hch, only_self⟩)))
        (fun l _ _ => em_var 4) (by show (ltFull _ _).length ≤ _; unfold ltFull; omega)) (by rw [← map_tN])) ?_) ?_)
      · by_cases h1 : pl.length = 1
        · refine .inr fun h2 => ?_
          have e0 : ltFull pl.length ts.length = [[]] := by unfold ltFull; rw [h1, lt_one]; rfl
          rw [e0, List.length_map] at h2
          have := List.length_filter_le (fun l => joinedB pl (tiesOf ts l)) [([] : List Nat)]
          simp at this
          omega
        · refine .inl fun ns hns => ?_
          obtain ⟨l, hlm, rfl⟩ := List.mem_map.mp hns
          have := of_decide_eq_true (List.mem_filter.mp (List.mem_filter.mp hlm).1).2
          intro z
          have : l.length = 0 := by
            have e : (toI l).length = l.length := by unfold toI; rw [List.length_map]
            rw [← e, z]
            rfl
          omega
      · rw [srtL_T, ← map_tN]
        exact hR
/-! ### late -/
def ringOf (pl : List Nat) (ts : List (Nat × Nat)) (some : List Nat) (k : Nat) : List Nat := some.filter fun j => joinedB pl (tiesOf ts ((some.filter fun i => !decide (i = j)) ++ [k]))
def lateOf (pl : List Nat) (ts : List (Nat × Nat)) (some : List Nat) : List Nat := ((List.range ts.length).filter fun k => !decide (k ∈ some)).filter fun k => ((ringOf pl ts some k).filter fun j => decide (j < k)).isEmpty
def T_late : Spec := fun xs M R => ∃ pl ts so, xs = [.dat (S pl), .dat (joinsD ts), .dat (tN so)] ∧ 1 ≤ pl.length ∧ pl.length ≤ 7 ∧ ts.length ≤ 11 ∧ (∀ c ∈ pl, c < 1000) ∧ so.length ≤ 11 ∧ (∀ i ∈ so, i < ts.length) ∧ R (.dat (.list ((toI (lateOf pl ts so)).map .int))) M
abbrev N_late : List Str := ["_law_signs", "_law_joins", "_law_some", "_law_found", "_law_k", "_law_ring", "_law_j", "_law_i"]
theorem sc_late : FnScope N_late ["_law_signs", "_law_joins", "_law_some"] (defScope (topS 76)) := ⟨rfl, rfl, rfl, by decide +kernel, rfl, by decide +kernel, by decide +kernel⟩
theorem nat_eqI {i j : Nat} : decide ((i : Int) = (j : Int)) = decide (i = j) := by
  by_cases q : i = j
  · subst q; simp
  · rw [decide_eq_false q, decide_eq_false (by omega)]
theorem nat_ltI {i j : Nat} : decide ((i : Int) < (j : Int)) = decide (i < j) := by
  by_cases q : i < j
  · rw [decide_eq_true q, decide_eq_true (by omega)]
  · rw [decide_eq_false q, decide_eq_false (by omega)]
theorem nat_memI {i : Nat} {l : List Nat} : decide ((i : Int) ∈ toI l) = decide (i ∈ l) := by
  by_cases q : i ∈ l
  · rw [decide_eq_true q, decide_eq_true (mem_toI.mpr q)]
  · rw [decide_eq_false q, decide_eq_false fun z => q (mem_toI.mp z)]
theorem filter_take {α : Type} (t : α → Bool) {l : List α} {i : Nat} {x : α} (h : l[i]? = some x) : (l.take (i + 1)).filter t = (l.take i).filter t ++ (if t x then [x] else []) := by
  rw [List.take_add_one, h, List.filter_append]
  cases e : t x <;> simp [e]
theorem isE_map {α β : Type} (f : α → β) (l : List α) : (l.map f).isEmpty = l.isEmpty := by cases l <;> rfl
theorem fn_late (F : Fs g) : Fn g "_law_late" 2 T_late :=
  fn_ok F.law_late sc_late (fun _ _ _ _ _ _ us hl => match us, hl with | [_, _, _], _ => rfl) fun xs M R h => by
    obtain ⟨pl, ts, so, rfl, hp, hz, hzt, hch, hzs, hso, hR⟩ := h
    refine ⟨rfl, bd_frz ?_⟩
    refine bd_setE 3 ev_newL (fun x M' hx => ?_)
    obtain ⟨q, hq, rfl, rfl⟩ := hx
    have hfl := List.length_filter_le (fun k : Nat => !decide (k ∈ so)) (List.range ts.length)
    rw [List.length_range] at hfl
    refine bd_for (js := [4]) (ds := ((List.range ts.length).filter fun k => !decide (k ∈ so)).map fun i : Nat => Sl.dat (.int (i : Int)))
      (src_lT (em_lc1 (zs := List.range ts.length) (enc := fun i : Nat => .dat (.int (i : Int))) (t := fun k => !decide (k ∈ so)) (r := fun i : Nat => .int (i : Int)) 4 (src_r (n := ts.length) (EM.is (em_lenL (em_var 1)) (by rw [List.length_map])) (by omega)) (fun k _ => ts_one (TM.is (tm_niTI (ns := toI so) (em_var 4) (em_var 2)) (by rw [nat_memI]))) (fun k _ _ => em_var 4) (by rw [List.length_range]; omega)))
      (fun i ρ' M' => i ≤ ts.length ∧ M' = upd M q (mL ((toI ((((List.range ts.length).filter fun k => !decide (k ∈ so)).take i).filter fun k => ((ringOf pl ts so k).filter fun j => decide (j < k)).isEmpty)).map .int)) ∧ ∃ o1 o2, ρ' = [some (.dat (S pl)), some (.dat (joinsD ts)), some (.dat (tN so)), some (.raw (.ref q)), o1, o2, none, none])
      ⟨Nat.zero_le _, rfl, none, none, rfl⟩ (fun i dd ρ' M' hdd hJ => ?_) (fun ρ' M' hJ => ?_)
    · obtain ⟨hile, rfl, o1, o2, rfl⟩ := hJ
      rw [List.getElem?_map] at hdd
      cases eq : ((List.range ts.length).filter fun k => !decide (k ∈ so))[i]? with
      | none => rw [eq] at hdd; cases hdd
      | some k =>
        rw [eq] at hdd
        have hdd' := Option.some.inj hdd
        subst hdd'
        have hil : i < ts.length := by
          have := (List.getElem?_eq_some_iff.mp eq).1
          omega
        have hk : k < ts.length := List.mem_range.mp (List.mem_filter.mp (List.mem_of_getElem? eq)).1
        refine ⟨_, tg_name 4, ?_⟩
        have hrl : (ringOf pl ts so k).length ≤ 11 := by
          unfold ringOf
          have := List.length_filter_le (fun j => joinedB pl (tiesOf ts ((so.filter fun i => !decide (i = j)) ++ [k]))) so
          omega
        refine bd_setLc1 (zs := so) (enc := fun i : Nat => .dat (.int (i : Int))) (t := fun j => joinedB pl (tiesOf ts ((so.filter fun i => !decide (i = j)) ++ [k]))) (r := fun i : Nat => .int (i : Int)) 5 6 (src_tT (EM.is (em_var 2) (by rw [tN_map])))
          (fun j hj => ts_one (tm_val (ev_call (fn_joined F) (am_two (em_var 0) (EM.is (em_cat (em_lc1 (zs := so) (enc := fun i : Nat => .dat (.int (i : Int))) (t := fun i => !decide (i = j)) (r := fun i => S (tS (tieAt ts i))) 7 (src_tT (EM.is (em_var 2) (by rw [tN_map])))
              (fun i _ => ts_one (TM.is (tm_neI (em_var 7) (em_var 6)) (by rw [nat_eqI]))) (fun i hi _ => lot_ties (em_var 1) (em_var 7) (hso i hi)) (by omega)) (em_lst [S (tS (tieAt ts k))] (am_one (lot_ties (em_var 1) (em_var 4) hk)) (by simp)) (by
                have := List.length_filter_le (fun i : Nat => !decide (i = j)) so
                rw [List.length_map, List.length_singleton]
                omega)) (by
            show _ = Sl.dat (.list ((((so.filter fun i => !decide (i = j)) ++ [k]).map (tieAt ts)).map fun q => S (tS q)))
            rw [List.map_append, List.map_append, List.map_map]
            rfl))) ⟨pl, tiesOf ts ((so.filter fun i => !decide (i = j)) ++ [k]), rfl, hp, hz, by
              unfold tiesOf
              have := List.length_filter_le (fun i : Nat => !decide (i = j)) so
              rw [List.length_map, List.length_append, List.length_singleton]
              omega, hch, only_self⟩)))
          (fun j _ _ => em_var 6) (by omega) ?_
        refine bd_one (sd_if (t := ((ringOf pl ts so k).filter fun j => decide (j < k)).isEmpty) (TM.is (tm_eqD (em_lc1 (zs := ringOf pl ts so k) (enc := fun i : Nat => .dat (.int (i : Int))) (t := fun j => decide (j < k)) (r := fun i : Nat => .int (i : Int)) 6 (src_lT (em_var 5))
          (fun j _ => ts_one (TM.is (tm_lt (em_var 6) (em_var 4)) (by rw [nat_ltI]))) (fun j _ _ => em_var 6) (by omega)) (em_lst [] am_nil) (by
            have := shaped_lI (toI ((ringOf pl ts so k).filter fun j => decide (j < k)))
            unfold toI at this
            rw [List.map_map] at this
            exact this) shaped_nil (eqv_nil _)) (by rw [isE_map])) (fun ht => ?_) (fun ht => ?_))
        · refine bd_cons (sd_expr (ev_append (q := q) (em_var 3) upd_same (EM.to (em_var 4) ⟨_, _, rfl, rfl, upd_same, ?_, ?_⟩)))
          · unfold toI
            rw [List.length_map, List.length_map]
            have h1 := List.length_filter_le (fun k => ((ringOf pl ts so k).filter fun j => decide (j < k)).isEmpty) (((List.range ts.length).filter fun k => !decide (k ∈ so)).take i)
            rw [List.length_take] at h1
            omega
          · refine bd_nil ⟨by omega, ?_, _, _, rfl⟩
            rw [upd_upd, filter_take _ eq, ht]
            refine congrArg (fun o => upd M q (mL o)) ?_
            unfold toI
            rw [List.map_append, List.map_append]
            rfl
        · refine bd_nil ⟨by omega, ?_, _, _, rfl⟩
          rw [filter_take _ eq, ht]
          simp
    · obtain ⟨hile, rfl, o1, o2, rfl⟩ := hJ
      rw [List.length_map, List.take_length]
      refine bd_ret (EM.to (em_frzL (em_var 3) upd_same (flats_int _)) ⟨M, fun a o h => ?_, hR⟩)
      rw [delM_upd hq]
      exact h
end
end Wr
end
section
set_option maxRecDepth 100000
set_option maxHeartbeats 1000000
/-! The law's own defs: settled, lasts, stays. -/
namespace Wr
open PySem L2
section
variable {g : Gm}
/-! ### settled -/
def readyL (pl : List Nat) (ts : List (Nat × Nat)) (b : Nat) (ns : List Int) : List Nat := (List.range pl.length).filter fun k => !decide (plAt pl k = b) && decide ((tiesAt ts (plAt pl k) : Int) ≤ piAt ns k)
def giveAt (n k : Nat) (t : Int) : List Int := (List.range n).map fun j => if j = k then t else 0
def settle (pl : List Nat) (ts : List (Nat × Nat)) (b : Nat) : Nat → List Int → List Int → Option (List Int × List Int)
  | 0, _, _ => none
  | n + 1, ns, dg => match (readyL pl ts b ns).getLast? with
    | none => some (ns, dg)
    | some k => settle pl ts b n (givenL pl ts ns (giveAt pl.length k (piAt ns k / (tiesAt ts (plAt pl k) : Int)))) (dg.set k (piAt dg k + piAt ns k / (tiesAt ts (plAt pl k) : Int)))
theorem given_len (pl : List Nat) (ts : List (Nat × Nat)) (ns dg : List Int) : (givenL pl ts ns dg).length = pl.length := by unfold givenL; rw [List.length_map, List.length_range]
theorem give_len (n k : Nat) (t : Int) : (giveAt n k t).length = n := by unfold giveAt; rw [List.length_map, List.length_range]
def T_settled : Spec := fun xs M R => ∃ pl ts ns b d r, xs = [.dat (S pl), .dat (joinsD ts), .dat d, .dat (S [b])] ∧ (d = tI ns ∨ d = .list (ns.map .int)) ∧ pl.length ≤ 7 ∧ ts.length ≤ 100 ∧ ns.length = pl.length ∧ (∀ c ∈ pl, c ≠ b → 0 < tiesAt ts c) ∧ settle pl ts b 1000 ns (List.replicate pl.length 0) = some r ∧ R (.dat (.tuple [tI r.1, tI r.2])) M
abbrev N_settled : List Str := ["_law_signs", "_law_joins", "_law_pile_here", "_law_home", "_law_doings", "_law_turn", "_law_ready", "_law_k", "_law_times_here", "_law_j"]
theorem sc_settled : FnScope N_settled ["_law_signs", "_law_joins", "_law_pile_here", "_law_home"] (defScope (topS 69)) := ⟨rfl, rfl, rfl, by decide +kernel, rfl, by decide +kernel, by decide +kernel⟩
theorem settle_some {pl : List Nat} {ts : List (Nat × Nat)} {b n : Nat} {ns dg : List Int} {k : Nat} (h : (readyL pl ts b ns).getLast? = some k) : settle pl ts b (n + 1) ns dg = settle pl ts b n (givenL pl ts ns (giveAt pl.length k (piAt ns k / (tiesAt ts (plAt pl k) : Int)))) (dg.set k (piAt dg k + piAt ns k / (tiesAt ts (plAt pl k) : Int))) := by
  show (match (readyL pl ts b ns).getLast? with
    | none => some (ns, dg)
    | some k => settle pl ts b n (givenL pl ts ns (giveAt pl.length k (piAt ns k / (tiesAt ts (plAt pl k) : Int)))) (dg.set k (piAt dg k + piAt ns k / (tiesAt ts (plAt pl k) : Int)))) = _
  rw [h]
theorem settle_none {pl : List Nat} {ts : List (Nat × Nat)} {b n : Nat} {ns dg : List Int} (h : (readyL pl ts b ns).getLast? = none) : settle pl ts b (n + 1) ns dg = some (ns, dg) := by
  show (match (readyL pl ts b ns).getLast? with
    | none => some (ns, dg)
    | some k => settle pl ts b n (givenL pl ts ns (giveAt pl.length k (piAt ns k / (tiesAt ts (plAt pl k) : Int)))) (dg.set k (piAt dg k + piAt ns k / (tiesAt ts (plAt pl k) : Int)))) = _
  rw [h]
theorem shaped_N (l : List Nat) : SeqAt.shaped (.list (l.map fun i : Nat => PyData.int (i : Int))) = true := by
  have := shaped_lI (toI l)
  unfold toI at this
  rw [List.map_map] at this
  exact this
/-- the places that are ready -/
theorem em_listP {N : List Str} {sc : Scope} {gd : Bool} {bl : Option Scope} {k : Nat} {ρ : List (Option Sl)} {M M1 : Hp} {e : Expr} {pos p : Pos} {ns : List Int} {d : PyData} (hd : d = tI ns ∨ d = .list (ns.map .int)) (ha : EM ⟨g, k, N, sc, gd, bl⟩ ρ M e (.dat d) M1) (hf : glB sc "list" = true := by decide +kernel) (hs : ∀ env : PySem.Env, starEach (e :: []) env = (false, eval e env) :: starEach [] env := by intro _; rfl) : EM ⟨g, k, N, sc, gd, bl⟩ ρ M (.Call (.Name "list" p) [e] [] pos) (.dat (.list (ns.map .int))) M1 := by
  rcases hd with rfl | rfl
  · exact em_listT ha hf hs
  · exact em_listL ha hf hs
theorem set_map {ns : List Int} {k : Nat} {v : Int} : (ns.map PyData.int).set k (.int v) = (ns.set k v).map .int := by rw [List.map_set]
theorem fn_settled (F : Fs g) : Fn g "_law_settled" 3 T_settled :=
  fn_ok F.law_settled sc_settled (fun _ _ _ _ _ _ us hl => match us, hl with | [_, _, _, _], _ => rfl) fun xs M R h => by
    obtain ⟨pl, ts, ns, b, d, r, rfl, hd, hz, hzt, hn, htp, hst, hR⟩ := h
    refine ⟨rfl, bd_frz ?_⟩
    refine bd_tup2V 2 4 (av_cons (EM.to (em_listP hd (em_var 2)) (av_cons (EV.imp (ev_newRep (d := .int 0) (n := pl.length) (em_lst [.int 0] (am_one em_int)) (em_lenS (em_var 0) (by omega)) rfl (by omega)) fun x M1 hx => ?_))))
    obtain ⟨q, hq, rfl, rfl⟩ := hx
    refine av_nil ⟨_, _, rfl, ?_⟩
    have e0 : List.replicate pl.length (PyData.int 0) = (List.replicate pl.length (0 : Int)).map .int := by rw [List.map_replicate]
    rw [e0]
    refine bd_for (js := [5]) (ds := (List.range 100000).map fun i : Nat => Sl.dat (.int (i : Int))) (src_r (n := 100000) em_int (by decide))
      (fun i ρ' M' => i ≤ 1000 ∧ ∃ ns' dg, M' = upd M q (mL (dg.map .int)) ∧ ns'.length = pl.length ∧ dg.length = pl.length ∧ settle pl ts b (1000 - i) ns' dg = some r ∧ ∃ o1 o2 o3 o4, ρ' = [some (.dat (S pl)), some (.dat (joinsD ts)), some (.dat (.list (ns'.map .int))), some (.dat (S [b])), some (.raw (.ref q)), o1, o2, o3, o4, none])
      ⟨Nat.zero_le _, ns, _, rfl, hn, by rw [List.length_replicate], hst, none, none, none, none, rfl⟩ (fun i dd ρ' M' hdd hJ => ?_) (fun ρ' M' hJ => ?_)
    · obtain ⟨hile, ns', dg, rfl, hn', hdg, hst', o1, o2, o3, o4, rfl⟩ := hJ
      rw [List.getElem?_map] at hdd
      cases eq : (List.range 100000)[i]? with
      | none => rw [eq] at hdd; cases hdd
      | some j0 =>
        rw [eq] at hdd
        have hdd' := Option.some.inj hdd
        subst hdd'
        refine ⟨_, tg_name 5, ?_⟩
        obtain ⟨m, hm⟩ : ∃ m, 1000 - i = m + 1 := by
          cases e : 1000 - i with
          | zero => rw [e] at hst'; cases hst'
          | succ m => exact ⟨m, rfl⟩
        rw [hm] at hst'
        have hrl : (readyL pl ts b ns').length ≤ pl.length := by
          unfold readyL
          have := List.length_filter_le (fun k => !decide (plAt pl k = b) && decide ((tiesAt ts (plAt pl k) : Int) ≤ piAt ns' k)) (List.range pl.length)
          rw [List.length_range] at this
          exact this
        refine bd_setLc1 (zs := List.range pl.length) (enc := fun i : Nat => .dat (.int (i : Int))) (t := fun k => !decide (plAt pl k = b) && decide ((tiesAt ts (plAt pl k) : Int) ≤ piAt ns' k)) (r := fun i : Nat => .int (i : Int)) 6 7 (src_r (em_lenS (em_var 0) (by omega)) (by omega))
          (fun k hk => ts_one (tm_and (TM.is (tm_neS (l := [plAt pl k]) (m := [b]) (em_ixS (em_var 0) (em_var 7) (pl_ix (List.mem_range.mp hk)) (by omega)) (em_var 3)) (by simp)) fun _ => tm_ge (em_ixL (em_var 2) (em_var 7) (pi_ix (by rw [hn']; exact List.mem_range.mp hk))) (ev_call (fn_lat F) (am_two (em_var 1) (em_ixS (em_var 0) (em_var 7) (pl_ix (List.mem_range.mp hk)) (by omega))) ⟨ts, _, rfl, hzt, only_self⟩))) (fun k _ _ => em_var 7) (by rw [List.length_range]; omega) ?_
        refine bd_when (t := (readyL pl ts b ns').isEmpty) (TM.is (tm_eqD (em_var 6) (em_lst [] am_nil) (shaped_N (readyL pl ts b ns')) shaped_nil (eqv_nil _)) (by rw [isE_map])) (fun ht => ?_) (fun ht => ?_)
        · have e1 : readyL pl ts b ns' = [] := List.isEmpty_iff.mp ht
          rw [settle_none (by rw [e1]; rfl)] at hst'
          have e2 := Option.some.inj hst'
          subst e2
          exact bd_ret (EM.to (em_tup [tI ns', tI dg] (am_two (em_tupleL (em_var 2)) (em_tupleM (em_var 4) upd_same (flats_int _))) (by simp)) ⟨M, same_upd hq, hR⟩)
        · obtain ⟨k, hk⟩ : ∃ k, (readyL pl ts b ns').getLast? = some k := by
            cases e : (readyL pl ts b ns').getLast? with
            | some k => exact ⟨k, rfl⟩
            | none =>
              rw [List.getLast?_eq_none_iff] at e
              rw [e] at ht
              cases ht
          have hkm := List.mem_filter.mp (List.mem_of_getLast? hk)
          have hkl : k < pl.length := List.mem_range.mp hkm.1
          have hkb : plAt pl k ≠ b := by
            have := hkm.2
            simp only [Bool.and_eq_true, Bool.not_eq_true', decide_eq_false_iff_not] at this
            exact this.1
          have hkp : plAt pl k ∈ pl := by
            refine List.mem_of_getElem? (i := k) ?_
            unfold plAt
            rw [List.getD_eq_getElem?_getD, List.getElem?_eq_getElem hkl]
            rfl
          have hpos := htp _ hkp hkb
          have hsm : tiesAt ts (plAt pl k) ≤ 100 := Nat.le_trans (cnt_le _ _) hzt
          rw [settle_some hk] at hst'
          refine bd_set 7 (x := .dat (.int (k : Int))) (em_ixL (ds := (readyL pl ts b ns').map fun i : Nat => .int (i : Int)) (em_var 6) (em_neg em_int) (atI_last (by rw [last_map, hk]; rfl))) ?_
          refine bd_set 8 (em_fdiv (i := piAt ns' k) (j := (tiesAt ts (plAt pl k) : Int)) ⟨by omega, by omega⟩ (em_ixL (em_var 2) (em_var 7) (pi_ix (by omega))) (ev_call (fn_lat F) (am_two (em_var 1) (em_ixS (em_var 0) (em_var 7) (pl_ix hkl) (by omega))) ⟨ts, _, rfl, hzt, only_self⟩)) ?_
          refine bd_setItem (q := q) (i := k) (EM.to (em_add (em_ixM (ds := dg.map .int) (d := .int (piAt dg k)) (em_var 4) (em_var 7) upd_same (pi_ix (by omega)) rfl) (em_var 8)) ⟨_, dg.map .int, rfl, rfl, upd_same, by rw [List.length_map]; omega, ?_⟩) (fun M => em_var 4) (fun M => em_var 7)
          rw [upd_upd, set_map]
          refine bd_set 2 (em_listT (ev_call (fn_given F) (am_cons (em_var 0) (am_cons (em_var 1) (am_two (em_var 2) (EM.is (y := .dat (.list ((giveAt pl.length k (piAt ns' k / (tiesAt ts (plAt pl k) : Int))).map .int))) (em_lc1n (zs := List.range pl.length) (enc := fun i : Nat => .dat (.int (i : Int))) (r := fun j => .int (if decide (j = k) then piAt ns' k / (tiesAt ts (plAt pl k) : Int) else 0)) 9 (src_r (em_lenS (em_var 0) (by omega)) (by omega))
            (fun j _ => EM.is (em_if (t := decide (j = k)) (TM.is (tm_eqI (em_var 9) (em_var 7)) (by rw [nat_eqI])) (fun _ => em_var 8) fun _ => em_int) (by rw [if_int])) (by rw [List.length_range]; omega)) (by
              unfold giveAt
              rw [List.map_map]
              refine congrArg _ (congrArg _ (List.map_congr_left fun j _ => ?_))
              by_cases e : j = k <;> simp [e]))))) ⟨pl, ts, ns', _, _, rfl, .inr rfl, hz, hzt, hn', give_len _ _ _, only_self⟩)) ?_
          refine bd_nil ⟨by omega, _, _, rfl, given_len _ _ _ _, by rw [List.length_set]; exact hdg, ?_, _, _, _, _, rfl⟩
          have e3 : 1000 - (i + 1) = m := by omega
          rw [e3]
          exact hst'
    · obtain ⟨hile, _⟩ := hJ
      rw [List.length_map, List.length_range] at hile
      omega
/-! ### lasts -/
def bankGives (pl : List Nat) (b : Nat) : List Int := pl.map fun c => if c = b then 1 else 0
def afterBank (pl : List Nat) (ts : List (Nat × Nat)) (b : Nat) (ns : List Int) : List Int := givenL pl ts ns (bankGives pl b)
def againOf (pl : List Nat) (ts : List (Nat × Nat)) (b : Nat) (ns : List Int) : Option (List Int × List Int) := settle pl ts b 1000 (afterBank pl ts b ns) (List.replicate pl.length 0)
def lawLasts (pl : List Nat) (ts : List (Nat × Nat)) (b : Nat) (ns : List Int) : Bool := (readyL pl ts b ns).isEmpty && (match againOf pl ts b ns with
  | some r => decide (bareL pl r.1 b = bareL pl ns b)
  | none => false)
theorem settle_len {pl : List Nat} {ts : List (Nat × Nat)} {b : Nat} : ∀ {n : Nat} {ns dg : List Int} {r : List Int × List Int}, ns.length = pl.length → settle pl ts b n ns dg = some r → r.1.length = pl.length
  | 0, _, _, _, _, h => by cases h
  | n + 1, ns, dg, r, hn, h => by
    cases e : (readyL pl ts b ns).getLast? with
    | none =>
      rw [settle_none e] at h
      have := Option.some.inj h
      subst this
      exact hn
    | some k =>
      rw [settle_some e] at h
      exact settle_len (given_len _ _ _ _) h
def T_lasts : Spec := fun xs M R => ∃ pl ts ns b, xs = [.dat (S pl), .dat (joinsD ts), .dat (tI ns), .dat (S [b])] ∧ pl.length ≤ 7 ∧ ts.length ≤ 100 ∧ ns.length = pl.length ∧ (∀ c ∈ pl, c ≠ b → 0 < tiesAt ts c) ∧ (readyL pl ts b ns = [] → ∃ r, againOf pl ts b ns = some r) ∧ R (.dat (.bool (lawLasts pl ts b ns))) M
abbrev N_lasts : List Str := ["_law_signs", "_law_joins", "_law_pile_here", "_law_home", "_law_more", "_law_again", "_law_k", "_law_sign"]
theorem sc_lasts : FnScope N_lasts ["_law_signs", "_law_joins", "_law_pile_here", "_law_home"] (defScope (topS 71)) := ⟨rfl, rfl, rfl, by decide +kernel, rfl, by decide +kernel, by decide +kernel⟩
theorem fn_lasts (F : Fs g) : Fn g "_law_lasts" 4 T_lasts :=
  fn_ok F.law_lasts sc_lasts (fun _ _ _ _ _ _ us hl => match us, hl with | [_, _, _, _], _ => rfl) fun xs M R h => by
    obtain ⟨pl, ts, ns, b, rfl, hz, hzt, hn, htp, hag, hR⟩ := h
    refine ⟨rfl, ?_⟩
    refine bd_when (t := !(readyL pl ts b ns).isEmpty) (TM.is (tm_neD (em_lc1 (zs := List.range pl.length) (enc := fun i : Nat => .dat (.int (i : Int))) (t := fun k => !decide (plAt pl k = b) && decide ((tiesAt ts (plAt pl k) : Int) ≤ piAt ns k)) (r := fun i : Nat => .int (i : Int)) 6 (src_r (em_lenS (em_var 0) (by omega)) (by omega))
      (fun k hk => ts_one (tm_and (TM.is (tm_neS (l := [plAt pl k]) (m := [b]) (em_ixS (em_var 0) (em_var 6) (pl_ix (List.mem_range.mp hk)) (by omega)) (em_var 3)) (by simp)) fun _ => tm_ge (em_ixT (ds := ns.map .int) (em_var 2) (em_var 6) (pi_ix (by rw [hn]; exact List.mem_range.mp hk))) (ev_call (fn_lat F) (am_two (em_var 1) (em_ixS (em_var 0) (em_var 6) (pl_ix (List.mem_range.mp hk)) (by omega))) ⟨ts, _, rfl, hzt, only_self⟩))) (fun k _ _ => em_var 6) (by rw [List.length_range]; omega)) (em_lst [] am_nil) (shaped_N (readyL pl ts b ns)) shaped_nil (eqv_nil _)) (by rw [isE_map]; rfl)) (fun ht => ?_) (fun ht => ?_)
    · have e : lawLasts pl ts b ns = false := by
        unfold lawLasts
        cases q : (readyL pl ts b ns).isEmpty with
        | true => rw [q] at ht; cases ht
        | false => rfl
      rw [e] at hR
      exact bd_ret (EM.to em_bool hR)
    · have hE : (readyL pl ts b ns).isEmpty = true := by
        cases q : (readyL pl ts b ns).isEmpty with
        | true => rfl
        | false => rw [q] at ht; cases ht
      obtain ⟨r, hr⟩ := hag (List.isEmpty_iff.mp hE)
      have hrl : r.1.length = pl.length := settle_len (given_len _ _ _ _) hr
      refine bd_set 4 (x := .dat (tI (afterBank pl ts b ns))) (ev_call (fn_given F) (am_cons (em_var 0) (am_cons (em_var 1) (am_two (em_var 2) (EM.is (y := .dat (.list ((bankGives pl b).map .int))) (em_lc1n (zs := pl) (enc := fun n => .dat (S [n])) (r := fun c => .int (if decide ([c] = [b]) then 1 else 0)) 7 (src_s (em_var 0)) (fun c _ => em_intB (em_eqS (l := [c]) (m := [b]) (em_var 7) (em_var 3))) (by omega)) (by
        unfold bankGives
        rw [List.map_map]
        refine congrArg _ (congrArg _ (List.map_congr_left fun c _ => ?_))
        by_cases e : c = b <;> simp [e]))))) ⟨pl, ts, ns, bankGives pl b, _, rfl, .inl rfl, hz, hzt, hn, by unfold bankGives; rw [List.length_map], only_self⟩) ?_
      refine bd_set 5 (x := .dat (tI r.1)) (em_ixT (ds := [tI r.1, tI r.2]) (ev_call (fn_settled F) (am_cons (em_var 0) (am_cons (em_var 1) (am_two (em_var 4) (em_var 3)))) ⟨pl, ts, afterBank pl ts b ns, b, _, r, rfl, .inl rfl, hz, hzt, given_len _ _ _ _, htp, hr, only_self⟩) em_int rfl) ?_
      refine bd_ret (EM.to (em_eqD (ev_call (fn_lbare F) (am_cons (em_var 0) (am_two (em_var 5) (em_var 3))) ⟨pl, r.1, b, _, rfl, .inl rfl, hz, hrl, only_self⟩) (ev_call (fn_lbare F) (am_cons (em_var 0) (am_two (em_var 2) (em_var 3))) ⟨pl, ns, b, _, rfl, .inl rfl, hz, hn, only_self⟩) (shaped_tI _) (shaped_tI _) (eqv_tI _ _)) ?_)
      have e : lawLasts pl ts b ns = decide (bareL pl r.1 b = bareL pl ns b) := by
        unfold lawLasts
        rw [hE, hr]
        rfl
      rw [e] at hR
      exact hR
/-! ### stays -/
def topOf (ts : List (Nat × Nat)) (b c : Nat) : Nat := if c = b then 1 else tiesAt ts c
def longer (n : Nat) (p : List Int) : List (List Int) := (List.range n).map fun i : Nat => p ++ [(i : Int)]
def stayStep (ts : List (Nat × Nat)) (b : Nat) (f : List (List Int)) (c : Nat) : List (List Int) := f.flatMap (longer (topOf ts b c))
def stayRaw (pl : List Nat) (ts : List (Nat × Nat)) (b : Nat) : List (List Int) := pl.foldl (stayStep ts b) [[]]
def staysOf (pl : List Nat) (ts : List (Nat × Nat)) (b : Nat) : List (List Int) := (stayRaw pl ts b).filter (lawLasts pl ts b)
theorem flat_bound {f : List (List Int)} {n : Nat} : (f.flatMap (longer n)).length = f.length * n := by
  induction f with
  | nil => simp
  | cons p f ih =>
    rw [List.flatMap_cons, List.length_append, ih, List.length_cons, Nat.succ_mul]
    unfold longer
    rw [List.length_map, List.length_range]
    omega
theorem stay_fold (ts : List (Nat × Nat)) (b : Nat) (h : ts.length ≤ 6) : ∀ (l : List Nat) (f : List (List Int)) (m : Nat), (∀ p ∈ f, p.length = m) → (l.foldl (stayStep ts b) f).length ≤ f.length * 6 ^ l.length ∧ ∀ p ∈ l.foldl (stayStep ts b) f, p.length = m + l.length
  | [], f, m, hf => ⟨by simp, fun p hp => by have := hf p hp; simpa using this⟩
  | c :: l, f, m, hf => by
    have h6 : topOf ts b c ≤ 6 := by
      unfold topOf
      split
      · omega
      · exact Nat.le_trans (cnt_le _ _) h
    have hf2 : ∀ p ∈ stayStep ts b f c, p.length = m + 1 := fun p hp => by
      obtain ⟨p0, hp0, hp1⟩ := List.mem_flatMap.mp hp
      obtain ⟨i, _, rfl⟩ := List.mem_map.mp hp1
      rw [List.length_append, List.length_singleton, hf p0 hp0]
    obtain ⟨h1, h2⟩ := stay_fold ts b h l (stayStep ts b f c) (m + 1) hf2
    refine ⟨?_, fun p hp => by have := h2 p hp; rw [List.length_cons]; omega⟩
    rw [List.foldl_cons, List.length_cons, Nat.pow_succ]
    have h3 : (stayStep ts b f c).length ≤ f.length * 6 := by
      unfold stayStep
      rw [flat_bound]
      exact Nat.mul_le_mul_left _ h6
    calc _ ≤ (stayStep ts b f c).length * 6 ^ l.length := h1
      _ ≤ (f.length * 6) * 6 ^ l.length := Nat.mul_le_mul_right _ h3
      _ = f.length * (6 ^ l.length * 6) := by rw [Nat.mul_assoc, Nat.mul_comm 6]
def T_stays : Spec := fun xs M R => ∃ pl ts b, xs = [.dat (S pl), .dat (joinsD ts), .dat (S [b])] ∧ pl.length ≤ 4 ∧ ts.length ≤ 6 ∧ (∀ c ∈ pl, c ≠ b → 0 < tiesAt ts c) ∧ (∀ ns ∈ stayRaw pl ts b, readyL pl ts b ns = [] → ∃ r, againOf pl ts b ns = some r) ∧ R (.dat (.list ((staysOf pl ts b).map tI))) M
abbrev N_stays : List Str := ["_law_signs", "_law_joins", "_law_home", "_law_found", "_law_sign", "_law_top", "_law_longer", "_law_pile_here", "_law_number_here"]
theorem sc_stays : FnScope N_stays ["_law_signs", "_law_joins", "_law_home"] (defScope (topS 72)) := ⟨rfl, rfl, rfl, by decide +kernel, rfl, by decide +kernel, by decide +kernel⟩
theorem tI_snoc (p : List Int) (i : Int) : PyData.tuple (p.map PyData.int ++ [.int i]) = tI (p ++ [i]) := by
  show _ = PyData.tuple ((p ++ [i]).map .int)
  rw [List.map_append]
  rfl
theorem fn_stays (F : Fs g) : Fn g "_law_stays" 5 T_stays :=
  fn_ok F.law_stays sc_stays (fun _ _ _ _ _ _ us hl => match us, hl with | [_, _, _], _ => rfl) fun xs M R h => by
    obtain ⟨pl, ts, b, rfl, hz, hzt, htp, hag, hR⟩ := h
    have hp6 : (6 : Nat) ^ 4 = 1296 := by decide
    refine ⟨rfl, ?_⟩
    refine bd_set 3 (x := .dat (.list (([[]] : List (List Int)).map tI))) (em_lst [tI []] (am_one (em_tup [] am_nil)) (by simp)) ?_
    refine bd_for (js := [4]) (ds := pl.map fun i : Nat => Sl.dat (S [i])) (src_s (em_var 0)) (fun i ρ' M' => M' = M ∧ ∃ o1 o2 o3 o4, ρ' = [some (.dat (S pl)), some (.dat (joinsD ts)), some (.dat (S [b])), some (.dat (.list (((pl.take i).foldl (stayStep ts b) [[]]).map tI))), o1, o2, o3, o4, none]) ⟨rfl, none, none, none, none, rfl⟩ (fun i dd ρ' M' hdd hJ => ?_) (fun ρ' M' hJ => ?_)
    · obtain ⟨rfl, o1, o2, o3, o4, rfl⟩ := hJ
      rw [List.getElem?_map] at hdd
      cases eq : pl[i]? with
      | none => rw [eq] at hdd; cases hdd
      | some ch =>
        rw [eq] at hdd
        have hdd' := Option.some.inj hdd
        subst hdd'
        refine ⟨_, tg_name 4, ?_⟩
        obtain ⟨z1, z2⟩ := stay_fold ts b hzt (pl.take i) [[]] 0 (fun p hp => by rw [List.mem_singleton.mp hp]; rfl)
        have hti : (pl.take i).length ≤ 4 := by rw [List.length_take]; omega
        have hpw : 6 ^ (pl.take i).length ≤ 6 ^ 4 := Nat.pow_le_pow_right (by decide) hti
        rw [List.length_singleton, Nat.one_mul] at z1
        have e2 : (pl.take (i + 1)).foldl (stayStep ts b) [[]] = stayStep ts b ((pl.take i).foldl (stayStep ts b) [[]]) ch := by
          rw [List.take_add_one, List.foldl_append, eq]
          rfl
        generalize (pl.take i).foldl (stayStep ts b) [[]] = fd at z1 z2 e2
        have h6 : topOf ts b ch ≤ 6 := by
          unfold topOf
          split
          · omega
          · exact Nat.le_trans (cnt_le _ _) hzt
        refine bd_par2 5 6 (x := .dat (.int (topOf ts b ch))) (y := .dat (.list ((([] : List (List Int)).flatMap (longer (topOf ts b ch))).map tI))) (am_two (EM.is (em_if (t := decide (ch = b)) (TM.is (tm_eqS (l := [ch]) (m := [b]) (em_var 4) (em_var 2)) (by simp)) (fun _ => em_int) fun _ => ev_call (fn_lat F) (am_two (em_var 1) (em_var 4)) ⟨ts, ch, rfl, by omega, only_self⟩) (by
          unfold topOf
          by_cases e : ch = b <;> simp [e])) (em_lst [] am_nil)) ?_
        refine bd_for (js := [7]) (ds := fd.map fun p => Sl.dat (tI p)) (src_lT (em_var 3)) (fun m ρ'' M'' => M'' = M' ∧ ∃ o4, ρ'' = [some (.dat (S pl)), some (.dat (joinsD ts)), some (.dat (S [b])), some (.dat (.list (fd.map tI))), some (.dat (S [ch])), some (.dat (.int (topOf ts b ch))), some (.dat (.list (((fd.take m).flatMap (longer (topOf ts b ch))).map tI))), o4, none]) ⟨rfl, _, rfl⟩ (fun m dd ρ'' M'' hdd hJ => ?_) (fun ρ'' M'' hJ => ?_)
        · obtain ⟨rfl, o5, rfl⟩ := hJ
          rw [List.getElem?_map] at hdd
          cases eq2 : fd[m]? with
          | none => rw [eq2] at hdd; cases hdd
          | some p =>
            rw [eq2] at hdd
            have hdd' := Option.some.inj hdd
            subst hdd'
            refine ⟨_, tg_name 7, ?_⟩
            have hpl := z2 p (List.mem_of_getElem? eq2)
            have hfb : ((fd.take m).flatMap (longer (topOf ts b ch))).length ≤ 1296 * 6 := by
              rw [flat_bound]
              refine Nat.mul_le_mul ?_ h6
              rw [List.length_take]
              omega
            have e3 : (fd.take (m + 1)).flatMap (longer (topOf ts b ch)) = (fd.take m).flatMap (longer (topOf ts b ch)) ++ longer (topOf ts b ch) p := by
              rw [List.take_add_one, eq2, List.flatMap_append]
              simp
            refine bd_set 6 (x := .dat (.list (((fd.take (m + 1)).flatMap (longer (topOf ts b ch))).map tI))) (EM.is (em_cat (em_var 6) (em_lc1n (zs := List.range (topOf ts b ch)) (enc := fun i : Nat => .dat (.int (i : Int))) (r := fun i : Nat => tI (p ++ [(i : Int)])) 8 (src_r (em_var 5) (by omega)) (fun n _ => EM.is (em_catT (ds := p.map .int) (es := [.int (n : Int)]) (em_var 7) (em_tup [.int (n : Int)] (am_one (em_var 8)) (by simp)) (by rw [List.length_map, List.length_singleton]; omega)) (by rw [tI_snoc])) (by rw [List.length_range]; omega)) (by rw [List.length_map, List.length_map, List.length_range]; omega)) (by
              rw [e3, List.map_append]
              unfold longer
              rw [List.map_map]
              rfl)) ?_
            exact bd_nil ⟨rfl, _, rfl⟩
        · obtain ⟨rfl, o5, rfl⟩ := hJ
          rw [List.length_map, List.take_length]
          refine bd_set 3 (em_var 6) ?_
          refine bd_nil ?_
          dsimp only
          rw [e2]
          exact ⟨rfl, some (.dat (S [ch])), some (.dat (.int (topOf ts b ch))), _, o5, rfl⟩
    · obtain ⟨rfl, o1, o2, o3, o4, rfl⟩ := hJ
      rw [List.length_map, List.take_length]
      obtain ⟨z1, z2⟩ := stay_fold ts b hzt pl [[]] 0 (fun p hp => by rw [List.mem_singleton.mp hp]; rfl)
      have hpw : 6 ^ pl.length ≤ 6 ^ 4 := Nat.pow_le_pow_right (by decide) hz
      rw [List.length_singleton, Nat.one_mul] at z1
      exact bd_ret (EM.to (em_lc1 (zs := stayRaw pl ts b) (enc := fun p => .dat (tI p)) (t := lawLasts pl ts b) (r := fun p => tI p) 7 (src_lT (em_var 3)) (fun p hp => ts_one (tm_val (ev_call (fn_lasts F) (am_cons (em_var 0) (am_cons (em_var 1) (am_two (em_var 7) (em_var 2)))) ⟨pl, ts, p, b, rfl, by omega, by omega, by have := z2 p hp; omega, htp, hag p hp, only_self⟩))) (fun p _ _ => em_var 7) (by show (pl.foldl (stayStep ts b) [[]]).length ≤ _; omega)) hR)
end
end Wr
end
section
set_option maxRecDepth 100000
set_option maxHeartbeats 1000000
/-! The law's draws: dip, one_of, mixed, pile. -/
namespace Wr
open PySem L2
section
variable {g : Gm}
def T_dip : Spec := fun xs M R => ∃ (a : Addr) (n : Nat), xs = [.raw (.ref a), .dat (.int n)] ∧ 1 ≤ n ∧ n ≤ 1000 ∧ WellIn M a ∧ ∀ d : Nat, d < n → ∀ M', Wl a M M' → R (.dat (.int d)) M'
theorem sc_dip : FnScope ["_law_well_here", "_law_size", "_law_digit"] ["_law_well_here", "_law_size"] (defScope (topS 60)) := ⟨rfl, rfl, rfl, by decide +kernel, rfl, by decide +kernel, by decide +kernel⟩
theorem digit_of {x : Int} {n : Nat} (h : 1 ≤ n) : ∃ d : Nat, x % (n : Int) = (d : Int) ∧ d < n := by
  have h1 := Int.emod_nonneg x (show (n : Int) ≠ 0 by omega)
  have h2 := Int.emod_lt_of_pos x (show (0 : Int) < n by omega)
  exact ⟨(x % (n : Int)).toNat, by omega, by omega⟩
theorem flats2 {x y : Int} : Flats [.int x, .int y] := flats_int [x, y]
theorem fn_dip (F : Fs g) : Fn g "_law_dip" 1 T_dip :=
  fn_ok F.law_dip sc_dip (fun _ _ _ _ _ _ us hl => match us, hl with | [_, _], _ => rfl) fun xs M R h => by
    obtain ⟨a, n, rfl, hn, hn2, ⟨x, y, W, hm⟩, hR⟩ := h
    refine ⟨rfl, ?_⟩
    refine bd_when (tm_gt (em_ixM (ds := [.int x, .int y]) (d := .int x) (em_var 0) em_int hm rfl rfl) em_int) (fun hp => ?_) (fun _ => ?_)
    · have hx : 0 < x := of_decide_eq_true hp
      obtain ⟨d, hd, hdn⟩ := digit_of (x := x) hn
      refine bd_subName (q := a) (ds := [.int x, .int y]) (i := 0) 2 (d1 := .int (x / n)) (d2 := .int (x % n)) (em_divmod (em_ixM (ds := [.int x, .int y]) (d := .int x) (em_var 0) em_int hm rfl rfl) (em_var 1) ⟨by omega, by omega⟩) rfl hm (show 0 < 2 by decide) (fun M => em_var 0) (fun M => em_int) ?_
      refine bd_ret (EM.to (em_var 2) ?_)
      rw [hd]
      exact hR d hdn _ ⟨x / n, y, ⟨Int.ediv_nonneg W.x0 (by omega), W.y0, W.y1⟩, rfl⟩
    · have h0 : (0 : Int) ≤ (y * 63029 + 17011) % 2147483563 := Int.emod_nonneg _ (by decide)
      have h1 : (y * 63029 + 17011) % 2147483563 < 2147483563 := Int.emod_lt_of_pos _ (by decide)
      refine bd_setItem (q := a) (i := 1) (EM.to (em_mod (i := y * 63029 + 17011) (j := 2147483563) (by decide) (em_intI (em_add (em_mul (.inr ⟨by decide, by decide⟩) (em_ixM (ds := [.int x, .int y]) (d := .int y) (em_var 0) em_int hm rfl rfl) em_int) em_int)) em_int) ⟨_, [.int x, .int y], rfl, rfl, hm, show 1 < 2 by decide, ?_⟩) (fun M => em_var 0) (fun M => em_int)
      obtain ⟨d, hd, hdn⟩ := digit_of (x := (y * 63029 + 17011) % 2147483563 / 601) hn
      refine bd_ret (EM.to (em_mod (i := (y * 63029 + 17011) % 2147483563 / 601) (j := n) (by omega) (em_intI (em_fdiv ⟨by decide, by decide⟩ (em_ixM (ds := [.int x, .int ((y * 63029 + 17011) % 2147483563)]) (d := .int ((y * 63029 + 17011) % 2147483563)) (em_var 0) em_int upd_same rfl rfl) em_int)) (em_var 1)) ?_)
      rw [hd]
      exact hR d hdn _ ⟨x, (y * 63029 + 17011) % 2147483563, ⟨W.x0, h0, h1⟩, rfl⟩
theorem ev_lc1V {k : Nat} {N : List Str} {sc : Scope} {gd : Bool} {bl : Option Scope} {ρ : List (Option Sl)} {M M1 : Hp} {α : Type} {zs : List α} {enc : α → Sl} {iter elt : Expr} {scope : Scope} {pt pos : Pos} {R : Wish} {f : Str} (j : Nat) (src : SrcD ⟨g, k, N, sc, gd, bl⟩ ρ M (.Name f pt) iter (zs.map enc) M1) (J : Nat → List PyData → Hp → Prop) (h0 : J 0 [] M1)
    (he : ∀ i z acc M', zs[i]? = some z → J i acc M' → EV ⟨g, k, N, relS scope sc, gd, some scope⟩ (ρ.set j (some (enc z))) M' elt fun y M3 => ∃ r, y = .dat r ∧ J (i + 1) (acc ++ [r]) M3) (hd : ∀ acc M', J zs.length acc M' → R (.dat (.list acc)) M') (hz : zs.length ≤ 100000) (ok : blkC N sc scope [(f, j)] = true := by decide +kernel) (nd : decide N.Nodup = true := by decide +kernel) (hc : chkL N (relS scope sc) (some scope) j f = true := by decide +kernel)
    (hfs : ∀ (env : PySem.Env) (x : Value), foldedSetIterable iter env x = pure x := by intro _ _; rfl) : EV ⟨g, k, N, sc, gd, bl⟩ ρ M (.ListComp elt [⟨.Name f pt, iter, [], 0⟩] scope pos) R :=
  ev_lcJ [(f, j)] src J h0 (fun i d acc M' hi hJ => by
    rw [List.getElem?_map] at hi
    cases e : zs[i]? with
    | none => rw [e] at hi; cases hi
    | some z =>
      rw [e] at hi
      have hi' : enc z = d := by simpa using hi
      subst hi'
      refine ⟨[j], ρ.set j (some (enc z)), true, M', fun i hi => hi, ?_, ts_nil, fun _ => he i z acc M' e hJ, fun q => nomatch q⟩
      have h := tg_name (g := g) (k := k) (N := N) (sc := relS scope sc) (gd := gd) (bl := some scope) (p := pt) (ρ := wipeR ρ ([(f, j)].map (·.2))) (x := enc z) j hc
      have e2 : (wipeR ρ ([(f, j)].map (·.2))).set j (some (enc z)) = ρ.set j (some (enc z)) := set_none_set
      rw [e2] at h
      exact h) (fun acc M' hJ => hd acc M' (by rw [List.length_map] at hJ; exact hJ)) (by rw [List.length_map]; exact hz) ok nd hfs
/-! ### one of -/
def T_one : Spec := fun xs M R => ∃ a, WellIn M a ∧ ((∃ ns : List Int, xs = [.raw (.ref a), .dat (.list (ns.map .int))] ∧ 1 ≤ ns.length ∧ ns.length ≤ 1000 ∧ ∀ z ∈ ns, ∀ M', Wl a M M' → R (.dat (.int z)) M') ∨ ∃ l : List Nat, xs = [.raw (.ref a), .dat (S l)] ∧ 1 ≤ l.length ∧ l.length ≤ 1000 ∧ ∀ z ∈ l, ∀ M', Wl a M M' → R (.dat (S [z])) M')
theorem sc_one : FnScope ["_law_well_here", "_law_some"] ["_law_well_here", "_law_some"] (defScope (topS 61)) := ⟨rfl, rfl, rfl, by decide +kernel, rfl, by decide +kernel, by decide +kernel⟩
theorem fn_one (F : Fs g) : Fn g "_law_one_of" 2 T_one :=
  fn_ok F.law_one_of sc_one (fun _ _ _ _ _ _ us hl => match us, hl with | [_, _], _ => rfl) fun xs M R h => by
    obtain ⟨a, hw, h⟩ := h
    rcases h with ⟨ns, rfl, h1, h2, hR⟩ | ⟨l, rfl, h1, h2, hR⟩
    · refine ⟨rfl, ?_⟩
      refine bd_ret (ev_ixLE (em_var 1) (ev_call (fn_dip F) (am_two (em_var 0) (em_lenL (em_var 1))) ⟨a, (ns.map PyData.int).length, rfl, by rw [List.length_map]; omega, by rw [List.length_map]; omega, hw, fun d hd M' hM => ?_⟩))
      rw [List.length_map] at hd
      exact ⟨d, _, rfl, atI_nat (by rw [List.getElem?_map, List.getElem?_eq_getElem hd]; rfl), hR _ (List.getElem_mem hd) M' hM⟩
    · refine ⟨rfl, ?_⟩
      refine bd_ret (ev_ixSE (em_var 1) (ev_call (fn_dip F) (am_two (em_var 0) (em_lenS (em_var 1) (by omega))) ⟨a, l.length, rfl, by omega, by omega, hw, fun d hd M' hM => ?_⟩) (by omega))
      exact ⟨d, _, rfl, atI_nat (List.getElem?_eq_getElem hd), hR _ (List.getElem_mem hd) M' hM⟩
/-! ### pile -/
def T_pile : Spec := fun xs M R => ∃ (a : Addr) (n : Nat) (lo hi : Int), xs = [.raw (.ref a), .dat (.int n), .dat (.int lo), .dat (.int hi)] ∧ n ≤ 1000 ∧ lo ≤ hi ∧ hi - lo < 1000 ∧ WellIn M a ∧ ∀ ns : List Int, ns.length = n → (∀ z ∈ ns, lo ≤ z ∧ z ≤ hi) → ∀ M', Wl a M M' → R (.dat (tI ns)) M'
theorem sc_pile : FnScope ["_law_well_here", "_law_many", "_law_low", "_law_high", "_law_k"] ["_law_well_here", "_law_many", "_law_low", "_law_high"] (defScope (topS 73)) := ⟨rfl, rfl, rfl, by decide +kernel, rfl, by decide +kernel, by decide +kernel⟩
theorem fn_pile (F : Fs g) : Fn g "_law_pile" 2 T_pile :=
  fn_ok F.law_pile sc_pile (fun _ _ _ _ _ _ us hl => match us, hl with | [_, _, _, _], _ => rfl) fun xs M R h => by
    obtain ⟨a, n, lo, hi, rfl, hn, hlo, hhi, hw, hR⟩ := h
    refine ⟨rfl, ?_⟩
    refine bd_ret (ev_tupleE (ev_lc1V (zs := List.range n) (enc := fun i : Nat => .dat (.int (i : Int))) 4 (src_r (em_var 1) (by omega))
      (fun i acc M' => ∃ ns : List Int, acc = ns.map .int ∧ ns.length = i ∧ (∀ z ∈ ns, lo ≤ z ∧ z ≤ hi) ∧ Wl a M M') ⟨[], rfl, rfl, (fun z hz => nomatch hz), hw.self⟩ (fun i z acc M' hz hJ => ?_) (fun acc M' hJ => ?_) (by rw [List.length_range]; omega)))
    · obtain ⟨ns, rfl, hl, hns, hM⟩ := hJ
      have e : hi - lo + 1 = (((hi - lo + 1).toNat : Nat) : Int) := by omega
      refine ev_addE (EM.to (em_var 2) ⟨lo, rfl, ?_⟩)
      refine ev_call (fn_dip F) (am_two (em_var 0) (EM.is (em_add (em_sub (em_var 3) (em_var 2)) em_int) (congrArg (fun i => Sl.dat (.int i)) e))) ⟨a, (hi - lo + 1).toNat, rfl, by omega, by omega, hM.at_, fun d hd M2 hM2 => ?_⟩
      refine ⟨d, rfl, .int (lo + d), rfl, ns ++ [lo + d], by simp, by rw [List.length_append, hl]; rfl, fun z hz => ?_, hM.trans hM2⟩
      rcases List.mem_append.mp hz with q | q
      · exact hns z q
      · rw [List.mem_singleton.mp q]
        omega
    · obtain ⟨ns, rfl, hl, hns, hM⟩ := hJ
      rw [List.length_range] at hl
      exact ⟨_, rfl, hR ns hl hns M' hM⟩
/-! ### mixed -/
def T_mixed : Spec := fun xs M R => ∃ (a : Addr) (ds : List PyData), ((xs = [.raw (.ref a), .dat (.list ds)] ∧ Flats ds) ∨ ∃ l : List Nat, xs = [.raw (.ref a), .dat (S l)] ∧ ds = l.map fun c => S [c]) ∧ ds.length ≤ 1000 ∧ WellIn M a ∧ ∀ es, es.Perm ds → ∀ M', Wl a M M' → R (.dat (.list es)) M'
theorem sc_mixed : FnScope ["_law_well_here", "_law_some", "_law_bag", "_law_found", "_law_turn"] ["_law_well_here", "_law_some"] (defScope (topS 62)) := ⟨rfl, rfl, rfl, by decide +kernel, rfl, by decide +kernel, by decide +kernel⟩
theorem erase_perm {α : Type} : ∀ (l : List α) (i : Nat) (h : i < l.length), (l[i] :: l.eraseIdx i).Perm l
  | _ :: _, 0, _ => List.Perm.refl _
  | x :: l, i + 1, h => (List.Perm.swap x _ _).trans (List.Perm.cons x (erase_perm l i (Nat.lt_of_succ_lt_succ h)))
theorem perm_move {α : Type} {es bag : List α} {i : Nat} {d : α} (h : bag[i]? = some d) : (es ++ [d] ++ bag.eraseIdx i).Perm (es ++ bag) := by
  obtain ⟨hi, rfl⟩ := List.getElem?_eq_some_iff.mp h
  rw [List.append_assoc]
  exact List.Perm.append_left es (erase_perm _ _ hi)
theorem flats_perm {a b : List PyData} (h : a.Perm b) (k : Flats b) : Flats a := fun d hd => k d (h.mem_iff.mp hd)
theorem fn_mixed (F : Fs g) : Fn g "_law_mixed" 2 T_mixed :=
  fn_ok F.law_mixed sc_mixed (fun _ _ _ _ _ _ us hl => match us, hl with | [_, _], _ => rfl) fun xs M R h => by
    obtain ⟨a, ds, hxs, hz, hw, hR⟩ := h
    have hfl : Flats ds := by
      rcases hxs with ⟨_, h⟩ | ⟨l, _, rfl⟩
      · exact h
      · exact flats_map (fun _ => rfl) l
    obtain ⟨u, hu, hux, hul⟩ : ∃ u : Sl, xs = [.raw (.ref a), u] ∧ (∀ (ρ : List (Option Sl)) (M : Hp) p1 p2 p3, ρ[1]? = some (some u) → EV ⟨g, 1, ["_law_well_here", "_law_some", "_law_bag", "_law_found", "_law_turn"], defScope (topS 62), false, none⟩ ρ M (.Call (.Name "list" p1) [.Name "_law_some" p2] [] p3) (newO (mL ds) M)) ∧ (∀ (ρ : List (Option Sl)) (M : Hp) p1 p2 p3, ρ[1]? = some (some u) → EM ⟨g, 1, ["_law_well_here", "_law_some", "_law_bag", "_law_found", "_law_turn"], defScope (topS 62), false, none⟩ ρ M (.Call (.Name "len" p1) [.Name "_law_some" p2] [] p3) (.dat (.int ds.length)) M) := by
      rcases hxs with ⟨h, _⟩ | ⟨l, h, rfl⟩
      · exact ⟨_, h, fun ρ M p1 p2 p3 hρ => ev_newListL (em_var 1 (hd := hρ)) hfl, fun ρ M p1 p2 p3 hρ => em_lenL (em_var 1 (hd := hρ))⟩
      · exact ⟨_, h, fun ρ M p1 p2 p3 hρ => ev_newListS (em_var 1 (hd := hρ)) (by rw [List.length_map] at hz; exact hz), fun ρ M p1 p2 p3 hρ => EM.is (em_lenS (em_var 1 (hd := hρ)) (by rw [List.length_map] at hz; omega)) (by rw [List.length_map])⟩
    subst hu
    clear hxs
    refine ⟨rfl, bd_frz ?_⟩
    refine bd_par2V 2 3 (av_cons (EV.imp (hux _ _ _ _ _ rfl) fun x M1 hx => ?_))
    obtain ⟨b, hb, rfl, rfl⟩ := hx
    refine av_cons (EV.imp ev_newL fun y M2 hy => av_nil ?_)
    obtain ⟨f, hf, rfl, rfl⟩ := hy
    refine ⟨_, _, rfl, ?_⟩
    have hba : b ≠ a := fun z => by
      obtain ⟨x, y, _, e⟩ := hw
      rw [z, e] at hb
      cases hb
    have hfb : f ≠ b := fun z => by
      rw [z, upd_same] at hf
      cases hf
    rw [upd_ne hfb] at hf
    have hfa : f ≠ a := fun z => by
      obtain ⟨x, y, _, e⟩ := hw
      rw [z, e] at hf
      cases hf
    refine bd_for (js := [4]) (ds := (List.range ds.length).map fun i : Nat => Sl.dat (.int (i : Int))) (src_r (hul _ _ _ _ _ rfl) (by omega))
      (fun i ρ' M' => ∃ M0 bag es o, M' = upd (upd M0 b (mL bag)) f (mL es) ∧ Wl a M M0 ∧ (es ++ bag).Perm ds ∧ es.length = i ∧ ρ' = [some (.raw (.ref a)), some u, some (.raw (.ref b)), some (.raw (.ref f)), o]) ⟨M, ds, [], none, rfl, hw.self, by simp, rfl, rfl⟩ (fun i dd ρ' M' hdd hJ => ?_) (fun ρ' M' hJ => ?_)
    · obtain ⟨M0, bag, es, o, rfl, hM, hp, hl, rfl⟩ := hJ
      have hi : i < ds.length := by
        have := (List.getElem?_eq_some_iff.mp hdd).1
        simpa using this
      have hbl : bag.length = ds.length - i := by
        have := hp.length_eq
        rw [List.length_append] at this
        omega
      refine ⟨_, tg_name 4, ?_⟩
      have hmb : ∀ {M1 : Hp}, Wl a (upd (upd M0 b (mL bag)) f (mL es)) M1 → ∃ M3, M1 = upd (upd M3 b (mL bag)) f (mL es) ∧ Wl a M M3 := by
        rintro M1 ⟨x, y, w, rfl⟩
        refine ⟨upd M0 a (wellO x y), ?_, hM.trans ⟨x, y, w, rfl⟩⟩
        rw [upd_comm' hfa, upd_comm' hba]
      refine bd_cons (sd_expr (ev_append (q := f) (em_var 3) upd_same (ev_popAt (q := b) (em_var 2) (by rw [upd_ne hfb.symm, upd_same]) (ev_call (fn_dip F) (am_two (em_var 0) (em_lenM (ds := bag) (em_var 2) (by rw [upd_ne hfb.symm, upd_same]))) ⟨a, bag.length, rfl, by omega, by omega, ?_, fun d hd M1 hM1 => ?_⟩))))
      · obtain ⟨x, y, w, e⟩ := hM.at_
        exact ⟨x, y, w, by rw [upd_ne hfa.symm, upd_ne hba.symm, e]⟩
      · obtain ⟨M3, rfl, hM3⟩ := hmb hM1
        have hmem : bag[d]'hd ∈ ds := hp.mem_iff.mp (List.mem_append_right _ (List.getElem_mem hd))
        have hfd : flatD (bag[d]'hd) = true := hfl _ hmem
        refine ⟨d, bag[d]'hd, bag, rfl, by rw [upd_ne hfb.symm, upd_same], List.getElem?_eq_getElem hd, hfd, by omega, ?_⟩
        refine ⟨bag[d]'hd, es, rfl, hfd, by rw [upd_ne hfb, upd_same], by omega, ?_⟩
        refine bd_nil ⟨M3, bag.eraseIdx d, es ++ [bag[d]'hd], _, ?_, hM3, (perm_move (List.getElem?_eq_getElem hd)).trans hp, by rw [List.length_append, hl]; rfl, rfl⟩
        rw [upd_comm' hfb, upd_upd, upd_upd]
    · obtain ⟨M0, bag, es, o, rfl, hM, hp, hl, rfl⟩ := hJ
      rw [List.length_map, List.length_range] at hl
      have hbl : bag = [] := by
        have := hp.length_eq
        rw [List.length_append] at this
        exact List.length_eq_zero_iff.mp (by omega)
      subst hbl
      rw [List.append_nil] at hp
      refine bd_ret (EM.to (em_frzL (q := f) (ds := es) (em_var 3) upd_same (flats_perm hp hfl)) ?_)
      have hf0 : M0 f = none := hM.none hw hf
      have hb0 : M0 b = none := hM.none hw hb
      refine ⟨M0, ?_, hR es hp M0 hM⟩
      rw [delM_upd (by rw [upd_ne hfb]; exact hf0)]
      exact same_upd hb0
end
end Wr
end
section
set_option maxRecDepth 100000
set_option maxHeartbeats 1000000
/-! The law's draws: the net. -/
namespace Wr
open PySem L2
section
variable {g : Gm}
/-- a whole web: each place is tied to one before it -/
structure NetOk (pl : List Nat) (ts : List (Nat × Nat)) : Prop where
  ok : WOk pl ts
  tied : ∀ k, 1 ≤ k → k < pl.length → ∃ j, j < k ∧ (plAt pl j, plAt pl k) ∈ ts
abbrev abc : List Nat := [97, 98, 99, 100, 101, 102, 103, 104]
def T_net : Spec := fun xs M R => ∃ (a : Addr) (n : Nat), xs = [.raw (.ref a), .dat (.int n), .dat (.int 3)] ∧ 1 ≤ n ∧ n ≤ 4 ∧ WellIn M a ∧ ∀ pl ts, pl.length = n → NetOk pl ts → ∀ M', Wl a M M' → R (.dat (.tuple [S pl, joinsD ts])) M'
theorem sc_net : FnScope ["_law_well_here", "_law_many", "_law_more", "_law_signs", "_law_found", "_law_k", "_law_turn"] ["_law_well_here", "_law_many", "_law_more"] (defScope (topS 63)) := ⟨rfl, rfl, rfl, by decide +kernel, rfl, by decide +kernel, by decide +kernel⟩
abbrev tieD (ts : List (Nat × Nat)) : List PyData := ts.map fun q => S (tS q)
theorem flats_ties (ts : List (Nat × Nat)) : Flats (tieD ts) := flats_map (fun _ => rfl) ts
/-- the ties drawn so far -/
structure NetPart (pl : List Nat) (ts : List (Nat × Nat)) (m : Nat) : Prop where
  ends : ∀ q ∈ ts, ∃ j k, j < k ∧ k < pl.length ∧ q = (plAt pl j, plAt pl k)
  tied : ∀ k, 1 ≤ k → k < m → ∃ j, j < k ∧ (plAt pl j, plAt pl k) ∈ ts
theorem plAt_mem {pl : List Nat} {k : Nat} (h : k < pl.length) : plAt pl k ∈ pl := by
  unfold plAt
  rw [List.getD_eq_getElem?_getD, List.getElem?_eq_getElem h]
  exact List.getElem_mem h
theorem plAt_lt {pl : List Nat} (h : pl.Pairwise (· < ·)) {j k : Nat} (hjk : j < k) (hk : k < pl.length) : plAt pl j < plAt pl k := by
  unfold plAt
  rw [List.getD_eq_getElem?_getD, List.getElem?_eq_getElem (by omega : j < pl.length), List.getD_eq_getElem?_getD, List.getElem?_eq_getElem hk]
  exact List.pairwise_iff_getElem.mp h j k (by omega) hk hjk
theorem NetPart.add {pl : List Nat} {ts : List (Nat × Nat)} {m : Nat} (h : NetPart pl ts m) {j k : Nat} (hjk : j < k) (hk : k < pl.length) : NetPart pl (ts ++ [(plAt pl j, plAt pl k)]) m :=
  ⟨fun q hq => by
    rcases List.mem_append.mp hq with z | z
    · exact h.ends q z
    · exact ⟨j, k, hjk, hk, List.mem_singleton.mp z⟩, fun k' h1 h2 => by
    obtain ⟨j', h3, h4⟩ := h.tied k' h1 h2
    exact ⟨j', h3, List.mem_append_left _ h4⟩⟩
theorem NetPart.step {pl : List Nat} {ts : List (Nat × Nat)} {m : Nat} (h : NetPart pl ts m) {j : Nat} (hj : j < m) (hk : m < pl.length) : NetPart pl (ts ++ [(plAt pl j, plAt pl m)]) (m + 1) :=
  ⟨(h.add hj hk).ends, fun k' h1 h2 => by
    by_cases e : k' = m
    · subst e
      exact ⟨j, hj, List.mem_append_right _ (List.mem_singleton.mpr rfl)⟩
    · exact (h.add hj hk).tied k' h1 (by omega)⟩
theorem NetPart.whole {pl : List Nat} {ts ts' : List (Nat × Nat)} (h : NetPart pl ts pl.length) (hp : ts'.Perm ts) (ha : pl.Pairwise (· < ·)) (h1 : 1 ≤ pl.length) (h4 : pl.length ≤ 4) (hl : ∀ c ∈ pl, c ∈ abc) (h6 : ts.length ≤ 6) : NetOk pl ts' :=
  ⟨⟨ha, h1, h4, fun c hc => by
    have := hl c hc
    simp only [List.mem_cons, List.not_mem_nil, or_false] at this
    omega, by rw [hp.length_eq]; exact h6, fun q hq => by
    obtain ⟨j, k, hjk, hk, rfl⟩ := h.ends q (hp.mem_iff.mp hq)
    exact ⟨plAt_mem (by omega), plAt_mem hk, plAt_lt ha hjk hk⟩⟩, fun k q1 q2 => by
    obtain ⟨j, h3, h4⟩ := h.tied k q1 q2
    exact ⟨j, h3, hp.mem_iff.mpr h4⟩⟩
theorem abc_nodup : abc.Nodup := by decide
theorem sum_ones (m : List Nat) : ((m.map fun c => [c]).map List.length).sum = m.length := by
  induction m with
  | nil => rfl
  | cons x m ih => rw [List.map_cons, List.map_cons, List.sum_cons, ih, List.length_cons]; simp; omega
/-- the well's turn with one list of mine beside it -/
theorem wl_beside {M M0 M1 : Hp} {a f : Addr} {v : HO} (hfa : f ≠ a) (hM : Wl a M M0) (h : Wl a (upd M0 f v) M1) : ∃ M3, M1 = upd M3 f v ∧ Wl a M M3 := by
  obtain ⟨x, y, w, rfl⟩ := h
  exact ⟨upd M0 a (wellO x y), by rw [upd_comm' hfa], hM.trans ⟨x, y, w, rfl⟩⟩
theorem wl_in {M M0 : Hp} {a f : Addr} {v : HO} (hfa : f ≠ a) (hM : Wl a M M0) : WellIn (upd M0 f v) a := by
  obtain ⟨x, y, w, e⟩ := hM.at_
  exact ⟨x, y, w, by rw [upd_ne hfa.symm, e]⟩
theorem well_ne {M : Hp} {a f : Addr} (hw : WellIn M a) (hf : M f = none) : f ≠ a := fun z => by
  obtain ⟨x, y, _, e⟩ := hw
  rw [z, e] at hf
  cases hf
theorem fn_net (F : Fs g) : Fn g "_law_net" 3 T_net :=
  fn_ok F.law_net sc_net (fun _ _ _ _ _ _ us hl => match us, hl with | [_, _, _], _ => rfl) fun xs M R h => by
    obtain ⟨a, n, rfl, hn1, hn4, hw, hR⟩ := h
    refine ⟨rfl, ?_⟩
    refine bd_par2V 3 4 (av_cons (EV.imp (R := fun x M1 => ∃ pl, x = .dat (S pl) ∧ pl.length = n ∧ pl.Pairwise (· < ·) ∧ (∀ c ∈ pl, c ∈ abc) ∧ Wl a M M1) (ev_joinE (em_txt []) (ev_sortLSE (ev_slLE (i := none) (j := some (n : Int)) (ev_call (fn_mixed F) (am_two (em_var 0) (em_txt abc)) ⟨a, abc.map fun c => S [c], .inr ⟨abc, rfl, rfl⟩, by decide, hw, fun es hp M1 hM1 => ?_⟩)))) fun x M1 hx => ?_))
    · obtain ⟨l, h1, rfl⟩ := perm_map_of hp abc rfl
      refine ⟨_, rfl, om_none, om_some (em_var 1), ?_⟩
      rw [cut_take, ← List.map_take]
      have hnd : (l.take n).Nodup := (h1.nodup_iff.mpr abc_nodup).sublist (List.take_sublist n l)
      obtain ⟨m, k1, k2, k3⟩ := srtS_ones hnd
      refine ⟨(l.take n).map fun c => [c], by rw [List.map_map]; rfl, (srtS ((l.take n).map fun c => [c])), rfl, ?_⟩
      rw [k3]
      have hl : m.length = n := by
        rw [k1.length_eq, List.length_take, h1.length_eq]
        show min n 8 = n
        omega
      refine ⟨by rw [sum_ones]; omega, ?_⟩
      rw [flat_ones]
      exact ⟨m, rfl, hl, k2, fun c hc => h1.mem_iff.mp (List.mem_of_mem_take (k1.mem_iff.mp hc)), hM1⟩
    · obtain ⟨pl, rfl, hl, hasc, habc, hM1⟩ := hx
      refine av_cons (EV.imp ev_newL fun y M2 hy => av_nil ?_)
      obtain ⟨f, hf, rfl, rfl⟩ := hy
      refine ⟨_, _, rfl, ?_⟩
      have hfa : f ≠ a := well_ne hM1.at_ hf
      have hfM : M f = none := by rw [← hM1.ne hfa]; exact hf
      refine bd_for (js := [5]) (ds := (List.range (n - 1)).map fun i : Nat => Sl.dat (.int (1 + i))) (src_r2 em_int (em_var 1) (by omega))
        (fun i ρ' M' => ∃ M0 ts o, M' = upd M0 f (mL (tieD ts)) ∧ Wl a M M0 ∧ NetPart pl ts (1 + i) ∧ ts.length = i ∧ ρ' = [some (.raw (.ref a)), some (.dat (.int n)), some (.dat (.int 3)), some (.dat (S pl)), some (.raw (.ref f)), o, none]) ⟨M1, [], none, rfl, hM1, ⟨(fun q hq => nomatch hq), fun k h1 h2 => by omega⟩, rfl, rfl⟩ (fun i dd ρ' M' hdd hJ => ?_) (fun ρ' M' hJ => ?_)
      · obtain ⟨M0, ts, o, rfl, hM, hP, hlt, rfl⟩ := hJ
        rw [List.getElem?_map] at hdd
        cases eq : (List.range (n - 1))[i]? with
        | none => rw [eq] at hdd; cases hdd
        | some j0 =>
          rw [eq] at hdd
          have hdd' := Option.some.inj hdd
          subst hdd'
          have hi : i < n - 1 := by simpa using (List.getElem?_eq_some_iff.mp eq).1
          have hj0 : j0 = i := by
            rw [List.getElem?_range hi] at eq
            exact (Option.some.inj eq).symm
          subst hj0
          refine ⟨_, tg_name 5, ?_⟩
          refine bd_cons (sd_expr (ev_append (q := f) (em_var 4) upd_same (ev_addSE (ev_ixSE (em_var 3) (ev_call (fn_dip F) (am_two (em_var 0) (em_var 5)) ⟨a, 1 + j0, by push_cast; rfl, by omega, by omega, wl_in hfa hM, fun d hd M2 hM2 => ?_⟩) (by omega)))))
          obtain ⟨M3, rfl, hM3⟩ := wl_beside hfa hM hM2
          refine ⟨d, plAt pl d, rfl, pl_ix (by omega), [plAt pl d], rfl, EM.to (em_ixS (d := plAt pl (1 + j0)) (em_var 3) (em_var 5) (by have := pl_ix (pl := pl) (k := 1 + j0) (by omega); push_cast at this; exact this) (by omega)) ⟨[plAt pl (1 + j0)], rfl, show 1 + 1 ≤ 100000 by decide, ?_⟩⟩
          refine ⟨_, tieD ts, rfl, rfl, upd_same, by rw [List.length_map]; omega, ?_⟩
          refine bd_nil ⟨M3, ts ++ [(plAt pl d, plAt pl (1 + j0))], _, ?_, hM3, hP.step (by omega) (by omega), by rw [List.length_append, hlt]; rfl, rfl⟩
          rw [upd_upd]
          unfold tieD
          rw [List.map_append]
          rfl
      · obtain ⟨M0, ts, o, rfl, hM, hP, hlt, rfl⟩ := hJ
        rw [List.length_map, List.length_range] at hlt hP
        have hP : NetPart pl ts pl.length := by
          have e : 1 + (n - 1) = pl.length := by omega
          rw [← e]
          exact hP
        -- more ties
        refine bd_cons (sd_forV (P := fun ds M' => ∃ (M3 : Hp) (t : Nat), t ≤ 3 ∧ (n = 1 → t = 0) ∧ ds = (List.range t).map (fun i : Nat => Sl.dat (.int i)) ∧ M' = upd M3 f (mL (tieD ts)) ∧ Wl a M M3) (src_rV (ev_if (tm_gt (em_var 1) em_int) (fun h1 => ?_) (fun h1 => ?_))) fun ds M' hP2 => ?_)
        · have h1' : (1 : Int) < n := of_decide_eq_true h1
          refine ev_call (fn_dip F) (am_two (em_var 0) (em_add (em_var 2) em_int)) ⟨a, 4, rfl, by omega, by omega, wl_in hfa hM, fun d hd M2 hM2 => ?_⟩
          obtain ⟨M3, rfl, hM3⟩ := wl_beside hfa hM hM2
          exact ⟨d, rfl, by omega, M3, d, by omega, fun e => by omega, rfl, rfl, hM3⟩
        · have h1' : ¬ (1 : Int) < n := of_decide_eq_false h1
          exact EM.to em_int ⟨0, rfl, by omega, M0, 0, by omega, fun _ => rfl, rfl, rfl, hM⟩
        · obtain ⟨M3, t, ht, ht1, rfl, rfl, hM3⟩ := hP2
          refine ⟨[6], fun i ρ' M' => ∃ M0 ts o o2, M' = upd M0 f (mL (tieD ts)) ∧ Wl a M M0 ∧ NetPart pl ts pl.length ∧ ts.length = n - 1 + i ∧ ρ' = [some (.raw (.ref a)), some (.dat (.int n)), some (.dat (.int 3)), some (.dat (S pl)), some (.raw (.ref f)), o, o2], ⟨M3, ts, _, _, rfl, hM3, hP, hlt, rfl⟩, fun i dd ρ' M' hdd hJ => ?_, fun ρ' M' hJ => ?_⟩
          · obtain ⟨M0, ts, o, o2, rfl, hM, hP, hlt, rfl⟩ := hJ
            have hi : i < t := by
              have := (List.getElem?_eq_some_iff.mp hdd).1
              simpa using this
            have hn2 : 2 ≤ n := by
              rcases Nat.lt_or_ge n 2 with q | q
              · have := ht1 (by omega); omega
              · exact q
            refine ⟨_, tg_name 6, ?_⟩
            refine bd_setE 5 (R := fun x M1 => ∃ (kk : Nat) (M3 : Hp), x = .dat (.int kk) ∧ 1 ≤ kk ∧ kk < n ∧ M1 = upd M3 f (mL (tieD ts)) ∧ Wl a M M3) (ev_addE (EM.to em_int ⟨1, rfl, ev_call (fn_dip F) (am_two (em_var 0) (em_sub (em_var 1) em_int)) ⟨a, n - 1, by rw [show ((n : Int) - 1) = ((n - 1 : Nat) : Int) by omega], by omega, by omega, wl_in hfa hM, fun d hd M2 hM2 => ?_⟩⟩)) (fun x M1 hx => ?_)
            · obtain ⟨M3, rfl, hM3⟩ := wl_beside hfa hM hM2
              exact ⟨d, rfl, 1 + d, M3, by push_cast; rfl, by omega, by omega, rfl, hM3⟩
            · obtain ⟨kk, M4, rfl, hk1, hk2, rfl, hM4⟩ := hx
              refine bd_cons (sd_expr (ev_append (q := f) (em_var 4) upd_same (ev_addSE (ev_ixSE (em_var 3) (ev_call (fn_dip F) (am_two (em_var 0) (em_var 5)) ⟨a, kk, rfl, by omega, by omega, wl_in hfa hM4, fun d hd M2 hM2 => ?_⟩) (by omega)))))
              obtain ⟨M5, rfl, hM5⟩ := wl_beside hfa hM4 hM2
              refine ⟨d, plAt pl d, rfl, pl_ix (by omega), [plAt pl d], rfl, EM.to (em_ixS (d := plAt pl kk) (em_var 3) (em_var 5) (pl_ix (by omega)) (by omega)) ⟨[plAt pl kk], rfl, show 1 + 1 ≤ 100000 by decide, ?_⟩⟩
              refine ⟨_, tieD ts, rfl, rfl, upd_same, by rw [List.length_map]; omega, ?_⟩
              refine bd_nil ⟨M5, ts ++ [(plAt pl d, plAt pl kk)], _, _, ?_, hM5, hP.add (by omega) (by omega), by rw [List.length_append, hlt]; simp; omega, rfl⟩
              rw [upd_upd]
              unfold tieD
              rw [List.map_append]
              rfl
          · obtain ⟨M0, ts, o, o2, rfl, hM, hP, hlt, rfl⟩ := hJ
            rw [List.length_map, List.length_range] at hlt
            have hf0 : M0 f = none := hM.none hw hfM
            refine bd_ret (ev_tupV (av_cons (EM.to (em_var 3) (av_cons (ev_call (fn_mixed F) (am_two (em_var 0) (em_frzL (q := f) (ds := tieD ts) (em_var 4) upd_same (flats_ties ts))) ⟨a, tieD ts, .inl ⟨rfl, flats_ties ts⟩, by rw [List.length_map]; omega, by rw [delM_upd hf0]; exact hM.at_, fun es hp M2 hM2 => av_nil ?_⟩)))))
            rw [delM_upd hf0] at hM2
            obtain ⟨ts', h1, rfl⟩ := perm_map_of hp ts rfl
            exact ⟨[S pl, joinsD ts'], rfl, show 2 ≤ 1000 by decide, hR pl ts' hl (hP.whole h1 hasc (by omega) (by omega) habc (by omega)) M2 (hM.trans hM2)⟩
/-! ### well -/
def T_well : Spec := fun xs M R => ∃ (ns : List Int) (k : Nat), xs = [.dat (.list (ns.map .int)), .dat (.int k)] ∧ k ≤ 3 ∧ ns.length ≤ 100000 ∧ ∀ p x y, M p = none → WellOk x y → R (.raw (.ref p)) (upd M p (wellO x y))
theorem sc_well : FnScope ["_law_script", "_law_k", "_law_cell", "_law_stirred", "_law_each"] ["_law_script", "_law_k"] (defScope (topS 59)) := ⟨rfl, rfl, rfl, by decide +kernel, rfl, by decide +kernel, by decide +kernel⟩
theorem fn_well (F : Fs g) : Fn g "_law_well" 1 T_well :=
  fn_ok F.law_well sc_well (fun _ _ _ _ _ _ us hl => match us, hl with | [_, _], _ => rfl) fun xs M R h => by
    obtain ⟨ns, k, rfl, hk, hz, hR⟩ := h
    refine ⟨rfl, ?_⟩
    refine bd_set 2 (x := .dat (.int (if k < ns.length then piAt ns k else 8101 * k + 2971))) (EM.is (em_if (t := decide (k < ns.length)) (TM.is (tm_lt (em_var 1) (em_lenL (em_var 0))) (by rw [List.length_map]; exact nat_ltI)) (fun e => em_ixL (em_var 0) (em_var 1) (pi_ix (of_decide_eq_true e))) (fun _ => em_add (em_mul (.inl ⟨by decide, by decide⟩) em_int (em_var 1)) em_int)) (by
      by_cases e : k < ns.length <;> simp [e])) ?_
    generalize (if k < ns.length then piAt ns k else 8101 * (k : Int) + 2971) = cell
    refine bd_set 3 (x := .dat (.int (60013 + 7001 * k))) (em_add em_int (em_mul (.inl ⟨by decide, by decide⟩) em_int (em_var 1))) ?_
    refine bd_for (js := [4]) (ds := (ns.take 6 ++ [cell]).map fun i => Sl.dat (.int i)) (src_lT (EM.is (em_cat (em_slL (i := none) (j := some 6) (em_var 0) om_none (om_some em_int)) (em_lst [.int cell] (am_one (em_var 2)) (show 1 ≤ 1000 by decide)) (by
        rw [show (6 : Int) = ((6 : Nat) : Int) from rfl, cut_take, List.length_take, List.length_map]
        show min 6 ns.length + 1 ≤ 100000
        omega)) (by
        rw [show (6 : Int) = ((6 : Nat) : Int) from rfl, cut_take, List.map_append, ← List.map_take]
        rfl)))
      (fun i ρ' M' => M' = M ∧ ∃ st o, 0 ≤ st ∧ st < 2147483563 ∧ ρ' = [some (.dat (.list (ns.map .int))), some (.dat (.int k)), some (.dat (.int cell)), some (.dat (.int st)), o]) ⟨rfl, _, none, by omega, by omega, rfl⟩ (fun i dd ρ' M' hdd hJ => ?_) (fun ρ' M' hJ => ?_)
    · obtain ⟨rfl, st, o, h0, h1, rfl⟩ := hJ
      rw [List.getElem?_map] at hdd
      cases eq : (ns.take 6 ++ [cell])[i]? with
      | none => rw [eq] at hdd; cases hdd
      | some each =>
        rw [eq] at hdd
        have hdd' := Option.some.inj hdd
        subst hdd'
        refine ⟨_, tg_name 4, ?_⟩
        refine bd_set 3 (em_mod (by decide) (em_intI (em_add (em_add (em_mul (i := st) (.inl ⟨by omega, by omega⟩) (em_var 3) em_int) (em_mod (by decide) (em_intI (em_var 4)) em_int)) em_int)) em_int) ?_
        exact bd_nil ⟨rfl, _, _, Int.emod_nonneg _ (by decide), Int.emod_lt_of_pos _ (by decide), rfl⟩
    · obtain ⟨rfl, st, o, h0, h1, rfl⟩ := hJ
      refine bd_ret (EV.imp (ev_newLst (ds := [.int (if decide (cell < 0) || decide (10 ^ 18 ≤ cell) then (if cell < 0 then -cell else cell) else 0), .int st]) (am_two (EM.is (em_if (t := decide (cell < 0) || decide (10 ^ 18 ≤ cell)) (tm_or (tm_lt (em_var 2) em_int) fun _ => tm_ge (em_var 2) (em_pow (i := 10) (j := 18) ⟨by decide, by decide, by decide⟩ em_int em_int)) (fun _ => em_abs (em_var 2)) (fun _ => em_int)) (by rw [if_int])) (em_var 3)) flats2 (show 2 ≤ 1000 by decide)) fun x M1 hx => ?_)
      obtain ⟨p, hp, rfl, rfl⟩ := hx
      refine hR p _ _ hp ⟨?_, h0, h1⟩
      split
      · split <;> omega
      · omega
end
end Wr
end
section
set_option maxRecDepth 100000
set_option maxHeartbeats 1000000
/-! Plain law: the fire and what bars it. -/
namespace Wr
theorem opens_iff {ts : List (Nat × Nat)} {seen used : List Nat} {i : Nat} : i ∈ opens ts seen used ↔ i < ts.length ∧ i ∉ used ∧ crosses (tieAt ts i) seen = true := by
  refine ⟨mem_opens, fun ⟨h1, h2, h3⟩ => ?_⟩
  unfold opens
  refine List.mem_map.mpr ⟨(tieAt ts i, i), List.mem_filter.mpr ⟨?_, ?_⟩, rfl⟩
  · unfold numbered
    refine List.mem_of_getElem? (i := i) ?_
    rw [List.getElem?_zipIdx, tieAt_get h1]
    simp
  · simp [h2, h3]
theorem opens_asc (ts : List (Nat × Nat)) (seen used : List Nat) : (opens ts seen used).Pairwise (· < ·) := by
  unfold opens
  rw [List.pairwise_map]
  refine List.Pairwise.filter _ ?_
  rw [List.pairwise_iff_getElem]
  intro i j hi hj hij
  have h1 := (numb_at (List.getElem?_eq_getElem hi)).1
  have h2 := (numb_at (List.getElem?_eq_getElem hj)).1
  omega
/-- the picked tie is the last one open -/
theorem last_max {ts : List (Nat × Nat)} {seen used : List Nat} {i j : Nat} (h : (opens ts seen used).getLast? = some i) (hj : j ∈ opens ts seen used) : j ≤ i := by
  obtain ⟨l, e⟩ := List.getLast?_eq_some_iff.mp h
  have := opens_asc ts seen used
  rw [e, List.pairwise_append] at this
  rw [e] at hj
  rcases List.mem_append.mp hj with q | q
  · exact Nat.le_of_lt (this.2.2 j q i (by simp))
  · rw [List.mem_singleton.mp q]
    exact Nat.le_refl i
theorem crosses_iff {q : Nat × Nat} {s : List Nat} : crosses q s = true ↔ ((q.1 ∈ s ∧ q.2 ∉ s) ∨ (q.1 ∉ s ∧ q.2 ∈ s)) := by
  unfold crosses
  by_cases h1 : q.1 ∈ s <;> by_cases h2 : q.2 ∈ s <;> simp [h1, h2]
theorem mem_tS {q : Nat × Nat} {v : Nat} : v ∈ tS q ↔ v = q.1 ∨ v = q.2 := by
  unfold tS
  simp
/-- ties at v among those of the list -/
def atN (ts : List (Nat × Nat)) (l : List Nat) (v : Nat) : Nat := (l.filter fun i => decide (v ∈ tS (tieAt ts i))).length
/-- ties at v that leave U -/
def outN (ts : List (Nat × Nat)) (U : List Nat) (v : Nat) : Nat := ((List.range ts.length).filter fun i => decide (v ∈ tS (tieAt ts i)) && crosses (tieAt ts i) U).length
theorem range_ties (ts : List (Nat × Nat)) : (List.range ts.length).map (tieAt ts) = ts := by
  apply List.ext_getElem?
  intro i
  rw [List.getElem?_map]
  by_cases hi : i < ts.length
  · rw [List.getElem?_range hi, tieAt_get hi]
    rfl
  · rw [List.getElem?_eq_none (by simpa using hi), List.getElem?_eq_none (by simpa using hi)]
    rfl
theorem atN_all (ts : List (Nat × Nat)) (v : Nat) : atN ts (List.range ts.length) v = tiesAt ts v := by
  have h : ((List.range ts.length).map (tieAt ts)).filter (fun q => decide (v ∈ tS q)) = ((List.range ts.length).filter fun i => decide (v ∈ tS (tieAt ts i))).map (tieAt ts) := by rw [List.filter_map]; rfl
  rw [range_ties] at h
  unfold tiesAt
  rw [h, List.length_map]
  rfl
theorem sub_len {l m : List Nat} (h : l.Nodup) (s : ∀ x ∈ l, x ∈ m) : l.length ≤ m.length := List.Nodup.length_le_of_subset h s
/-- what holds of fire and light alike -/
structure RI (ts : List (Nat × Nat)) (seen used : List Nat) (hits : Nat → Int) : Prop where
  nd : used.Nodup
  lt : ∀ i ∈ used, i < ts.length
  one : ∀ i ∈ used, ∃ v, v ∈ tS (tieAt ts i) ∧ v ∈ seen
  hit : ∀ v, v ∉ seen → hits v = (atN ts used v : Int)
theorem atN_snoc (ts : List (Nat × Nat)) (l : List Nat) (i v : Nat) : atN ts (l ++ [i]) v = atN ts l v + if v ∈ tS (tieAt ts i) then 1 else 0 := by
  unfold atN
  rw [List.filter_append, List.length_append]
  congr 1
  by_cases h : v ∈ tS (tieAt ts i) <;> simp [h]
theorem far_at {ts : List (Nat × Nat)} {seen : List Nat} {i : Nat} (h : crosses (tieAt ts i) seen = true) {v : Nat} (hv : v ∉ seen) : v ∈ tS (tieAt ts i) ↔ v = farEnd ts seen i := by
  obtain ⟨h1, h2⟩ := far_new h
  rw [mem_tS]
  constructor
  · intro q
    rcases h2 v q with z | z
    · exact absurd z hv
    · exact z
  · intro q
    subst q
    unfold farEnd
    split
    · exact .inr rfl
    · exact .inl rfl
theorem near_in {ts : List (Nat × Nat)} {seen : List Nat} {i : Nat} (h : crosses (tieAt ts i) seen = true) : ∃ v, v ∈ tS (tieAt ts i) ∧ v ∈ seen := by
  rcases crosses_iff.mp h with ⟨a, _⟩ | ⟨_, a⟩
  · exact ⟨_, mem_tS.mpr (.inl rfl), a⟩
  · exact ⟨_, mem_tS.mpr (.inr rfl), a⟩
theorem RI.next {ts : List (Nat × Nat)} {seen used : List Nat} {hits : Nat → Int} (h : RI ts seen used hits) {i : Nat} (hi : i ∈ opens ts seen used) {seen' : List Nat} {hits' : Nat → Int} (hs : ∀ v ∈ seen, v ∈ seen') (hh : ∀ v, v ∉ seen' → hits' v = if v = farEnd ts seen i then hits v + 1 else hits v) : RI ts seen' (used ++ [i]) hits' := by
  obtain ⟨h1, h2, h3⟩ := opens_iff.mp hi
  refine ⟨List.nodup_append.mpr ⟨h.nd, List.pairwise_singleton _ _, fun x hx y hy => by rw [List.mem_singleton.mp hy]; exact fun z => h2 (z ▸ hx)⟩, fun x hx => ?_, fun x hx => ?_, fun v hv => ?_⟩
  · rcases List.mem_append.mp hx with q | q
    · exact h.lt x q
    · rw [List.mem_singleton.mp q]; exact h1
  · rcases List.mem_append.mp hx with q | q
    · obtain ⟨v, a, b⟩ := h.one x q
      exact ⟨v, a, hs v b⟩
    · rw [List.mem_singleton.mp q]
      obtain ⟨v, a, b⟩ := near_in h3
      exact ⟨v, a, hs v b⟩
  · have hv0 : v ∉ seen := fun z => hv (hs v z)
    rw [hh v hv, atN_snoc, h.hit v hv0]
    by_cases e : v = farEnd ts seen i
    · rw [if_pos e, if_pos ((far_at h3 hv0).mpr e)]
      rfl
    · rw [if_neg e, if_neg fun z => e ((far_at h3 hv0).mp z)]
      rfl
end Wr
end
section
set_option maxRecDepth 100000
set_option maxHeartbeats 1000000
/-! Plain law: burnt burns all iff nothing bars. -/
namespace Wr
theorem burn_used (pl : List Nat) (ts : List (Nat × Nat)) (h : List Int) (s : BS) (i : Nat) : (burnStep pl ts h s i).used = s.used ++ [i] := by
  unfold burnStep
  simp only
  split <;> rfl
theorem burn_run {pl : List Nat} {ts : List (Nat × Nat)} {h : List Int} (P : BS → Prop) (hu : ∀ s, P s → s.used.Nodup ∧ ∀ i ∈ s.used, i < ts.length) (hs : ∀ s i, P s → (opens ts s.seen s.used).getLast? = some i → P (burnStep pl ts h s i)) :
    ∀ (n : Nat) (s : BS), P s → ts.length + 1 ≤ n + s.used.length → P (burnGo pl ts h n s) ∧ opens ts (burnGo pl ts h n s).seen (burnGo pl ts h n s).used = []
  | 0, s, hp, hn => by
    have := nodup_bound (hu s hp).1 (hu s hp).2
    omega
  | n + 1, s, hp, hn => by
    cases e : (opens ts s.seen s.used).getLast? with
    | none =>
      have e2 : burnGo pl ts h (n + 1) s = s := by
        show (match (opens ts s.seen s.used).getLast? with
          | none => s
          | some i => burnGo pl ts h n (burnStep pl ts h s i)) = s
        rw [e]
      rw [e2]
      exact ⟨hp, List.getLast?_eq_none_iff.mp e⟩
    | some i =>
      rw [burnGo_some e]
      exact burn_run P hu hs n _ (hs s i hp e) (by rw [burn_used, List.length_append, List.length_singleton]; omega)
structure RB (pl : List Nat) (ts : List (Nat × Nat)) (h : List Int) (b : Nat) (s : BS) : Prop where
  ri : RI ts s.seen s.used s.hits
  nd : s.seen.Nodup
  sub : ∀ c ∈ s.seen, c ∈ pl
  bank : b ∈ s.seen
  cold : ∀ v ∈ pl, v ∉ s.seen → s.hits v ≤ hAt pl h v
  fsub : ∀ i ∈ s.fuses, i ∈ s.used
  fnd : s.fuses.Nodup
  fl : s.seen.length = 1 + s.fuses.length
  both : ∀ i ∈ s.fuses, (tieAt ts i).1 ∈ s.seen ∧ (tieAt ts i).2 ∈ s.seen
theorem nd_snoc {α : Type} {l : List α} {x : α} (h : l.Nodup) (n : x ∉ l) : (l ++ [x]).Nodup := List.nodup_append.mpr ⟨h, List.pairwise_singleton _ _, fun y hy z hz => by rw [List.mem_singleton.mp hz]; exact fun e => n (e ▸ hy)⟩
theorem RB.next {pl : List Nat} {ts : List (Nat × Nat)} {h : List Int} {b : Nat} (hp : ∀ q ∈ ts, q.1 ∈ pl ∧ q.2 ∈ pl) {s : BS} (r : RB pl ts h b s) {i : Nat} (e : (opens ts s.seen s.used).getLast? = some i) : RB pl ts h b (burnStep pl ts h s i) := by
  have hi := List.mem_of_getLast? e
  obtain ⟨h1, h2, h3⟩ := opens_iff.mp hi
  obtain ⟨hfn, hfe⟩ := far_new h3
  unfold burnStep
  simp only
  split
  · rename_i hlt
    refine ⟨r.ri.next hi (fun v hv => List.mem_append_left _ hv) (fun v hv => ?_), nd_snoc r.nd hfn, fun c hc => ?_, List.mem_append_left _ r.bank, fun v hv hn => ?_, fun j hj => ?_, nd_snoc r.fnd fun z => h2 (r.fsub _ z), by simp [r.fl]; omega, fun j hj => ?_⟩
    · show setF s.hits _ _ v = _
      unfold setF
      split <;> simp_all
    · rcases List.mem_append.mp hc with q | q
      · exact r.sub c q
      · rw [List.mem_singleton.mp q]; exact far_in hp h1
    · have hn1 : v ∉ s.seen := fun z => hn (List.mem_append_left _ z)
      have hn2 : v ≠ farEnd ts s.seen i := fun z => hn (List.mem_append_right _ (by rw [z]; simp))
      show setF s.hits _ _ v ≤ _
      rw [setF, if_neg hn2]
      exact r.cold v hv hn1
    · rcases List.mem_append.mp hj with q | q
      · exact List.mem_append_left _ (r.fsub j q)
      · exact List.mem_append_right _ q
    · rcases List.mem_append.mp hj with q | q
      · obtain ⟨a, b'⟩ := r.both j q
        exact ⟨List.mem_append_left _ a, List.mem_append_left _ b'⟩
      · rw [List.mem_singleton.mp q]
        refine ⟨?_, ?_⟩
        · rcases hfe _ (.inl rfl) with z | z
          · exact List.mem_append_left _ z
          · exact List.mem_append_right _ (by rw [← z]; simp)
        · rcases hfe _ (.inr rfl) with z | z
          · exact List.mem_append_left _ z
          · exact List.mem_append_right _ (by rw [← z]; simp)
  · rename_i hlt
    refine ⟨r.ri.next hi (fun v hv => hv) (fun v hv => ?_), r.nd, r.sub, r.bank, fun v hv hn => ?_, fun j hj => List.mem_append_left _ (r.fsub j hj), r.fnd, r.fl, r.both⟩
    · show setF s.hits _ _ v = _
      unfold setF
      split <;> simp_all
    · show setF s.hits _ _ v ≤ _
      rw [setF]
      split
      · rename_i ev
        rw [ev]
        omega
      · exact r.cold v hv hn
/-- U bars the fire -/
structure Bars (pl : List Nat) (ts : List (Nat × Nat)) (h : List Int) (b : Nat) (U : List Nat) : Prop where
  some : ∃ v ∈ pl, v ∈ U
  bank : b ∉ U
  low : ∀ v ∈ pl, v ∈ U → (outN ts U v : Int) ≤ hAt pl h v
theorem burn_inv {pl : List Nat} {ts : List (Nat × Nat)} {h : List Int} {b : Nat} (hp : ∀ q ∈ ts, q.1 ∈ pl ∧ q.2 ∈ pl) (hb : b ∈ pl) (h0 : ∀ v ∈ pl, v ≠ b → 0 ≤ hAt pl h v) : RB pl ts h b (burnt pl ts h b) ∧ opens ts (burnt pl ts h b).seen (burnt pl ts h b).used = [] := by
  refine burn_run (RB pl ts h b) (fun s r => ⟨r.ri.nd, r.ri.lt⟩) (fun s i r e => r.next hp e) _ _ ⟨⟨List.nodup_nil, (fun i hi => nomatch hi), (fun i hi => nomatch hi), fun v hv => rfl⟩, List.pairwise_singleton _ _, fun c hc => by rw [List.mem_singleton.mp hc]; exact hb, List.mem_singleton.mpr rfl, fun v hv hn => h0 v hv fun z => hn (by rw [z]; simp), (fun i hi => nomatch hi), List.nodup_nil, rfl, (fun i hi => nomatch hi)⟩ (Nat.le_refl _)
theorem all_len {l m : List Nat} (hl : l.Nodup) (hm : m.Nodup) (hs : ∀ x ∈ l, x ∈ m) (e : l.length = m.length) : ∀ x ∈ m, x ∈ l := fun x hx => Classical.byContradiction fun hn => by
  have := sub_len (l := x :: l) (m := m) (List.nodup_cons.mpr ⟨hn, hl⟩) fun y hy => by
    rcases List.mem_cons.mp hy with q | q
    · rw [q]; exact hx
    · exact hs y q
  rw [List.length_cons] at this
  omega
theorem burnt_of_none {pl : List Nat} {ts : List (Nat × Nat)} {h : List Int} {b : Nat} (hp : ∀ q ∈ ts, q.1 ∈ pl ∧ q.2 ∈ pl) (hb : b ∈ pl) (h0 : ∀ v ∈ pl, v ≠ b → 0 ≤ hAt pl h v) (nb : ∀ U, ¬ Bars pl ts h b U) : ∀ v ∈ pl, v ∈ (burnt pl ts h b).seen := by
  obtain ⟨r, ho⟩ := burn_inv (h := h) hp hb h0
  intro v hv
  apply Classical.byContradiction
  intro hn
  refine nb (pl.filter fun c => !decide (c ∈ (burnt pl ts h b).seen)) ⟨⟨v, hv, List.mem_filter.mpr ⟨hv, by simp [hn]⟩⟩, fun z => by simpa [r.bank] using (List.mem_filter.mp z).2, fun w hw hwU => ?_⟩
  have hws : w ∉ (burnt pl ts h b).seen := by simpa using (List.mem_filter.mp hwU).2
  refine Int.le_trans ?_ (r.cold w hw hws)
  rw [r.ri.hit w hws]
  have : outN ts (pl.filter fun c => !decide (c ∈ (burnt pl ts h b).seen)) w ≤ atN ts (burnt pl ts h b).used w := by
    unfold outN atN
    refine sub_len (List.Pairwise.filter _ List.nodup_range) fun i hi => ?_
    obtain ⟨hi1, hi2⟩ := List.mem_filter.mp hi
    have hlt := List.mem_range.mp hi1
    simp only [Bool.and_eq_true, decide_eq_true_eq] at hi2
    refine List.mem_filter.mpr ⟨?_, by simpa using hi2.1⟩
    apply Classical.byContradiction
    intro hnu
    obtain ⟨e1, e2⟩ := hp _ (tieAt_mem hlt)
    have hcr : crosses (tieAt ts i) (burnt pl ts h b).seen = true := by
      have := crosses_iff.mp hi2.2
      simp only [List.mem_filter, e1, e2, true_and, Bool.not_eq_true', decide_eq_false_iff_not] at this
      refine crosses_iff.mpr ?_
      rcases this with ⟨a, c⟩ | ⟨a, c⟩
      · exact .inr ⟨a, Classical.not_not.mp c⟩
      · exact .inl ⟨Classical.not_not.mp a, c⟩
    have : i ∈ opens ts (burnt pl ts h b).seen (burnt pl ts h b).used := opens_iff.mpr ⟨hlt, hnu, hcr⟩
    rw [ho] at this
    cases this
  omega
theorem burnt_bar {pl : List Nat} {ts : List (Nat × Nat)} {h : List Int} {b : Nat} (hp : ∀ q ∈ ts, q.1 ∈ pl ∧ q.2 ∈ pl) (hb : b ∈ pl) (h0 : ∀ v ∈ pl, v ≠ b → 0 ≤ hAt pl h v) {U : List Nat} (hU : Bars pl ts h b U) : ∀ v ∈ pl, v ∈ U → v ∉ (burnt pl ts h b).seen := by
  have := (burn_run (pl := pl) (ts := ts) (h := h) (fun s => RB pl ts h b s ∧ ∀ v ∈ pl, v ∈ U → v ∉ s.seen) (fun s r => ⟨r.1.ri.nd, r.1.ri.lt⟩) (fun s i ⟨r, hn⟩ e => ⟨r.next hp e, ?_⟩) (ts.length + 1) ⟨[b], [], [], fun _ => 0⟩ ⟨⟨⟨List.nodup_nil, (fun i hi => nomatch hi), (fun i hi => nomatch hi), fun v hv => rfl⟩, List.pairwise_singleton _ _, fun c hc => by rw [List.mem_singleton.mp hc]; exact hb, List.mem_singleton.mpr rfl, fun v hv hn => h0 v hv fun z => hn (by rw [z]; simp), (fun i hi => nomatch hi), List.nodup_nil, rfl, (fun i hi => nomatch hi)⟩, fun v hv hvU z => hU.bank (by rw [← List.mem_singleton.mp z]; exact hvU)⟩ (Nat.le_refl _)).1.2
  · exact this
  · have hi := List.mem_of_getLast? e
    obtain ⟨h1, h2, h3⟩ := opens_iff.mp hi
    obtain ⟨hfn, hfe⟩ := far_new h3
    have hfp := far_in (seen := s.seen) hp h1
    intro v hv hvU
    unfold burnStep
    simp only
    split
    · rename_i hlt
      intro hin
      rcases List.mem_append.mp hin with q | q
      · exact hn v hv hvU q
      · have ev := List.mem_singleton.mp q
        rw [← ev] at hlt hfn hfp
        have h4 := hU.low v hv hvU
        rw [r.ri.hit v hfn] at hlt
        have h5 : atN ts (s.used ++ [i]) v ≤ outN ts U v := by
          have nd2 : (s.used ++ [i]).Nodup := nd_snoc r.ri.nd h2
          unfold atN outN
          refine sub_len (List.Pairwise.filter _ nd2) fun j hj => ?_
          obtain ⟨hj1, hj2⟩ := List.mem_filter.mp hj
          have hjt : j < ts.length ∧ ∃ w, w ∈ tS (tieAt ts j) ∧ w ∈ s.seen := by
            rcases List.mem_append.mp hj1 with z | z
            · exact ⟨r.ri.lt j z, r.ri.one j z⟩
            · rw [List.mem_singleton.mp z]; exact ⟨h1, near_in h3⟩
          obtain ⟨hjl, w, hw1, hw2⟩ := hjt
          have hvt : v ∈ tS (tieAt ts j) := by simpa using hj2
          have hwU : w ∉ U := fun z => hn w (r.sub w hw2) z hw2
          refine List.mem_filter.mpr ⟨List.mem_range.mpr hjl, ?_⟩
          have hne : v ≠ w := fun z => hwU (z ▸ hvU)
          have hcr : crosses (tieAt ts j) U = true := by
            refine crosses_iff.mpr ?_
            rcases mem_tS.mp hvt with z1 | z1 <;> rcases mem_tS.mp hw1 with z2 | z2
            · exact absurd (z1.trans z2.symm) hne
            · exact .inl ⟨z1 ▸ hvU, z2 ▸ hwU⟩
            · exact .inr ⟨z2 ▸ hwU, z1 ▸ hvU⟩
            · exact absurd (z1.trans z2.symm) hne
          rw [hcr, Bool.and_true]
          exact decide_eq_true hvt
        rw [atN_snoc, if_pos ((far_at h3 hfn).mpr ev)] at h5
        omega
    · exact hn v hv hvU
theorem burnt_iff {pl : List Nat} {ts : List (Nat × Nat)} {h : List Int} {b : Nat} (ndp : pl.Nodup) (hp : ∀ q ∈ ts, q.1 ∈ pl ∧ q.2 ∈ pl) (hb : b ∈ pl) (h0 : ∀ v ∈ pl, v ≠ b → 0 ≤ hAt pl h v) : (burnt pl ts h b).seen.length = pl.length ↔ ∀ U, ¬ Bars pl ts h b U := by
  obtain ⟨r, ho⟩ := burn_inv (h := h) hp hb h0
  constructor
  · intro e U hU
    obtain ⟨v, hv, hvU⟩ := hU.some
    exact burnt_bar hp hb h0 hU v hv hvU (all_len r.nd ndp r.sub e v hv)
  · intro nb
    have h1 := sub_len r.nd r.sub
    have h2 := sub_len ndp (burnt_of_none hp hb h0 nb)
    omega
end Wr
end
section
set_option maxRecDepth 100000
set_option maxHeartbeats 1000000
/-! Plain law: the herds of _law_is_low are what bars. -/
namespace Wr
theorem herds_form : ∀ (l : List Nat), ∃ rest, lawHerds l = [] :: rest ∧ (∀ U ∈ rest, U ≠ [] ∧ ∀ x ∈ U, x ∈ l) ∧ ∀ p : Nat → Bool, l.filter p ∈ lawHerds l := by
  intro l
  have gen : ∀ (l : List Nat) (f : List (List Nat)) (L : List Nat), (∃ rest, f = [] :: rest ∧ ∀ U ∈ rest, U ≠ [] ∧ ∀ x ∈ U, x ∈ L) → (∀ x ∈ l, x ∈ L) → ∃ rest, l.foldl lotStep f = [] :: rest ∧ ∀ U ∈ rest, U ≠ [] ∧ ∀ x ∈ U, x ∈ L := by
    intro l
    induction l with
    | nil => exact fun f L h _ => h
    | cons c l ih =>
      intro f L ⟨rest, e, h⟩ hl
      refine ih (lotStep f c) L ⟨rest ++ f.map fun m => m ++ [c], by unfold lotStep; rw [e]; rfl, fun U hU => ?_⟩ fun x hx => hl x (List.mem_cons_of_mem _ hx)
      rcases List.mem_append.mp hU with q | q
      · exact h U q
      · obtain ⟨m, hm, rfl⟩ := List.mem_map.mp q
        refine ⟨by simp, fun x hx => ?_⟩
        rcases List.mem_append.mp hx with z | z
        · rw [e] at hm
          rcases List.mem_cons.mp hm with y | y
          · rw [y] at z; cases z
          · exact (h m y).2 x z
        · rw [List.mem_singleton.mp z]
          exact hl c (by simp)
  have gen2 : ∀ (p : Nat → Bool) (l : List Nat) (f : List (List Nat)) (m : List Nat), m ∈ f → m ++ l.filter p ∈ l.foldl lotStep f := by
    intro p l
    induction l with
    | nil => intro f m hm; simpa using hm
    | cons c l ih =>
      intro f m hm
      rw [List.foldl_cons]
      by_cases hc : p c = true
      · rw [List.filter_cons_of_pos hc]
        have := ih (lotStep f c) (m ++ [c]) (List.mem_append_right _ (List.mem_map.mpr ⟨m, hm, rfl⟩))
        rw [List.append_assoc] at this
        exact this
      · rw [List.filter_cons_of_neg hc]
        exact ih (lotStep f c) m (List.mem_append_left _ hm)
  obtain ⟨rest, e, h⟩ := gen l [[]] l ⟨[], rfl, fun U hU => nomatch hU⟩ fun x hx => hx
  exact ⟨rest, e, h, fun p => gen2 p l [[]] [] (by simp)⟩
theorem outN_ties (ts : List (Nat × Nat)) (U : List Nat) (v : Nat) : outN ts U v = (ts.filter fun q => decide (v ∈ tS q) && crosses q U).length := by
  have h : ((List.range ts.length).map (tieAt ts)).filter (fun q => decide (v ∈ tS q) && crosses q U) = ((List.range ts.length).filter fun i => decide (v ∈ tS (tieAt ts i)) && crosses (tieAt ts i) U).map (tieAt ts) := by rw [List.filter_map]; rfl
  rw [range_ties] at h
  rw [h, List.length_map]
  rfl
/-- the herd's least number when it is taken out -/
def spareL (pl : List Nat) (ts : List (Nat × Nat)) (ns : List Int) (U : List Nat) : List Int := U.map fun a => hAt pl ns a - (outN ts U a : Int)
def lowB (pl : List Nat) (ts : List (Nat × Nat)) (ns : List Int) (b : Nat) : Bool := (lawHerds (pl.filter fun c => !decide (c = b))).tail.all fun U => !(spareL pl ts ns U).all fun x => decide (0 ≤ x)
theorem outN_congr {pl : List Nat} {ts : List (Nat × Nat)} (hp : ∀ q ∈ ts, q.1 ∈ pl ∧ q.2 ∈ pl) {U V : List Nat} (h : ∀ x ∈ pl, (x ∈ U ↔ x ∈ V)) (v : Nat) : outN ts U v = outN ts V v := by
  rw [outN_ties, outN_ties]
  congr 1
  refine List.filter_congr fun q hq => ?_
  obtain ⟨h1, h2⟩ := hp q hq
  congr 1
  unfold crosses
  rw [decide_eq_decide.mpr (h _ h1), decide_eq_decide.mpr (h _ h2)]
theorem lowB_iff {pl : List Nat} {ts : List (Nat × Nat)} {ns : List Int} {b : Nat} (hp : ∀ q ∈ ts, q.1 ∈ pl ∧ q.2 ∈ pl) : lowB pl ts ns b = true ↔ ∀ U, ¬ Bars pl ts ns b U := by
  obtain ⟨rest, e, h, hf⟩ := herds_form (pl.filter fun c => !decide (c = b))
  unfold lowB
  rw [e, List.tail_cons, List.all_eq_true]
  constructor
  · intro hall U hU
    have hm := hf fun c => decide (c ∈ U)
    generalize hV : (pl.filter fun c => !decide (c = b)).filter (fun c => decide (c ∈ U)) = V at hm
    have hmem : ∀ x ∈ pl, (x ∈ V ↔ x ∈ U) := fun x hx => by
      rw [← hV]
      simp only [List.mem_filter, hx, true_and, Bool.not_eq_true', decide_eq_false_iff_not, decide_eq_true_eq]
      exact ⟨fun z => z.2, fun z => ⟨fun y => hU.bank (y ▸ z), z⟩⟩
    rw [e] at hm
    rcases List.mem_cons.mp hm with q | q
    · obtain ⟨v, hv, hvU⟩ := hU.some
      have := (hmem v hv).mpr hvU
      rw [q] at this
      cases this
    · have := hall V q
      rw [Bool.not_eq_true', ← Bool.not_eq_true, List.all_eq_true] at this
      refine this fun x hx => ?_
      obtain ⟨a, ha, rfl⟩ := List.mem_map.mp hx
      have hap : a ∈ pl := (List.mem_filter.mp ((h V q).2 a ha)).1
      have h4 := hU.low a hap ((hmem a hap).mp ha)
      rw [outN_congr hp hmem]
      exact decide_eq_true (by omega)
  · intro nb U hU
    rw [Bool.not_eq_true', ← Bool.not_eq_true, List.all_eq_true]
    intro hall
    obtain ⟨h1, h2⟩ := h U hU
    refine nb U ⟨?_, fun z => ?_, fun v hv hvU => ?_⟩
    · cases U with
      | nil => exact absurd rfl h1
      | cons a U => exact ⟨a, (List.mem_filter.mp (h2 a (by simp))).1, by simp⟩
    · simpa using (List.mem_filter.mp (h2 b z)).2
    · have := of_decide_eq_true (hall _ (List.mem_map.mpr ⟨v, hvU, rfl⟩))
      omega
end Wr
end
section
set_option maxRecDepth 100000
set_option maxHeartbeats 1000000
/-! Plain law: giving, each place once. -/
namespace Wr
theorem sum_one {n k0 : Nat} {t : Int} (f : Nat → Int) (p : Nat → Bool) (h : k0 < n) : (((List.range n).filter p).map fun j => (if j = k0 then t else 0) * f j).sum = if p k0 then t * f k0 else 0 := by
  induction n with
  | zero => omega
  | succ n ih =>
    rw [List.range_succ, List.filter_append, List.map_append, List.sum_append]
    by_cases e : k0 = n
    · subst e
      have h0 : (((List.range k0).filter p).map fun j => (if j = k0 then t else 0) * f j).sum = 0 := by
        have : (((List.range k0).filter p).map fun j => (if j = k0 then t else 0) * f j) = (((List.range k0).filter p).map fun _ => (0 : Int)) := List.map_congr_left fun j hj => by
          have := List.mem_range.mp (List.mem_filter.mp hj).1
          rw [if_neg (by omega), Int.zero_mul]
        rw [this]
        generalize (List.range k0).filter p = l
        induction l with
        | nil => rfl
        | cons x l ih => rw [List.map_cons, List.sum_cons, ih]; rfl
      rw [h0, Int.zero_add]
      by_cases hp : p k0 = true <;> simp [hp]
    · rw [ih (by omega)]
      have : (((List.filter p [n]).map fun j => (if j = k0 then t else 0) * f j)).sum = 0 := by
        by_cases hp : p n = true <;> simp [hp, Ne.symm e]
      rw [this, Int.add_zero]
theorem give_at {n k : Nat} {t : Int} {j : Nat} (h : j < n) : piAt (giveAt n k t) j = if j = k then t else 0 := by
  unfold piAt giveAt
  rw [List.getD_eq_getElem?_getD, List.getElem?_map, List.getElem?_range h]
  rfl
theorem given_one {pl : List Nat} {ts : List (Nat × Nat)} {ns : List Int} {k0 k : Nat} {t : Int} (h0 : k0 < pl.length) (hk : k < pl.length) : givenAt pl ts ns (giveAt pl.length k0 t) k = if k = k0 then piAt ns k - t * (tiesAt ts (plAt pl k) : Int) else piAt ns k + t * (sharedN ts (plAt pl k0) (plAt pl k) : Int) := by
  unfold givenAt gotL
  have e : (((List.range pl.length).filter fun j => !decide (j = k)).map fun j => piAt (giveAt pl.length k0 t) j * (sharedN ts (plAt pl j) (plAt pl k) : Int)) = (((List.range pl.length).filter fun j => !decide (j = k)).map fun j => (if j = k0 then t else 0) * (sharedN ts (plAt pl j) (plAt pl k) : Int)) := List.map_congr_left fun j hj => by
    rw [give_at (List.mem_range.mp (List.mem_filter.mp hj).1)]
  rw [e, sum_one (fun j => (sharedN ts (plAt pl j) (plAt pl k) : Int)) _ h0, give_at hk]
  by_cases q : k = k0
  · subst q
    simp
  · rw [if_neg q, if_neg q]
    simp [Ne.symm q]
theorem given_at {pl : List Nat} {ts : List (Nat × Nat)} {ns dg : List Int} {k : Nat} (hk : k < pl.length) : piAt (givenL pl ts ns dg) k = givenAt pl ts ns dg k := by
  unfold piAt givenL
  rw [List.getD_eq_getElem?_getD, List.getElem?_map, List.getElem?_range hk]
  rfl
/-! ### the cut when one more comes in -/
theorem tS_mem (q : Nat × Nat) (v : Nat) : decide (v ∈ tS q) = (decide (v = q.1) || decide (v = q.2)) := by
  by_cases h1 : v = q.1 <;> by_cases h2 : v = q.2 <;> simp [tS, h1, h2]
theorem cross_snoc (q : Nat × Nat) (F : List Nat) (w : Nat) : crosses q (F ++ [w]) = ((decide (q.1 ∈ F) || decide (w = q.1)) != (decide (q.2 ∈ F) || decide (w = q.2))) := by
  unfold crosses
  have e : ∀ x : Nat, decide (x ∈ F ++ [w]) = (decide (x ∈ F) || decide (w = x)) := fun x => by
    by_cases h1 : x ∈ F <;> by_cases h2 : w = x <;> simp [h1, h2, eq_comm]
  rw [e, e]
def bn (t : Bool) : Nat := if t then 1 else 0
theorem cnt_cons {α : Type} (p : α → Bool) (x : α) (l : List α) : ((x :: l).filter p).length = (l.filter p).length + bn (p x) := by
  unfold bn
  by_cases h : p x = true <;> simp [h]
theorem cnt_add {α : Type} {p p1 p2 : α → Bool} : ∀ {l : List α}, (∀ x ∈ l, bn (p x) = bn (p1 x) + bn (p2 x)) → (l.filter p).length = (l.filter p1).length + (l.filter p2).length
  | [], _ => rfl
  | x :: l, h => by
    have := cnt_add (l := l) fun y hy => h y (List.mem_cons_of_mem _ hy)
    have := h x (by simp)
    rw [cnt_cons, cnt_cons, cnt_cons]
    omega
theorem b_oo : ∀ a1 a2 b1 b2 A B : Bool, (a1 && A) = false → (a2 && B) = false → (b1 && A) = false → (b2 && B) = false → (a1 && b1) = false → (a2 && b2) = false → (a1 && a2) = false → (b1 && b2) = false → bn ((a1 || a2) && ((A || b1) != (B || b2))) = bn ((a1 || a2) && (A != B)) + bn ((b1 || b2) && (a1 || a2)) := by decide
theorem b_in : ∀ a1 a2 b1 b2 A B : Bool, (a1 && !A) = false → (a2 && !B) = false → (b1 && A) = false → (b2 && B) = false → (a1 && b1) = false → (a2 && b2) = false → (a1 && a2) = false → (b1 && b2) = false → bn ((a1 || a2) && (A != B)) = bn ((a1 || a2) && ((A || b1) != (B || b2))) + bn ((b1 || b2) && (a1 || a2)) := by decide
theorem b_self : ∀ b1 b2 A B : Bool, (b1 && A) = false → (b2 && B) = false → (b1 && b2) = false → bn (b1 || b2) = bn ((b1 || b2) && ((A || b1) != (B || b2))) + bn ((b1 || b2) && (A != B)) := by decide
theorem no_two {v : Nat} {q : Nat × Nat} (h : q.1 ≠ q.2) : (decide (v = q.1) && decide (v = q.2)) = false := by
  by_cases h1 : v = q.1
  · simp [← h1] at h ⊢
    exact fun z => h z
  · simp [h1]
theorem no_in {v x : Nat} {F : List Nat} (h : v ∉ F) : (decide (v = x) && decide (x ∈ F)) = false := by
  by_cases h1 : v = x
  · subst h1; simp [h]
  · simp [h1]
theorem is_in {v x : Nat} {F : List Nat} (h : v ∈ F) : (decide (v = x) && !decide (x ∈ F)) = false := by
  by_cases h1 : v = x
  · subst h1; simp [h]
  · simp [h1]
theorem no_vw {v w x : Nat} (h : v ≠ w) : (decide (v = x) && decide (w = x)) = false := by
  by_cases h1 : v = x
  · subst h1; simp [Ne.symm h]
  · simp [h1]
/-- v outside, w comes in -/
theorem out_out {ts : List (Nat × Nat)} (hl : ∀ q ∈ ts, q.1 ≠ q.2) {F : List Nat} {v w : Nat} (hv : v ∉ F) (hw : w ∉ F) (hne : v ≠ w) : outN ts (F ++ [w]) v = outN ts F v + sharedN ts w v := by
  rw [outN_ties, outN_ties]
  refine cnt_add fun q hq => ?_
  rw [tS_mem, tS_mem, cross_snoc]
  exact b_oo _ _ _ _ _ _ (no_in hv) (no_in hv) (no_in hw) (no_in hw) (no_vw hne) (no_vw hne) (no_two (hl q hq)) (no_two (hl q hq))
theorem out_in {ts : List (Nat × Nat)} (hl : ∀ q ∈ ts, q.1 ≠ q.2) {F : List Nat} {v w : Nat} (hv : v ∈ F) (hw : w ∉ F) : outN ts F v = outN ts (F ++ [w]) v + sharedN ts w v := by
  have hne : v ≠ w := fun z => hw (z ▸ hv)
  rw [outN_ties, outN_ties]
  refine cnt_add fun q hq => ?_
  rw [tS_mem, tS_mem, cross_snoc]
  exact b_in _ _ _ _ _ _ (is_in hv) (is_in hv) (no_in hw) (no_in hw) (no_vw hne) (no_vw hne) (no_two (hl q hq)) (no_two (hl q hq))
theorem out_self {ts : List (Nat × Nat)} (hl : ∀ q ∈ ts, q.1 ≠ q.2) {F : List Nat} {w : Nat} (hw : w ∉ F) : tiesAt ts w = outN ts (F ++ [w]) w + outN ts F w := by
  rw [outN_ties, outN_ties]
  refine cnt_add fun q hq => ?_
  rw [tS_mem, cross_snoc]
  exact b_self _ _ _ _ (no_in hw) (no_in hw) (no_two (hl q hq))
theorem out_le (ts : List (Nat × Nat)) (F : List Nat) (v : Nat) : outN ts F v ≤ tiesAt ts v := by
  rw [outN_ties]
  unfold tiesAt
  have : (ts.filter fun q => decide (v ∈ tS q) && crosses q F) = (ts.filter fun q => decide (v ∈ tS q)).filter fun q => crosses q F := by rw [List.filter_filter]; exact List.filter_congr fun q _ => Bool.and_comm _ _
  rw [this]
  exact List.length_filter_le _ _
end Wr
end
section
set_option maxRecDepth 100000
set_option maxHeartbeats 1000000
/-! Plain law: settling after the bank gave. -/
namespace Wr
/-- F has given, each place once -/
structure Gave (pl : List Nat) (ts : List (Nat × Nat)) (b : Nat) (c ns : List Int) (F : List Nat) : Prop where
  len : ns.length = pl.length
  nd : F.Nodup
  bank : b ∈ F
  sub : ∀ v ∈ F, v ∈ pl
  off : ∀ k, k < pl.length → plAt pl k ∉ F → piAt ns k = piAt c k + (outN ts F (plAt pl k) : Int)
  on : ∀ k, k < pl.length → plAt pl k ≠ b → plAt pl k ∈ F → piAt ns k = piAt c k - (outN ts F (plAt pl k) : Int)
theorem pl_inj {pl : List Nat} (nd : pl.Nodup) {j k : Nat} (hj : j < pl.length) (hk : k < pl.length) (e : plAt pl j = plAt pl k) : j = k := by
  unfold plAt at e
  rw [List.getD_eq_getElem?_getD, List.getElem?_eq_getElem hj, List.getD_eq_getElem?_getD, List.getElem?_eq_getElem hk] at e
  simp only [Option.getD_some] at e
  have h := List.pairwise_iff_getElem.mp nd
  rcases Nat.lt_trichotomy j k with q | q | q
  · exact absurd e (h j k hj hk q)
  · exact q
  · exact absurd e.symm (h k j hk hj q)
theorem mem_ready {pl : List Nat} {ts : List (Nat × Nat)} {b : Nat} {ns : List Int} {k : Nat} : k ∈ readyL pl ts b ns ↔ k < pl.length ∧ plAt pl k ≠ b ∧ (tiesAt ts (plAt pl k) : Int) ≤ piAt ns k := by
  unfold readyL
  simp [List.mem_filter, and_assoc]
/-- a ready place has not given yet, and gives once -/
theorem Gave.ready {pl : List Nat} {ts : List (Nat × Nat)} {b : Nat} {c ns : List Int} {F : List Nat} (G : Gave pl ts b c ns F) (hc : ∀ k, k < pl.length → plAt pl k ≠ b → 0 ≤ piAt c k ∧ piAt c k < (tiesAt ts (plAt pl k) : Int)) {k : Nat} (h : k ∈ readyL pl ts b ns) :
    k < pl.length ∧ plAt pl k ≠ b ∧ plAt pl k ∉ F ∧ piAt ns k / (tiesAt ts (plAt pl k) : Int) = 1 := by
  obtain ⟨hk, hb, hr⟩ := mem_ready.mp h
  obtain ⟨c0, c1⟩ := hc k hk hb
  have ho := out_le ts F (plAt pl k)
  have hn : plAt pl k ∉ F := fun z => by
    have := G.on k hk hb z
    omega
  refine ⟨hk, hb, hn, ?_⟩
  have h1 := G.off k hk hn
  generalize hd : (tiesAt ts (plAt pl k) : Int) = d at *
  have h2 : piAt ns k < 2 * d := by omega
  have h3 : 0 < d := by omega
  have e : piAt ns k = (piAt ns k - d) + 1 * d := by omega
  rw [e, Int.add_mul_ediv_right _ _ (by omega), Int.ediv_eq_zero_of_lt (by omega) (by omega)]
  rfl
theorem Gave.next {pl : List Nat} {ts : List (Nat × Nat)} {b : Nat} {c ns : List Int} {F : List Nat} (nd : pl.Nodup) (hl : ∀ q ∈ ts, q.1 ≠ q.2) (G : Gave pl ts b c ns F) {k0 : Nat} (h0 : k0 < pl.length) (hn : plAt pl k0 ∉ F) : Gave pl ts b c (givenL pl ts ns (giveAt pl.length k0 1)) (F ++ [plAt pl k0]) := by
  refine ⟨given_len _ _ _ _, nd_snoc G.nd hn, List.mem_append_left _ G.bank, fun v hv => ?_, fun k hk hv => ?_, fun k hk hb hv => ?_⟩
  · rcases List.mem_append.mp hv with q | q
    · exact G.sub v q
    · rw [List.mem_singleton.mp q]; exact plAt_mem h0
  · have hv1 : plAt pl k ∉ F := fun z => hv (List.mem_append_left _ z)
    have hv2 : plAt pl k ≠ plAt pl k0 := fun z => hv (List.mem_append_right _ (by rw [z]; simp))
    have hk0 : k ≠ k0 := fun z => hv2 (by rw [z])
    rw [given_at hk, given_one h0 hk, if_neg hk0, G.off k hk hv1, out_out hl hv1 hn hv2]
    omega
  · rw [given_at hk, given_one h0 hk]
    by_cases e : k = k0
    · subst e
      rw [if_pos rfl, G.off k hk hn]
      have := out_self hl hn
      omega
    · rw [if_neg e]
      have hv1 : plAt pl k ∈ F := by
        rcases List.mem_append.mp hv with q | q
        · exact q
        · exact absurd (pl_inj nd hk h0 (List.mem_singleton.mp q)) e
      rw [G.on k hk hb hv1]
      have := out_in hl hv1 hn
      omega
theorem settle_end {pl : List Nat} {ts : List (Nat × Nat)} {b : Nat} {c : List Int} (nd : pl.Nodup) (hl : ∀ q ∈ ts, q.1 ≠ q.2) (hc : ∀ k, k < pl.length → plAt pl k ≠ b → 0 ≤ piAt c k ∧ piAt c k < (tiesAt ts (plAt pl k) : Int)) (P : List Nat → Prop)
    (hP : ∀ F k ns, Gave pl ts b c ns F → P F → k ∈ readyL pl ts b ns → P (F ++ [plAt pl k])) : ∀ (n : Nat) (F : List Nat) (ns dg : List Int), Gave pl ts b c ns F → P F → pl.length + 1 ≤ n + F.length → ∃ r F', settle pl ts b n ns dg = some r ∧ Gave pl ts b c r.1 F' ∧ readyL pl ts b r.1 = [] ∧ P F'
  | 0, F, ns, dg, G, _, hn => by
    have := sub_len G.nd G.sub
    omega
  | n + 1, F, ns, dg, G, hPF, hn => by
    cases e : (readyL pl ts b ns).getLast? with
    | none => exact ⟨(ns, dg), F, settle_none e, G, List.getLast?_eq_none_iff.mp e, hPF⟩
    | some k =>
      have hk := List.mem_of_getLast? e
      obtain ⟨h1, h2, h3, h4⟩ := G.ready hc hk
      rw [settle_some e, h4]
      exact settle_end nd hl hc P hP n _ _ _ (G.next nd hl h1 h3) (hP F k ns G hPF hk) (by rw [List.length_append, List.length_singleton]; omega)
end Wr
end
section
set_option maxRecDepth 100000
set_option maxHeartbeats 1000000
/-! Plain law: a heap lasts iff nothing bars its mirror. -/
namespace Wr
theorem plAt_idx {pl : List Nat} {b : Nat} (hb : b ∈ pl) : pl.idxOf b < pl.length ∧ plAt pl (pl.idxOf b) = b := by
  have h := List.idxOf_lt_length_of_mem hb
  refine ⟨h, ?_⟩
  unfold plAt
  rw [List.getD_eq_getElem?_getD, List.getElem?_eq_getElem h]
  exact List.getElem_idxOf h
theorem out_none (ts : List (Nat × Nat)) (v : Nat) : outN ts [] v = 0 := by
  rw [outN_ties]
  have : ts.filter (fun q => decide (v ∈ tS q) && crosses q []) = [] := List.filter_eq_nil_iff.mpr fun q _ => by simp [crosses]
  rw [this]
  rfl
theorem bank_give {pl : List Nat} {b : Nat} (nd : pl.Nodup) (hb : b ∈ pl) : bankGives pl b = giveAt pl.length (pl.idxOf b) 1 := by
  obtain ⟨h1, h2⟩ := plAt_idx hb
  unfold bankGives giveAt
  apply List.ext_getElem?
  intro i
  rw [List.getElem?_map, List.getElem?_map]
  by_cases hi : i < pl.length
  · rw [List.getElem?_range hi, List.getElem?_eq_getElem hi]
    have e : pl[i] = plAt pl i := by
      unfold plAt
      rw [List.getD_eq_getElem?_getD, List.getElem?_eq_getElem hi]
      rfl
    show some (if pl[i] = b then (1 : Int) else 0) = some (if i = pl.idxOf b then 1 else 0)
    rw [e]
    by_cases q : i = pl.idxOf b
    · rw [if_pos q, q, h2, if_pos rfl]
    · rw [if_neg q, if_neg fun z => q (pl_inj nd hi h1 (z.trans h2.symm))]
  · rw [List.getElem?_eq_none (by omega), List.getElem?_eq_none (by rw [List.length_range]; omega)]
    rfl
theorem gave_bank {pl : List Nat} {ts : List (Nat × Nat)} {b : Nat} {c : List Int} (nd : pl.Nodup) (hl : ∀ q ∈ ts, q.1 ≠ q.2) (hb : b ∈ pl) (hlen : c.length = pl.length) : Gave pl ts b c (afterBank pl ts b c) [b] := by
  obtain ⟨h1, h2⟩ := plAt_idx hb
  unfold afterBank
  rw [bank_give nd hb]
  refine ⟨given_len _ _ _ _, List.pairwise_singleton _ _, List.mem_singleton.mpr rfl, fun v hv => by rw [List.mem_singleton.mp hv]; exact hb, fun k hk hv => ?_, fun k hk hne hv => absurd (List.mem_singleton.mp hv) hne⟩
  have hv2 : plAt pl k ≠ b := fun z => hv (by rw [z]; simp)
  have hk0 : k ≠ pl.idxOf b := fun z => hv2 (by rw [z]; exact h2)
  rw [given_at hk, given_one h1 hk, if_neg hk0, h2]
  have := out_out (F := []) hl (List.not_mem_nil) (List.not_mem_nil) hv2
  rw [out_none, List.nil_append] at this
  omega
end Wr
end
section
set_option maxRecDepth 100000
set_option maxHeartbeats 1000000
/-! Plain law: whole webs; a heap lasts iff nothing bars its mirror. -/
namespace Wr
/-- no cut is without a tie -/
def Whole (pl : List Nat) (ts : List (Nat × Nat)) : Prop := ∀ U : List Nat, (∃ v ∈ pl, v ∈ U) → (∃ v ∈ pl, v ∉ U) → ∃ q ∈ ts, crosses q U = true
theorem mem_plAt {pl : List Nat} {v : Nat} (h : v ∈ pl) : ∃ k, k < pl.length ∧ plAt pl k = v := ⟨_, (plAt_idx h).1, (plAt_idx h).2⟩
theorem NetOk.whole {pl : List Nat} {ts : List (Nat × Nat)} (h : NetOk pl ts) : Whole pl ts := by
  intro U ⟨v, hv, hvU⟩ ⟨w, hw, hwU⟩
  apply Classical.byContradiction
  intro hno
  have hno' : ∀ q ∈ ts, (q.1 ∈ U ↔ q.2 ∈ U) := fun q hq => by
    have : ¬ crosses q U = true := fun z => hno ⟨q, hq, z⟩
    rw [crosses_iff] at this
    by_cases a : q.1 ∈ U <;> by_cases b : q.2 ∈ U <;> simp_all
  have all : ∀ k, k < pl.length → (plAt pl k ∈ U ↔ plAt pl 0 ∈ U) := fun k => by
    induction k using Nat.strongRecOn with
    | ind k ih =>
      intro hk
      by_cases h0 : k = 0
      · rw [h0]
      · obtain ⟨j, hj, hq⟩ := h.tied k (by omega) hk
        have h1 := hno' _ hq
        have h2 := ih j hj (by omega)
        exact h1.symm.trans h2
  obtain ⟨i, hi, rfl⟩ := mem_plAt hv
  obtain ⟨j, hj, rfl⟩ := mem_plAt hw
  exact hwU ((all j hj).mpr ((all i hi).mp hvU))
theorem mir_at {pl : List Nat} {ts : List (Nat × Nat)} {c : List Int} {b k : Nat} (nd : pl.Nodup) (hlen : c.length = pl.length) (hk : k < pl.length) : hAt pl (mirL pl ts c b) (plAt pl k) = if plAt pl k = b then 0 else (tiesAt ts (plAt pl k) : Int) - 1 - piAt c k := by
  have hm := plAt_mem hk
  have e : pl.idxOf (plAt pl k) = k := pl_inj nd (plAt_idx hm).1 hk (plAt_idx hm).2
  have hl : (lackL pl ts c).length = pl.length := by unfold lackL; rw [List.length_map, List.length_zip]; omega
  unfold hAt mirL
  rw [e, bareL_range pl _ b hl, List.getD_eq_getElem?_getD, List.getElem?_map, List.getElem?_range hk]
  show (if plAt pl k = b then (0 : Int) else piAt (lackL pl ts c) k) = _
  split
  · rfl
  · unfold piAt lackL
    rw [List.getD_eq_getElem?_getD, List.getElem?_map]
    have h1 : (c.zip pl)[k]? = some (piAt c k, plAt pl k) := by
      refine List.getElem?_zip_eq_some.mpr ⟨?_, ?_⟩
      · unfold piAt; rw [List.getD_eq_getElem?_getD, List.getElem?_eq_getElem (by omega)]; rfl
      · unfold plAt; rw [List.getD_eq_getElem?_getD, List.getElem?_eq_getElem hk]; rfl
    rw [h1]
    rfl
end Wr
end
section
set_option maxRecDepth 100000
set_option maxHeartbeats 1000000
/-! Plain law: lasts iff nothing bars. -/
namespace Wr
structure Box (pl : List Nat) (ts : List (Nat × Nat)) (b : Nat) (c : List Int) : Prop where
  len : c.length = pl.length
  box : ∀ k, k < pl.length → plAt pl k ≠ b → 0 ≤ piAt c k ∧ piAt c k < (tiesAt ts (plAt pl k) : Int)
structure WebOk (pl : List Nat) (ts : List (Nat × Nat)) : Prop where
  nd : pl.Nodup
  lp : ∀ q ∈ ts, q.1 ≠ q.2
  ends : ∀ q ∈ ts, q.1 ∈ pl ∧ q.2 ∈ pl
  few : pl.length ≤ 4
  whole : Whole pl ts
/-- a bar keeps still -/
theorem bar_still {pl : List Nat} {ts : List (Nat × Nat)} {b : Nat} {c ns : List Int} {F U : List Nat} (W : WebOk pl ts) (B : Box pl ts b c) (hU : Bars pl ts (mirL pl ts c b) b U) (G : Gave pl ts b c ns F) (hF : ∀ v ∈ pl, v ∈ U → v ∉ F) {k : Nat} (h : k ∈ readyL pl ts b ns) : plAt pl k ∉ U := by
  obtain ⟨hk, hb, hn, _⟩ := G.ready B.box h
  obtain ⟨_, _, hr⟩ := mem_ready.mp h
  intro hvU
  have hm := plAt_mem hk
  have h1 := hU.low _ hm hvU
  rw [mir_at W.nd B.len hk, if_neg hb] at h1
  have h2 := G.off k hk hn
  have h3 : outN ts F (plAt pl k) ≤ outN ts U (plAt pl k) := by
    unfold outN
    refine sub_len (List.Pairwise.filter _ List.nodup_range) fun i hi => ?_
    obtain ⟨hi1, hi2⟩ := List.mem_filter.mp hi
    have hlt := List.mem_range.mp hi1
    simp only [Bool.and_eq_true, decide_eq_true_eq] at hi2
    obtain ⟨hv, hc⟩ := hi2
    refine List.mem_filter.mpr ⟨hi1, ?_⟩
    obtain ⟨e1, e2⟩ := W.ends _ (tieAt_mem hlt)
    have : crosses (tieAt ts i) U = true := by
      refine crosses_iff.mpr ?_
      rcases crosses_iff.mp hc with ⟨a, d⟩ | ⟨a, d⟩ <;> rcases mem_tS.mp hv with z | z
      · exact absurd (z ▸ a) hn
      · exact .inr ⟨fun y => hF _ e1 y a, z ▸ hvU⟩
      · exact .inl ⟨z ▸ hvU, fun y => hF _ e2 y d⟩
      · exact absurd (z ▸ d) hn
    rw [this, Bool.and_true]
    exact decide_eq_true hv
  omega
theorem box_ready {pl : List Nat} {ts : List (Nat × Nat)} {b : Nat} {c : List Int} (B : Box pl ts b c) : readyL pl ts b c = [] := by
  rw [List.eq_nil_iff_forall_not_mem]
  intro k hk
  obtain ⟨h1, h2, h3⟩ := mem_ready.mp hk
  have := (B.box k h1 h2).2
  omega
theorem again_ok {pl : List Nat} {ts : List (Nat × Nat)} {b : Nat} {c : List Int} (W : WebOk pl ts) (hb : b ∈ pl) (B : Box pl ts b c) : ∃ r, againOf pl ts b c = some r := by
  obtain ⟨r, F, h, _⟩ := settle_end W.nd W.lp B.box (fun _ => True) (fun _ _ _ _ _ _ => trivial) 1000 _ _ (List.replicate pl.length 0) (gave_bank W.nd W.lp hb B.len) trivial (by have := W.few; simp; omega)
  exact ⟨r, h⟩
theorem lasts_nobar {pl : List Nat} {ts : List (Nat × Nat)} {b : Nat} {c : List Int} (W : WebOk pl ts) (hb : b ∈ pl) (B : Box pl ts b c) (nb : ∀ U, ¬ Bars pl ts (mirL pl ts c b) b U) : lawLasts pl ts b c = true := by
  obtain ⟨r, F, h, G, hr, _⟩ := settle_end W.nd W.lp B.box (fun _ => True) (fun _ _ _ _ _ _ => trivial) 1000 _ _ (List.replicate pl.length 0) (gave_bank W.nd W.lp hb B.len) trivial (by have := W.few; simp; omega)
  have hall : ∀ v ∈ pl, v ∈ F := by
    intro v hv
    apply Classical.byContradiction
    intro hn
    have hmem : ∀ w ∈ pl, (w ∈ pl.filter (fun c => !decide (c ∈ F)) ↔ w ∉ F) := fun w hw => by simp [List.mem_filter, hw]
    refine nb (pl.filter fun c => !decide (c ∈ F)) ⟨⟨v, hv, (hmem v hv).mpr hn⟩, fun z => (hmem b hb).mp z G.bank, fun w hw hwU => ?_⟩
    have hwF := (hmem w hw).mp hwU
    obtain ⟨k, hk, rfl⟩ := mem_plAt hw
    have hne : plAt pl k ≠ b := fun z => hwF (by rw [z]; exact G.bank)
    rw [mir_at W.nd B.len hk, if_neg hne]
    have h1 := G.off k hk hwF
    have h2 : ¬ (tiesAt ts (plAt pl k) : Int) ≤ piAt r.1 k := fun z => by
      have := mem_ready.mpr ⟨hk, hne, z⟩
      rw [hr] at this
      cases this
    have h3 : outN ts (pl.filter fun c => !decide (c ∈ F)) (plAt pl k) = outN ts F (plAt pl k) := by
      unfold outN
      congr 1
      refine List.filter_congr fun i hi => ?_
      obtain ⟨e1, e2⟩ := W.ends _ (tieAt_mem (List.mem_range.mp hi))
      congr 1
      have hd : ∀ w ∈ pl, decide (w ∈ pl.filter fun c => !decide (c ∈ F)) = !decide (w ∈ F) := fun w hw => by
        by_cases a : w ∈ F
        · rw [decide_eq_false fun z => (hmem w hw).mp z a, decide_eq_true a]; rfl
        · rw [decide_eq_true ((hmem w hw).mpr a), decide_eq_false a]; rfl
      unfold crosses
      rw [hd _ e1, hd _ e2]
      cases decide ((tieAt ts i).1 ∈ F) <;> cases decide ((tieAt ts i).2 ∈ F) <;> rfl
    rw [h3]
    omega
  have h0 : ∀ v, outN ts F v = 0 := fun v => by
    rw [outN_ties]
    have : ts.filter (fun q => decide (v ∈ tS q) && crosses q F) = [] := List.filter_eq_nil_iff.mpr fun q hq => by
      have this := W.ends q hq
      have e1 : decide (q.1 ∈ F) = true := decide_eq_true (hall _ this.1)
      have e2 : decide (q.2 ∈ F) = true := decide_eq_true (hall _ this.2)
      unfold crosses
      rw [e1, e2]
      simp
    rw [this]
    rfl
  unfold lawLasts againOf
  rw [box_ready B, h]
  show (true && decide _) = true
  rw [Bool.true_and, decide_eq_true_eq, bareL_range pl _ b G.len, bareL_range pl _ b B.len]
  refine List.map_congr_left fun k hk => ?_
  have hk' := List.mem_range.mp hk
  by_cases e : plAt pl k = b
  · rw [if_pos e, if_pos e]
  · rw [if_neg e, if_neg e, G.on k hk' e (hall _ (plAt_mem hk')), h0]
    simp
theorem lasts_bar {pl : List Nat} {ts : List (Nat × Nat)} {b : Nat} {c : List Int} (W : WebOk pl ts) (hb : b ∈ pl) (B : Box pl ts b c) (hl : lawLasts pl ts b c = true) : ∀ U, ¬ Bars pl ts (mirL pl ts c b) b U := by
  intro U hU
  obtain ⟨r, F, h, G, hr, hF⟩ := settle_end W.nd W.lp B.box (fun F => ∀ v ∈ pl, v ∈ U → v ∉ F) (fun F k ns G hF hk v hv hvU z => by
    rcases List.mem_append.mp z with q | q
    · exact hF v hv hvU q
    · exact bar_still W B hU G hF hk (by rw [← List.mem_singleton.mp q]; exact hvU)) 1000 _ _ (List.replicate pl.length 0) (gave_bank W.nd W.lp hb B.len) (fun v hv hvU z => hU.bank (by rw [← List.mem_singleton.mp z]; exact hvU)) (by have := W.few; simp; omega)
  obtain ⟨v, hv, hvU⟩ := hU.some
  obtain ⟨q, hq, hc⟩ := W.whole F ⟨b, hb, G.bank⟩ ⟨v, hv, hF v hv hvU⟩
  unfold lawLasts againOf at hl
  rw [box_ready B, h] at hl
  have hl2 : bareL pl r.1 b = bareL pl c b := by
    have : (true && decide (bareL pl r.1 b = bareL pl c b)) = true := hl
    simpa using this
  rw [bareL_range pl _ b G.len, bareL_range pl _ b B.len] at hl2
  obtain ⟨w, hw, hwq, hwF⟩ : ∃ w ∈ pl, w ∈ tS q ∧ w ∉ F := by
    obtain ⟨e1, e2⟩ := W.ends q hq
    rcases crosses_iff.mp hc with ⟨_, a⟩ | ⟨a, _⟩
    · exact ⟨_, e2, mem_tS.mpr (.inr rfl), a⟩
    · exact ⟨_, e1, mem_tS.mpr (.inl rfl), a⟩
  obtain ⟨k, hk, rfl⟩ := mem_plAt hw
  have hne : plAt pl k ≠ b := fun z => hwF (by rw [z]; exact G.bank)
  have h1 := G.off k hk hwF
  have h2 := List.map_inj_left.mp hl2 k (List.mem_range.mpr hk)
  rw [if_neg hne, if_neg hne] at h2
  have h3 : 0 < outN ts F (plAt pl k) := by
    rw [outN_ties]
    refine List.length_pos_iff.mpr fun z => ?_
    have := List.filter_eq_nil_iff.mp z q hq
    rw [hc, Bool.and_true] at this
    exact this (decide_eq_true hwq)
  omega
theorem lasts_iff {pl : List Nat} {ts : List (Nat × Nat)} {b : Nat} {c : List Int} (W : WebOk pl ts) (hb : b ∈ pl) (B : Box pl ts b c) : lawLasts pl ts b c = true ↔ ∀ U, ¬ Bars pl ts (mirL pl ts c b) b U := ⟨lasts_bar W hb B, lasts_nobar W hb B⟩
end Wr
end
section
set_option maxRecDepth 100000
set_option maxHeartbeats 1000000
/-! Plain law: light and fire in lock step. -/
namespace Wr
theorem litGo_none {pl : List Nat} {ts : List (Nat × Nat)} {lot : List Nat} {s : LS} (h : (opens ts s.seen s.used).getLast? = none) : ∀ n, litGo pl ts lot n s = s
  | 0 => rfl
  | n + 1 => by
    show (if s.seen.length < pl.length then (match (opens ts s.seen s.used).getLast? with
      | none => s
      | some i => litGo pl ts lot n (litStep ts lot s i)) else s) = s
    rw [h]
    split <;> rfl
theorem burnGo_none {pl : List Nat} {ts : List (Nat × Nat)} {h : List Int} {s : BS} (e : (opens ts s.seen s.used).getLast? = none) : ∀ n, burnGo pl ts h n s = s
  | 0 => rfl
  | n + 1 => by
    show (match (opens ts s.seen s.used).getLast? with
      | none => s
      | some i => burnGo pl ts h n (burnStep pl ts h s i)) = s
    rw [e]
theorem lit_step_in {ts : List (Nat × Nat)} {lot : List Nat} {s : LS} {i : Nat} (h : i ∈ lot) : litStep ts lot s i = ⟨s.seen ++ [farEnd ts s.seen i], s.used ++ [i], s.hits⟩ := by unfold litStep; rw [if_pos h]
theorem lit_step_out {ts : List (Nat × Nat)} {lot : List Nat} {s : LS} {i : Nat} (h : i ∉ lot) : litStep ts lot s i = ⟨s.seen, s.used ++ [i], setF s.hits (farEnd ts s.seen i) (s.hits (farEnd ts s.seen i) + 1)⟩ := by unfold litStep; rw [if_neg h]
theorem lit_hits {pl : List Nat} {ts : List (Nat × Nat)} {lot : List Nat} : ∀ (n : Nat) (s : LS) (v : Nat), s.hits v ≤ (litGo pl ts lot n s).hits v ∧ (v ∈ s.seen → (litGo pl ts lot n s).hits v = s.hits v)
  | 0, s, v => ⟨Int.le_refl _, fun _ => rfl⟩
  | n + 1, s, v => by
    by_cases hl : s.seen.length < pl.length
    · cases e : (opens ts s.seen s.used).getLast? with
      | none => rw [litGo_none e]; exact ⟨Int.le_refl _, fun _ => rfl⟩
      | some i =>
        rw [litGo_some hl e]
        obtain ⟨h1, h2⟩ := lit_hits n (litStep ts lot s i) v
        obtain ⟨_, _, h3⟩ := mem_opens (List.mem_of_getLast? e)
        have hfn := (far_new h3).1
        by_cases hi : i ∈ lot
        · rw [lit_step_in hi] at h1 h2 ⊢
          exact ⟨h1, fun hv => h2 (List.mem_append_left _ hv)⟩
        · rw [lit_step_out hi] at h1 h2 ⊢
          have hs : setF s.hits (farEnd ts s.seen i) (s.hits (farEnd ts s.seen i) + 1) v = if v = farEnd ts s.seen i then s.hits (farEnd ts s.seen i) + 1 else s.hits v := rfl
          simp only [hs] at h1 h2
          refine ⟨?_, fun hv => ?_⟩
          · refine Int.le_trans ?_ h1
            split
            · rename_i q
              rw [q]
              omega
            · exact Int.le_refl _
          · have h4 := h2 hv
            have hne : v ≠ farEnd ts s.seen i := fun z => hfn (z ▸ hv)
            rw [if_neg hne] at h4
            exact h4
    · rw [litGo_stop hl]; exact ⟨Int.le_refl _, fun _ => rfl⟩
/-- the fire and the light stand alike -/
structure Step (ts : List (Nat × Nat)) (lot : List Nat) (l : LS) (s : BS) : Prop where
  seen : s.seen = l.seen
  used : s.used = l.used
  hits : ∀ v, v ∉ l.seen → s.hits v = l.hits v
  fuses : s.fuses = l.used.filter fun i => decide (i ∈ lot)
theorem fil_snoc (l lot : List Nat) (i : Nat) : (l ++ [i]).filter (fun j => decide (j ∈ lot)) = l.filter (fun j => decide (j ∈ lot)) ++ if i ∈ lot then [i] else [] := by
  rw [List.filter_append]
  by_cases h : i ∈ lot <;> simp [h]
/-- one turn, the heap being what the light will have counted -/
theorem Step.next {pl : List Nat} {ts : List (Nat × Nat)} {h : List Int} {lot : List Nat} {l : LS} {s : BS} (S : Step ts lot l s) {i : Nat} (hi : i ∈ opens ts l.seen l.used) (hin : i ∈ lot → hAt pl h (farEnd ts l.seen i) < l.hits (farEnd ts l.seen i) + 1) (hout : i ∉ lot → l.hits (farEnd ts l.seen i) + 1 ≤ hAt pl h (farEnd ts l.seen i)) : Step ts lot (litStep ts lot l i) (burnStep pl ts h s i) := by
  obtain ⟨_, _, h3⟩ := mem_opens hi
  have hfn := (far_new h3).1
  have he : s.hits (farEnd ts l.seen i) = l.hits (farEnd ts l.seen i) := S.hits _ hfn
  unfold burnStep
  simp only [S.seen, he]
  by_cases hl : i ∈ lot
  · rw [if_pos (hin hl), lit_step_in hl]
    refine ⟨rfl, by simp [S.used], fun v hv => ?_, ?_⟩
    · have hv1 : v ∉ l.seen := fun z => hv (List.mem_append_left _ z)
      have hv2 : v ≠ farEnd ts l.seen i := fun z => hv (List.mem_append_right _ (by rw [z]; simp))
      show setF s.hits _ _ v = l.hits v
      unfold setF
      rw [if_neg hv2]
      exact S.hits v hv1
    · show s.fuses ++ [i] = _
      rw [fil_snoc, if_pos hl, S.fuses]
  · rw [if_neg (by have := hout hl; omega), lit_step_out hl]
    refine ⟨rfl, by simp [S.used], fun v hv => ?_, ?_⟩
    · show setF s.hits _ _ v = setF l.hits _ _ v
      unfold setF
      split
      · rfl
      · exact S.hits v hv
    · show s.fuses = _
      rw [fil_snoc, if_neg hl, S.fuses, List.append_nil]
end Wr
end
section
set_option maxRecDepth 100000
set_option maxHeartbeats 1000000
/-! Plain law: the light's heap burns in lock step. -/
namespace Wr
theorem opens_full {pl : List Nat} {ts : List (Nat × Nat)} {seen used : List Nat} (hp : ∀ q ∈ ts, q.1 ∈ pl ∧ q.2 ∈ pl) (h : ∀ v ∈ pl, v ∈ seen) : opens ts seen used = [] := by
  rw [List.eq_nil_iff_forall_not_mem]
  intro i hi
  obtain ⟨h1, _, h3⟩ := mem_opens hi
  obtain ⟨e1, e2⟩ := hp _ (tieAt_mem h1)
  rcases crosses_iff.mp h3 with ⟨_, a⟩ | ⟨a, _⟩
  · exact a (h _ e2)
  · exact a (h _ e1)
theorem pair_run {pl : List Nat} {ts : List (Nat × Nat)} {h : List Int} {lot : List Nat} {b : Nat} (W : WebOk pl ts) (sp : Spans pl ts lot b) (hlot : ∀ i ∈ lot, i < ts.length) : ∀ (n : Nat) (l : LS) (s : BS), Step ts lot l s → LInv pl ts lot b l → (∀ v ∈ pl, hAt pl h v = (litGo pl ts lot n l).hits v) → ts.length + 1 ≤ n + l.used.length →
    Step ts lot (litGo pl ts lot n l) (burnGo pl ts h n s) ∧ (litGo pl ts lot n l).seen.length = pl.length ∧ LInv pl ts lot b (litGo pl ts lot n l)
  | 0, l, s, S, L, hh, hn => by
    have := nodup_bound L.nd L.lt
    omega
  | n + 1, l, s, S, L, hh, hn => by
    by_cases hl : l.seen.length < pl.length
    · obtain ⟨i, e, h1, h2, h3, L2⟩ := lit_next W.ends sp hlot L hl W.nd
      have e2 : (opens ts s.seen s.used).getLast? = some i := by rw [S.seen, S.used]; exact e
      rw [litGo_some hl e] at hh ⊢
      rw [burnGo_some e2]
      have hfp := far_in (seen := l.seen) W.ends h1
      obtain ⟨m1, m2⟩ := lit_hits (pl := pl) (ts := ts) (lot := lot) n (litStep ts lot l i) (farEnd ts l.seen i)
      refine pair_run W sp hlot n _ _ (S.next (List.mem_of_getLast? e) (fun hi => ?_) fun hi => ?_) L2 hh ?_
      · rw [hh _ hfp, m2 (by rw [lit_step_in hi]; simp), lit_step_in hi]
        show l.hits _ < l.hits _ + 1
        omega
      · rw [hh _ hfp]
        refine Int.le_trans ?_ m1
        rw [lit_step_out hi]
        show _ ≤ setF l.hits _ _ _
        unfold setF
        rw [if_pos rfl]
        exact Int.le_refl _
      · have : (litStep ts lot l i).used = l.used ++ [i] := by
          by_cases hi : i ∈ lot
          · rw [lit_step_in hi]
          · rw [lit_step_out hi]
        rw [this, List.length_append, List.length_singleton]
        omega
    · have hle := sub_len L.snd L.sub
      have hall := all_len L.snd W.nd L.sub (by omega)
      have ho := opens_full (used := l.used) W.ends hall
      rw [litGo_stop hl, burnGo_none (by rw [S.seen, S.used, ho]; rfl)]
      exact ⟨S, by omega, L⟩
theorem lit_start {pl : List Nat} {ts : List (Nat × Nat)} {lot : List Nat} {b : Nat} (hb : b ∈ pl) : LInv pl ts lot b ⟨[b], [], fun _ => 0⟩ := ⟨List.nodup_nil, (fun i hi => nomatch hi), List.pairwise_singleton _ _, fun c hc => by rw [List.mem_singleton.mp hc]; exact hb, List.mem_singleton.mpr rfl, fun i hi => nomatch hi⟩
/-- the light's heap burns all, by the ties of the lot -/
theorem lit_burns {pl : List Nat} {ts : List (Nat × Nat)} {h : List Int} {lot : List Nat} {b : Nat} (W : WebOk pl ts) (hb : b ∈ pl) (sp : Spans pl ts lot b) (hlot : ∀ i ∈ lot, i < ts.length) (hh : ∀ v ∈ pl, hAt pl h v = (litEnd pl ts lot b).hits v) : (burnt pl ts h b).seen.length = pl.length ∧ (burnt pl ts h b).fuses = (litEnd pl ts lot b).used.filter (fun i => decide (i ∈ lot)) ∧ (burnt pl ts h b).used = (litEnd pl ts lot b).used ∧ LInv pl ts lot b (litEnd pl ts lot b) ∧ (litEnd pl ts lot b).seen.length = pl.length := by
  obtain ⟨S, e, L⟩ := pair_run W sp hlot (ts.length + 1) ⟨[b], [], fun _ => 0⟩ ⟨[b], [], [], fun _ => 0⟩ ⟨rfl, rfl, fun _ _ => rfl, rfl⟩ (lit_start hb) hh (Nat.le_refl _)
  exact ⟨by rw [← e]; exact congrArg List.length S.seen, S.fuses, S.used, L, e⟩
end Wr
end
section
set_option maxRecDepth 100000
set_option maxHeartbeats 1000000
/-! Plain law: from a heap that burns all back to its tree. -/
namespace Wr
theorem burn_step_yes {pl : List Nat} {ts : List (Nat × Nat)} {h : List Int} {s : BS} {i : Nat} (q : hAt pl h (farEnd ts s.seen i) < s.hits (farEnd ts s.seen i) + 1) : burnStep pl ts h s i = ⟨s.seen ++ [farEnd ts s.seen i], s.fuses ++ [i], s.used ++ [i], setF s.hits (farEnd ts s.seen i) (s.hits (farEnd ts s.seen i) + 1)⟩ := by
  unfold burnStep
  simp only
  rw [if_pos q]
theorem burn_step_no {pl : List Nat} {ts : List (Nat × Nat)} {h : List Int} {s : BS} {i : Nat} (q : ¬ hAt pl h (farEnd ts s.seen i) < s.hits (farEnd ts s.seen i) + 1) : burnStep pl ts h s i = ⟨s.seen, s.fuses, s.used ++ [i], setF s.hits (farEnd ts s.seen i) (s.hits (farEnd ts s.seen i) + 1)⟩ := by
  unfold burnStep
  simp only
  rw [if_neg q]
theorem burn_fuses {pl : List Nat} {ts : List (Nat × Nat)} {h : List Int} : ∀ (n : Nat) (s : BS), (∀ i ∈ s.fuses, i ∈ (burnGo pl ts h n s).fuses) ∧ ∀ i ∈ s.used, i ∈ (burnGo pl ts h n s).fuses → i ∈ s.fuses
  | 0, s => ⟨fun i hi => hi, fun i _ hi => hi⟩
  | n + 1, s => by
    cases e : (opens ts s.seen s.used).getLast? with
    | none => rw [burnGo_none e]; exact ⟨fun i hi => hi, fun i _ hi => hi⟩
    | some j =>
      rw [burnGo_some e]
      obtain ⟨h1, h2⟩ := burn_fuses n (burnStep pl ts h s j)
      obtain ⟨_, hju, _⟩ := mem_opens (List.mem_of_getLast? e)
      by_cases q : hAt pl h (farEnd ts s.seen j) < s.hits (farEnd ts s.seen j) + 1
      · rw [burn_step_yes q] at h1 h2 ⊢
        refine ⟨fun i hi => h1 i (List.mem_append_left _ hi), fun i hi hf => ?_⟩
        rcases List.mem_append.mp (h2 i (List.mem_append_left _ hi) hf) with z | z
        · exact z
        · rw [List.mem_singleton.mp z] at hi
          exact absurd hi hju
      · rw [burn_step_no q] at h1 h2 ⊢
        exact ⟨h1, fun i hi hf => h2 i (List.mem_append_left _ hi) hf⟩
theorem back_run {pl : List Nat} {ts : List (Nat × Nat)} {h : List Int} {lot : List Nat} {b : Nat} (W : WebOk pl ts) : ∀ (n : Nat) (l : LS) (s : BS), Step ts lot l s → RB pl ts h b s → (∀ v ∈ l.seen, v ≠ b → l.hits v = hAt pl h v) → l.hits b = 0 → (∀ i, i ∈ lot ↔ i ∈ (burnGo pl ts h n s).fuses) → ts.length + 1 ≤ n + s.used.length →
    Step ts lot (litGo pl ts lot n l) (burnGo pl ts h n s) ∧ (∀ v ∈ (litGo pl ts lot n l).seen, v ≠ b → (litGo pl ts lot n l).hits v = hAt pl h v) ∧ (litGo pl ts lot n l).hits b = 0
  | 0, l, s, S, r, hh, hb, hT, hn => by
    have := nodup_bound r.ri.nd r.ri.lt
    omega
  | n + 1, l, s, S, r, hh, hb, hT, hn => by
    cases e : (opens ts s.seen s.used).getLast? with
    | none =>
      have e2 : (opens ts l.seen l.used).getLast? = none := by rw [← S.seen, ← S.used]; exact e
      rw [burnGo_none e, litGo_none e2]
      exact ⟨S, hh, hb⟩
    | some i =>
      have e2 : (opens ts l.seen l.used).getLast? = some i := by rw [← S.seen, ← S.used]; exact e
      obtain ⟨h1, h2, h3⟩ := mem_opens (List.mem_of_getLast? e)
      have hl : l.seen.length < pl.length := by
        rcases Nat.lt_or_ge l.seen.length pl.length with q | q
        · exact q
        · have hsl : s.seen.length = l.seen.length := congrArg List.length S.seen
          have hle := sub_len r.nd r.sub
          have hall := all_len r.nd W.nd r.sub (by omega)
          have ho := opens_full (used := s.used) W.ends hall
          rw [ho] at e
          cases e
      rw [burnGo_some e] at hT ⊢
      rw [litGo_some hl e2]
      have hfp := far_in (seen := s.seen) W.ends h1
      have hfn := (far_new h3).1
      have hcold := r.cold _ hfp hfn
      have hfb : farEnd ts s.seen i ≠ b := fun z => hfn (by rw [z]; exact r.bank)
      obtain ⟨f1, f2⟩ := burn_fuses (pl := pl) (ts := ts) (h := h) n (burnStep pl ts h s i)
      have hse : farEnd ts l.seen i = farEnd ts s.seen i := by rw [S.seen]
      have hhe : l.hits (farEnd ts s.seen i) = s.hits (farEnd ts s.seen i) := (S.hits _ (by rw [← S.seen]; exact hfn)).symm
      by_cases q : hAt pl h (farEnd ts s.seen i) < s.hits (farEnd ts s.seen i) + 1
      · have hiT : i ∈ lot := (hT i).mpr (f1 i (by rw [burn_step_yes q]; simp))
        refine back_run W n _ _ (S.next (List.mem_of_getLast? e2) (fun _ => by rw [hse, hhe]; exact q) fun z => absurd hiT z) (r.next W.ends e) (fun v hv hvb => ?_) ?_ hT (by rw [burn_used, List.length_append, List.length_singleton]; omega)
        · rw [lit_step_in hiT] at hv ⊢
          rcases List.mem_append.mp hv with z | z
          · exact hh v z hvb
          · rw [List.mem_singleton.mp z, hse]
            show l.hits _ = _
            rw [hhe]
            omega
        · rw [lit_step_in hiT]; exact hb
      · have hiT : i ∉ lot := fun z => by
          have := f2 i (by rw [burn_used]; simp) ((hT i).mp z)
          rw [burn_step_no q] at this
          exact h2 (r.fsub i this)
        refine back_run W n _ _ (S.next (List.mem_of_getLast? e2) (fun z => absurd z hiT) fun _ => by rw [hse, hhe]; omega) (r.next W.ends e) (fun v hv hvb => ?_) ?_ hT (by rw [burn_used, List.length_append, List.length_singleton]; omega)
        · rw [lit_step_out hiT] at hv ⊢
          have hne : v ≠ farEnd ts l.seen i := fun z => (far_new (mem_opens (List.mem_of_getLast? e2)).2.2).1 (z ▸ hv)
          show setF l.hits _ _ v = _
          unfold setF
          rw [if_neg hne]
          exact hh v hv hvb
        · rw [lit_step_out hiT]
          show setF l.hits _ _ b = 0
          unfold setF
          rw [if_neg (by rw [hse]; exact Ne.symm hfb)]
          exact hb
end Wr
end
section
set_option maxRecDepth 100000
set_option maxHeartbeats 1000000
/-! Plain law: cuts; joined, herds, spans all say that no cut is without a tie. -/
namespace Wr
/-! ### cuts told by a test -/
def cr (q : Nat × Nat) (f : Nat → Bool) : Bool := f q.1 != f q.2
theorem crosses_cr (q : Nat × Nat) (U : List Nat) : crosses q U = cr q fun v => decide (v ∈ U) := rfl
theorem cr_xor (q : Nat × Nat) (f g : Nat → Bool) : cr q (fun v => f v != g v) = (cr q f != cr q g) := by
  show ((f q.1 != g q.1) != (f q.2 != g q.2)) = ((f q.1 != f q.2) != (g q.1 != g q.2))
  cases f q.1 <;> cases f q.2 <;> cases g q.1 <;> cases g q.2 <;> rfl
theorem cr_no {q : Nat × Nat} {f : Nat → Bool} : cr q f = false ↔ f q.1 = f q.2 := by
  unfold cr
  cases f q.1 <;> cases f q.2 <;> simp
theorem cr_not (q : Nat × Nat) (f : Nat → Bool) : cr q (fun v => !f v) = cr q f := by
  show ((!f q.1) != (!f q.2)) = (f q.1 != f q.2)
  cases f q.1 <;> cases f q.2 <;> rfl
def WF (pl : List Nat) (ts : List (Nat × Nat)) : Prop := ∀ f : Nat → Bool, (∃ v ∈ pl, f v = true) → (∃ v ∈ pl, f v = false) → ∃ q ∈ ts, cr q f = true
def Ends (pl : List Nat) (ts : List (Nat × Nat)) : Prop := ∀ q ∈ ts, q.1 ∈ pl ∧ q.2 ∈ pl
theorem dec_filter {pl : List Nat} {f : Nat → Bool} {v : Nat} (h : v ∈ pl) : decide (v ∈ pl.filter f) = f v := by
  cases e : f v with
  | true => exact decide_eq_true (List.mem_filter.mpr ⟨h, e⟩)
  | false => exact decide_eq_false fun z => by rw [(List.mem_filter.mp z).2] at e; cases e
theorem cr_filter {pl : List Nat} {f : Nat → Bool} {q : Nat × Nat} (h1 : q.1 ∈ pl) (h2 : q.2 ∈ pl) : crosses q (pl.filter f) = cr q f := by
  show (decide (q.1 ∈ pl.filter f) != decide (q.2 ∈ pl.filter f)) = (f q.1 != f q.2)
  rw [dec_filter h1, dec_filter h2]
theorem whole_iff {pl : List Nat} {ts : List (Nat × Nat)} (he : Ends pl ts) : Whole pl ts ↔ WF pl ts := by
  constructor
  · intro h f ⟨v, hv, fv⟩ ⟨w, hw, fw⟩
    obtain ⟨q, hq, hc⟩ := h (pl.filter f) ⟨v, hv, List.mem_filter.mpr ⟨hv, fv⟩⟩ ⟨w, hw, fun z => by rw [(List.mem_filter.mp z).2] at fw; cases fw⟩
    exact ⟨q, hq, by rw [← cr_filter (he q hq).1 (he q hq).2]; exact hc⟩
  · intro h U ⟨v, hv, fv⟩ ⟨w, hw, fw⟩
    exact h (fun v => decide (v ∈ U)) ⟨v, hv, decide_eq_true fv⟩ ⟨w, hw, decide_eq_false fw⟩
theorem WF.triv {pl : List Nat} {ts : List (Nat × Nat)} (h : WF pl ts) {f : Nat → Bool} (hn : ∀ q ∈ ts, cr q f = false) {v w : Nat} (hv : v ∈ pl) (hw : w ∈ pl) : f v = f w := by
  apply Classical.byContradiction
  intro hne
  have : ∃ q ∈ ts, cr q f = true := by
    cases e1 : f v <;> cases e2 : f w
    · exact absurd (e1.trans e2.symm) hne
    · exact h f ⟨w, hw, e2⟩ ⟨v, hv, e1⟩
    · exact h f ⟨v, hv, e1⟩ ⟨w, hw, e2⟩
    · exact absurd (e1.trans e2.symm) hne
  obtain ⟨q, hq, hc⟩ := this
  rw [hn q hq] at hc
  cases hc
theorem WF.of {pl : List Nat} {ts : List (Nat × Nat)} (h : ∀ f : Nat → Bool, (∀ q ∈ ts, cr q f = false) → ∀ v ∈ pl, ∀ w ∈ pl, f v = f w) : WF pl ts := fun f ⟨v, hv, fv⟩ ⟨w, hw, fw⟩ => Classical.byContradiction fun hno => by
  have := h f (fun q hq => by
    cases e : cr q f with
    | false => rfl
    | true => exact absurd ⟨q, hq, e⟩ hno) v hv w hw
  rw [fv, fw] at this
  cases this
theorem mem_tiesOf {ts : List (Nat × Nat)} {lot : List Nat} {q : Nat × Nat} : q ∈ tiesOf ts lot ↔ ∃ i ∈ lot, tieAt ts i = q := by
  unfold tiesOf
  exact List.mem_map
theorem ends_lot {pl : List Nat} {ts : List (Nat × Nat)} {lot : List Nat} (he : Ends pl ts) (hl : ∀ i ∈ lot, i < ts.length) : Ends pl (tiesOf ts lot) := fun q hq => by
  obtain ⟨i, hi, rfl⟩ := mem_tiesOf.mp hq
  exact he _ (tieAt_mem (hl i hi))
theorem spans_iff {pl : List Nat} {ts : List (Nat × Nat)} {lot : List Nat} {b : Nat} (he : Ends pl ts) (hl : ∀ i ∈ lot, i < ts.length) (hb : b ∈ pl) : Spans pl ts lot b ↔ WF pl (tiesOf ts lot) := by
  constructor
  · intro h f hv hw
    have key : ∀ g : Nat → Bool, g b = true → (∃ w ∈ pl, g w = false) → ∃ q ∈ tiesOf ts lot, cr q g = true := fun g gb ⟨w, hw, gw⟩ => by
      obtain ⟨i, hi, hc⟩ := h (pl.filter g) (List.mem_filter.mpr ⟨hb, gb⟩) ⟨w, hw, fun z => by rw [(List.mem_filter.mp z).2] at gw; cases gw⟩
      have := he _ (tieAt_mem (hl i hi))
      exact ⟨_, mem_tiesOf.mpr ⟨i, hi, rfl⟩, by rw [← cr_filter this.1 this.2]; exact hc⟩
    cases e : f b with
    | true => exact key f e hw
    | false =>
      obtain ⟨v, hv, fv⟩ := hv
      obtain ⟨q, hq, hc⟩ := key (fun v => !f v) (by rw [e]; rfl) ⟨v, hv, by rw [fv]; rfl⟩
      exact ⟨q, hq, by rw [← cr_not]; exact hc⟩
  · intro h seen hbs ⟨c, hc, hcs⟩
    obtain ⟨q, hq, hcr⟩ := h (fun v => decide (v ∈ seen)) ⟨b, hb, decide_eq_true hbs⟩ ⟨c, hc, decide_eq_false hcs⟩
    obtain ⟨i, hi, rfl⟩ := mem_tiesOf.mp hq
    exact ⟨i, hi, hcr⟩
/-! ### joined -/
theorem j_keep {ts : List (Nat × Nat)} : ∀ {s : List Nat} {c : Nat}, c ∈ s → c ∈ ts.foldl jStep s := by
  induction ts with
  | nil => exact fun h => h
  | cons q ts ih =>
    intro s c h
    rw [List.foldl_cons]
    refine ih ?_
    unfold jStep
    split
    · exact List.mem_append_left _ h
    · exact h
theorem j_both {ts : List (Nat × Nat)} {q : Nat × Nat} (hq : q ∈ ts) : ∀ {s : List Nat}, crosses q s = true → q.1 ∈ ts.foldl jStep s ∧ q.2 ∈ ts.foldl jStep s := by
  induction ts with
  | nil => cases hq
  | cons q0 ts ih =>
    intro s hc
    rw [List.foldl_cons]
    by_cases e : q = q0
    · subst e
      have : jStep s q = s ++ [q.1, q.2] := by unfold jStep; rw [if_pos hc]
      rw [this]
      exact ⟨j_keep (by simp), j_keep (by simp)⟩
    · have hq' : q ∈ ts := (List.mem_cons.mp hq).resolve_left e
      have hk : ∀ c ∈ s, c ∈ jStep s q0 := fun c h => by
        unfold jStep
        split
        · exact List.mem_append_left _ h
        · exact h
      cases hc2 : crosses q (jStep s q0) with
      | true => exact ih hq' hc2
      | false =>
        rw [crosses_cr, cr_no] at hc2
        have hc2 : decide (q.1 ∈ jStep s q0) = decide (q.2 ∈ jStep s q0) := hc2
        rcases crosses_iff.mp hc with ⟨a, _⟩ | ⟨_, a⟩
        · have h1 := hk _ a
          rw [decide_eq_true h1] at hc2
          exact ⟨j_keep h1, j_keep (of_decide_eq_true hc2.symm)⟩
        · have h1 := hk _ a
          rw [decide_eq_true h1] at hc2
          exact ⟨j_keep (of_decide_eq_true hc2), j_keep h1⟩
def cntIn (pl s : List Nat) : Nat := (pl.filter fun c => decide (c ∈ s)).length
theorem cntIn_grow {pl s t : List Nat} (nd : pl.Nodup) (h : ∀ c ∈ s, c ∈ t) (hx : ∃ c ∈ pl, c ∉ s ∧ c ∈ t) : cntIn pl s + 1 ≤ cntIn pl t := by
  obtain ⟨c, hc, h1, h2⟩ := hx
  unfold cntIn
  have := sub_len (l := c :: pl.filter fun c => decide (c ∈ s)) (m := pl.filter fun c => decide (c ∈ t)) (List.nodup_cons.mpr ⟨fun z => h1 (by simpa using (List.mem_filter.mp z).2), List.Pairwise.filter _ nd⟩) fun x hx => by
    rcases List.mem_cons.mp hx with q | q
    · rw [q]; exact List.mem_filter.mpr ⟨hc, decide_eq_true h2⟩
    · obtain ⟨a, b⟩ := List.mem_filter.mp q
      exact List.mem_filter.mpr ⟨a, decide_eq_true (h x (of_decide_eq_true b))⟩
  simpa using this
theorem j_run {pl : List Nat} {ts : List (Nat × Nat)} (nd : pl.Nodup) (he : Ends pl ts) (hW : WF pl ts) : ∀ (l s : List Nat), (∃ c ∈ pl, c ∈ s) → (∀ c ∈ pl, c ∈ l.foldl (fun s _ => ts.foldl jStep s) s) ∨ cntIn pl s + l.length ≤ cntIn pl (l.foldl (fun s _ => ts.foldl jStep s) s)
  | [], s, _ => .inr (Nat.le_refl _)
  | x :: l, s, ⟨c0, h0, h0s⟩ => by
    rw [List.foldl_cons]
    rcases j_run nd he hW l (ts.foldl jStep s) ⟨c0, h0, j_keep h0s⟩ with h | h
    · exact .inl h
    · by_cases hall : ∀ c ∈ pl, c ∈ s
      · refine .inl fun c hc => ?_
        have keep : ∀ (l : List Nat) (s : List Nat), c ∈ s → c ∈ l.foldl (fun s _ => ts.foldl jStep s) s := fun l => by
          induction l with
          | nil => exact fun s h => h
          | cons y l ih => exact fun s h => ih _ (j_keep h)
        exact keep l _ (j_keep (hall c hc))
      · right
        have ⟨c, hc⟩ : ∃ c, ¬ (c ∈ pl → c ∈ s) := Classical.not_forall.mp hall
        have hc1 : c ∈ pl := Classical.byContradiction fun z => hc fun y => absurd y z
        have hc2 : c ∉ s := fun z => hc fun _ => z
        obtain ⟨q, hq, hcr⟩ := hW (fun v => decide (v ∈ s)) ⟨c0, h0, decide_eq_true h0s⟩ ⟨c, hc1, decide_eq_false hc2⟩
        have hcr : crosses q s = true := hcr
        obtain ⟨b1, b2⟩ := j_both hq hcr
        have := cntIn_grow (s := s) (t := ts.foldl jStep s) nd (fun c h => j_keep h) (by
          rcases crosses_iff.mp hcr with ⟨_, a⟩ | ⟨a, _⟩
          · exact ⟨_, (he q hq).2, a, b2⟩
          · exact ⟨_, (he q hq).1, a, b1⟩)
        rw [List.length_cons]
        omega
theorem joined_iff {pl : List Nat} {ts : List (Nat × Nat)} (h1 : 1 ≤ pl.length) (nd : pl.Nodup) (he : Ends pl ts) : joinedB pl ts = true ↔ WF pl ts := by
  have hp0 : plAt pl 0 ∈ pl := plAt_mem (by omega)
  have jb : joinedB pl ts = true ↔ ∀ c ∈ pl, c ∈ jSeen pl ts := by
    unfold joinedB
    rw [List.isEmpty_iff, List.filter_eq_nil_iff]
    simp
  rw [jb]
  constructor
  · intro h
    refine WF.of fun f hn v hv w hw => ?_
    have step : ∀ (l : List (Nat × Nat)) (s : List Nat), (∀ q ∈ l, cr q f = false) → (∀ c ∈ s, f c = f (plAt pl 0)) → ∀ c ∈ l.foldl jStep s, f c = f (plAt pl 0) := fun l => by
      induction l with
      | nil => exact fun s _ h => h
      | cons q l ih =>
        intro s hq hs
        rw [List.foldl_cons]
        refine ih _ (fun q' h' => hq q' (List.mem_cons_of_mem _ h')) fun c hc => ?_
        unfold jStep at hc
        split at hc
        · rename_i hcr
          have e := cr_no.mp (hq q (by simp))
          rcases List.mem_append.mp hc with z | z
          · exact hs c z
          · have : f q.1 = f (plAt pl 0) := by
              rcases crosses_iff.mp hcr with ⟨a, _⟩ | ⟨_, a⟩
              · exact hs _ a
              · rw [e]; exact hs _ a
            rcases List.mem_cons.mp z with y | y
            · rw [y]; exact this
            · rw [List.mem_singleton.mp y, ← e]; exact this
        · exact hs c hc
    have outer : ∀ (l s : List Nat), (∀ c ∈ s, f c = f (plAt pl 0)) → ∀ c ∈ l.foldl (fun s _ => ts.foldl jStep s) s, f c = f (plAt pl 0) := fun l => by
      induction l with
      | nil => exact fun s h => h
      | cons x l ih => exact fun s hs => ih _ (step ts s hn hs)
    have := outer pl [plAt pl 0] fun c hc => by rw [List.mem_singleton.mp hc]
    exact (this v (h v hv)).trans (this w (h w hw)).symm
  · intro hW c hc
    rcases j_run nd he hW pl [plAt pl 0] ⟨_, hp0, by simp⟩ with h | h
    · exact h c hc
    · have h2 : cntIn pl (pl.foldl (fun s _ => ts.foldl jStep s) [plAt pl 0]) ≤ pl.length := List.length_filter_le _ _
      have h3 : 1 ≤ cntIn pl [plAt pl 0] := List.length_pos_iff.mpr fun z => by
        have : plAt pl 0 ∈ pl.filter fun c => decide (c ∈ [plAt pl 0]) := List.mem_filter.mpr ⟨hp0, by simp⟩
        rw [z] at this
        cases this
      omega
/-! ### herds -/
structure Hd (pl : List Nat) (dn : List (Nat × Nat)) (found : List (List Nat)) : Prop where
  ne : ∀ h ∈ found, h ≠ []
  sub : ∀ h ∈ found, ∀ v ∈ h, v ∈ pl
  cov : ∀ v ∈ pl, ∃ h ∈ found, v ∈ h
  dis : found.Pairwise fun h k => ∀ v ∈ h, v ∉ k
  con : ∀ f : Nat → Bool, (∀ q ∈ dn, cr q f = false) → ∀ h ∈ found, ∀ v ∈ h, ∀ w ∈ h, f v = f w
  tie : ∀ q ∈ dn, ∃ h ∈ found, q.1 ∈ h ∧ q.2 ∈ h
theorem dis_uniq {found : List (List Nat)} (hd : found.Pairwise fun h k => ∀ v ∈ h, v ∉ k) : ∀ {h k : List Nat} {v : Nat}, h ∈ found → k ∈ found → v ∈ h → v ∈ k → h = k := by
  induction hd with
  | nil => exact fun h => nomatch h
  | cons h1 h2 ih =>
    intro h k v hh hk hv kv
    rcases List.mem_cons.mp hh with a | a <;> rcases List.mem_cons.mp hk with b | b
    · rw [a, b]
    · subst a; exact absurd kv (h1 k b v hv)
    · subst b; exact absurd hv (h1 h a v kv)
    · exact ih a b hv kv
theorem mem_srtN {l : List Nat} {v : Nat} : v ∈ srtN l ↔ v ∈ l := (List.mergeSort_perm _ _).mem_iff
theorem Hd.next {pl : List Nat} {dn : List (Nat × Nat)} {found : List (List Nat)} (D : Hd pl dn found) {q : Nat × Nat} (h1 : q.1 ∈ pl) (h2 : q.2 ∈ pl) : Hd pl (dn ++ [q]) (herdStep found q) := by
  have mJ : ∀ v, v ∈ srtN ((found.filter (hit q)).flatten) ↔ ∃ h ∈ found, hit q h = true ∧ v ∈ h := fun v => by
    rw [mem_srtN, List.mem_flatten]
    constructor
    · rintro ⟨h, hh, hv⟩
      exact ⟨h, (List.mem_filter.mp hh).1, (List.mem_filter.mp hh).2, hv⟩
    · rintro ⟨h, hh, ht, hv⟩
      exact ⟨h, List.mem_filter.mpr ⟨hh, ht⟩, hv⟩
  have mR : ∀ k, k ∈ (found.filter fun h => !decide (h ∈ found.filter (hit q))) ↔ k ∈ found ∧ hit q k = false := fun k => by
    rw [List.mem_filter]
    constructor
    · rintro ⟨a, b⟩
      refine ⟨a, ?_⟩
      cases e : hit q k with
      | false => rfl
      | true => rw [decide_eq_true (List.mem_filter.mpr ⟨a, e⟩)] at b; cases b
    · rintro ⟨a, b⟩
      refine ⟨a, ?_⟩
      rw [decide_eq_false fun z => by rw [(List.mem_filter.mp z).2] at b; cases b]
      rfl
  have hitl : ∀ {h : List Nat}, q.1 ∈ h → hit q h = true := fun z => by unfold hit; rw [decide_eq_true z]; rfl
  have hitr : ∀ {h : List Nat}, q.2 ∈ h → hit q h = true := fun z => by unfold hit; rw [decide_eq_true z, Bool.or_true]
  have hitx : ∀ {h : List Nat}, hit q h = true → q.1 ∈ h ∨ q.2 ∈ h := fun z => by
    unfold hit at z
    simpa using z
  obtain ⟨k1, hk1, hv1⟩ := D.cov _ h1
  obtain ⟨k2, hk2, hv2⟩ := D.cov _ h2
  have j1 := (mJ q.1).mpr ⟨k1, hk1, hitl hv1, hv1⟩
  have j2 := (mJ q.2).mpr ⟨k2, hk2, hitr hv2, hv2⟩
  unfold herdStep
  generalize hJ : srtN ((found.filter (hit q)).flatten) = J at *
  generalize hR : (found.filter fun h => !decide (h ∈ found.filter (hit q))) = R at *
  have keep : ∀ h ∈ found, ∃ k ∈ [J] ++ R, ∀ v ∈ h, v ∈ k := fun h hh => by
    cases e : hit q h with
    | true => exact ⟨J, by simp, fun v hv => (mJ v).mpr ⟨h, hh, e, hv⟩⟩
    | false => exact ⟨h, List.mem_append_right _ ((mR h).mpr ⟨hh, e⟩), fun v hv => hv⟩
  refine ⟨fun h hh => ?_, fun h hh v hv => ?_, fun v hv => ?_, ?_, fun f hf h hh v hv w hw => ?_, fun q' hq' => ?_⟩
  · rcases List.mem_append.mp hh with z | z
    · rw [List.mem_singleton.mp z]; exact fun e => by rw [e] at j1; cases j1
    · exact D.ne h ((mR h).mp z).1
  · rcases List.mem_append.mp hh with z | z
    · rw [List.mem_singleton.mp z] at hv
      obtain ⟨k, hk, _, hvk⟩ := (mJ v).mp hv
      exact D.sub k hk v hvk
    · exact D.sub h ((mR h).mp z).1 v hv
  · obtain ⟨h, hh, hv⟩ := D.cov v hv
    obtain ⟨k, hk, hs⟩ := keep h hh
    exact ⟨k, hk, hs v hv⟩
  · refine List.pairwise_cons.mpr ⟨fun k hk v hv hvk => ?_, ?_⟩
    · obtain ⟨h, hh, ht, hvh⟩ := (mJ v).mp hv
      obtain ⟨a, b⟩ := (mR k).mp hk
      have := dis_uniq D.dis hh a hvh hvk
      rw [this, b] at ht
      cases ht
    · show R.Pairwise _
      rw [← hR]
      exact List.Pairwise.filter _ D.dis
  · have hf0 : ∀ q ∈ dn, cr q f = false := fun x hx => hf x (List.mem_append_left _ hx)
    have hq := cr_no.mp (hf q (by simp))
    rcases List.mem_append.mp hh with z | z
    · rw [List.mem_singleton.mp z] at hv hw
      have one : ∀ x, x ∈ J → f x = f q.1 := fun x hx => by
        obtain ⟨k, hk, ht, hxk⟩ := (mJ x).mp hx
        rcases hitx ht with y | y
        · exact D.con f hf0 k hk x hxk _ y
        · rw [hq]; exact D.con f hf0 k hk x hxk _ y
      exact (one v hv).trans (one w hw).symm
    · exact D.con f hf0 h ((mR h).mp z).1 v hv w hw
  · rcases List.mem_append.mp hq' with z | z
    · obtain ⟨h, hh, a, b⟩ := D.tie q' z
      obtain ⟨k, hk, hs⟩ := keep h hh
      exact ⟨k, hk, hs _ a, hs _ b⟩
    · rw [List.mem_singleton.mp z]
      exact ⟨J, by simp, j1, j2⟩
theorem Hd.all {pl : List Nat} : ∀ {ts dn : List (Nat × Nat)} {found : List (List Nat)}, Hd pl dn found → Ends pl ts → Hd pl (dn ++ ts) (ts.foldl herdStep found)
  | [], dn, found, D, _ => by rw [List.append_nil]; exact D
  | q :: ts, dn, found, D, he => by
    have h := he q (by simp)
    have := Hd.all (D.next h.1 h.2) fun x hx => he x (List.mem_cons_of_mem _ hx)
    rw [List.append_assoc] at this
    exact this
theorem Hd.start {pl : List Nat} (nd : pl.Nodup) : Hd pl [] (pl.map fun c => [c]) := by
  refine ⟨fun h hh => ?_, fun h hh v hv => ?_, fun v hv => ⟨[v], List.mem_map.mpr ⟨v, hv, rfl⟩, by simp⟩, ?_, fun f _ h hh v hv w hw => ?_, fun q hq => nomatch hq⟩
  · obtain ⟨c, _, rfl⟩ := List.mem_map.mp hh
    simp
  · obtain ⟨c, hc, rfl⟩ := List.mem_map.mp hh
    rw [List.mem_singleton.mp hv]; exact hc
  · rw [List.pairwise_map]
    refine nd.imp fun {a b} hab v hv hw => ?_
    rw [List.mem_singleton.mp hv] at hw
    exact hab (List.mem_singleton.mp hw)
  · obtain ⟨c, hc, rfl⟩ := List.mem_map.mp hh
    rw [List.mem_singleton.mp hv, List.mem_singleton.mp hw]
theorem herds_one {pl : List Nat} {ts : List (Nat × Nat)} (h1 : 1 ≤ pl.length) (nd : pl.Nodup) (he : Ends pl ts) : (herdsOf pl ts).length = 1 ↔ WF pl ts := by
  have D : Hd pl ([] ++ ts) (ts.foldl herdStep (pl.map fun c => [c])) := (Hd.start nd).all he
  rw [List.nil_append] at D
  have hl : (herdsOf pl ts).length = (ts.foldl herdStep (pl.map fun c => [c])).length := (List.mergeSort_perm _ _).length_eq
  rw [hl]
  generalize ts.foldl herdStep (pl.map fun c => [c]) = found at D
  have hp0 : plAt pl 0 ∈ pl := plAt_mem (by omega)
  constructor
  · intro h
    obtain ⟨k, rfl⟩ := List.length_eq_one_iff.mp h
    refine WF.of fun f hn v hv w hw => ?_
    obtain ⟨k1, hk1, hv1⟩ := D.cov v hv
    obtain ⟨k2, hk2, hv2⟩ := D.cov w hw
    rw [List.mem_singleton.mp hk1] at hv1
    rw [List.mem_singleton.mp hk2] at hv2
    exact D.con f hn k (by simp) v hv1 w hv2
  · intro hW
    match found, D with
    | [], D =>
      obtain ⟨k, hk, _⟩ := D.cov _ hp0
      cases hk
    | [_], _ => rfl
    | h :: k :: rest, D =>
      exfalso
      obtain ⟨v, hv⟩ := List.exists_mem_of_ne_nil h (D.ne h (by simp))
      obtain ⟨w, hw⟩ := List.exists_mem_of_ne_nil k (D.ne k (by simp))
      have hd := (List.pairwise_cons.mp D.dis).1
      have hwh : w ∉ h := fun z => hd k (by simp) w z hw
      obtain ⟨q, hq, hc⟩ := hW (fun v => decide (v ∈ h)) ⟨v, D.sub h (by simp) v hv, decide_eq_true hv⟩ ⟨w, D.sub k (by simp) w hw, decide_eq_false hwh⟩
      obtain ⟨m, hm, a, b⟩ := D.tie q hq
      have hno : cr q (fun v => decide (v ∈ h)) = false := cr_no.mpr (by
        show decide (q.1 ∈ h) = decide (q.2 ∈ h)
        rcases List.mem_cons.mp hm with z | z
        · subst z
          rw [decide_eq_true a, decide_eq_true b]
        · rw [decide_eq_false fun y => hd m z _ y a, decide_eq_false fun y => hd m z _ y b])
      rw [hno] at hc
      cases hc
end Wr
end
section
set_option maxRecDepth 100000
set_option maxHeartbeats 1000000
/-! Plain law: the trees of the program and of the law. -/
namespace Wr
theorem WebOk.ends' {pl : List Nat} {ts : List (Nat × Nat)} (W : WebOk pl ts) : Ends pl ts := W.ends
theorem WebOk.wf {pl : List Nat} {ts : List (Nat × Nat)} (W : WebOk pl ts) : WF pl ts := (whole_iff W.ends').mp W.whole
/-- a tree: as many ties as are needed, and no cut without one -/
structure TreeOk (pl : List Nat) (ts : List (Nat × Nat)) (l : List Nat) : Prop where
  lt : ∀ i ∈ l, i < ts.length
  asc : l.Pairwise (· < ·)
  len : l.length + 1 = pl.length
  wf : WF pl (tiesOf ts l)
theorem lots_all : ∀ (n : Nat) (l : List Nat), l.Pairwise (· < ·) → (∀ i ∈ l, i < n) → l ∈ lotsRaw n
  | 0, l, _, h => by
    cases l with
    | nil => exact List.mem_singleton.mpr rfl
    | cons a l => exact absurd (h a (by simp)) (by omega)
  | n + 1, l, ha, h => by
    rw [lotsRaw_succ]
    unfold lotStep
    by_cases hn : n ∈ l
    · obtain ⟨l1, l2, rfl⟩ := List.append_of_mem hn
      have h2 : l2 = [] := by
        cases l2 with
        | nil => rfl
        | cons a l2 =>
          have h3 := (List.pairwise_cons.mp (List.pairwise_append.mp ha).2.1).1 a (by simp)
          have h4 := h a (by simp)
          omega
      subst h2
      refine List.mem_append_right _ (List.mem_map.mpr ⟨l1, lots_all n l1 (List.pairwise_append.mp ha).1 fun i hi => (List.pairwise_append.mp ha).2.2 i hi n (by simp), rfl⟩)
    · refine List.mem_append_left _ (lots_all n l ha fun i hi => ?_)
      have h1 := h i hi
      have h2 : i ≠ n := fun z => hn (z ▸ hi)
      omega
theorem ties_range (ts : List (Nat × Nat)) : tiesOf ts (List.range ts.length) = ts := range_ties ts
theorem tree_cond {pl : List Nat} {ts : List (Nat × Nat)} (W : WebOk pl ts) (h1 : 1 ≤ pl.length) {l : List Nat} (hl : l ∈ lotsRaw ts.length) : (decide ((l.length : Int) = rankOf pl ts (List.range ts.length)) && freeLot pl ts l) = true ↔ TreeOk pl ts l := by
  obtain ⟨_, a, c⟩ := lots_mem _ _ hl
  have hr : rankOf pl ts (List.range ts.length) = (pl.length : Int) - 1 := by
    unfold rankOf pieces
    rw [ties_range, (herds_one h1 W.nd W.ends').mpr W.wf]
    rfl
  have hh := herds_one h1 W.nd (ends_lot W.ends' a)
  rw [Bool.and_eq_true, decide_eq_true_eq, hr]
  unfold freeLot rankOf pieces
  rw [decide_eq_true_eq]
  constructor
  · rintro ⟨e1, e2⟩
    exact ⟨a, c, by omega, hh.mp (by omega)⟩
  · intro T
    have := T.len
    have := hh.mpr T.wf
    exact ⟨by omega, by omega⟩
theorem mem_trees {pl : List Nat} {ts : List (Nat × Nat)} (W : WebOk pl ts) (h1 : 1 ≤ pl.length) {l : List Nat} : l ∈ treesOf pl ts ↔ TreeOk pl ts l := by
  unfold treesOf
  have e : l ∈ everyLot ts.length ↔ l ∈ lotsRaw ts.length := (List.mergeSort_perm _ _).mem_iff
  rw [List.mem_filter, e]
  constructor
  · rintro ⟨a, b⟩
    exact (tree_cond W h1 a).mp b
  · intro T
    have a := lots_all ts.length l T.asc T.lt
    exact ⟨a, (tree_cond W h1 a).mpr T⟩
theorem ltRaw_eq (n : Nat) (hn : 1 ≤ n) : ∀ m : Nat, ltRaw n m = (lotsRaw m).filter fun l => decide ((l.length : Int) ≤ (n : Int) - 1)
  | 0 => by
    refine (List.filter_eq_self.mpr fun l hl => ?_).symm
    have hl : l ∈ [[]] := hl
    rw [List.mem_singleton.mp hl]
    exact decide_eq_true (by simp; omega)
  | m + 1 => by
    rw [ltRaw_succ, lotsRaw_succ, ltRaw_eq n hn m]
    unfold ltStep lotStep
    rw [List.filter_append, List.filter_map, List.filter_filter]
    congr 2
    refine List.filter_congr fun l _ => ?_
    show (decide ((l.length : Int) < (n : Int) - 1) && decide ((l.length : Int) ≤ (n : Int) - 1)) = decide (((l ++ [m]).length : Int) ≤ (n : Int) - 1)
    rw [List.length_append, List.length_singleton]
    by_cases h : (l.length : Int) < (n : Int) - 1
    · have h2 : (l.length : Int) ≤ (n : Int) - 1 := by omega
      have h3 : ((l.length + 1 : Nat) : Int) ≤ (n : Int) - 1 := by omega
      rw [decide_eq_true h, decide_eq_true h2, decide_eq_true h3]
      rfl
    · have h3 : ¬ ((l.length + 1 : Nat) : Int) ≤ (n : Int) - 1 := by omega
      rw [decide_eq_false h, decide_eq_false h3, Bool.false_and]
theorem trees_perm {pl : List Nat} {ts : List (Nat × Nat)} (W : WebOk pl ts) (h1 : 1 ≤ pl.length) : (lawTrees pl ts).Perm (treesOf pl ts) := by
  have p1 : (lawTrees pl ts).Perm ((ltFull pl.length ts.length).filter fun l => joinedB pl (tiesOf ts l)) := List.mergeSort_perm _ _
  have p2 : (treesOf pl ts).Perm ((lotsRaw ts.length).filter fun l => decide ((l.length : Int) = rankOf pl ts (List.range ts.length)) && freeLot pl ts l) := (List.mergeSort_perm _ _).filter _
  refine p1.trans (List.Perm.trans (List.Perm.of_eq ?_) p2.symm)
  unfold ltFull
  rw [ltRaw_eq _ h1, List.filter_filter, List.filter_filter]
  refine List.filter_congr fun l hl => ?_
  obtain ⟨_, a, c⟩ := lots_mem _ _ hl
  have hj := joined_iff h1 W.nd (ends_lot W.ends' a)
  have ht := tree_cond W h1 hl
  rw [Bool.eq_iff_iff, ht]
  simp only [Bool.and_eq_true, decide_eq_true_eq]
  rw [hj]
  constructor
  · rintro ⟨⟨e1, e2⟩, _⟩
    exact ⟨a, c, by omega, e1⟩
  · intro T
    have := T.len
    have e2 : (l.length : Int) = (pl.length : Int) - 1 := by omega
    have e3 : (l.length : Int) ≤ (pl.length : Int) - 1 := by omega
    exact ⟨⟨T.wf, e2⟩, e3⟩
end Wr
end
section
set_option maxRecDepth 100000
set_option maxHeartbeats 1000000
/-! Plain law: trees and what burns all, one to one. -/
namespace Wr
structure Hip (pl : List Nat) (ts : List (Nat × Nat)) (b : Nat) (h : List Int) : Prop where
  len : h.length = pl.length
  bank : hAt pl h b = 0
  pos : ∀ v ∈ pl, 0 ≤ hAt pl h v
  nb : ∀ U, ¬ Bars pl ts h b U
theorem h_map {pl : List Nat} (nd : pl.Nodup) (f : Nat → Int) {v : Nat} (hv : v ∈ pl) : hAt pl (pl.map f) v = f v := by
  obtain ⟨h1, h2⟩ := plAt_idx hv
  unfold hAt
  rw [List.getD_eq_getElem?_getD, List.getElem?_map, List.getElem?_eq_getElem h1]
  show f pl[pl.idxOf v] = f v
  rw [List.getElem_idxOf h1]
theorem map_h {pl : List Nat} {h : List Int} (nd : pl.Nodup) (hl : h.length = pl.length) : pl.map (hAt pl h) = h := by
  apply List.ext_getElem?
  intro i
  rw [List.getElem?_map]
  by_cases hi : i < pl.length
  · rw [List.getElem?_eq_getElem hi, List.getElem?_eq_getElem (by omega)]
    show some (hAt pl h pl[i]) = some h[i]
    have e : pl.idxOf pl[i] = i := by
      have hm : pl[i] ∈ pl := List.getElem_mem hi
      obtain ⟨h1, h2⟩ := plAt_idx hm
      refine pl_inj nd h1 hi (h2.trans ?_)
      unfold plAt
      rw [List.getD_eq_getElem?_getD, List.getElem?_eq_getElem hi]
      rfl
    unfold hAt
    rw [e, List.getD_eq_getElem?_getD, List.getElem?_eq_getElem (by omega)]
    rfl
  · rw [List.getElem?_eq_none (by omega), List.getElem?_eq_none (by omega)]
    rfl
theorem lit_at {pl : List Nat} {ts : List (Nat × Nat)} {lot : List Nat} {b : Nat} (nd : pl.Nodup) : ∀ v ∈ pl, hAt pl (litBy pl ts lot b) v = (litEnd pl ts lot b).hits v := fun v hv => h_map nd _ hv
theorem lit_hip {pl : List Nat} {ts : List (Nat × Nat)} {lot : List Nat} {b : Nat} (W : WebOk pl ts) (hb : b ∈ pl) (sp : Spans pl ts lot b) (hlot : ∀ i ∈ lot, i < ts.length) : Hip pl ts b (litBy pl ts lot b) := by
  have h0 := fun v => lit_hits (pl := pl) (ts := ts) (lot := lot) (ts.length + 1) ⟨[b], [], fun _ => 0⟩ v
  have pos : ∀ v ∈ pl, 0 ≤ hAt pl (litBy pl ts lot b) v := fun v hv => by
    rw [lit_at W.nd v hv]
    exact (h0 v).1
  refine ⟨lit_len pl ts lot b, ?_, pos, ?_⟩
  · rw [lit_at W.nd b hb]
    exact (h0 b).2 (by simp)
  · exact (burnt_iff W.nd W.ends hb fun v hv _ => pos v hv).mp (lit_burns W hb sp hlot (lit_at W.nd)).1
theorem TreeOk.spans {pl : List Nat} {ts : List (Nat × Nat)} {lot : List Nat} {b : Nat} (W : WebOk pl ts) (hb : b ∈ pl) (T : TreeOk pl ts lot) : Spans pl ts lot b := (spans_iff W.ends' T.lt hb).mpr T.wf
/-- the light's heap tells the fuses -/
theorem lit_fuses {pl : List Nat} {ts : List (Nat × Nat)} {lot : List Nat} {b : Nat} (W : WebOk pl ts) (hb : b ∈ pl) (sp : Spans pl ts lot b) (hlot : ∀ i ∈ lot, i < ts.length) : (burnt pl ts (litBy pl ts lot b) b).fuses.Nodup ∧ pl.length = 1 + (burnt pl ts (litBy pl ts lot b) b).fuses.length ∧ (∀ i ∈ (burnt pl ts (litBy pl ts lot b) b).fuses, i ∈ lot ∧ i ∈ (litEnd pl ts lot b).used) := by
  have H := lit_hip W hb sp hlot
  obtain ⟨r, _⟩ := burn_inv (h := litBy pl ts lot b) W.ends hb fun v hv _ => H.pos v hv
  obtain ⟨e1, e2, _⟩ := lit_burns W hb sp hlot (lit_at W.nd)
  refine ⟨r.fnd, by rw [← e1]; exact r.fl, fun i hi => ?_⟩
  rw [e2] at hi
  obtain ⟨a, c⟩ := List.mem_filter.mp hi
  exact ⟨of_decide_eq_true c, a⟩
theorem span_many {pl : List Nat} {ts : List (Nat × Nat)} {lot : List Nat} {b : Nat} (W : WebOk pl ts) (hb : b ∈ pl) (hlot : ∀ i ∈ lot, i < ts.length) (h : WF pl (tiesOf ts lot)) : pl.length ≤ lot.length + 1 := by
  obtain ⟨a, e, c⟩ := lit_fuses W hb ((spans_iff W.ends' hlot hb).mpr h) hlot
  have := sub_len a fun i hi => (c i hi).1
  omega
theorem tree_fuses {pl : List Nat} {ts : List (Nat × Nat)} {lot : List Nat} {b : Nat} (W : WebOk pl ts) (hb : b ∈ pl) (T : TreeOk pl ts lot) : (∀ i, i ∈ (burnt pl ts (litBy pl ts lot b) b).fuses ↔ i ∈ lot) ∧ ∀ i ∈ lot, i ∈ (litEnd pl ts lot b).used := by
  obtain ⟨a, e, c⟩ := lit_fuses W hb (T.spans W hb) T.lt
  have hl := T.len
  have hall := all_len a (T.asc.imp fun h => Nat.ne_of_lt h) (fun i hi => (c i hi).1) (by omega)
  exact ⟨fun i => ⟨fun hi => (c i hi).1, fun hi => hall i hi⟩, fun i hi => (c i (hall i hi)).2⟩
theorem asc_ext : ∀ {l m : List Nat}, l.Pairwise (· < ·) → m.Pairwise (· < ·) → (∀ x, x ∈ l ↔ x ∈ m) → l = m
  | [], [], _, _, _ => rfl
  | [], y :: m, _, _, h => absurd ((h y).mpr (by simp)) (by simp)
  | x :: l, [], _, _, h => absurd ((h x).mp (by simp)) (by simp)
  | x :: l, y :: m, hl, hm, h => by
    obtain ⟨l1, l2⟩ := List.pairwise_cons.mp hl
    obtain ⟨m1, m2⟩ := List.pairwise_cons.mp hm
    have e : x = y := by
      rcases List.mem_cons.mp ((h x).mp (by simp)) with a | a
      · exact a
      · rcases List.mem_cons.mp ((h y).mpr (by simp)) with c | c
        · exact c.symm
        · have := m1 x a
          have := l1 y c
          omega
    subst e
    rw [asc_ext l2 m2 fun z => ?_]
    constructor
    · intro hz
      have := l1 z hz
      rcases List.mem_cons.mp ((h z).mp (List.mem_cons_of_mem _ hz)) with a | a
      · omega
      · exact a
    · intro hz
      have := m1 z hz
      rcases List.mem_cons.mp ((h z).mpr (List.mem_cons_of_mem _ hz)) with a | a
      · omega
      · exact a
theorem lit_inj {pl : List Nat} {ts : List (Nat × Nat)} {l1 l2 : List Nat} {b : Nat} (W : WebOk pl ts) (hb : b ∈ pl) (T1 : TreeOk pl ts l1) (T2 : TreeOk pl ts l2) (e : litBy pl ts l1 b = litBy pl ts l2 b) : l1 = l2 := by
  refine asc_ext T1.asc T2.asc fun x => ?_
  rw [← (tree_fuses W hb T1).1 x, ← (tree_fuses W hb T2).1 x, e]
/-- the fuses join all that is seen -/
theorem fuse_join {pl : List Nat} {ts : List (Nat × Nat)} {h : List Int} {b : Nat} (W : WebOk pl ts) (hb : b ∈ pl) (h0 : ∀ v ∈ pl, v ≠ b → 0 ≤ hAt pl h v) : ∀ f : Nat → Bool, (∀ i ∈ (burnt pl ts h b).fuses, cr (tieAt ts i) f = false) → ∀ v ∈ (burnt pl ts h b).seen, f v = f b := by
  refine (burn_run (pl := pl) (ts := ts) (h := h) (fun s => RB pl ts h b s ∧ ∀ f : Nat → Bool, (∀ i ∈ s.fuses, cr (tieAt ts i) f = false) → ∀ v ∈ s.seen, f v = f b) (fun s r => ⟨r.1.ri.nd, r.1.ri.lt⟩) (fun s i ⟨r, hj⟩ e => ⟨r.next W.ends e, ?_⟩) (ts.length + 1) ⟨[b], [], [], fun _ => 0⟩ ⟨⟨⟨List.nodup_nil, (fun i hi => nomatch hi), (fun i hi => nomatch hi), fun v hv => rfl⟩, List.pairwise_singleton _ _, fun c hc => by rw [List.mem_singleton.mp hc]; exact hb, List.mem_singleton.mpr rfl, fun v hv hn => h0 v hv fun z => hn (by rw [z]; simp), (fun i hi => nomatch hi), List.nodup_nil, rfl, (fun i hi => nomatch hi)⟩, fun f _ v hv => by rw [List.mem_singleton.mp hv]⟩ (Nat.le_refl _)).1.2
  obtain ⟨h1, h2, h3⟩ := mem_opens (List.mem_of_getLast? e)
  intro f hf v hv
  by_cases q : hAt pl h (farEnd ts s.seen i) < s.hits (farEnd ts s.seen i) + 1
  · rw [burn_step_yes q] at hf hv
    have hf0 := fun j hj => hf j (List.mem_append_left _ hj)
    rcases List.mem_append.mp hv with z | z
    · exact hj f hf0 v z
    · have hi := cr_no.mp (hf i (by simp))
      have ends : ∀ x, x ∈ tS (tieAt ts i) → f x = f (tieAt ts i).1 := fun x hx => by
        rcases mem_tS.mp hx with y | y
        · rw [y]
        · rw [y, hi]
      obtain ⟨w, hw1, hw2⟩ := near_in h3
      have hfar : farEnd ts s.seen i ∈ tS (tieAt ts i) := (far_at h3 (far_new h3).1).mpr rfl
      rw [List.mem_singleton.mp z, ends _ hfar, ← ends w hw1]
      exact hj f hf0 w hw2
  · rw [burn_step_no q] at hf hv
    exact hj f hf v hv
/-- from a heap that burns all back to its tree -/
theorem back_tree {pl : List Nat} {ts : List (Nat × Nat)} {h : List Int} {b : Nat} (W : WebOk pl ts) (hb : b ∈ pl) (H : Hip pl ts b h) : ∃ lot, TreeOk pl ts lot ∧ litBy pl ts lot b = h := by
  have h0 : ∀ v ∈ pl, v ≠ b → 0 ≤ hAt pl h v := fun v hv _ => H.pos v hv
  obtain ⟨r, ho⟩ := burn_inv (h := h) W.ends hb h0
  have hlen := (burnt_iff W.nd W.ends hb h0).mpr H.nb
  have hall := all_len r.nd W.nd r.sub hlen
  generalize hT : (List.range ts.length).filter (fun i => decide (i ∈ (burnt pl ts h b).fuses)) = T
  have mT : ∀ i, i ∈ T ↔ i ∈ (burnt pl ts h b).fuses := fun i => by
    rw [← hT, List.mem_filter, List.mem_range, decide_eq_true_eq]
    exact ⟨fun z => z.2, fun z => ⟨r.ri.lt i (r.fsub i z), z⟩⟩
  have ltT : ∀ i ∈ T, i < ts.length := fun i hi => r.ri.lt i (r.fsub i ((mT i).mp hi))
  have ascT : T.Pairwise (· < ·) := by
    rw [← hT]
    exact List.Pairwise.filter _ List.pairwise_lt_range
  have lenT : T.length = (burnt pl ts h b).fuses.length := by
    have a := sub_len (ascT.imp fun h => Nat.ne_of_lt h) fun i hi => (mT i).mp hi
    have c := sub_len r.fnd fun i hi => (mT i).mpr hi
    omega
  have fl := r.fl
  have wfT : WF pl (tiesOf ts T) := WF.of fun f hn v hv w hw => by
    have key := fuse_join (h := h) W hb h0 f fun i hi => hn _ (mem_tiesOf.mpr ⟨i, (mT i).mpr hi, rfl⟩)
    rw [key v (hall v hv), key w (hall w hw)]
  refine ⟨T, ⟨ltT, ascT, by omega, wfT⟩, ?_⟩
  obtain ⟨S, e1, e2⟩ := back_run (h := h) (lot := T) (b := b) W (ts.length + 1) ⟨[b], [], fun _ => 0⟩ ⟨[b], [], [], fun _ => 0⟩ ⟨rfl, rfl, fun _ _ => rfl, rfl⟩ ⟨⟨List.nodup_nil, (fun i hi => nomatch hi), (fun i hi => nomatch hi), fun v hv => rfl⟩, List.pairwise_singleton _ _, fun c hc => by rw [List.mem_singleton.mp hc]; exact hb, List.mem_singleton.mpr rfl, fun v hv hn => h0 v hv fun z => hn (by rw [z]; simp), (fun i hi => nomatch hi), List.nodup_nil, rfl, (fun i hi => nomatch hi)⟩ (fun v hv hvb => absurd (List.mem_singleton.mp hv) hvb) rfl mT (Nat.le_refl _)
  have hs : (burnt pl ts h b).seen = (litEnd pl ts T b).seen := S.seen
  rw [← map_h W.nd H.len]
  unfold litBy
  refine List.map_congr_left fun v hv => ?_
  by_cases q : v = b
  · rw [q, H.bank]
    exact e2
  · refine e1 v ?_ q
    show v ∈ (litEnd pl ts T b).seen
    rw [← hs]
    exact hall v hv
end Wr
end
section
set_option maxRecDepth 100000
set_option maxHeartbeats 1000000
/-! Plain law: levels, and the ties that the light never used. -/
namespace Wr
theorem lit_run {pl : List Nat} {ts : List (Nat × Nat)} {lot : List Nat} (P : LS → Prop) (hs : ∀ s i, P s → s.seen.length < pl.length → (opens ts s.seen s.used).getLast? = some i → P (litStep ts lot s i)) : ∀ (n : Nat) (s : LS), P s → P (litGo pl ts lot n s)
  | 0, s, h => h
  | n + 1, s, h => by
    by_cases hl : s.seen.length < pl.length
    · cases e : (opens ts s.seen s.used).getLast? with
      | none => rw [litGo_none e]; exact h
      | some i =>
        rw [litGo_some hl e]
        exact lit_run P hs n _ (hs s i h hl e)
    · rw [litGo_stop hl]; exact h
theorem sum_set {pl : List Nat} (nd : pl.Nodup) {f : Nat → Int} {c : Nat} (hc : c ∈ pl) : (pl.map (setF f c (f c + 1))).sum = (pl.map f).sum + 1 := by
  induction pl with
  | nil => cases hc
  | cons x l ih =>
    obtain ⟨h1, h2⟩ := List.nodup_cons.mp nd
    rw [List.map_cons, List.map_cons, List.sum_cons, List.sum_cons]
    by_cases e : x = c
    · subst e
      have : l.map (setF f x (f x + 1)) = l.map f := List.map_congr_left fun y hy => by
        have hne : ¬ y = x := fun z => h1 (by rw [← z]; exact hy)
        unfold setF
        rw [if_neg hne]
      rw [this]
      have : setF f x (f x + 1) x = f x + 1 := by unfold setF; rw [if_pos rfl]
      omega
    · have hc' : c ∈ l := (List.mem_cons.mp hc).resolve_left (Ne.symm e)
      have := ih h2 hc'
      have : setF f c (f c + 1) x = f x := by unfold setF; rw [if_neg e]
      omega
theorem sum_zero (pl : List Nat) : (pl.map fun _ => (0 : Int)).sum = 0 := by
  induction pl with
  | nil => rfl
  | cons x l ih => rw [List.map_cons, List.sum_cons, ih]; rfl
theorem lit_sum {pl : List Nat} {ts : List (Nat × Nat)} {lot : List Nat} {b : Nat} (W : WebOk pl ts) : (pl.map (litEnd pl ts lot b).hits).sum + ((litEnd pl ts lot b).seen.length : Int) = 1 + ((litEnd pl ts lot b).used.length : Int) := by
  refine lit_run (fun s => (pl.map s.hits).sum + (s.seen.length : Int) = 1 + (s.used.length : Int)) (fun s i h _ e => ?_) _ _ ?_
  · obtain ⟨h1, _, _⟩ := mem_opens (List.mem_of_getLast? e)
    by_cases q : i ∈ lot
    · rw [lit_step_in q]
      show (pl.map s.hits).sum + ((s.seen ++ [farEnd ts s.seen i]).length : Int) = 1 + ((s.used ++ [i]).length : Int)
      rw [List.length_append, List.length_append, List.length_singleton, List.length_singleton]
      omega
    · rw [lit_step_out q]
      show (pl.map (setF s.hits _ _)).sum + (s.seen.length : Int) = 1 + ((s.used ++ [i]).length : Int)
      rw [sum_set W.nd (far_in W.ends h1), List.length_append, List.length_singleton]
      omega
  · show (pl.map fun _ => (0 : Int)).sum + (([b] : List Nat).length : Int) = 1 + (([] : List Nat).length : Int)
    rw [sum_zero]
    rfl
/-! ### the sum of all ties at places -/
theorem sum_add (pl : List Nat) (f g : Nat → Int) : (pl.map fun v => f v + g v).sum = (pl.map f).sum + (pl.map g).sum := by
  induction pl with
  | nil => rfl
  | cons x l ih => rw [List.map_cons, List.map_cons, List.map_cons, List.sum_cons, List.sum_cons, List.sum_cons, ih]; omega
theorem sum_one' {pl : List Nat} (nd : pl.Nodup) {c : Nat} (hc : c ∈ pl) : (pl.map fun v => if v = c then (1 : Int) else 0).sum = 1 := by
  have h := sum_set nd (f := fun _ => 0) hc
  rw [sum_zero] at h
  have e : (pl.map fun v => if v = c then (1 : Int) else 0) = pl.map (setF (fun _ => 0) c ((fun _ => (0 : Int)) c + 1)) := List.map_congr_left fun v _ => by
    unfold setF
    split <;> rfl
  rw [e, h]
  rfl
theorem tiesAt_cons (q : Nat × Nat) (ts : List (Nat × Nat)) (v : Nat) (h : q.1 ≠ q.2) : (tiesAt (q :: ts) v : Int) = tiesAt ts v + ((if v = q.1 then 1 else 0) + (if v = q.2 then 1 else 0)) := by
  unfold tiesAt
  rw [cnt_cons, tS_mem]
  by_cases a : v = q.1 <;> by_cases c : v = q.2
  · exact absurd (a.symm.trans c) h
  · simp [a, c, bn]; simp [← a, c]
  · simp [a, c, bn]; simp [← c, a]
  · simp [a, c, bn]
theorem hand_shake {pl : List Nat} (nd : pl.Nodup) : ∀ {ts : List (Nat × Nat)}, (∀ q ∈ ts, q.1 ≠ q.2) → Ends pl ts → (pl.map fun v => (tiesAt ts v : Int)).sum = 2 * ts.length
  | [], _, _ => by
    have : (pl.map fun v => (tiesAt [] v : Int)) = pl.map fun _ => (0 : Int) := rfl
    rw [this, sum_zero]
    rfl
  | q :: ts, hl, he => by
    have e : (pl.map fun v => (tiesAt (q :: ts) v : Int)) = pl.map fun v => (tiesAt ts v : Int) + ((if v = q.1 then 1 else 0) + (if v = q.2 then 1 else 0)) := List.map_congr_left fun v _ => tiesAt_cons q ts v (hl q (by simp))
    rw [e, sum_add, sum_add, sum_one' nd (he q (by simp)).1, sum_one' nd (he q (by simp)).2, hand_shake nd (fun x hx => hl x (List.mem_cons_of_mem _ hx)) fun x hx => he x (List.mem_cons_of_mem _ hx), List.length_cons]
    omega
/-! ### heaps told by a map -/
theorem zip_map_self (f : Nat → Int) : ∀ l : List Nat, (l.map f).zip l = l.map fun v => (f v, v)
  | [] => rfl
  | x :: l => by rw [List.map_cons, List.zip_cons_cons, zip_map_self f l, List.map_cons]
theorem bare_map (pl : List Nat) (f : Nat → Int) (b : Nat) : bareL pl (pl.map f) b = pl.map fun v => if v = b then 0 else f v := by
  unfold bareL
  rw [zip_map_self, List.map_map]
  rfl
theorem mir_map (pl : List Nat) (ts : List (Nat × Nat)) (f : Nat → Int) (b : Nat) : mirL pl ts (pl.map f) b = pl.map fun v => if v = b then 0 else (tiesAt ts v : Int) - 1 - f v := by
  unfold mirL lackL
  rw [zip_map_self, List.map_map]
  exact bare_map pl _ b
theorem sum_but {pl : List Nat} (nd : pl.Nodup) {b : Nat} (hb : b ∈ pl) (f : Nat → Int) : (pl.map fun v => if v = b then 0 else f v).sum + f b = (pl.map f).sum := by
  induction pl with
  | nil => cases hb
  | cons x l ih =>
    obtain ⟨h1, h2⟩ := List.nodup_cons.mp nd
    rw [List.map_cons, List.map_cons, List.sum_cons, List.sum_cons]
    by_cases e : x = b
    · subst e
      have : (l.map fun v => if v = x then 0 else f v) = l.map f := List.map_congr_left fun y hy => if_neg fun z : y = x => h1 (by rw [← z]; exact hy)
      rw [this, if_pos rfl]
      omega
    · rw [if_neg e]
      have := ih h2 ((List.mem_cons.mp hb).resolve_left (Ne.symm e))
      omega
/-- the level of a tree's heap is how many ties the light never used -/
theorem level_tree {pl : List Nat} {ts : List (Nat × Nat)} {lot : List Nat} {b : Nat} (W : WebOk pl ts) (hb : b ∈ pl) (T : TreeOk pl ts lot) : levelL pl ts (mirL pl ts (litBy pl ts lot b) b) b = (ts.length : Int) - ((litEnd pl ts lot b).used.length : Int) := by
  have H := lit_hip W hb (T.spans W hb) T.lt
  obtain ⟨_, _, _, _, e5⟩ := lit_burns W hb (T.spans W hb) T.lt (lit_at W.nd)
  have hs := lit_sum (lot := lot) (b := b) W
  have hb0 : (litEnd pl ts lot b).hits b = 0 := by rw [← lit_at W.nd b hb]; exact H.bank
  unfold levelL litBy
  rw [mir_map, bare_map]
  generalize (litEnd pl ts lot b).hits = f at *
  have e1 : (pl.map fun v => if v = b then (0 : Int) else if v = b then 0 else (tiesAt ts v : Int) - 1 - f v) = pl.map fun v => if v = b then 0 else (tiesAt ts v : Int) - 1 - f v := List.map_congr_left fun v _ => by split <;> rfl
  rw [e1]
  have e2 := sum_but W.nd hb fun v => (tiesAt ts v : Int) - 1 - f v
  have e3 : (pl.map fun v => (tiesAt ts v : Int) - 1 - f v).sum + (pl.map f).sum + (pl.length : Int) = (pl.map fun v => (tiesAt ts v : Int)).sum := by
    generalize pl = l
    induction l with
    | nil => rfl
    | cons x l ih =>
      rw [List.map_cons, List.map_cons, List.map_cons, List.sum_cons, List.sum_cons, List.sum_cons, List.length_cons]
      omega
  have e4 := hand_shake W.nd W.lp W.ends'
  omega
/-! ### cuts of a tree -/
theorem filter_len_one {l : List Nat} (nd : l.Nodup) {j : Nat} (hj : j ∈ l) : (l.filter fun i => !decide (i = j)).length + 1 = l.length := by
  induction l with
  | nil => cases hj
  | cons x l ih =>
    obtain ⟨h1, h2⟩ := List.nodup_cons.mp nd
    by_cases e : x = j
    · subst e
      have : l.filter (fun i => !decide (i = x)) = l := List.filter_eq_self.mpr fun y hy => by
        have hne : ¬ y = x := fun z => h1 (by rw [← z]; exact hy)
        rw [decide_eq_false hne]; rfl
      rw [List.filter_cons_of_neg (by simp), this, List.length_cons]
    · rw [List.filter_cons_of_pos (by simp [e]), List.length_cons, List.length_cons, ih h2 ((List.mem_cons.mp hj).resolve_left (Ne.symm e))]
theorem TreeOk.nd {pl : List Nat} {ts : List (Nat × Nat)} {l : List Nat} (T : TreeOk pl ts l) : l.Nodup := T.asc.imp fun h => Nat.ne_of_lt h
theorem tree_cut {pl : List Nat} {ts : List (Nat × Nat)} {lot : List Nat} {b : Nat} (W : WebOk pl ts) (hb : b ∈ pl) (T : TreeOk pl ts lot) {j : Nat} (hj : j ∈ lot) : ∃ f : Nat → Bool, ∀ i ∈ lot, cr (tieAt ts i) f = decide (i = j) := by
  have hl := filter_len_one T.nd hj
  have ltF : ∀ i ∈ lot.filter (fun i => !decide (i = j)), i < ts.length := fun i hi => T.lt i (List.mem_filter.mp hi).1
  have hno : ¬ WF pl (tiesOf ts (lot.filter fun i => !decide (i = j))) := fun h => by
    have := span_many W hb ltF h
    have := T.len
    omega
  have : ∃ f : Nat → Bool, (∀ q ∈ tiesOf ts (lot.filter fun i => !decide (i = j)), cr q f = false) ∧ ∃ v ∈ pl, ∃ w ∈ pl, f v ≠ f w := by
    apply Classical.byContradiction
    intro hc
    refine hno (WF.of fun f hn v hv w hw => Classical.byContradiction fun z => hc ⟨f, hn, v, hv, w, hw, z⟩)
  obtain ⟨f, hn, v, hv, w, hw, hne⟩ := this
  refine ⟨f, fun i hi => ?_⟩
  by_cases e : i = j
  · rw [decide_eq_true e]
    cases c : cr (tieAt ts i) f with
    | true => rfl
    | false =>
      refine absurd (T.wf.triv (f := f) (fun q hq => ?_) hv hw) hne
      obtain ⟨k, hk, rfl⟩ := mem_tiesOf.mp hq
      by_cases y : k = j
      · rw [y, ← e]; exact c
      · exact hn _ (mem_tiesOf.mpr ⟨k, List.mem_filter.mpr ⟨hk, by simp [y]⟩, rfl⟩)
  · rw [decide_eq_false e]
    exact hn _ (mem_tiesOf.mpr ⟨i, List.mem_filter.mpr ⟨hi, by simp [e]⟩, rfl⟩)
/-- many cuts in one -/
def xorL (X : Nat → Nat → Bool) : List Nat → Nat → Bool
  | [], _ => false
  | j :: J, v => X j v != xorL X J v
theorem xor_cr (X : Nat → Nat → Bool) (q : Nat × Nat) : ∀ J : List Nat, (∀ j ∈ J, cr q (X j) = false) → cr q (xorL X J) = false
  | [], _ => by unfold cr; rfl
  | j :: J, h => by
    show cr q (fun v => X j v != xorL X J v) = false
    rw [cr_xor, h j (by simp), xor_cr X q J fun i hi => h i (List.mem_cons_of_mem _ hi)]
    rfl
theorem xor_at {X : Nat → Nat → Bool} {q : Nat × Nat} {i : Nat} : ∀ {J : List Nat}, J.Nodup → (∀ j ∈ J, cr q (X j) = decide (i = j)) → cr q (xorL X J) = decide (i ∈ J)
  | [], _, _ => by unfold cr; rfl
  | j :: J, nd, h => by
    obtain ⟨h1, h2⟩ := List.nodup_cons.mp nd
    show cr q (fun v => X j v != xorL X J v) = _
    rw [cr_xor, h j (by simp), xor_at h2 fun k hk => h k (List.mem_cons_of_mem _ hk)]
    by_cases e : i = j
    · subst e
      simp [h1]
    · by_cases e2 : i ∈ J <;> simp [e, e2]
/-- the ring that k closes -/
def Ring (pl : List Nat) (ts : List (Nat × Nat)) (lot : List Nat) (j k : Nat) : Prop := WF pl (tiesOf ts ((lot.filter fun i => !decide (i = j)) ++ [k]))
section
variable {pl : List Nat} {ts : List (Nat × Nat)} {lot : List Nat} {b : Nat}
theorem ring_iff (W : WebOk pl ts) (T : TreeOk pl ts lot) {j k : Nat} (hj : j ∈ lot) (hk : k < ts.length) {X : Nat → Bool} (hX : ∀ i ∈ lot, cr (tieAt ts i) X = decide (i = j)) : Ring pl ts lot j k ↔ cr (tieAt ts k) X = true := by
  have ek := W.ends' _ (tieAt_mem hk)
  have ej := W.ends' _ (tieAt_mem (T.lt j hj))
  constructor
  · intro h
    cases c : cr (tieAt ts k) X with
    | true => rfl
    | false =>
      have := h.triv (f := X) (fun q hq => by
        obtain ⟨i, hi, rfl⟩ := mem_tiesOf.mp hq
        rcases List.mem_append.mp hi with z | z
        · obtain ⟨a, d⟩ := List.mem_filter.mp z
          rw [hX i a]
          simpa using d
        · rw [List.mem_singleton.mp z]; exact c) ej.1 ej.2
      have h2 := hX j hj
      rw [cr_no.mpr this, decide_eq_true rfl] at h2
      cases h2
  · intro c
    refine WF.of fun f hn v hv w hw => ?_
    have h1 : ∀ i ∈ lot, i ≠ j → cr (tieAt ts i) f = false := fun i hi hne => hn _ (mem_tiesOf.mpr ⟨i, List.mem_append_left _ (List.mem_filter.mpr ⟨hi, by simp [hne]⟩), rfl⟩)
    have h2 : cr (tieAt ts k) f = false := hn _ (mem_tiesOf.mpr ⟨k, by simp, rfl⟩)
    cases e : cr (tieAt ts j) f with
    | false =>
      refine T.wf.triv (f := f) (fun q hq => ?_) hv hw
      obtain ⟨i, hi, rfl⟩ := mem_tiesOf.mp hq
      by_cases z : i = j
      · rw [z]; exact e
      · exact h1 i hi z
    | true =>
      exfalso
      have := T.wf.triv (f := fun v => f v != X v) (fun q hq => by
        obtain ⟨i, hi, rfl⟩ := mem_tiesOf.mp hq
        rw [cr_xor, hX i hi]
        by_cases z : i = j
        · rw [z, e]; simp
        · rw [h1 i hi z]; simp [z]) ek.1 ek.2
      have h3 : cr (tieAt ts k) (fun v => f v != X v) = false := cr_no.mpr this
      rw [cr_xor, h2, c] at h3
      cases h3
theorem cut_meets (W : WebOk pl ts) (T : TreeOk pl ts lot) {X : Nat → Nat → Bool} (hX : ∀ j ∈ lot, ∀ i ∈ lot, cr (tieAt ts i) (X j) = decide (i = j)) {g : Nat → Bool} {k : Nat} (hk : k < ts.length) (hg : cr (tieAt ts k) g = true) : ∃ j ∈ lot, cr (tieAt ts j) g = true ∧ cr (tieAt ts k) (X j) = true := by
  apply Classical.byContradiction
  intro hno
  have ek := W.ends' _ (tieAt_mem hk)
  generalize hJ : lot.filter (fun j => cr (tieAt ts j) g) = J
  have mJ : ∀ j, j ∈ J ↔ j ∈ lot ∧ cr (tieAt ts j) g = true := fun j => by rw [← hJ, List.mem_filter]
  have ndJ : J.Nodup := by rw [← hJ]; exact List.Pairwise.filter _ T.nd
  have h1 : cr (tieAt ts k) (xorL X J) = false := xor_cr X _ J fun j hj => by
    obtain ⟨a, c⟩ := (mJ j).mp hj
    cases e : cr (tieAt ts k) (X j) with
    | false => rfl
    | true => exact absurd ⟨j, a, c, e⟩ hno
  have := T.wf.triv (f := fun v => g v != xorL X J v) (fun q hq => by
    obtain ⟨i, hi, rfl⟩ := mem_tiesOf.mp hq
    rw [cr_xor, xor_at (i := i) ndJ fun j hj => hX j ((mJ j).mp hj).1 i hi]
    cases e : cr (tieAt ts i) g with
    | true => rw [decide_eq_true ((mJ i).mpr ⟨hi, e⟩)]; rfl
    | false => rw [decide_eq_false fun z => by rw [((mJ i).mp z).2] at e; cases e]; rfl) ek.1 ek.2
  have h3 : cr (tieAt ts k) (fun v => g v != xorL X J v) = false := cr_no.mpr this
  rw [cr_xor, hg, h1] at h3
  cases h3
theorem cuts_of (W : WebOk pl ts) (hb : b ∈ pl) (T : TreeOk pl ts lot) : ∃ X : Nat → Nat → Bool, ∀ j ∈ lot, ∀ i ∈ lot, cr (tieAt ts i) (X j) = decide (i = j) := by
  have h : ∀ j, ∃ f : Nat → Bool, j ∈ lot → ∀ i ∈ lot, cr (tieAt ts i) f = decide (i = j) := fun j => by
    by_cases hj : j ∈ lot
    · obtain ⟨f, hf⟩ := tree_cut W hb T hj
      exact ⟨f, fun _ => hf⟩
    · exact ⟨fun _ => false, fun z => absurd z hj⟩
  exact ⟨fun j => Classical.choose (h j), fun j hj => Classical.choose_spec (h j) hj⟩
theorem LInv.step {s : LS} (W : WebOk pl ts) (hb : b ∈ pl) (T : TreeOk pl ts lot) (L : LInv pl ts lot b s) (hl : s.seen.length < pl.length) {i : Nat} (e : (opens ts s.seen s.used).getLast? = some i) : LInv pl ts lot b (litStep ts lot s i) := by
  obtain ⟨i', e', _, _, _, L2⟩ := lit_next W.ends (T.spans W hb) T.lt L hl W.nd
  rw [e] at e'
  cases e'
  exact L2
/-- a tie that is used is not late -/
theorem used_ring (W : WebOk pl ts) (hb : b ∈ pl) (T : TreeOk pl ts lot) : ∀ k ∈ (litEnd pl ts lot b).used, k ∉ lot → ∃ j ∈ lot, j < k ∧ Ring pl ts lot j k := by
  obtain ⟨X, hX⟩ := cuts_of W hb T
  refine (lit_run (pl := pl) (ts := ts) (lot := lot) (fun s => LInv pl ts lot b s ∧ ∀ k ∈ s.used, k ∉ lot → ∃ j ∈ lot, j < k ∧ Ring pl ts lot j k) (fun s i ⟨L, hu⟩ hl e => ⟨L.step W hb T hl e, ?_⟩) (ts.length + 1) ⟨[b], [], fun _ => 0⟩ ⟨lit_start hb, fun k hk => nomatch hk⟩).2
  obtain ⟨h1, h2, h3⟩ := mem_opens (List.mem_of_getLast? e)
  by_cases q : i ∈ lot
  · rw [lit_step_in q]
    intro k hk hkl
    rcases List.mem_append.mp hk with z | z
    · exact hu k z hkl
    · rw [List.mem_singleton.mp z] at hkl
      exact absurd q hkl
  · rw [lit_step_out q]
    intro k hk hkl
    rcases List.mem_append.mp hk with z | z
    · exact hu k z hkl
    · rw [List.mem_singleton.mp z]
      obtain ⟨j, hj, hc, hr⟩ := cut_meets W T hX (g := fun v => decide (v ∈ s.seen)) h1 h3
      have hju : j ∉ s.used := fun y => by
        obtain ⟨a, c⟩ := L.tree j y hj
        have : cr (tieAt ts j) (fun v => decide (v ∈ s.seen)) = false := cr_no.mpr (by
          show decide ((tieAt ts j).1 ∈ s.seen) = decide ((tieAt ts j).2 ∈ s.seen)
          rw [decide_eq_true a, decide_eq_true c])
        rw [this] at hc
        cases hc
      have hle := last_max e (opens_iff.mpr ⟨T.lt j hj, hju, hc⟩)
      have hne : j ≠ i := fun y => q (y ▸ hj)
      exact ⟨j, hj, by omega, (ring_iff W T hj h1 (hX j hj)).mpr hr⟩
end
end Wr
end
section
set_option maxRecDepth 100000
set_option maxHeartbeats 1000000
/-! Plain law: late ties are those that the light never used. -/
namespace Wr
theorem least {P : Nat → Prop} (h : ∃ n, P n) : ∃ n, P n ∧ ∀ m, P m → n ≤ m := by
  obtain ⟨n, hn⟩ := h
  induction n using Nat.strongRecOn with
  | ind n ih =>
    by_cases q : ∃ m, m < n ∧ P m
    · obtain ⟨m, hm, hp⟩ := q
      exact ih m hm hp
    · exact ⟨n, hn, fun m hp => Nat.le_of_not_lt fun z => q ⟨m, z, hp⟩⟩
section
variable {pl : List Nat} {ts : List (Nat × Nat)} {lot : List Nat} {b : Nat}
theorem ring_used (W : WebOk pl ts) (hb : b ∈ pl) (T : TreeOk pl ts lot) {k : Nat} (hk : k < ts.length) (hkl : k ∉ lot) (hr : ∃ j ∈ lot, j < k ∧ Ring pl ts lot j k) : k ∈ (litEnd pl ts lot b).used := by
  obtain ⟨X, hX⟩ := cuts_of W hb T
  obtain ⟨j0, ⟨h0, hlt, hring⟩, hmin⟩ := least (P := fun j => j ∈ lot ∧ j < k ∧ Ring pl ts lot j k) (by obtain ⟨j, a, c, d⟩ := hr; exact ⟨j, a, c, d⟩)
  have hkX := (ring_iff W T h0 hk (hX j0 h0)).mp hring
  refine (lit_run (pl := pl) (ts := ts) (lot := lot) (fun s => LInv pl ts lot b s ∧ (j0 ∉ s.used → ∀ v ∈ s.seen, X j0 v = X j0 b) ∧ (j0 ∈ s.used → k ∈ s.used)) (fun s i ⟨L, hA, hU⟩ hl e => ⟨L.step W hb T hl e, ?_⟩) (ts.length + 1) ⟨[b], [], fun _ => 0⟩ ⟨lit_start hb, fun _ v hv => by rw [List.mem_singleton.mp hv], fun z => nomatch z⟩).2.2 ((tree_fuses W hb T).2 j0 h0)
  obtain ⟨h1, h2, h3⟩ := mem_opens (List.mem_of_getLast? e)
  have hused : (litStep ts lot s i).used = s.used ++ [i] := by
    by_cases q : i ∈ lot
    · rw [lit_step_in q]
    · rw [lit_step_out q]
  rw [hused]
  by_cases q : i = j0
  · refine ⟨fun z => absurd (List.mem_append_right _ (by rw [q]; simp)) z, fun _ => List.mem_append_left _ ?_⟩
    apply Classical.byContradiction
    intro hku
    have hj0u : j0 ∉ s.used := q ▸ h2
    have hS := hA hj0u
    -- k does not cross what is seen
    have hks : crosses (tieAt ts k) s.seen = false := by
      cases c : crosses (tieAt ts k) s.seen with
      | false => rfl
      | true =>
        have := last_max e (opens_iff.mpr ⟨hk, hku, c⟩)
        omega
    have hks' : decide ((tieAt ts k).1 ∈ s.seen) = decide ((tieAt ts k).2 ∈ s.seen) := (cr_no (q := tieAt ts k) (f := fun v => decide (v ∈ s.seen))).mp hks
    let g : Nat → Bool := fun v => decide (v ∈ s.seen) || (X j0 v != X j0 b)
    have gin : ∀ v, v ∈ s.seen → g v = true := fun v hv => by
      show (decide (v ∈ s.seen) || _) = true
      rw [decide_eq_true hv, Bool.true_or]
    have gout : ∀ v, v ∉ s.seen → g v = (X j0 v != X j0 b) := fun v hv => by
      show (decide (v ∈ s.seen) || _) = _
      rw [decide_eq_false hv, Bool.false_or]
    have hkX' : (X j0 (tieAt ts k).1 != X j0 (tieAt ts k).2) = true := hkX
    have hgk : cr (tieAt ts k) g = true := by
      have n1 : (tieAt ts k).1 ∉ s.seen := fun z => by
        rw [decide_eq_true z] at hks'
        have z2 := of_decide_eq_true hks'.symm
        rw [hS _ z, hS _ z2] at hkX'
        simp at hkX'
      have n2 : (tieAt ts k).2 ∉ s.seen := fun z => by
        rw [decide_eq_true z] at hks'
        exact n1 (of_decide_eq_true hks')
      show (g (tieAt ts k).1 != g (tieAt ts k).2) = true
      rw [gout _ n1, gout _ n2]
      cases a1 : X j0 (tieAt ts k).1 <;> cases a2 : X j0 (tieAt ts k).2 <;> cases a3 : X j0 b <;> rw [a1, a2] at hkX' <;> first | rfl | cases hkX'
    obtain ⟨j, hj, hc, hr2⟩ := cut_meets W T hX hk hgk
    have hjr := (ring_iff W T hj hk (hX j hj)).mpr hr2
    have hcg : (g (tieAt ts j).1 != g (tieAt ts j).2) = true := hc
    by_cases y : j = j0
    · -- the least tie itself lies within
      subst y
      rw [q] at h3
      have hX0 : (X j (tieAt ts j).1 != X j (tieAt ts j).2) = true := by
        have := hX j h0 j h0
        rw [decide_eq_true rfl] at this
        exact this
      have all : ∀ v, v = (tieAt ts j).1 ∨ v = (tieAt ts j).2 → g v = true := fun v hv => by
        by_cases z : v ∈ s.seen
        · exact gin v z
        · rw [gout v z]
          rcases crosses_iff.mp h3 with ⟨a, c⟩ | ⟨a, c⟩
          · rcases hv with w | w
            · exact absurd (w ▸ a) z
            · rw [hS _ a] at hX0
              rw [w]
              cases a1 : X j (tieAt ts j).2 <;> cases a2 : X j b <;> rw [a1, a2] at hX0 <;> first | rfl | cases hX0
          · rcases hv with w | w
            · rw [hS _ c] at hX0
              rw [w]
              cases a1 : X j (tieAt ts j).1 <;> cases a2 : X j b <;> rw [a1, a2] at hX0 <;> first | rfl | cases hX0
            · exact absurd (w ▸ c) z
      rw [all _ (.inl rfl), all _ (.inr rfl)] at hcg
      cases hcg
    · have hXj : cr (tieAt ts j) (X j0) = false := by rw [hX j0 h0 j hj, decide_eq_false y]
      have hXe : X j0 (tieAt ts j).1 = X j0 (tieAt ts j).2 := cr_no.mp hXj
      have hcs : crosses (tieAt ts j) s.seen = true := by
        refine crosses_iff.mpr ?_
        by_cases z1 : (tieAt ts j).1 ∈ s.seen <;> by_cases z2 : (tieAt ts j).2 ∈ s.seen
        · rw [gin _ z1, gin _ z2] at hcg; cases hcg
        · exact .inl ⟨z1, z2⟩
        · exact .inr ⟨z1, z2⟩
        · rw [gout _ z1, gout _ z2, hXe] at hcg; simp at hcg
      have hju : j ∉ s.used := fun z => by
        obtain ⟨a, c⟩ := L.tree j z hj
        rcases crosses_iff.mp hcs with ⟨_, d⟩ | ⟨d, _⟩
        · exact d c
        · exact d a
      have h5 := last_max e (opens_iff.mpr ⟨T.lt j hj, hju, hcs⟩)
      have h6 := hmin j ⟨hj, by omega, hjr⟩
      omega
  · refine ⟨fun hn v hv => ?_, fun hin => ?_⟩
    · have hn0 : j0 ∉ s.used := fun z => hn (List.mem_append_left _ z)
      by_cases ql : i ∈ lot
      · rw [lit_step_in ql] at hv
        rcases List.mem_append.mp hv with z | z
        · exact hA hn0 v z
        · have hXi : cr (tieAt ts i) (X j0) = false := by rw [hX j0 h0 i ql, decide_eq_false q]
          have hXe : X j0 (tieAt ts i).1 = X j0 (tieAt ts i).2 := cr_no.mp hXi
          have ends : ∀ x, x ∈ tS (tieAt ts i) → X j0 x = X j0 (tieAt ts i).1 := fun x hx => by
            rcases mem_tS.mp hx with y | y
            · rw [y]
            · rw [y, hXe]
          obtain ⟨w, hw1, hw2⟩ := near_in h3
          rw [List.mem_singleton.mp z, ends _ ((far_at h3 (far_new h3).1).mpr rfl), ← ends w hw1]
          exact hA hn0 w hw2
      · rw [lit_step_out ql] at hv
        exact hA hn0 v hv
    · rcases List.mem_append.mp hin with z | z
      · exact List.mem_append_left _ (hU z)
      · exact absurd (List.mem_singleton.mp z).symm q
theorem late_iff (W : WebOk pl ts) (h1 : 1 ≤ pl.length) (hb : b ∈ pl) (T : TreeOk pl ts lot) {k : Nat} (hk : k < ts.length) : (!decide (k ∈ lot) && ((ringOf pl ts lot k).filter fun j => decide (j < k)).isEmpty) = !decide (k ∈ (litEnd pl ts lot b).used) := by
  have mr : ∀ j, j ∈ ringOf pl ts lot k ↔ j ∈ lot ∧ Ring pl ts lot j k := fun j => by
    unfold ringOf
    rw [List.mem_filter, joined_iff h1 W.nd (ends_lot W.ends' fun i hi => by
      rcases List.mem_append.mp hi with z | z
      · exact T.lt i (List.mem_filter.mp z).1
      · rw [List.mem_singleton.mp z]; exact hk)]
    exact Iff.rfl
  rw [Bool.eq_iff_iff, Bool.and_eq_true, List.isEmpty_iff, List.filter_eq_nil_iff]
  simp only [Bool.not_eq_true', decide_eq_false_iff_not, decide_eq_true_eq]
  constructor
  · rintro ⟨a, c⟩ hu
    obtain ⟨j, hj, hlt, hr⟩ := used_ring W hb T k hu a
    exact c j ((mr j).mpr ⟨hj, hr⟩) hlt
  · intro hu
    have hkl : k ∉ lot := fun z => hu ((tree_fuses W hb T).2 k z)
    refine ⟨hkl, fun j hj hlt => ?_⟩
    obtain ⟨a, c⟩ := (mr j).mp hj
    exact hu (ring_used W hb T hk hkl ⟨j, a, hlt, c⟩)
theorem late_count (W : WebOk pl ts) (h1 : 1 ≤ pl.length) (hb : b ∈ pl) (T : TreeOk pl ts lot) : (lateOf pl ts lot).length + (litEnd pl ts lot b).used.length = ts.length := by
  obtain ⟨_, _, _, L, _⟩ := lit_burns W hb (T.spans W hb) T.lt (lit_at W.nd)
  have e : lateOf pl ts lot = (List.range ts.length).filter fun k => !decide (k ∈ (litEnd pl ts lot b).used) := by
    unfold lateOf
    rw [List.filter_filter]
    refine List.filter_congr fun k hk => ?_
    rw [Bool.and_comm]
    exact late_iff W h1 hb T (List.mem_range.mp hk)
  have c1 : ((List.range ts.length).filter fun k => decide (k ∈ (litEnd pl ts lot b).used)).length = (litEnd pl ts lot b).used.length := by
    have a := sub_len (l := (List.range ts.length).filter fun k => decide (k ∈ (litEnd pl ts lot b).used)) (m := (litEnd pl ts lot b).used) (List.Pairwise.filter _ List.nodup_range) fun x hx => by simpa using (List.mem_filter.mp hx).2
    have c := sub_len (l := (litEnd pl ts lot b).used) (m := (List.range ts.length).filter fun k => decide (k ∈ (litEnd pl ts lot b).used)) L.nd fun x hx => List.mem_filter.mpr ⟨List.mem_range.mpr (L.lt x hx), decide_eq_true hx⟩
    omega
  have c2 : ∀ (p : Nat → Bool) (l : List Nat), (l.filter p).length + (l.filter fun x => !p x).length = l.length := fun p l => by
    induction l with
    | nil => rfl
    | cons x l ih =>
      rw [cnt_cons, cnt_cons, List.length_cons]
      have : bn (p x) + bn (!p x) = 1 := by cases p x <;> rfl
      omega
  have c3 := c2 (fun k => decide (k ∈ (litEnd pl ts lot b).used)) (List.range ts.length)
  rw [List.length_range] at c3
  rw [e]
  omega
theorem level_late (W : WebOk pl ts) (h1 : 1 ≤ pl.length) (hb : b ∈ pl) (T : TreeOk pl ts lot) : levelL pl ts (mirL pl ts (litBy pl ts lot b) b) b = ((lateOf pl ts lot).length : Int) := by
  rw [level_tree W hb T]
  have := late_count W h1 hb T
  omega
end
end Wr
end
section
set_option maxRecDepth 100000
set_option maxHeartbeats 1000000
/-! Plain law: the settled heaps that come again are the trees' heaps, in order. -/
namespace Wr
section
variable {pl : List Nat} {ts : List (Nat × Nat)} {b : Nat}
/-! ### mirrors -/
theorem mir_form (nd : pl.Nodup) {h : List Int} (hl : h.length = pl.length) : mirL pl ts h b = pl.map fun v => if v = b then 0 else (tiesAt ts v : Int) - 1 - hAt pl h v := by
  have := mir_map pl ts (hAt pl h) b
  rw [map_h nd hl] at this
  exact this
theorem bare_form (nd : pl.Nodup) {h : List Int} (hl : h.length = pl.length) : bareL pl h b = pl.map fun v => if v = b then 0 else hAt pl h v := by
  have := bare_map pl (hAt pl h) b
  rw [map_h nd hl] at this
  exact this
theorem mir_h (nd : pl.Nodup) {h : List Int} (hl : h.length = pl.length) {v : Nat} (hv : v ∈ pl) : hAt pl (mirL pl ts h b) v = if v = b then 0 else (tiesAt ts v : Int) - 1 - hAt pl h v := by
  rw [mir_form nd hl, h_map nd _ hv]
theorem mir_mir (nd : pl.Nodup) (hb : b ∈ pl) {h : List Int} (hl : h.length = pl.length) (h0 : hAt pl h b = 0) : mirL pl ts (mirL pl ts h b) b = h := by
  rw [mir_form nd (mir_len pl ts h b hl), ← map_h nd hl, map_h nd hl]
  have e := map_h nd hl
  rw [← e, e]
  have : h = pl.map (hAt pl h) := e.symm
  rw [this]
  refine List.map_congr_left fun v hv => ?_
  rw [map_h nd hl, mir_h nd hl hv]
  split
  · rename_i q; rw [q, h0]
  · omega
theorem mir_bare (nd : pl.Nodup) {h : List Int} (hl : h.length = pl.length) : mirL pl ts (bareL pl h b) b = mirL pl ts h b := by
  rw [mir_form nd (bare_len pl h b hl), mir_form nd hl]
  refine List.map_congr_left fun v hv => ?_
  split
  · rfl
  · rename_i q
    rw [bare_form nd hl, h_map nd _ hv, if_neg q]
/-! ### what is gone through -/
def Fit (ts : List (Nat × Nat)) (b : Nat) : List Int → List Nat → Prop
  | [], [] => True
  | x :: r, c :: l => (0 ≤ x ∧ x < (topOf ts b c : Int)) ∧ Fit ts b r l
  | _, _ => False
theorem mem_longer {n : Nat} {p q : List Int} : q ∈ longer n p ↔ ∃ x : Int, 0 ≤ x ∧ x < (n : Int) ∧ q = p ++ [x] := by
  unfold longer
  rw [List.mem_map]
  constructor
  · rintro ⟨i, hi, rfl⟩
    have := List.mem_range.mp hi
    exact ⟨i, by omega, by omega, rfl⟩
  · rintro ⟨x, h1, h2, rfl⟩
    refine ⟨x.toNat, List.mem_range.mpr (by omega), ?_⟩
    rw [Int.toNat_of_nonneg h1]
theorem mem_stayFold : ∀ (l : List Nat) (f : List (List Int)) (q : List Int), q ∈ l.foldl (stayStep ts b) f ↔ ∃ p ∈ f, ∃ r, Fit ts b r l ∧ q = p ++ r
  | [], f, q => by
    constructor
    · intro h
      exact ⟨q, h, [], trivial, by simp⟩
    · rintro ⟨p, hp, r, hr, rfl⟩
      cases r with
      | nil => simpa using hp
      | cons x r => exact hr.elim
  | c :: l, f, q => by
    rw [List.foldl_cons, mem_stayFold l]
    unfold stayStep
    constructor
    · rintro ⟨p, hp, r, hr, rfl⟩
      obtain ⟨p0, hp0, hp1⟩ := List.mem_flatMap.mp hp
      obtain ⟨x, h1, h2, rfl⟩ := mem_longer.mp hp1
      exact ⟨p0, hp0, x :: r, ⟨⟨h1, h2⟩, hr⟩, by simp⟩
    · rintro ⟨p, hp, r, hr, rfl⟩
      cases r with
      | nil => exact hr.elim
      | cons x r => exact ⟨p ++ [x], List.mem_flatMap.mpr ⟨p, hp, mem_longer.mpr ⟨x, hr.1.1, hr.1.2, rfl⟩⟩, r, hr.2, by simp⟩
theorem mem_stayRaw {q : List Int} : q ∈ stayRaw pl ts b ↔ Fit ts b q pl := by
  unfold stayRaw
  rw [mem_stayFold]
  constructor
  · rintro ⟨p, hp, r, hr, rfl⟩
    rw [List.mem_singleton.mp hp, List.nil_append]
    exact hr
  · intro h
    exact ⟨[], by simp, q, h, rfl⟩
theorem fit_iff : ∀ (l : List Nat) (r : List Int), Fit ts b r l ↔ r.length = l.length ∧ ∀ k, k < l.length → 0 ≤ piAt r k ∧ piAt r k < (topOf ts b (plAt l k) : Int)
  | [], [] => by simp [Fit]
  | [], x :: r => by simp [Fit]
  | c :: l, [] => by simp [Fit]
  | c :: l, x :: r => by
    show ((0 ≤ x ∧ x < (topOf ts b c : Int)) ∧ Fit ts b r l) ↔ _
    rw [fit_iff l r]
    constructor
    · rintro ⟨h1, h2, h3⟩
      refine ⟨by rw [List.length_cons, List.length_cons, h2], fun k hk => ?_⟩
      cases k with
      | zero => exact h1
      | succ k => exact h3 k (by rw [List.length_cons] at hk; omega)
    · rintro ⟨h2, h3⟩
      refine ⟨h3 0 (by simp), by simpa using h2, fun k hk => h3 (k + 1) (by rw [List.length_cons]; omega)⟩
theorem pi_h (nd : pl.Nodup) (p : List Int) {k : Nat} (hk : k < pl.length) : hAt pl p (plAt pl k) = piAt p k := by
  have e : pl.idxOf (plAt pl k) = k := pl_inj nd (plAt_idx (plAt_mem hk)).1 hk (plAt_idx (plAt_mem hk)).2
  unfold hAt piAt
  rw [e]
theorem mem_stays (W : WebOk pl ts) (hb : b ∈ pl) {p : List Int} : p ∈ staysOf pl ts b ↔ Box pl ts b p ∧ hAt pl p b = 0 ∧ ∀ U, ¬ Bars pl ts (mirL pl ts p b) b U := by
  obtain ⟨i1, i2⟩ := plAt_idx hb
  unfold staysOf
  rw [List.mem_filter, mem_stayRaw, fit_iff]
  have key : (p.length = pl.length ∧ ∀ k, k < pl.length → 0 ≤ piAt p k ∧ piAt p k < (topOf ts b (plAt pl k) : Int)) ↔ Box pl ts b p ∧ hAt pl p b = 0 := by
    constructor
    · rintro ⟨h1, h2⟩
      refine ⟨⟨h1, fun k hk hne => ?_⟩, ?_⟩
      · have := h2 k hk
        unfold topOf at this
        rw [if_neg hne] at this
        exact this
      · have := h2 _ i1
        rw [i2] at this
        unfold topOf at this
        rw [if_pos rfl] at this
        have e := pi_h W.nd p i1
        rw [i2] at e
        omega
    · rintro ⟨B, h0⟩
      refine ⟨B.len, fun k hk => ?_⟩
      unfold topOf
      by_cases e : plAt pl k = b
      · have := pi_h W.nd p hk
        rw [e, h0] at this
        rw [if_pos e, ← this]
        exact ⟨by omega, by omega⟩
      · rw [if_neg e]
        exact B.box k hk e
  rw [key]
  constructor
  · rintro ⟨⟨B, h0⟩, hl⟩
    exact ⟨B, h0, (lasts_iff W hb B).mp hl⟩
  · rintro ⟨B, h0, nb⟩
    exact ⟨⟨B, h0⟩, (lasts_iff W hb B).mpr nb⟩
theorem nb_low (hb : b ∈ pl) {h : List Int} (nb : ∀ U, ¬ Bars pl ts h b U) {v : Nat} (hv : v ∈ pl) (hne : v ≠ b) : hAt pl h v < (tiesAt ts v : Int) := by
  have h1 := out_le ts [v] v
  have h2 : ¬ (outN ts [v] v : Int) ≤ hAt pl h v := fun z => nb [v] ⟨⟨v, hv, by simp⟩, fun y => hne (List.mem_singleton.mp y).symm, fun w _ hw => by rw [List.mem_singleton.mp hw]; exact z⟩
  omega
/-- the heaps that last are the mirrors of what burns all -/
theorem stays_hip (W : WebOk pl ts) (hb : b ∈ pl) {p : List Int} : p ∈ staysOf pl ts b ↔ ∃ h, Hip pl ts b h ∧ p = mirL pl ts h b := by
  rw [mem_stays W hb]
  constructor
  · rintro ⟨B, h0, nb⟩
    refine ⟨mirL pl ts p b, ⟨mir_len pl ts p b B.len, ?_, fun v hv => ?_, nb⟩, (mir_mir W.nd hb B.len h0).symm⟩
    · rw [mir_h W.nd B.len hb, if_pos rfl]
    · rw [mir_h W.nd B.len hv]
      split
      · omega
      · rename_i q
        obtain ⟨k, hk, rfl⟩ := mem_plAt hv
        have := (B.box k hk q).2
        rw [pi_h W.nd p hk]
        omega
  · rintro ⟨h, H, rfl⟩
    have hb0 : hAt pl (mirL pl ts h b) b = 0 := by rw [mir_h W.nd H.len hb, if_pos rfl]
    refine ⟨⟨mir_len pl ts h b H.len, fun k hk hne => ?_⟩, hb0, ?_⟩
    · have hv := plAt_mem hk
      rw [← pi_h W.nd _ hk, mir_h W.nd H.len hv, if_neg hne]
      have := H.pos _ hv
      have := nb_low hb H.nb hv hne
      omega
    · rw [mir_mir W.nd hb H.len H.bank]
      exact H.nb
/-! ### order -/
theorem lex_irr : ∀ a : List Int, HT.lexLt a a = false
  | [] => HT.lexLt_nil_nil
  | x :: a => by rw [HT.lexLt_cons, if_pos rfl, lex_irr a]
theorem lex_app : ∀ {p q : List Int} (r s : List Int), p.length = q.length → HT.lexLt p q = true → HT.lexLt (p ++ r) (q ++ s) = true
  | [], [], _, _, _, h => by rw [HT.lexLt_nil_nil] at h; cases h
  | x :: p, y :: q, r, s, hl, h => by
    rw [List.cons_append, List.cons_append, HT.lexLt_cons]
    rw [HT.lexLt_cons] at h
    split
    · rename_i e
      rw [if_pos e] at h
      exact lex_app r s (by simpa using hl) h
    · rename_i e
      rw [if_neg e] at h
      exact h
  | [], _ :: _, _, _, hl, _ => by cases hl
  | _ :: _, [], _, _, hl, _ => by cases hl
theorem lex_same : ∀ (p : List Int) {x y : Int}, x < y → HT.lexLt (p ++ [x]) (p ++ [y]) = true
  | [], x, y, h => by
    show HT.lexLt (x :: []) (y :: []) = true
    rw [HT.lexLt_cons, if_neg (by omega)]
    exact decide_eq_true h
  | z :: p, x, y, h => by
    rw [List.cons_append, List.cons_append, HT.lexLt_cons, if_pos rfl]
    exact lex_same p h
def Asc (l : List (List Int)) : Prop := l.Pairwise fun a c => HT.lexLt a c = true
theorem asc_fold : ∀ (l : List Nat) (f : List (List Int)) (m : Nat), Asc f → (∀ p ∈ f, p.length = m) → Asc (l.foldl (stayStep ts b) f)
  | [], f, m, h, _ => h
  | c :: l, f, m, h, hm => by
    rw [List.foldl_cons]
    refine asc_fold l _ (m + 1) ?_ fun p hp => ?_
    · unfold Asc stayStep
      rw [List.pairwise_flatMap]
      refine ⟨fun p hp => ?_, ?_⟩
      · unfold longer
        rw [List.pairwise_map]
        exact List.pairwise_lt_range.imp fun {i j} hij => lex_same p (by omega)
      · refine h.imp_of_mem fun {p q} hp hq hpq x hx y hy => ?_
        obtain ⟨u, _, _, rfl⟩ := mem_longer.mp hx
        obtain ⟨w, _, _, rfl⟩ := mem_longer.mp hy
        exact lex_app _ _ (by rw [hm p hp, hm q hq]) hpq
    · obtain ⟨p0, hp0, hp1⟩ := List.mem_flatMap.mp hp
      obtain ⟨x, _, _, rfl⟩ := mem_longer.mp hp1
      rw [List.length_append, List.length_singleton, hm p0 hp0]
theorem stays_asc : Asc (staysOf pl ts b) := List.Pairwise.filter _ (asc_fold pl [[]] 0 (List.pairwise_singleton _ _) fun p hp => by rw [List.mem_singleton.mp hp]; rfl)
theorem lex_flip {a c : List Int} (h : HT.lexLt a c = true) : HT.lexLt c a = false := NtL.lex_asym a c h
theorem Asc.sorted {l : List (List Int)} (h : Asc l) : RSorted l := h.imp fun q => lex_flip q
theorem Asc.nodup {l : List (List Int)} (h : Asc l) : l.Nodup := h.imp fun {a c} q z => by
  rw [z, lex_irr] at q
  cases q
/-! ### the lists -/
theorem lots_nodup : ∀ n : Nat, (lotsRaw n).Nodup
  | 0 => List.pairwise_singleton _ _
  | n + 1 => by
    rw [lotsRaw_succ]
    unfold lotStep
    refine List.nodup_append.mpr ⟨lots_nodup n, ?_, fun x hx y hy e => ?_⟩
    · show List.Pairwise _ _
      rw [List.pairwise_map]
      exact (lots_nodup n).imp fun {a c} h z => h (List.append_cancel_right z)
    · obtain ⟨m, _, rfl⟩ := List.mem_map.mp hy
      have := (lots_mem n x hx).2.1 n (by rw [e]; simp)
      omega
theorem trees_nodup : (treesOf pl ts).Nodup := List.Pairwise.filter _ ((List.mergeSort_perm (lotsRaw ts.length) _).nodup_iff.mpr (lots_nodup ts.length))
abbrev heapOf (pl : List Nat) (ts : List (Nat × Nat)) (b : Nat) (l : List Nat) : List Int := mirL pl ts (litBy pl ts l b) b
theorem heap_inj (W : WebOk pl ts) (hb : b ∈ pl) {l1 l2 : List Nat} (T1 : TreeOk pl ts l1) (T2 : TreeOk pl ts l2) (e : heapOf pl ts b l1 = heapOf pl ts b l2) : l1 = l2 := by
  have H1 := lit_hip W hb (T1.spans W hb) T1.lt
  have H2 := lit_hip W hb (T2.spans W hb) T2.lt
  refine lit_inj W hb T1 T2 ?_
  rw [← mir_mir (ts := ts) W.nd hb H1.len H1.bank, ← mir_mir (ts := ts) W.nd hb H2.len H2.bank]
  exact congrArg (fun h => mirL pl ts h b) e
theorem stays_perm (W : WebOk pl ts) (h1 : 1 ≤ pl.length) (hb : b ∈ pl) : (staysOf pl ts b).Perm ((treesOf pl ts).map (heapOf pl ts b)) := by
  have nd2 : ((treesOf pl ts).map (heapOf pl ts b)).Nodup := by
    show List.Pairwise _ _
    rw [List.pairwise_map]
    exact trees_nodup.imp_of_mem fun {x y} hx hy hne z => hne (heap_inj W hb ((mem_trees W h1).mp hx) ((mem_trees W h1).mp hy) z)
  refine (List.perm_ext_iff_of_nodup stays_asc.nodup nd2).mpr fun p => ?_
  rw [stays_hip W hb, List.mem_map]
  constructor
  · rintro ⟨h, H, rfl⟩
    obtain ⟨l, T, rfl⟩ := back_tree W hb H
    exact ⟨l, (mem_trees W h1).mpr T, rfl⟩
  · rintro ⟨l, hl, rfl⟩
    have T := (mem_trees W h1).mp hl
    exact ⟨_, lit_hip W hb (T.spans W hb) T.lt, rfl⟩
theorem stays_heaps (W : WebOk pl ts) (h1 : 1 ≤ pl.length) (hb : b ∈ pl) : staysOf pl ts b = lastHeaps pl ts b := srtT_of (stays_perm W h1 hb) stays_asc.sorted
theorem stays_many (W : WebOk pl ts) (h1 : 1 ≤ pl.length) (hb : b ∈ pl) : (staysOf pl ts b).length = (lawTrees pl ts).length := by
  rw [(stays_perm W h1 hb).length_eq, List.length_map, (trees_perm W h1).length_eq]
theorem levels_perm (W : WebOk pl ts) (h1 : 1 ≤ pl.length) (hb : b ∈ pl) : ((staysOf pl ts b).map fun p => levelL pl ts p b).Perm ((lawTrees pl ts).map fun l => ((lateOf pl ts l).length : Int)) := by
  refine ((stays_perm W h1 hb).map _).trans (List.Perm.trans (List.Perm.of_eq ?_) ((trees_perm W h1).symm.map _))
  rw [List.map_map]
  refine List.map_congr_left fun l hl => ?_
  exact level_late W h1 hb ((mem_trees W h1).mp hl)
/-! ### does_last -/
theorem rich_iff (nd : pl.Nodup) {h : List Int} (hl : h.length = pl.length) : richB pl h b = true ↔ ∀ v ∈ pl, v ≠ b → 0 ≤ hAt pl h v := by
  have e := map_h nd hl
  unfold richB
  have e2 : h.zip pl = pl.map fun v => (hAt pl h v, v) := by
    have := zip_map_self (hAt pl h) pl
    rw [e] at this
    exact this
  rw [e2, List.all_map, List.all_eq_true]
  constructor
  · intro q v hv hne
    have := q v hv
    simpa [hne] using this
  · intro q v hv
    show (decide (0 ≤ hAt pl h v) || decide (v = b)) = true
    by_cases hne : v = b
    · simp [hne]
    · simp [q v hv hne]
theorem min_iff {ns : List Int} (h : 0 < ns.length) : (0 ≤ minL ns) ↔ ∀ x ∈ ns, 0 ≤ x := by
  cases ns with
  | nil => simp at h
  | cons n ns =>
    obtain ⟨h1, h2⟩ := @minL_mem n ns
    constructor
    · intro q x hx
      exact Int.le_trans q (h2 x hx)
    · intro q
      exact q _ h1
theorem mir_min (W : WebOk pl ts) (h1 : 1 ≤ pl.length) {ns : List Int} (hl : ns.length = pl.length) : (0 ≤ minL (mirL pl ts ns b)) ↔ ∀ v ∈ pl, 0 ≤ hAt pl (mirL pl ts ns b) v := by
  have hm := mir_len pl ts ns b hl
  rw [min_iff (by omega)]
  have e := map_h W.nd hm
  constructor
  · intro q v hv
    refine q _ ?_
    have : hAt pl (mirL pl ts ns b) v ∈ pl.map (hAt pl (mirL pl ts ns b)) := List.mem_map.mpr ⟨v, hv, rfl⟩
    rw [e] at this
    exact this
  · intro q x hx
    rw [← e] at hx
    obtain ⟨v, hv, rfl⟩ := List.mem_map.mp hx
    exact q v hv
theorem last_iff (W : WebOk pl ts) (h1 : 1 ≤ pl.length) (hb : b ∈ pl) {ns : List Int} (hl : ns.length = pl.length) (hr : richB pl ns b = true) : lastB pl ts ns b = decide (bareL pl ns b ∈ staysOf pl ts b) := by
  have hm := mir_len pl ts ns b hl
  have hbl := bare_len pl ns b hl
  have b0 : hAt pl (bareL pl ns b) b = 0 := by rw [bare_form W.nd hl, h_map W.nd _ hb, if_pos rfl]
  have hrr := (rich_iff W.nd hl).mp hr
  rw [Bool.eq_iff_iff]
  unfold lastB
  rw [hr, Bool.true_and, Bool.and_eq_true, decide_eq_true_eq, decide_eq_true_eq, decide_eq_true_eq, mem_stays W hb, mir_bare W.nd hl, mir_min W h1 hl]
  have hboxes : Box pl ts b (bareL pl ns b) ↔ ∀ v ∈ pl, 0 ≤ hAt pl (mirL pl ts ns b) v := by
    constructor
    · intro B v hv
      rw [mir_h W.nd hl hv]
      split
      · omega
      · rename_i q
        obtain ⟨k, hk, rfl⟩ := mem_plAt hv
        have := (B.box k hk q).2
        rw [← pi_h W.nd _ hk, bare_form W.nd hl, h_map W.nd _ hv, if_neg q] at this
        omega
    · intro q
      refine ⟨hbl, fun k hk hne => ?_⟩
      have hv := plAt_mem hk
      have h2 := q _ hv
      have h3 := hrr _ hv hne
      rw [mir_h W.nd hl hv, if_neg hne] at h2
      rw [← pi_h W.nd _ hk, bare_form W.nd hl, h_map W.nd _ hv, if_neg hne]
      omega
  rw [hboxes]
  constructor
  · rintro ⟨a, c⟩
    exact ⟨a, b0, (burnt_iff W.nd W.ends hb fun v hv _ => a v hv).mp c⟩
  · rintro ⟨a, _, c⟩
    exact ⟨a, (burnt_iff W.nd W.ends hb fun v hv _ => a v hv).mpr c⟩
/-- least exactly if a settled one lasts -/
theorem low_iff (W : WebOk pl ts) (h1 : 1 ≤ pl.length) (hb : b ∈ pl) {ns : List Int} (hl : ns.length = pl.length) (hr : richB pl ns b = true) (hm : 0 ≤ minL (mirL pl ts ns b)) : decide (bareL pl ns b ∈ staysOf pl ts b) = lowB pl ts (mirL pl ts ns b) b := by
  rw [← last_iff W h1 hb hl hr, Bool.eq_iff_iff, lowB_iff W.ends]
  have a := (mir_min W h1 hl).mp hm
  unfold lastB
  rw [hr, Bool.true_and, Bool.and_eq_true, decide_eq_true_eq, decide_eq_true_eq]
  rw [← burnt_iff W.nd W.ends hb fun v hv _ => a v hv]
  exact ⟨fun z => z.2, fun z => ⟨hm, z⟩⟩
end
end Wr
end
section
set_option maxRecDepth 100000
set_option maxHeartbeats 4000000
/-! A run has one end. -/
namespace Wr
open PySem
theorem runs_one {M : Model} {Γ : Ctx} {p : Pos} {t : Sem Fin} {fs : List Frame} {s s1 : Shared} {e1 : End} (h : Runs M Γ p t fs s e1 s1) : ∀ {e2 : End} {s2 : Shared}, Runs M Γ p t fs s e2 s2 → e1 = e2 ∧ s1 = s2 := by
  induction h
  case done => intro e2 s2 k; cases k; exact ⟨rfl, rfl⟩
  case raise => intro e2 s2 k; cases k; exact ⟨rfl, rfl⟩
  case again hq _ ih => intro e2 s2 k; cases k; exact ih (by assumption)
  case rule _ ih => intro e2 s2 k; cases k; exact ih (by assumption)
  case «at» _ ih => intro e2 s2 k; cases k; exact ih (by assumption)
  case load ho _ ih =>
    intro e2 s2 k
    cases k
    rename_i ho2 r2
    rw [ho] at ho2
    cases ho2
    exact ih r2
  case update _ _ ih => intro e2 s2 k; cases k; exact ih (by assumption)
  case loadIfAlive _ ih => intro e2 s2 k; cases k; exact ih (by assumption)
  case point _ ih => intro e2 s2 k; cases k; exact ih (by assumption)
  case alloc _ ih => intro e2 s2 k; cases k; exact ih (by assumption)
  case fresh _ ih => intro e2 s2 k; cases k; exact ih (by assumption)
  case ask _ ih => intro e2 s2 k; cases k; exact ih (by assumption)
  case choose _ _ ih => intro e2 s2 k; cases k; exact ih (by assumption)
  case os _ ih => intro e2 s2 k; cases k; exact ih (by assumption)
  case handled _ ih => intro e2 s2 k; cases k; exact ih (by assumption)
  case genState hg _ ih =>
    intro e2 s2 k
    cases k
    rename_i hg2 r2
    rw [hg] at hg2
    cases hg2
    exact ih r2
  case stack _ ih => intro e2 s2 k; cases k; exact ih (by assumption)
  case thread _ ih => intro e2 s2 k; cases k; exact ih (by assumption)
  case newGen _ ih => intro e2 s2 k; cases k; exact ih (by assumption)
  case call _ _ ih1 ih2 =>
    intro e2 s2 k
    cases k with
    | call a b =>
      obtain ⟨q1, q2⟩ := ih1 a
      cases q1
      subst q2
      exact ih2 b
    | callSusp a =>
      obtain ⟨q1, _⟩ := ih1 a
      cases q1
  case callSusp _ ih =>
    intro e2 s2 k
    cases k with
    | call a b =>
      obtain ⟨q1, _⟩ := ih a
      cases q1
    | callSusp a =>
      obtain ⟨q1, q2⟩ := ih a
      cases q1
      subst q2
      exact ⟨rfl, rfl⟩
  case yield => intro e2 s2 k; cases k; exact ⟨rfl, rfl⟩
  case resumeFresh hg _ _ _ ih1 ih2 =>
    intro e2 s2 k
    cases k with
    | resumeFresh hg2 a _ b =>
      rw [hg] at hg2
      cases hg2
      obtain ⟨q1, q2⟩ := ih1 a
      subst q1 q2
      exact ih2 b
    | resumeSuspended hg2 _ _ _ => rw [hg] at hg2; cases hg2
    | resumeJustStarted hg2 hne _ => exact absurd rfl hne
    | resumeRunning hg2 _ => rw [hg] at hg2; cases hg2
    | resumeFinished hg2 _ => rw [hg] at hg2; cases hg2
  case resumeSuspended hg _ _ _ ih1 ih2 =>
    intro e2 s2 k
    cases k with
    | resumeFresh hg2 _ _ _ => rw [hg] at hg2; cases hg2
    | resumeSuspended hg2 a _ b =>
      rw [hg] at hg2
      cases hg2
      obtain ⟨q1, q2⟩ := ih1 a
      subst q1 q2
      exact ih2 b
    | resumeJustStarted hg2 _ _ => rw [hg] at hg2; cases hg2
    | resumeThrowFresh hg2 _ => rw [hg] at hg2; cases hg2
    | resumeRunning hg2 _ => rw [hg] at hg2; cases hg2
    | resumeFinished hg2 _ => rw [hg] at hg2; cases hg2
  case resumeJustStarted hg hne _ ih =>
    intro e2 s2 k
    cases k with
    | resumeFresh hg2 _ _ _ => exact absurd rfl hne
    | resumeSuspended hg2 _ _ _ => rw [hg] at hg2; cases hg2
    | resumeJustStarted _ _ a => exact ih a
    | resumeRunning hg2 _ => rw [hg] at hg2; cases hg2
    | resumeFinished hg2 _ => rw [hg] at hg2; cases hg2
  case resumeThrowFresh hg _ ih =>
    intro e2 s2 k
    cases k with
    | resumeSuspended hg2 _ _ _ => rw [hg] at hg2; cases hg2
    | resumeThrowFresh _ a => exact ih a
    | resumeRunning hg2 _ => rw [hg] at hg2; cases hg2
    | resumeFinished hg2 _ => rw [hg] at hg2; cases hg2
  case resumeRunning hg _ ih =>
    intro e2 s2 k
    cases k with
    | resumeFresh hg2 _ _ _ => rw [hg] at hg2; cases hg2
    | resumeSuspended hg2 _ _ _ => rw [hg] at hg2; cases hg2
    | resumeJustStarted hg2 _ _ => rw [hg] at hg2; cases hg2
    | resumeThrowFresh hg2 _ => rw [hg] at hg2; cases hg2
    | resumeRunning _ a => exact ih a
    | resumeFinished hg2 _ => rw [hg] at hg2; cases hg2
  case resumeFinished hg _ ih =>
    intro e2 s2 k
    cases k with
    | resumeFresh hg2 _ _ _ => rw [hg] at hg2; cases hg2
    | resumeSuspended hg2 _ _ _ => rw [hg] at hg2; cases hg2
    | resumeJustStarted hg2 _ _ => rw [hg] at hg2; cases hg2
    | resumeThrowFresh hg2 _ => rw [hg] at hg2; cases hg2
    | resumeRunning hg2 _ => rw [hg] at hg2; cases hg2
    | resumeFinished _ a => exact ih a
  case segRet _ _ ih1 ih2 =>
    intro e2 s2 k
    cases k with
    | segRet a b =>
      obtain ⟨q1, q2⟩ := ih1 a
      cases q1
      subst q2
      exact ih2 b
    | segSuspOut _ a =>
      obtain ⟨q1, _⟩ := ih1 a
      cases q1
    | segSuspGen _ a _ _ =>
      obtain ⟨q1, _⟩ := ih1 a
      cases q1
  case segGen _ _ ih1 ih2 =>
    intro e2 s2 k
    cases k with
    | segGen a b =>
      obtain ⟨q1, q2⟩ := ih1 a
      cases q1
      subst q2
      exact ih2 b
    | segSuspOut _ a =>
      obtain ⟨q1, _⟩ := ih1 a
      cases q1
    | segSuspGen _ a _ _ =>
      obtain ⟨q1, _⟩ := ih1 a
      cases q1
  case segSuspOut hs _ ih =>
    intro e2 s2 k
    cases k with
    | segRet a b =>
      obtain ⟨q1, _⟩ := ih a
      cases q1
    | segGen a b =>
      obtain ⟨q1, _⟩ := ih a
      cases q1
    | segSuspOut _ a =>
      obtain ⟨q1, q2⟩ := ih a
      cases q1
      subst q2
      exact ⟨rfl, rfl⟩
    | segSuspGen hs2 _ _ _ => rw [hs] at hs2; cases hs2
  case segSuspGen hs _ _ _ ih1 ih2 =>
    intro e2 s2 k
    cases k with
    | segRet a b =>
      obtain ⟨q1, _⟩ := ih1 a
      cases q1
    | segGen a b =>
      obtain ⟨q1, _⟩ := ih1 a
      cases q1
    | segSuspOut hs2 _ => rw [hs] at hs2; cases hs2
    | segSuspGen hs2 a _ b =>
      rw [hs] at hs2
      cases hs2
      obtain ⟨q1, q2⟩ := ih1 a
      cases q1
      subst q2
      exact ih2 b
theorem wakes_one {M : Model} {Γ : Ctx} {p : Pos} {g : Nat} {r : Resume} {s s1 s2 : Shared} {r1 r2 : GenResult} (h : Wakes M Γ p g r s r1 s1) (k : Wakes M Γ p g r s r2 s2) : r1 = r2 ∧ s1 = s2 := by
  unfold Wakes at h k
  split at h
  · exact h.elim
  · rename_i c hg
    rw [hg] at k
    simp only at k
    split at h
    · obtain ⟨e1, t1, a1, _, b1, c1⟩ := h
      obtain ⟨e2, t2, a2, _, b2, c2⟩ := k
      obtain ⟨q1, q2⟩ := runs_one a1 a2
      subst q1 q2
      exact ⟨b1.trans b2.symm, c1.trans c2.symm⟩
    · rename_i v hne
      have k : r2 = .justStarted ∧ s2 = s := by
        split at k
        · rename_i e
          cases e
          exact absurd rfl hne
        · exact k
        · rename_i e; cases e
      exact ⟨h.1.trans k.1.symm, h.2.trans k.2.symm⟩
    · exact ⟨h.1.trans k.1.symm, h.2.trans k.2.symm⟩
  · rename_i hg
    rw [hg] at k
    obtain ⟨e1, t1, a1, _, b1, c1⟩ := h
    obtain ⟨e2, t2, a2, _, b2, c2⟩ := k
    obtain ⟨q1, q2⟩ := runs_one a1 a2
    subst q1 q2
    exact ⟨b1.trans b2.symm, c1.trans c2.symm⟩
  · rename_i hg
    rw [hg] at k
    exact ⟨h.1.trans k.1.symm, h.2.trans k.2.symm⟩
  · rename_i hg
    rw [hg] at k
    exact ⟨h.1.trans k.1.symm, h.2.trans k.2.symm⟩
/-- two ends of one run hold together -/
theorem wp_both {α : Type} (M : Model) (Γ : Ctx) (t : Sem α) : ∀ (Q Q2 : α → Pos → Shared → Prop) (E E2 : Value → Pos → Shared → Prop) (p : Pos) (s : Shared), Sem.wp M Γ t Q E p s → Sem.wp M Γ t Q2 E2 p s →
    Sem.wp M Γ t (fun a p' s' => Q a p' s' ∧ Q2 a p' s') (fun e p' s' => E e p' s' ∧ E2 e p' s') p s := by
  induction t with
  | pure a => intro Q Q2 E E2 p s h k; exact ⟨h, k⟩
  | raise e => intro Q Q2 E E2 p s h k; exact ⟨h, k⟩
  | unsupported _ => intro Q Q2 E E2 p s h _; exact h
  | finish _ => intro Q Q2 E E2 p s h _; exact h
  | rule _ k ih => intro Q Q2 E E2 p s h h2; exact ih () Q Q2 E E2 p s h h2
  | «at» p' k ih => intro Q Q2 E E2 p s h h2; exact ih () Q Q2 E E2 p' s h h2
  | load a _ k ih =>
    intro Q Q2 E E2 p s h h2
    obtain ⟨o, ho, h⟩ := h
    obtain ⟨o2, ho2, h2⟩ := h2
    rw [ho] at ho2
    cases ho2
    exact ⟨o, ho, ih o Q Q2 E E2 p s h h2⟩
  | update a _ f k ih => intro Q Q2 E E2 p s h h2; exact ⟨h.1, ih () Q Q2 E E2 p _ h.2 h2.2⟩
  | loadIfAlive a k ih => intro Q Q2 E E2 p s h h2; exact ih _ Q Q2 E E2 p s h h2
  | point _ k ih => intro Q Q2 E E2 p s h h2; exact ih () Q Q2 E E2 p s h h2
  | register _ _ => intro Q Q2 E E2 p s h _; exact h
  | alloc o k ih => intro Q Q2 E E2 p s h h2; exact ih _ Q Q2 E E2 p _ h h2
  | fresh k ih => intro Q Q2 E E2 p s h h2; exact ih _ Q Q2 E E2 p _ h h2
  | ask k ih => intro Q Q2 E E2 p s h h2; exact ih _ Q Q2 E E2 p s h h2
  | choose src m k ih => intro Q Q2 E E2 p s h h2; exact ⟨h.1, ih _ Q Q2 E E2 p _ h.2 h2.2⟩
  | os q _ k ih => intro Q Q2 E E2 p s h h2; exact ih _ Q Q2 E E2 p _ h h2
  | call c hd _ _ k ih =>
    intro Q Q2 E E2 p s h h2
    obtain ⟨r, s', hr, h⟩ := h
    obtain ⟨r2, s2, hr2, h2⟩ := h2
    obtain ⟨q1, q2⟩ := runs_one hr hr2
    cases q1
    subst q2
    exact ⟨r, s', hr, ih r Q Q2 E E2 p s' h h2⟩
  | handled own k ih => intro Q Q2 E E2 p s h h2; exact ih _ Q Q2 E E2 p s h h2
  | genState g k ih =>
    intro Q Q2 E E2 p s h h2
    obtain ⟨st, hs, h⟩ := h
    obtain ⟨st2, hs2, h2⟩ := h2
    rw [hs] at hs2
    cases hs2
    exact ⟨st, hs, ih _ Q Q2 E E2 p s h h2⟩
  | newGen c k ih => intro Q Q2 E E2 p s h h2; exact ih _ Q Q2 E E2 p _ h h2
  | resume g r _ k ih =>
    intro Q Q2 E E2 p s h h2
    obtain ⟨res, s', hw, h⟩ := h
    obtain ⟨res2, s2, hw2, h2⟩ := h2
    obtain ⟨q1, q2⟩ := wakes_one hw hw2
    subst q1 q2
    exact ⟨res, s', hw, ih res Q Q2 E E2 p s' h h2⟩
  | yield _ _ _ _ => intro Q Q2 E E2 p s h _; exact h
  | stack k ih => intro Q Q2 E E2 p s h h2; exact ih _ Q Q2 E E2 p s h h2
  | fork _ _ => intro Q Q2 E E2 p s h _; exact h
  | thread k ih => intro Q Q2 E E2 p s h h2; exact ih _ Q Q2 E E2 p s h h2
  | await _ _ _ _ _ => intro Q Q2 E E2 p s h _; exact h
theorem any_both {α : Type} {M : Model} {A : Around} {t : Sem α} {Q Q2 : α → Shared → Prop} {E E2 : Value → Shared → Prop} {s : Shared} (h : wpAny M A t Q E s) (k : wpAny M A t Q2 E2 s) : wpAny M A t (fun a s' => Q a s' ∧ Q2 a s') (fun e s' => E e s' ∧ E2 e s') s :=
  fun Γ p hΓ => wp_both M Γ t _ _ _ _ p s (h Γ p hΓ) (k Γ p hΓ)
end Wr
end
section
set_option maxRecDepth 100000
set_option maxHeartbeats 1000000
/-! A frame's own names are kept by what is no store. -/
namespace Wr
open PySem L2
/-- the frame's names and cells are as before, tokens only grow -/
structure Kp (X : Cx) (s s' : Shared) : Prop where
  ns : ∀ m, s.heap.Ns X.env.locals m → s'.heap.Ns X.env.locals m
  cl : ∀ x c v, X.env.cells.lookup x = some c → s.heap.IsCell c v → s'.heap.IsCell c v
  tk : s.toks ≤ s'.toks
section
variable {X : Cx} {s s1 s2 : Shared} {pins : List (Addr × Obj)} {σ : L2.St} {H : Hp}
theorem Kp.refl : Kp X s s := ⟨fun _ h => h, fun _ _ _ _ h => h, Nat.le_refl _⟩
theorem Kp.trans (a : Kp X s s1) (b : Kp X s1 s2) : Kp X s s2 := ⟨fun m h => b.ns m (a.ns m h), fun x c v e h => b.cl x c v e (a.cl x c v e h), Nat.le_trans a.tk b.tk⟩
theorem Kp.same {s' : Shared} (hh : ∀ b o, s.heap.get? b = some o → s'.heap.get? b = some o) (ht : s.toks ≤ s'.toks) : Kp X s s' := ⟨fun m h => Heap.Ns.keeps h hh, fun x c v e h => Heap.IsCell.keeps h hh, ht⟩
theorem Kp.toks {t : Nat} (h : s.toks ≤ t) : Kp X s { s with toks := t } := .same (fun _ _ e => e) h
theorem Kp.push {o : Obj} : Kp X s { s with heap := s.heap.push o } := .same (fun b u e => Heap.get?_push_of_some o e) (Nat.le_refl _)
/-- a dict among the pins that is younger than the frame -/
structure Jk (X : Cx) (pins : List (Addr × Obj)) : Prop where
  ex : ∃ p ∈ pins, X.env.locals < p.1 ∧ (∀ x c, X.env.cells.lookup x = some c → c < p.1) ∧ ∃ es ep, p.2.data = .dict es ep ∧ StrKeys es
theorem Jk.app (J : Jk X pins) (more : List (Addr × Obj)) : Jk X (pins ++ more) := by
  obtain ⟨p, hp, q⟩ := J.ex
  exact ⟨p, List.mem_append_left _ hp, q⟩
/-! ### the heap up to an address -/
def cutH (h : Heap) (n : Nat) : Heap := { h with objs := h.objs.extract 0 n }
theorem cut_size (h : Heap) (n : Nat) : (cutH h n).objs.size ≤ n := by
  show (h.objs.extract 0 n).size ≤ n
  rw [Array.size_extract]
  omega
theorem cut_get {h : Heap} {n b : Nat} (hb : b < n) : (cutH h n).get? b = h.get? b := by
  have e : (h.objs.extract 0 n)[b]? = h.objs[b]? := by
    rw [Array.getElem?_extract]
    rw [Nat.zero_add]
    by_cases q : b < h.objs.size
    · rw [if_pos (by omega)]
    · rw [if_neg (by omega), Array.getElem?_eq_none (by omega)]
  show (match (h.objs.extract 0 n)[b]? with | some ⟨_, _, .freed, _⟩ => none | o => o) = (match h.objs[b]? with | some ⟨_, _, .freed, _⟩ => none | o => o)
  rw [e]
theorem cut_some {h : Heap} {n b : Nat} {o : Obj} (e : (cutH h n).get? b = some o) : b < n ∧ h.get? b = some o := by
  have h1 : b < (cutH h n).objs.size := Heap.lt_size e
  have h2 := cut_size h n
  have h3 : b < n := by omega
  exact ⟨h3, by rw [← cut_get h3]; exact e⟩
/-- a context from which the frame is an old one -/
abbrev jkC (X : Cx) (s : Shared) (H : Hp) (j2 : Addr) : Cx := { X with s_0 := { s with heap := cutH s.heap j2 }, H_0 := H, N := [], env := { X.env with locals := j2 }, outer := X.stack, ex := [], fn := fun _ => false, pn := [] }
theorem jk_inv (I : Inv X pins σ H s) (J : Jk X pins) : ∃ j2 o2, (j2, o2) ∈ pins ∧ X.env.locals < j2 ∧ (∀ x c, X.env.cells.lookup x = some c → c < j2) ∧ Inv (jkC X s H j2) [] [] H s := by
  obtain ⟨⟨j2, o2⟩, hp, h1, h2, es, ep, hd, hk⟩ := J.ex
  obtain ⟨p1, p2, p3, p4, p5⟩ := I.pin _ (List.mem_append_right _ hp)
  refine ⟨j2, o2, hp, h1, h2, ?_⟩
  have lo : X.s_0.heap.objs.size ≤ j2 := Nat.le_trans I.ok.above (Nat.le_of_lt h1)
  have old : ∀ b o, X.s_0.heap.get? b = some o → b < j2 := fun b o e => Nat.lt_of_lt_of_le (Heap.lt_size e) lo
  have bz : X.base.objs.size ≤ j2 := Nat.le_trans I.ok.bsz lo
  have hL2 : j2 < s.heap.objs.size := Heap.lt_size p1
  have csz : (cutH s.heap j2).objs.size = j2 := by
    show (s.heap.objs.extract 0 j2).size = j2
    rw [Array.size_extract, Nat.sub_zero]
    exact Nat.min_eq_left (Nat.le_of_lt hL2)
  have fl : ∀ b ∈ frs X.stack, b < j2 := fun b hb => by
    rcases List.mem_cons.mp (I.stkSub b hb) with e | e
    · rw [e]; exact h1
    · obtain ⟨_, o, ho, _⟩ := I.ok.funs.mem e
      exact old b o ho
  have ff : ∀ l : List Env, (∀ b ∈ frs l, b < j2) → s.heap.FunFrames X.base l → (cutH s.heap j2).FunFrames X.base l := by
    intro l
    induction l with
    | nil => intro _ _; trivial
    | cons env r ih =>
      intro hs hl
      obtain ⟨hk, ⟨L, o, hf, hn, ho, hd⟩, hr⟩ := hl
      have hL : L < j2 := hs L (by unfold frs; rw [List.filterMap_cons, hf]; exact List.mem_cons_self)
      exact ⟨hk, ⟨L, o, hf, hn, by rw [cut_get hL]; exact ho, hd⟩, ih (fun b hb => hs b (by unfold frs; rw [List.filterMap_cons, hf]; exact List.mem_cons_of_mem _ hb)) hr⟩
  have ok : (jkC X s H j2).Ok := by
    refine ⟨I.ok.mod, I.ok.kind, I.ok.glob, I.ok.blt, ?_, I.ok.inj, I.ok.has, (fun x c z _ => nomatch z), I.ok.hd, I.ok.frames, .inl rfl, (fun b hb => nomatch hb), fun b o e => ?_, ?_, (fun b o _ hb => nomatch hb), (fun b hb => nomatch hb), ff X.stack fl I.stack, I.stkFree⟩
    · show (cutH s.heap j2).objs.size ≤ j2
      rw [csz]
      exact Nat.le_refl _
    · obtain ⟨a, c⟩ := I.bs b o e
      refine ⟨?_, c⟩
      show (cutH s.heap j2).get? b = some o
      rw [cut_get (Nat.lt_of_lt_of_le (Heap.lt_size e) bz)]
      exact a
    · show X.base.objs.size ≤ (cutH s.heap j2).objs.size
      rw [csz]
      exact bz
  refine ⟨ok, rfl, I.bare, ?_, ⟨_, ⟨o2, es, ep, p1, hd, hk, fun _ => rfl⟩, fun i x v e => by (cases i <;> cases e)⟩, I.cell, p2, I.freeC, (fun p hp => by cases hp), I.hok, rfl⟩
  exact Un.kept fun b u e => (cut_some e).2
theorem jk_kp {j2 : Addr} {σ' : L2.St} {H' : Hp} {s' : Shared} (I : Inv X pins σ H s) (h1 : X.env.locals < j2) (h2 : ∀ x c, X.env.cells.lookup x = some c → c < j2) (Y : Inv (jkC X s H j2) [] σ' H' s') (ht : s.toks ≤ s'.toks) : Kp X s s' := by
  refine ⟨fun m hm => ?_, fun x c v e hc => ?_, ht⟩
  · obtain ⟨o, es, ep, e1, r⟩ := hm
    have q : (cutH s.heap j2).get? X.env.locals = some o := by rw [cut_get h1]; exact e1
    obtain ⟨sl, e2⟩ := Y.base.any q I.free (by simp)
    exact ⟨_, es, ep, e2, r⟩
  · obtain ⟨o, e1, r⟩ := hc
    have q : (cutH s.heap j2).get? c = some o := by rw [cut_get (h2 x c e)]; exact e1
    obtain ⟨sl, e2⟩ := Y.base.any q (I.freeC x c e) (by simp)
    exact ⟨_, e2, r⟩
/-- what runs alike in each context keeps the frame -/
theorem kp_val {α : Type} {code : Sem α} {P : α → Shared → Prop} {E : Value → Shared → Prop} (I : Inv X pins σ H s) (J : Jk X pins) (hX : wpAny (model X.prog X.w) X.A code P E s)
    (hY : ∀ j2, Inv (jkC X s H j2) [] [] H s → wpAny (model X.prog X.w) X.A code (fun _ s' => ∃ σ' H', Inv (jkC X s H j2) [] σ' H' s') (fun _ _ => True) s) : wpAny (model X.prog X.w) X.A code (fun a s' => P a s' ∧ Kp X s s') E s := by
  obtain ⟨j2, o2, _, h1, h2, Y⟩ := jk_inv I J
  refine wpAny_mono (any_both (PySem.wpAny_toks hX) (hY j2 Y)) (fun a s' q => ?_) fun e s' q => q.1.2
  obtain ⟨⟨ht, hp⟩, σ', H', Y'⟩ := q
  exact ⟨hp, jk_kp I h1 h2 Y' ht⟩
end
end Wr
end
section
set_option maxRecDepth 100000
set_option maxHeartbeats 1000000
/-! Expressions that keep the frame: the rules over the library's. -/
namespace Wk
open PySem L2 Wr PyProof.Rows
/-- a context, or the one from which its frame is old -/
inductive Sm (X : Cx) : Cx → Prop
  | self : Sm X X
  | jk {s : Shared} {H : Hp} {j : Addr} : Sm X (jkC X s H j)
section
variable {X Y : Cx} {s : Shared} {pins : List (Addr × Obj)} {σ : L2.St} {H : Hp}
theorem vl {code : Sem Value} {Q : VK} (I : Inv X pins σ H s) (J : Jk X pins) (h : ∀ Y, Sm X Y → ∀ p' σ', Inv Y p' σ' H s → wpAny (model Y.prog Y.w) Y.A code (EP Y p' σ' Q) Y.xe s) : wpAny (model X.prog X.w) X.A code (fun u s' => EP X pins σ Q u s' ∧ Kp X s s') X.xe s :=
  kp_val I J (h X .self pins σ I) fun j Z => wpAny_mono (h (jkC X s H j) .jk [] [] Z) (fun _ s' ⟨_, H', Z', _⟩ => ⟨_, H', Z'⟩) fun _ _ _ => trivial
end
def PE (X : Cx) (e : Expr) (t : TE) : Prop := ∀ (pins : List (Addr × Obj)) (s : Shared) (σ : L2.St) (H : Hp) (Q : VK), Inv X pins σ H s → Jk X pins → t σ H Q → wpAny (model X.prog X.w) X.A (eval e X.env) (fun u s' => EP X pins σ Q u s' ∧ Kp X s s') X.xe s
def PT (X : Cx) (e : Expr) (t : TT) : Prop := ∀ (pins : List (Addr × Obj)) (s : Shared) (σ : L2.St) (H : Hp) (Q : Bool → Hp → Prop), Inv X pins σ H s → Jk X pins → t σ H Q → wpAny (model X.prog X.w) X.A (isTrue e X.env (eval e X.env)) (fun u s' => TP X pins σ Q u s' ∧ Kp X s s') X.xe s
def PW (X : Cx) (e : Expr) (t : TT) : Prop := ∀ (wh : Sem Value) (pins : List (Addr × Obj)) (s : Shared) (σ : L2.St) (H : Hp) (Q : Bool → Hp → Prop), Inv X pins σ H s → Jk X pins → t σ H Q → wpAny (model X.prog X.w) X.A (isTrue e X.env wh) (fun u s' => TP X pins σ Q u s' ∧ Kp X s s') X.xe s
def PA (X : Cx) (es : List Expr) (t : TA) : Prop := ∀ (pos : Pos) (pins : List (Addr × Obj)) (s : Shared) (σ : L2.St) (H : Hp) (Q : List V → Hp → Prop), Inv X pins σ H s → Jk X pins → t σ H Q → wpAny (model X.prog X.w) X.A (spliced (backTo pos (starEach es X.env))) (fun u s' => AP X pins σ Q u s' ∧ Kp X s s') X.xe s
def PK (X : Cx) (kws : List Keyword) (t : TA) : Prop := ∀ (pos : Pos) (pins : List (Addr × Obj)) (s : Shared) (σ : L2.St) (H : Hp) (Q : List V → Hp → Prop), Inv X pins σ H s → Jk X pins → t σ H Q → wpAny (model X.prog X.w) X.A (evalAll ((backToKw pos (keywordEach kws X.env)).map (·.2))) (fun u s' => AP X pins σ Q u s' ∧ Kp X s s') X.xe s
def PO (X : Cx) (e : Option Expr) (t : TO) : Prop := ∀ (pins : List (Addr × Obj)) (s : Shared) (σ : L2.St) (H : Hp) (Q : Option Int → Hp → Prop), Inv X pins σ H s → Jk X pins → t σ H Q → wpAny (model X.prog X.w) X.A (evalPart e X.env) (fun u s' => (∃ o H', Inv X pins σ H' s' ∧ IsPart u o ∧ Q o H') ∧ Kp X s s') X.xe s
section
variable {X : Cx} {a b e f : Expr} {es : List Expr} {ta tb te tf : TE} {t : TA} {pos p : Pos}
theorem pe_var {i : Nat} {x : Str} (hN : X.N[i]? = some x) (hv : Vis X.env.scope x) (hd : (x == ("__debug__" : Str)) = false) (hcd : (x == ("__classdict__" : Str)) = false) : PE X (.Name x pos) (tVar i) := by
  intro pins s σ H Q I _ ⟨v, e, q⟩
  obtain ⟨m, hn, hl⟩ := I.loc
  obtain ⟨u, r, l⟩ := hl i x v hN e hv
  have done : EP X pins σ Q u s ∧ Kp X s s := ⟨⟨v, H, I, r, q⟩, Kp.refl⟩
  rcases l with ⟨k1, k2⟩ | ⟨k1, c, k2, k3⟩
  · exact wpAny_Name (wpAny_loadName_local I.ok.kind k1 hn k2 done) hd
  · rcases k1 with k1 | k1
    · exact wpAny_Name (wpAny_loadName_cell I.ok.kind k1 k2 k3 done) hd
    · exact wpAny_Name (wpAny_loadName_free I.ok.kind k1 k2 k3 done hcd) hd
theorem pe_int {i : Int} {j} : PE X (.Constant (.int i) j pos) (tC (.int i)) := fun _ s _ H _ I _ h => wpAny_Constant_int ⟨⟨.int i, H, I.tok _, ⟨_, rfl⟩, h⟩, Kp.toks (Nat.le_succ _)⟩
theorem pe_glob {x : Str} {v : V} {u : Value} (hg : Gl X x) (hm : X.mg x = some u) (r : RelV v u) (hd : (x == ("__debug__" : Str)) = false) : PE X (.Name x pos) (tC v) := fun _ _ _ H _ I _ h => ld_glob I hg hm ⟨⟨v, H, I, r, h⟩, Kp.refl⟩ hd
theorem pe_op {op : Operator} {r : R2} (ho : ∀ Y, Sm X Y → OpR Y (binaryOp op) r) (ha : PE X a ta) (hb : PE X b tb) : PE X (.BinOp a op b pos) (tOp r ta tb) := fun pins s σ H Q I J h =>
  wpAny_BinOp (thn (ha pins s σ H _ I J h) fun v s1 ⟨⟨x, H1, I1, r1, q1⟩, k1⟩ => thn (hb pins s1 σ H1 _ I1 J q1) fun u s2 ⟨⟨y, H2, I2, r2, q2⟩, k2⟩ =>
    thn (vl I2 J fun Y sm p' σ' I' => ho Y sm p' s2 σ' H2 x y v u Q I' r1 r2 q2) fun w s3 ⟨z, k3⟩ => ⟨z, (k1.trans k2).trans k3⟩)
theorem pe_cmpR {op : CmpOp} {r : R2} (ho : ∀ Y, Sm X Y → OpR Y (compareOp op) r) (ha : PE X a ta) (hb : PE X b tb) (hm : behindInMarks op b = false) : PE X (.Compare a [op] [b] pos) (tOp r ta tb) := fun pins s σ H Q I J h =>
  wpAny_Compare1 (thn (ha pins s σ H _ I J h) fun v s1 ⟨⟨x, H1, I1, r1, q1⟩, k1⟩ => thn (hb pins s1 σ H1 _ I1 J q1) fun u s2 ⟨⟨y, H2, I2, r2, q2⟩, k2⟩ =>
    thn (vl I2 J fun Y sm p' σ' I' => ho Y sm p' s2 σ' H2 x y v u Q I' r1 r2 q2) fun w s3 ⟨z, k3⟩ => ⟨z, (k1.trans k2).trans k3⟩) hm
theorem pt_cmpR {op : CmpOp} {r : R2} (ho : ∀ Y, Sm X Y → OpR Y (compareOp op) r) (ha : PE X a ta) (hb : PE X b tb) (hm : behindInMarks op b = false) : PT X (.Compare a [op] [b] pos) (tTest (tOp r ta tb)) := fun pins s σ H Q I J h =>
  wpAny_isTrue_Compare1 (thn (ha pins s σ H _ I J h) fun v s1 ⟨⟨x, H1, I1, r1, q1⟩, k1⟩ => thn (hb pins s1 σ H1 _ I1 J q1) fun u s2 ⟨⟨y, H2, I2, r2, q2⟩, k2⟩ =>
    thn (vl I2 J fun Y sm p' σ' I' => ho Y sm p' s2 σ' H2 x y v u _ I' r1 r2 q2) fun c s3 ⟨⟨z, H3, I3, r3, k, e, q3⟩, k3⟩ => by
      subst e
      cases r3
      exact wpAny_truthy_bool ⟨⟨H3, I3, q3⟩, (k1.trans k2).trans k3⟩) hm
theorem pw_and1 {tA : TT} (ha : PT X a tA) : PW X (.BoolOp .And [a] pos) tA := fun wh pins s σ H Q I J h =>
  isTrue_and (thn (ha pins s σ H Q I J h) fun c s1 q => by
    cases c with
    | true => exact isTrue_and_nil q
    | false => exact q)
theorem pw_and {tA tB' : TT} {rest : List Expr} (ha : PT X a tA) (hb : PW X (.BoolOp .And (b :: rest) pos) tB') : PW X (.BoolOp .And (a :: b :: rest) pos) (tAnd tA tB') := fun wh pins s σ H Q I J h =>
  isTrue_and (thn (ha pins s σ H _ I J h) fun c s1 ⟨⟨H1, I1, q1⟩, k1⟩ => by
    cases c with
    | true => exact thn (hb wh pins s1 σ H1 Q I1 J q1) fun d s2 ⟨z, k2⟩ => ⟨z, k1.trans k2⟩
    | false => exact ⟨⟨H1, I1, q1⟩, k1⟩)
theorem pa_nil : PA X [] tNil := fun _ _ _ _ H Q I _ h => Calls.spliced_nil ⟨⟨[], H, I, .nil, h⟩, Kp.refl⟩
theorem pa_cons (ha : PE X e te) (hr : PA X es t) (hs : starEach (e :: es) X.env = (false, eval e X.env) :: starEach es X.env) : PA X (e :: es) (tCons te t) := by
  intro pos pins s σ H Q I J h
  rw [hs]
  exact Calls.spliced_cons (thn (ha pins s σ H _ I J h) fun u s1 ⟨⟨x, H1, I1, r1, q1⟩, k1⟩ => thn (hr pos pins s1 σ H1 _ I1 J q1) fun us s2 ⟨⟨xs, H2, I2, r2, q2⟩, k2⟩ => ⟨⟨x :: xs, H2, I2, .cons r1 r2, q2⟩, k1.trans k2⟩)
theorem pk_nil : PK X [] tNil := fun _ _ _ _ H Q I _ h => wpAny_evalAll_nil ⟨⟨[], H, I, .nil, h⟩, Kp.refl⟩
theorem pk_cons {kws : List Keyword} {nm : Option Str} {kpos : Pos} (ha : PE X e te) (hr : PK X kws t) : PK X (⟨nm, e, kpos⟩ :: kws) (tCons te t) := by
  intro pos pins s σ H Q I J h
  show wpAny (model X.prog X.w) X.A (evalAll ((do let v ← eval e X.env; standAt pos; pure v) :: (backToKw pos (keywordEach kws X.env)).map (·.2))) _ X.xe s
  refine wpAny_evalAll_cons (wpAny_bind (thn (ha pins s σ H _ I J h) fun u s1 ⟨⟨x, H1, I1, r1, q1⟩, k1⟩ => wpAny_bind (wpAny_standAt (wpAny_pure ?_))))
  exact thn (hr pos pins s1 σ H1 _ I1 J q1) fun us s2 ⟨⟨xs, H2, I2, r2, q2⟩, k2⟩ => ⟨⟨x :: xs, H2, I2, .cons r1 r2, q2⟩, k1.trans k2⟩
theorem laid_k {s1 : Shared} {pins : List (Addr × Obj)} {σ : L2.St} {H1 : Hp} {o : Obj} {ho : HO} {Q : VK} (I1 : Inv X pins σ H1 s1) (new : ObjOk X.prog X.w (upd H1 s1.heap.objs.size ho) (s1.heap.push o) s1.heap.objs.size ho) (q : ∀ p, H1 p = none → Q (.ref p) (upd H1 p ho)) : EP X pins σ Q (.ref s1.heap.objs.size) { s1 with heap := s1.heap.push o } :=
  ⟨.ref s1.heap.objs.size, _, I1.laid (t' := s1.toks) (fun b u z => Heap.get?_push_of_some _ z) (Nat.le_refl _) new, rfl, q _ (I1.hok.fresh (Nat.le_refl _))⟩
theorem pe_tup {x1} (h : PA X es t) : PE X (.Tuple es x1 pos) (tTup t) := fun pins s σ H Q I J hq =>
  wpAny_Tuple_spliced (thn (h pos pins s σ H _ I J hq) fun us s1 ⟨⟨xs, H1, I1, r, z, q⟩, k1⟩ => ⟨by rw [← r.length]; exact z, laid_k (ho := .tup xs) I1 ⟨z, us, r, _, Heap.get?_push_size _ rfl, rfl, _, rfl⟩ q, k1.trans Kp.push⟩)
theorem pe_lst (h : PA X es t) : PE X (.List es pos) (tLst t) := fun pins s σ H Q I J hq =>
  wpAny_List_spliced (thn (h pos pins s σ H _ I J hq) fun us s1 ⟨⟨xs, H1, I1, r, z, q⟩, k1⟩ => ⟨by rw [← r.length]; exact z, laid_k (ho := .lst xs) I1 ⟨z, us, 0, r, Heap.get?_push_size _ rfl⟩ q, k1.trans Kp.push⟩)
theorem pe_callB {id : String} {r : List V → Hp → VK → Prop} {x : Str} (hc : ∀ Y, Sm X Y → CallR Y (.builtin id) r) (hg : Gl X x) (hm : X.mg x = none) (hv : bootBuiltins x = some (.builtin id)) (ha : PA X (e :: es) t) (hn : x ≠ "__name__") (hdb : (x == ("__debug__" : Str)) = false)
    (he : starEach (e :: es) X.env = (false, eval e X.env) :: starEach es X.env) (hpl : (backTo pos (starEach es X.env)).any (·.1) = false) : PE X (.Call (.Name x p) (e :: es) [] pos) (tCB r t) := fun pins s σ H Q I J h =>
  wpAny_Call_Name_kw (ld_blt I hg hm hv (PyProof.Rows.callWith_builtin1 (thn (ha pos pins s σ H _ I J h) fun us s1 ⟨⟨vs, H1, I1, r1, q1⟩, k1⟩ => thn (vl I1 J fun Y sm p' σ' I' => hc Y sm p' s1 σ' H1 vs us Q I' r1 q1) fun w s2 ⟨z, k2⟩ => ⟨z, k1.trans k2⟩) he hpl) hn hdb)
theorem pe_callTy {T : String} {r : List V → Hp → VK → Prop} {x : Str} (hc : ∀ Y, Sm X Y → CallR Y (.type T) r) (hg : Gl X x) (hm : X.mg x = none) (hv : bootBuiltins x = some (.type T)) (ha : PA X (e :: es) t) (hn : x ≠ "__name__") (hdb : (x == ("__debug__" : Str)) = false)
    (he : starEach (e :: es) X.env = (false, eval e X.env) :: starEach es X.env) (hpl : (backTo pos (starEach es X.env)).any (·.1) = false) : PE X (.Call (.Name x p) (e :: es) [] pos) (tCB r t) := fun pins s σ H Q I J h =>
  wpAny_Call_Name_kw (ld_blt I hg hm hv (PyProof.Rows.callWith_type1 (thn (ha pos pins s σ H _ I J h) fun us s1 ⟨⟨vs, H1, I1, r1, q1⟩, k1⟩ => thn (vl I1 J fun Y sm p' σ' I' => hc Y sm p' s1 σ' H1 vs us Q I' r1 q1) fun w s2 ⟨z, k2⟩ => ⟨z, k1.trans k2⟩) he hpl) hn hdb)
theorem pe_call {k : Nat} {g : Addr} {fd : FuncData} {ps : List Str} {sp : Sp} {x : Str} (F : FnOk X.prog X.w X.K X.mg X.base CX0 k g fd ps sp) (hr : Room k X.A) (hg : Gl X x) (hm : X.mg x = some (.ref g)) (hk : PySem.W.keepIn X.K (.ref g) = true) (hb : Binds X.K fd ps [])
    (ha : PA X (e :: es) t) (hdb : (x == ("__debug__" : Str)) = false) (he : starEach (e :: es) X.env = (false, eval e X.env) :: starEach es X.env) (hpl : (backTo pos (starEach es X.env)).any (·.1) = false) : PE X (.Call (.Name x p) (e :: es) [] pos) (tCall sp [] E0 t) := fun pins s σ H Q I J h =>
  wpAny_Call_Name_kw (ld_glob I hg hm (PySem.W.callWith_K (h₀ := X.base) I.ok.mod.kin hk (thn (ha pos pins s σ H _ I J h) fun us s1 ⟨⟨vs, H1, I1, r1, q1⟩, k1⟩ => ⟨I1.kIn, thn (vl I1 J fun Y sm p' σ' I' => by
    cases sm with
    | self => exact run_fn F hr hb .nil pass0 I' r1 q1
    | jk => exact run_fn F hr hb .nil pass0 I' r1 q1) fun w s2 ⟨z, k2⟩ => ⟨z, k1.trans k2⟩⟩) he hpl) hdb)
theorem pe_ix {r : R2} (hr : ∀ Y, Sm X Y → IxR Y r) (ha : PE X a ta) (hb : PE X b tb) (hs : PlainIx b) : PE X (.Subscript a b pos) (tOp r ta tb) := fun pins s σ H Q I J h =>
  Subscript_ (thn (ha pins s σ H _ I J h) fun v s1 ⟨⟨x, H1, I1, r1, q1⟩, k1⟩ => thn (hb pins s1 σ H1 _ I1 J q1) fun u s2 ⟨⟨y, H2, I2, r2, q2⟩, k2⟩ =>
    thn (vl I2 J fun Y sm p' σ' I' => hr Y sm a b p' s2 σ' H2 x y v u Q I' r1 r2 q2 (hs _ _)) fun w s3 ⟨z, k3⟩ => ⟨z, (k1.trans k2).trans k3⟩)
theorem po_none : PO X none tNoPart := by
  intro pins s σ H Q I _ h
  rw [evalPart_none]
  exact wpAny_pure ⟨⟨none, H, I, .none, h⟩, Kp.refl⟩
theorem po_some (h : PE X e te) : PO X (some e) (tPart te) := by
  intro pins s σ H Q I J hw
  rw [evalPart_some]
  refine thn (h pins s σ H _ I J hw) fun u s1 ⟨⟨x, H1, I1, r1, i, ex, q⟩, k1⟩ => ?_
  subst ex
  obtain ⟨t', rfl⟩ := r1
  exact ⟨⟨some i, H1, I1, .int i t', q⟩, k1⟩
theorem pe_slice {r : V → Option Int → Option Int → Hp → VK → Prop} {lo hi : Option Expr} {tl th : TO} {p2 : Pos} (hr : ∀ Y, Sm X Y → SlR Y r) (he : PE X e te) (hl : PO X lo tl) (hu : PO X hi th) : PE X (.Subscript e (.Slice lo hi none p2) pos) (tSl r te tl th) := by
  intro pins s σ H Q I J h
  refine Subscript_ (thn (he pins s σ H _ I J h) fun v s1 ⟨⟨x, H1, I1, r1, q1⟩, k1⟩ => wpAny_Slice (thn (hl pins s1 σ H1 _ I1 J q1) fun vl0 s2 ⟨⟨l, H2, I2, pl, q2⟩, k2⟩ => thn (hu pins s2 σ H2 _ I2 J q2) fun vu s3 ⟨⟨u, H3, I3, pu, q3⟩, k3⟩ => ?_))
  rw [evalPart_none]
  refine wpAny_pure ?_
  have I4 : Inv X pins σ H3 { s3 with heap := s3.heap.push { cls := .type "slice", data := .fields #[vl0, vu, .none] } } := I3.kept (t' := s3.toks) fun b ob q => Heap.get?_push_of_some _ q
  refine thn (vl I4 J fun Y sm p' σ' I' => ?_) fun w s5 ⟨z, k5⟩ => ⟨z, ((k1.trans k2).trans (k3.trans Kp.push)).trans k5⟩
  obtain ⟨T, id, hT, ht, hg⟩ := hr Y sm p' _ σ' H3 x v vl0 vu l u s3.heap.objs.size Q I' r1 (Heap.IsSliceOf.new ..) pl pu q3
  exact tail_any (value := e) (slice := .Slice lo hi none p2) (ops := [.ref s3.heap.objs.size, v]) ht hT hg (by with_unfolding_all rfl)
theorem pe_bm {o : Expr} {T id : String} {name : Str} {apos cpos : Pos} {r : V → List V → Hp → VK → Prop} {to : TE} (pa : PlainAttrs T) (slot : Slot T name id) (hty : typeOf (.builtin id) = pure (.type "method_descriptor")) (hm : ∀ Y, Sm X Y → MtR Y id r) (ho : PE X o to) (ha : PA X (e :: es) t)
    (hbase : attributeBase o name X.env (eval o X.env) = eval o X.env) (hfew : ((backTo cpos (starEach (e :: es) X.env)).all (fun x => !x.1) && (backToKw cpos (keywordEach [] X.env)).all (fun x => x.1.isSome) && decide ((e :: es).length + ([] : List Keyword).length + (if ([] : List Keyword).isEmpty then 0 else 1) < 30)) = true)
    (hline : (apos.endLine == cpos.line) = true) (hs : starEach (e :: es) X.env = (false, eval e X.env) :: starEach es X.env) (hplain : (backTo cpos (starEach es X.env)).any (·.1) = false) : PE X (.Call (.Attribute o name apos) (e :: es) [] cpos) (tBM X.K T r to t) := by
  intro pins s σ H Q I J h
  refine wpAny_Call_method_late hbase hfew hline rfl (thn (ho pins s σ H _ I J h) fun v s1 ⟨⟨x, H1, I1, r1, ty, q1⟩, k1⟩ => ?_)
  obtain ⟨h1, h2⟩ := tyV_is I1 r1 ty
  have hA := ha cpos pins s1 σ H1 _ I1 J q1
  refine ⟨T, id, pa, slot, hty, h1, h2, ?_⟩
  rw [hs] at hA ⊢
  refine Calls.callWith_builtin (by show (false || (backTo cpos (starEach es X.env)).any (·.1)) = false; rw [hplain]; rfl) (Calls.evalArgs_plain (thn hA fun us s2 ⟨⟨vs, H2, I2, r2, q2⟩, k2⟩ => ?_))
  exact thn (vl I2 J fun Y sm p' σ' I' => hm Y sm p' s2 σ' H2 x vs v us Q I' r1 r2 q2) fun w s3 ⟨z, k3⟩ => ⟨z, (k1.trans k2).trans k3⟩
theorem pe_m1 {o : Expr} {to : TE} {id : String} {name : Str} {apos : Pos} {r : V → List V → Hp → VK → Prop} (slot : Slot "str" name id) (ty : typeOf (.builtin id) = pure (.type "method_descriptor")) (rule : ∀ Y, Sm X Y → MtR Y id r) (ho : PE X o to) (he : PE X e te)
    (hs : starEach [e] X.env = [(false, eval e X.env)]) (hbase : attributeBase o name X.env (eval o X.env) = eval o X.env) (hline : (apos.endLine == pos.line) = true) : PE X (.Call (.Attribute o name apos) [e] [] pos) (tM1 r to te) := by
  intro pins s σ H Q I J h
  refine PySem.Call_method1 hbase hs hline (thn (ho pins s σ H _ I J h) fun v s1 ⟨⟨x, H1, I1, r1, ⟨a', ex⟩, q1⟩, k1⟩ => ?_)
  subst ex
  obtain ⟨t', rfl⟩ := _root_.id r1
  refine ⟨"str", _, F.plainAttrs_str, slot, ty, typeIs_str _ _ _, (fun _ z => nomatch z), Calls.callWith_builtin rfl (Calls.evalArgs_plain (Calls.spliced_cons (thn (he pins s1 σ H1 _ I1 J q1) fun u s2 ⟨⟨y, H2, I2, r2, q2⟩, k2⟩ => Calls.spliced_nil ?_)))⟩
  exact thn (vl I2 J fun Y sm p' σ' I' => rule Y sm p' s2 σ' H2 _ [y] _ [u] Q I' r1 (.cons r2 .nil) q2) fun w s3 ⟨z, k3⟩ => ⟨z, (k1.trans k2).trans k3⟩
end
end Wk
end
section
set_option maxRecDepth 100000
set_option maxHeartbeats 1000000
/-! The calculus once more, over what keeps the frame (printed by gen_zd.py from the rules of Wb .. Wr1). -/
namespace Wk
open PySem L2 Wr PyProof.Rows
open PySem.W (EachIs AllAlike Sortable dataLe)
structure GV (c : Cs) (X : Cx) : Prop where
  prog : X.prog = c.g.P
  w : X.w = c.g.w
  K : X.K = c.g.K
  mg : X.mg = c.g.mg
  base : X.base = c.g.base
  room : Room c.k X.A
  calm : X.calm = true
  xe : X.xe = fun _ _ => False
  gd : c.gd = true → X.A.guards = some []
theorem GV.hu {c : Cs} {X : Cx} (G : GV c X) : X.A.units + 64 < cLine := G.room.units
theorem GV.of {c : Cs} {X : Cx} (G : Good c X) : GV c X := ⟨G.prog, G.w, G.K, G.mg, G.base, G.room, G.calm, G.xe, G.gd⟩
theorem GV.jk {c : Cs} {X : Cx} {s : Shared} {H : Hp} {j : Addr} (G : GV c X) : GV c (jkC X s H j) := ⟨G.prog, G.w, G.K, G.mg, G.base, G.room, G.calm, G.xe, G.gd⟩
def wpE (X : Cx) (e : Expr) : TE := fun σ H Q => ∀ (pins : List (Addr × Obj)) (s : Shared), Inv X pins σ H s → Jk X pins → wpAny (model X.prog X.w) X.A (eval e X.env) (fun u s' => EP X pins σ Q u s' ∧ Kp X s s') X.xe s
def wpT (X : Cx) (e : Expr) : TT := fun σ H Q => ∀ (pins : List (Addr × Obj)) (s : Shared), Inv X pins σ H s → Jk X pins → wpAny (model X.prog X.w) X.A (isTrue e X.env (eval e X.env)) (fun u s' => TP X pins σ Q u s' ∧ Kp X s s') X.xe s
def wpW (X : Cx) (e : Expr) : TT := fun σ H Q => ∀ (wh : Sem Value) (pins : List (Addr × Obj)) (s : Shared), Inv X pins σ H s → Jk X pins → wpAny (model X.prog X.w) X.A (isTrue e X.env wh) (fun u s' => TP X pins σ Q u s' ∧ Kp X s s') X.xe s
def wpA (X : Cx) (es : List Expr) : TA := fun σ H Q => ∀ (pos : Pos) (pins : List (Addr × Obj)) (s : Shared), Inv X pins σ H s → Jk X pins → wpAny (model X.prog X.w) X.A (spliced (backTo pos (starEach es X.env))) (fun u s' => AP X pins σ Q u s' ∧ Kp X s s') X.xe s
def wpK (X : Cx) (kws : List Keyword) : TA := fun σ H Q => ∀ (pos : Pos) (pins : List (Addr × Obj)) (s : Shared), Inv X pins σ H s → Jk X pins → wpAny (model X.prog X.w) X.A (evalAll ((backToKw pos (keywordEach kws X.env)).map (·.2))) (fun u s' => AP X pins σ Q u s' ∧ Kp X s s') X.xe s
def wpO (X : Cx) (o : Option Expr) : TO := fun σ H Q => ∀ (pins : List (Addr × Obj)) (s : Shared), Inv X pins σ H s → Jk X pins → wpAny (model X.prog X.w) X.A (evalPart o X.env) (fun u s' => (∃ o H', Inv X pins σ H' s' ∧ IsPart u o ∧ Q o H') ∧ Kp X s s') X.xe s
theorem pe_wp {X : Cx} {e : Expr} : PE X e (wpE X e) := fun pins s _ _ _ I J h => h pins s I J
theorem pt_wp {X : Cx} {e : Expr} : PT X e (wpT X e) := fun pins s _ _ _ I J h => h pins s I J
theorem pw_wp {X : Cx} {e : Expr} : PW X e (wpW X e) := fun wh pins s _ _ _ I J h => h wh pins s I J
theorem pa_wp {X : Cx} {es : List Expr} : PA X es (wpA X es) := fun pos pins s _ _ _ I J h => h pos pins s I J
theorem pk_wp {X : Cx} {kws : List Keyword} : PK X kws (wpK X kws) := fun pos pins s _ _ _ I J h => h pos pins s I J
theorem po_wp {X : Cx} {o : Option Expr} : PO X o (wpO X o) := fun pins s _ _ _ I J h => h pins s I J
theorem wp_pe {X : Cx} {e : Expr} {t : TE} (h : PE X e t) {σ : L2.St} {H : Hp} {Q : VK} (q : t σ H Q) : wpE X e σ H Q := fun pins s I J => h pins s σ H Q I J q
theorem wp_pt {X : Cx} {e : Expr} {t : TT} (h : PT X e t) {σ : L2.St} {H : Hp} {Q : Bool → Hp → Prop} (q : t σ H Q) : wpT X e σ H Q := fun pins s I J => h pins s σ H Q I J q
theorem wp_pw {X : Cx} {e : Expr} {t : TT} (h : PW X e t) {σ : L2.St} {H : Hp} {Q : Bool → Hp → Prop} (q : t σ H Q) : wpW X e σ H Q := fun wh pins s I J => h wh pins s σ H Q I J q
theorem wp_pa {X : Cx} {es : List Expr} {t : TA} (h : PA X es t) {σ : L2.St} {H : Hp} {Q : List V → Hp → Prop} (q : t σ H Q) : wpA X es σ H Q := fun pos pins s I J => h pos pins s σ H Q I J q
theorem wp_pk {X : Cx} {kws : List Keyword} {t : TA} (h : PK X kws t) {σ : L2.St} {H : Hp} {Q : List V → Hp → Prop} (q : t σ H Q) : wpK X kws σ H Q := fun pos pins s I J => h pos pins s σ H Q I J q
theorem wp_po {X : Cx} {o : Option Expr} {t : TO} (h : PO X o t) {σ : L2.St} {H : Hp} {Q : Option Int → Hp → Prop} (q : t σ H Q) : wpO X o σ H Q := fun pins s I J => h pins s σ H Q I J q
theorem pw_pt {X : Cx} {e : Expr} {t : TT} (h : PW X e t) : PT X e t := h _
def EV (c : Cs) (ρ : List (Option Sl)) (M : Hp) (e : Expr) (R : Wish) : Prop := ∀ X, Good c X → ∀ (σ : L2.St) (I F : Hp), En c.g.C I σ ρ → Ds I M F → ∀ Q : VK, Gives c.g.C I F R Q → wpE X e σ (J3 I M F) Q
abbrev EM (c : Cs) (ρ : List (Option Sl)) (M : Hp) (e : Expr) (x : Sl) (M' : Hp) : Prop := EV c ρ M e (only x M')
def TM (c : Cs) (ρ : List (Option Sl)) (M : Hp) (e : Expr) (b : Bool) (M' : Hp) : Prop := ∀ X, Good c X → ∀ (σ : L2.St) (I F : Hp), En c.g.C I σ ρ → Ds I M F → ∀ Q : Bool → Hp → Prop, (∀ I2, Same I I2 → Ds I2 M' F → Q b (J3 I2 M' F)) → wpT X e σ (J3 I M F) Q
def WM (c : Cs) (ρ : List (Option Sl)) (M : Hp) (e : Expr) (b : Bool) (M' : Hp) : Prop := ∀ X, Good c X → ∀ (σ : L2.St) (I F : Hp), En c.g.C I σ ρ → Ds I M F → ∀ Q : Bool → Hp → Prop, (∀ I2, Same I I2 → Ds I2 M' F → Q b (J3 I2 M' F)) → wpW X e σ (J3 I M F) Q
def AM (c : Cs) (ρ : List (Option Sl)) (M : Hp) (es : List Expr) (xs : List Sl) (M' : Hp) : Prop := ∀ X, Good c X → ∀ (σ : L2.St) (I F : Hp), En c.g.C I σ ρ → Ds I M F → ∀ Q : List V → Hp → Prop, (∀ vs I2, Same I I2 → Ds I2 M' F → Iss c.g.C I2 vs xs → Q vs (J3 I2 M' F)) → wpA X es σ (J3 I M F) Q
def AV (c : Cs) (ρ : List (Option Sl)) (M : Hp) (es : List Expr) (R : List Sl → Hp → Prop) : Prop := ∀ X, Good c X → ∀ (σ : L2.St) (I F : Hp), En c.g.C I σ ρ → Ds I M F → ∀ Q : List V → Hp → Prop, (∀ vs I2 xs M', R xs M' → Same I I2 → Ds I2 M' F → Iss c.g.C I2 vs xs → Q vs (J3 I2 M' F)) → wpA X es σ (J3 I M F) Q
def KM (c : Cs) (ρ : List (Option Sl)) (M : Hp) (kws : List Keyword) (xs : List Sl) (M' : Hp) : Prop := ∀ X, Good c X → ∀ (σ : L2.St) (I F : Hp), En c.g.C I σ ρ → Ds I M F → ∀ Q : List V → Hp → Prop, (∀ vs I2, Same I I2 → Ds I2 M' F → Iss c.g.C I2 vs xs → Q vs (J3 I2 M' F)) → wpK X kws σ (J3 I M F) Q
def OM (c : Cs) (ρ : List (Option Sl)) (M : Hp) (o : Option Expr) (i : Option Int) : Prop := ∀ X, Good c X → ∀ (σ : L2.St) (I F : Hp), En c.g.C I σ ρ → Ds I M F → ∀ Q : Option Int → Hp → Prop, (∀ I2, Same I I2 → Ds I2 M F → Q i (J3 I2 M F)) → wpO X o σ (J3 I M F) Q
section
variable {g : Gm} {k : Nat} {N : List Str} {sc : Scope} {gd : Bool} {bl : Option Scope} {c : Cs} {ρ : List (Option Sl)} {M M1 M2 M3 M' : Hp} {a b e : Expr} {es : List Expr} {x y z : Sl} {xs : List Sl} {R : Wish} {pos p : Pos} {I I2 F : Hp} {C : Addr} {Q : VK} {ds : List PyData} {l : List Nat} {i j : Int} {d : PyData} {q : Addr} {lo hi : Option Expr}
theorem EV.imp (h : EV c ρ M e R) {R' : Wish} (f : ∀ x M', R x M' → R' x M') : EV c ρ M e R' := fun X G σ I F en d Q q => h X G σ I F en d Q fun v I2 x M' r => q v I2 x M' (f x M' r)
theorem EM.to (h : EM c ρ M e x M') (r : R x M') : EV c ρ M e R := EV.imp h fun _ _ ⟨e1, e2⟩ => by rw [e1, e2]; exact r
theorem EM.is (h : EM c ρ M e x M') (q : x = y) : EM c ρ M e y M' := by rw [← q]; exact h
theorem em_bind {X : Cx} (h : EM c ρ M e x M') (G : Good c X) {σ : L2.St} (en : En c.g.C I σ ρ) (d : Ds I M F) {Q : VK} (q : ∀ v I2, Same I I2 → Ds I2 M' F → Is c.g.C I2 v x → Q v (J3 I2 M' F)) : wpE X e σ (J3 I M F) Q := h X G σ I F en d Q fun v I2 y M2 ⟨e1, e2⟩ s2 d2 i2 => by
  subst e1 e2
  exact q v I2 s2 d2 i2
theorem two {X : Cx} {r : R2} (G : Good c X) {σ : L2.St} (en : En c.g.C I σ ρ) (di : Ds I M F) (ha : EM c ρ M a x M1) (hb : EM c ρ M1 b y M2) {Q : VK} (hr : ∀ I2 v u, Same I I2 → Ds I2 M2 F → Is c.g.C I2 v x → Is c.g.C I2 u y → r v u (J3 I2 M2 F) Q) : tOp r (wpE X a) (wpE X b) σ (J3 I M F) Q :=
  em_bind ha G en di fun v I1 s1 d1 i1 => em_bind hb G (en.mono s1) d1 fun u I2 s2 d2 i2 => hr I2 v u (s1.trans s2) d2 (i1.mono s2) i2
/-- the same from the old frame's view -/
abbrev Kj {α : Sort _} (r : Cx → α) : Prop := ∀ X s H j, r (jkC X s H j) = r X
theorem sm_op {X : Cx} {r : Cx → R2} {f : Value → Value → Sem Value} (G : Good c X) (ho : ∀ X, GV c X → OpR X f (r X)) (hj : Kj r) : ∀ Y, Sm X Y → OpR Y f (r X) := fun Y sm => by
  cases sm with
  | self => exact ho X (.of G)
  | @jk s H j => rw [← hj X s H j]; exact ho _ (GV.of G).jk
theorem sm_call {X : Cx} {r : Cx → List V → Hp → VK → Prop} {f : Value} (G : Good c X) (ho : ∀ X, GV c X → CallR X f (r X)) (hj : Kj r) : ∀ Y, Sm X Y → CallR Y f (r X) := fun Y sm => by
  cases sm with
  | self => exact ho X (.of G)
  | @jk s H j => rw [← hj X s H j]; exact ho _ (GV.of G).jk
theorem sm_ix {X : Cx} {r : Cx → R2} (ho : ∀ X, IxR X (r X)) (hj : Kj r) : ∀ Y, Sm X Y → IxR Y (r X) := fun Y sm => by
  cases sm with
  | self => exact ho X
  | @jk s H j => rw [← hj X s H j]; exact ho _
theorem sm_sl {X : Cx} {r : Cx → V → Option Int → Option Int → Hp → VK → Prop} (ho : ∀ X, SlR X (r X)) (hj : Kj r) : ∀ Y, Sm X Y → SlR Y (r X) := fun Y sm => by
  cases sm with
  | self => exact ho X
  | @jk s H j => rw [← hj X s H j]; exact ho _
theorem sm_mt {X : Cx} {id : String} {r : Cx → V → List V → Hp → VK → Prop} (ho : ∀ X, MtR X id (r X)) (hj : Kj r) : ∀ Y, Sm X Y → MtR Y id (r X) := fun Y sm => by
  cases sm with
  | self => exact ho X
  | @jk s H j => rw [← hj X s H j]; exact ho _
theorem ev_op {op : Operator} {r : Cx → R2} (ho : ∀ X, GV c X → OpR X (binaryOp op) (r X)) (ha : EM c ρ M a x M1) (hb : EM c ρ M1 b y M2) (hr : RD c r x y M2 R) (hj : Kj r := by exact fun _ _ _ _ => rfl) : EV c ρ M (.BinOp a op b pos) R := fun X G σ I F en di Q hQ =>
  wp_pe (pe_op (sm_op G ho hj) pe_wp pe_wp) (two G en di ha hb fun I2 v u s d i1 i2 => hr X G I2 F v u d i1 i2 Q (hQ.mono s))
theorem ev_opE {op : Operator} {r : Cx → R2} (ho : ∀ X, GV c X → OpR X (binaryOp op) (r X)) (ha : EV c ρ M a fun x M1 => EV c ρ M1 b fun y M2 => RD c r x y M2 R) (hj : Kj r := by exact fun _ _ _ _ => rfl) : EV c ρ M (.BinOp a op b pos) R := fun X G σ I F en di Q hQ =>
  wp_pe (pe_op (sm_op G ho hj) pe_wp pe_wp) (ha X G σ I F en di _ fun v I1 x M1 hb s1 d1 i1 => hb X G σ I1 F (en.mono s1) d1 _ fun u I2 y M2 hr s2 d2 i2 => hr X G I2 F v u d2 (i1.mono s2) i2 Q (hQ.mono (s1.trans s2)))
theorem ev_cmp {op : CmpOp} {r : Cx → R2} (ho : ∀ X, GV c X → OpR X (compareOp op) (r X)) (ha : EM c ρ M a x M1) (hb : EM c ρ M1 b y M2) (hr : RD c r x y M2 R) (hm : behindInMarks op b = false := by rfl) (hj : Kj r := by exact fun _ _ _ _ => rfl) : EV c ρ M (.Compare a [op] [b] pos) R := fun X G σ I F en di Q hQ =>
  wp_pe (pe_cmpR (sm_op G ho hj) pe_wp pe_wp hm) (two G en di ha hb fun I2 v u s d i1 i2 => hr X G I2 F v u d i1 i2 Q (hQ.mono s))
theorem tm_cmpE {op : CmpOp} {r : Cx → R2} {t : Bool} (ho : ∀ X, GV c X → OpR X (compareOp op) (r X)) (ha : EV c ρ M a fun x M1 => EV c ρ M1 b fun y M2 => RD c r x y M2 (only (.dat (.bool t)) M3)) (hm : behindInMarks op b = false := by rfl) (hj : Kj r := by exact fun _ _ _ _ => rfl) : TM c ρ M (.Compare a [op] [b] pos) t M3 := fun X G σ I F en di Q hQ =>
  wp_pt (pt_cmpR (sm_op G ho hj) pe_wp pe_wp hm) (ha X G σ I F en di _ fun v I1 x M1 hb s1 d1 i1 => hb X G σ I1 F (en.mono s1) d1 _ fun u I2 y M2 hr s2 d2 i2 => hr X G I2 F v u d2 (i1.mono s2) i2 _ fun w I3 z M4 ⟨e1, e2⟩ s3 d3 i3 => by
    subst e1 e2
    exact ⟨t, is_bl i3, hQ I3 ((s1.trans s2).trans s3) d3⟩)
theorem tm_cmp {op : CmpOp} {r : Cx → R2} {t : Bool} (ho : ∀ X, GV c X → OpR X (compareOp op) (r X)) (ha : EM c ρ M a x M1) (hb : EM c ρ M1 b y M2) (hr : RD c r x y M2 (only (.dat (.bool t)) M2)) (hm : behindInMarks op b = false := by rfl) (hj : Kj r := by exact fun _ _ _ _ => rfl) : TM c ρ M (.Compare a [op] [b] pos) t M2 :=
  tm_cmpE ho (EM.to ha (EM.to hb hr)) hm hj
theorem em_var (i : Nat) {x : Str} {d : Sl} (h : chkV N sc i x = true := by decide +kernel) (hd : ρ[i]? = some (some d) := by rfl) : EM ⟨g, k, N, sc, gd, bl⟩ ρ M (.Name x pos) d M := fun X G σ I F en di Q hQ => by
  unfold chkV at h
  simp only [Bool.and_eq_true, decide_eq_true_eq, Bool.not_eq_true'] at h
  obtain ⟨⟨⟨h1, h2⟩, h3⟩, h4⟩ := h
  obtain ⟨v, e, i'⟩ := en.at_ i d hd
  exact wp_pe (pe_var (i := i) (by rw [G.N]; exact h1) (by rw [G.sc]; exact vis_of h2) h3 h4) ⟨v, e, hQ.only (Same.refl I) di i'⟩
theorem em_int {i : Int} {j} : EM c ρ M (.Constant (.int i) j pos) (.dat (.int i)) M := fun X G σ I F en di Q hQ => wp_pe pe_int (hQ.only (Same.refl I) di (.int i))
theorem tm_bind {X : Cx} {t : Bool} (h : TM c ρ M e t M') (G : Good c X) {σ : L2.St} (en : En c.g.C I σ ρ) (d : Ds I M F) {Q : Bool → Hp → Prop} (q : ∀ I2, Same I I2 → Ds I2 M' F → Q t (J3 I2 M' F)) : wpT X e σ (J3 I M F) Q := h X G σ I F en d Q q
theorem TM.is {s t : Bool} (h : TM c ρ M e s M') (q : s = t) : TM c ρ M e t M' := by rw [← q]; exact h
theorem tm_w {t : Bool} (h : WM c ρ M e t M') : TM c ρ M e t M' := fun X G σ I F en di Q hQ => wp_pt (pw_pt pw_wp) (h X G σ I F en di Q hQ)
theorem am_bind {X : Cx} {es : List Expr} {xs : List Sl} (h : AM c ρ M es xs M') (G : Good c X) {σ : L2.St} (en : En c.g.C I σ ρ) (d : Ds I M F) {Q : List V → Hp → Prop} (q : ∀ vs I2, Same I I2 → Ds I2 M' F → Iss c.g.C I2 vs xs → Q vs (J3 I2 M' F)) : wpA X es σ (J3 I M F) Q := h X G σ I F en d Q q
theorem ev_callB {id : String} {r : Cx → List V → Hp → VK → Prop} {f : Str} (hc : ∀ X, GV c X → CallR X (.builtin id) (r X)) (ha : AM c ρ M (e :: es) xs M1) (hr : CD c r xs M1 R) (hf : glB c.sc f = true) (hb : f ∈ bltNames := by decide +kernel) (hv : bootBuiltins f = some (.builtin id) := by decide +kernel) (hn : f ≠ "__name__" := by decide +kernel)
    (hs : ∀ env : PySem.Env, starEach (e :: es) env = (false, eval e env) :: starEach es env := by intro _; rfl) (hp : ∀ env : PySem.Env, (backTo pos (starEach es env)).any (·.1) = false := by intro _; rfl) (hj : Kj r := by exact fun _ _ _ _ => rfl) : EV c ρ M (.Call (.Name f p) (e :: es) [] pos) R := fun X G σ I F en di Q hQ => by
  obtain ⟨h1, h2⟩ := G.gl hf
  exact wp_pe (pe_callB (sm_call G hc hj) h1 (by rw [G.mg]; exact c.g.blt f hb) hv pa_wp hn h2 (hs _) (hp _)) (am_bind ha G en di fun vs I2 s d i => hr X G I2 F vs d i Q (hQ.mono s))
theorem ev_callTy {T : String} {r : Cx → List V → Hp → VK → Prop} {f : Str} (hc : ∀ X, GV c X → CallR X (.type T) (r X)) (ha : AM c ρ M (e :: es) xs M1) (hr : CD c r xs M1 R) (hf : glB c.sc f = true) (hb : f ∈ bltNames := by decide +kernel) (hv : bootBuiltins f = some (.type T) := by decide +kernel) (hn : f ≠ "__name__" := by decide +kernel)
    (hs : ∀ env : PySem.Env, starEach (e :: es) env = (false, eval e env) :: starEach es env := by intro _; rfl) (hp : ∀ env : PySem.Env, (backTo pos (starEach es env)).any (·.1) = false := by intro _; rfl) (hj : Kj r := by exact fun _ _ _ _ => rfl) : EV c ρ M (.Call (.Name f p) (e :: es) [] pos) R := fun X G σ I F en di Q hQ => by
  obtain ⟨h1, h2⟩ := G.gl hf
  exact wp_pe (pe_callTy (sm_call G hc hj) h1 (by rw [G.mg]; exact c.g.blt f hb) hv pa_wp hn h2 (hs _) (hp _)) (am_bind ha G en di fun vs I2 s d i => hr X G I2 F vs d i Q (hQ.mono s))
theorem ev_callV {T : Wr.Spec} {kf : Nat} {f : Str} (Fh : Fn g f kf T) (ha : AV ⟨g, k, N, sc, gd, bl⟩ ρ M (e :: es) fun xs M1 => T xs M1 R) (hk : kf ≤ k := by decide) (hf : glB sc f = true := by decide +kernel)
    (hs : ∀ env : PySem.Env, starEach (e :: es) env = (false, eval e env) :: starEach es env := by intro _; rfl) (hp : ∀ env : PySem.Env, (backTo pos (starEach es env)).any (·.1) = false := by intro _; rfl) : EV ⟨g, k, N, sc, gd, bl⟩ ρ M (.Call (.Name f p) (e :: es) [] pos) R := fun X G σ I F en di Q hQ => by
  obtain ⟨a, fd, ps, h1, h2, h3, h4⟩ := Fh.ex
  obtain ⟨g1, g2⟩ := G.gl hf
  refine wp_pe (pe_call (sp := spT g.C T) (k := kf) (g := a) (fd := fd) (ps := ps) (by rw [G.prog, G.w, G.K, G.mg, G.base]; exact h1) (G.room.mono hk) g1 (by rw [G.mg]; exact h2) (by rw [G.K]; exact h3) (by rw [G.K]; exact h4) pa_wp g2 (hs _) (hp _)) ?_
  exact ha X G σ I F en di _ fun vs I2 xs M1 hT s d i => ⟨I2, M1, F, xs, R, rfl, d, by rw [List.append_nil]; exact i, hT, hQ.mono s⟩
theorem av_am {R : List Sl → Hp → Prop} (h : AM c ρ M es xs M1) (r : R xs M1) : AV c ρ M es R := fun X G σ I F en di Q hQ => h X G σ I F en di Q fun vs I2 s d i => hQ vs I2 xs M1 r s d i
theorem ev_call {T : Wr.Spec} {kf : Nat} {f : Str} (Fh : Fn g f kf T) (ha : AM ⟨g, k, N, sc, gd, bl⟩ ρ M (e :: es) xs M1) (hT : T xs M1 R) (hk : kf ≤ k := by decide) (hf : glB sc f = true := by decide +kernel)
    (hs : ∀ env : PySem.Env, starEach (e :: es) env = (false, eval e env) :: starEach es env := by intro _; rfl) (hp : ∀ env : PySem.Env, (backTo pos (starEach es env)).any (·.1) = false := by intro _; rfl) : EV ⟨g, k, N, sc, gd, bl⟩ ρ M (.Call (.Name f p) (e :: es) [] pos) R := ev_callV Fh (av_am ha hT) hk hf hs hp
theorem ev_callKw {T : Wr.Spec} {kf : Nat} {f' : Str} {ks : List Str} {kws : List Keyword} (Fk : FnK g f' kf ks T) (ha : KM ⟨g, k, N, sc, gd, bl⟩ ρ M kws xs M1) (hT : T xs.reverse M1 R) (hk : kf ≤ k := by decide) (hf : glB sc f' = true := by decide +kernel)
    (hall : ∀ env : PySem.Env, (backToKw pos (keywordEach kws env)).all (·.1.isSome) = true := by intro _; rfl) (hks : ∀ env : PySem.Env, (backToKw pos (keywordEach kws env)).filterMap (·.1) = ks := by intro _; rfl)
    (hpl : ∀ env : PySem.Env, ((backTo pos (starEach [] env)).any (·.1) || (backToKw pos (keywordEach kws env)).any (·.1.isNone)) = false := by intro _; rfl) : EV ⟨g, k, N, sc, gd, bl⟩ ρ M (.Call (.Name f' p) [] kws pos) R := fun X G σ I F en di Q hQ => by
  obtain ⟨a, fd, ps, h1, h2, h3, h4⟩ := Fk.ex
  obtain ⟨g1, g2⟩ := G.gl hf
  rw [← G.prog, ← G.w, ← G.K, ← G.mg, ← G.base] at h1
  rw [← G.mg] at h2
  rw [← G.K] at h3
  intro pins s Iv J
  refine wpAny_Call_Name_kw (ld_glob Iv g1 h2 (PySem.W.callWith_KW0 (h₀ := X.base) Iv.ok.mod.kin h3 (hall _) ?_ (hpl _)) g2)
  refine thn (ha X G σ I F en di (fun zs H2 => spT g.C T zs.reverse H2 Q E0) (fun vs I2 s2 d2 i2 => ⟨I2, M1, F, xs.reverse, R, rfl, d2, i2.reverse, hT, hQ.mono s2⟩) pos pins s Iv J) fun ws s2 ⟨⟨zs, H2, Iv2, rz, q2⟩, k2⟩ => ⟨Iv2.kIn, ?_⟩
  rw [hks]
  have r2 : Vals zs.reverse ws.reverse := rz.reverse
  have hl : ws.length = ps.length := by
    have := h1.len _ _ _ _ q2
    rw [r2.length, List.length_reverse] at this
    exact this
  have run : ∀ (Y : Cx) (p' : List (Addr × Obj)) (σ' : L2.St), Y.prog = X.prog → Y.w = X.w → Y.K = X.K → Y.mg = X.mg → Y.base = X.base → Y.A = X.A → Inv Y p' σ' H2 s2 → wpAny (model Y.prog Y.w) Y.A (call (.ref a) [] (ks.zip ws)) (EP Y p' σ' Q) Y.xe s2 := fun Y p' σ' e1 e2 e3 e4 e5 e6 Iy => by
    refine wpAny_call (codeAny_mono ((by rw [e1, e2, e3, e4, e5]; exact h1 : FnOk Y.prog Y.w Y.K Y.mg Y.base CX0 kf a fd ps (spT g.C T)).run Y.A Y.stack s2 H2 ⟨[], ks.zip ws⟩ ws.reverse zs.reverse Q E0 (by rw [e6]; exact G.room.mono hk) Iy.env0 (h4 s2 ws hl) r2 q2) fun r s' hq => ?_)
    cases r with
    | error e => exact hq.elim
    | ok fl =>
      cases fl with
      | ret u => exact Iy.after hq
      | next => exact False.elim hq
      | brk => exact False.elim hq
      | cont => exact False.elim hq
  refine thn (vl Iv2 J fun Y sm p' σ' Iy => ?_) fun w s3 ⟨zz, k3⟩ => ⟨zz, k2.trans k3⟩
  cases sm with
  | self => exact run X p' σ' rfl rfl rfl rfl rfl rfl Iy
  | jk => exact run _ p' σ' rfl rfl rfl rfl rfl rfl Iy
theorem wm_and1 {t : Bool} (h : TM c ρ M e t M') : WM c ρ M (.BoolOp .And [e] pos) t M' := fun X G σ I F en di Q hQ => wp_pw (pw_and1 pt_wp) (h X G σ I F en di Q hQ)
theorem wm_and {s t : Bool} {r : List Expr} (h : TM c ρ M a s M) (h2 : s = true → WM c ρ M (.BoolOp .And (b :: r) pos) t M) : WM c ρ M (.BoolOp .And (a :: b :: r) pos) (s && t) M := fun X G σ I F en di Q hQ =>
  wp_pw (pw_and pt_wp pw_wp) (tm_bind h G en di fun I1 s1 d1 => by
    cases s with
    | true =>
      rw [if_pos rfl]
      exact h2 rfl X G σ I1 F (en.mono s1) d1 Q fun I2 s2 d2 => hQ I2 (s1.trans s2) d2
    | false =>
      rw [if_neg Bool.false_ne_true]
      exact hQ I1 s1 d1)
theorem tm_and {s t : Bool} (h : TM c ρ M a s M) (h2 : s = true → TM c ρ M b t M) : TM c ρ M (.BoolOp .And [a, b] pos) (s && t) M := tm_w (wm_and h fun e => wm_and1 (h2 e))
theorem am_nil : AM c ρ M [] [] M := fun X G σ I F en di Q hQ => wp_pa pa_nil (hQ [] I (Same.refl I) di .nil)
theorem am_cons {es : List Expr} {xs : List Sl} (h : EM c ρ M e x M1) (ht : AM c ρ M1 es xs M2) (hs : ∀ env : PySem.Env, starEach (e :: es) env = (false, eval e env) :: starEach es env := by intro _; rfl) : AM c ρ M (e :: es) (x :: xs) M2 := fun X G σ I F en di Q hQ =>
  wp_pa (pa_cons pe_wp pa_wp (hs X.env)) (em_bind h G en di fun v I1 s1 d1 i1 => am_bind ht G (en.mono s1) d1 fun vs I2 s2 d2 i2 => hQ (v :: vs) I2 (s1.trans s2) d2 (.cons (i1.mono s2) i2))
theorem em_tup {es : List Expr} {x1} (ds : List PyData) (h : AM c ρ M es (ds.map Sl.dat) M1) (hz : ds.length ≤ 1000 := by first | decide | simp) : EM c ρ M (.Tuple es x1 pos) (.dat (.tuple ds)) M1 := fun X G σ I F en di Q hQ =>
  wp_pe (pe_tup pa_wp) (am_bind h G en di fun vs I1 s1 d1 i1 => ⟨by rw [(dats_of i1).length]; exact Nat.le_of_lt (small1000 hz), gives_tup (hQ.mono s1) only_self d1 (dats_of i1)⟩)
theorem em_lst {es : List Expr} (ds : List PyData) (h : AM c ρ M es (ds.map Sl.dat) M1) (hz : ds.length ≤ 1000 := by first | decide | simp) : EM c ρ M (.List es pos) (.dat (.list ds)) M1 := fun X G σ I F en di Q hQ =>
  wp_pe (pe_lst pa_wp) (am_bind h G en di fun vs I1 s1 d1 i1 => ⟨by rw [(dats_of i1).length]; exact Nat.le_of_lt (small1000 hz), gives_lst (hQ.mono s1) only_self d1 (dats_of i1)⟩)
theorem em_add (ha : EM c ρ M a (.dat (.int i)) M1) (hb : EM c ρ M1 b (.dat (.int j)) M2) : EM c ρ M (.BinOp a .Add b pos) (.dat (.int (i + j))) M2 := ev_op (fun _ _ => op_add) ha hb rd_I0
theorem em_sub (ha : EM c ρ M a (.dat (.int i)) M1) (hb : EM c ρ M1 b (.dat (.int j)) M2) : EM c ρ M (.BinOp a .Sub b pos) (.dat (.int (i - j))) M2 := ev_op (fun _ _ => op_sub) ha hb rd_I0
theorem em_ge (ha : EM c ρ M a (.dat (.int i)) M1) (hb : EM c ρ M1 b (.dat (.int j)) M2) : EM c ρ M (.Compare a [.GtE] [b] pos) (.dat (.bool (decide (j ≤ i)))) M2 := ev_cmp (fun _ _ => op_ge) ha hb (rd_IB (f := fun i j => decide (j ≤ i))) (nomark _)
theorem tm_ge (ha : EM c ρ M a (.dat (.int i)) M1) (hb : EM c ρ M1 b (.dat (.int j)) M2) : TM c ρ M (.Compare a [.GtE] [b] pos) (decide (j ≤ i)) M2 := tm_cmp (fun _ _ => op_ge) ha hb (rd_IB (f := fun i j => decide (j ≤ i))) (nomark _)
theorem em_eqI {i j : Int} (ha : EM c ρ M a (.dat (.int i)) M1) (hb : EM c ρ M1 b (.dat (.int j)) M2) : EM c ρ M (.Compare a [.Eq] [b] pos) (.dat (.bool (decide (i = j)))) M2 := ev_cmp (fun _ _ => op_eq) ha hb rd_eqI (nomark _)
theorem tm_neB {i j : Bool} (ha : EM c ρ M a (.dat (.bool i)) M1) (hb : EM c ρ M1 b (.dat (.bool j)) M2) : TM c ρ M (.Compare a [.NotEq] [b] pos) (i != j) M2 := tm_cmp (fun _ _ => op_ne) ha hb rd_neB (nomark _)
theorem am_one (h : EM c ρ M e x M1) (hs : ∀ env : PySem.Env, starEach (e :: []) env = (false, eval e env) :: starEach [] env := by intro _; rfl) : AM c ρ M [e] [x] M1 := am_cons h am_nil hs
theorem am_two (h : EM c ρ M a x M1) (h2 : EM c ρ M1 b y M2) (hs : ∀ env : PySem.Env, starEach (a :: [b]) env = (false, eval a env) :: starEach [b] env := by intro _; rfl) (hs2 : ∀ env : PySem.Env, starEach (b :: []) env = (false, eval b env) :: starEach [] env := by intro _; rfl) : AM c ρ M [a, b] [x, y] M2 := am_cons h (am_cons h2 am_nil hs2) hs
theorem em_lenL (ha : EM ⟨g, k, N, sc, gd, bl⟩ ρ M e (.dat (.list ds)) M1) (hf : glB sc "len" = true := by decide +kernel) (hs : ∀ env : PySem.Env, starEach (e :: []) env = (false, eval e env) :: starEach [] env := by intro _; rfl) : EM ⟨g, k, N, sc, gd, bl⟩ ρ M (.Call (.Name "len" p) [e] [] pos) (.dat (.int ds.length)) M1 :=
  ev_callB (fun _ _ => call_len_seq) (am_one ha hs) (fun X G I F vs d i Q hQ => by
    obtain ⟨v, rfl, h⟩ := is1 i
    obtain ⟨q, ys, rfl, e1, f1⟩ := is_lst h
    refine ⟨q, ys, rfl, .inl (SqL.of (j3_I e1)), ?_⟩
    rw [f1.length]
    exact hQ.only (Same.refl I) d (.int _)) hf (hs := hs)
theorem em_tupleL (ha : EM ⟨g, k, N, sc, gd, bl⟩ ρ M e (.dat (.list ds)) M1) (hf : glB sc "tuple" = true := by decide +kernel) (hs : ∀ env : PySem.Env, starEach (e :: []) env = (false, eval e env) :: starEach [] env := by intro _; rfl) : EM ⟨g, k, N, sc, gd, bl⟩ ρ M (.Call (.Name "tuple" p) [e] [] pos) (.dat (.tuple ds)) M1 :=
  ev_callTy (fun _ _ => call_tuple_of) (am_one ha hs) (fun X G I F vs d i Q hQ => by
    obtain ⟨v, rfl, h⟩ := is1 i
    obtain ⟨q, ys, rfl, e1, f1⟩ := is_lst h
    exact ⟨q, ys, rfl, .inl ⟨SqL.of (j3_I e1), gives_tup hQ only_self d f1⟩⟩) hf (hs := hs)
theorem tm_neD (ha : EM c ρ M a (.dat d) M1) (hb : EM c ρ M1 b (.dat f) M2) (s1 : SeqAt.shaped d = true) (s2 : SeqAt.shaped f = true) (e : PyData.eqv d f = t) : TM c ρ M (.Compare a [.NotEq] [b] pos) (!t) M2 := tm_cmp (fun _ G => op_neD G.hu) ha hb (rd_neD s1 s2 e) (nomark _)
theorem em_inLT {ns : List Int} {nss : List (List Int)} (ha : EM c ρ M a (.dat (tI ns)) M1) (hb : EM c ρ M1 b (.dat (.list (nss.map tI))) M2) (hm : behindInMarks .In b = false := by rfl) : EM c ρ M (.Compare a [.In] [b] pos) (.dat (.bool (decide (ns ∈ nss)))) M2 :=
  ev_cmp (r := fun X => rInD X.K) (fun _ G => op_inD (by have := G.hu; have := G.room.un; unfold cLine at *; omega)) ha hb (fun X G I F v u d h1 h2 Q hQ => by
    refine ⟨tI ns, nss.map tI, Dat.dp _ v (Dat.mono same_j3 _ v h1), Dat.dp _ u (Dat.mono same_j3 _ u h2), shaped_tI ns, shaped_lT nss, ?_⟩
    rw [any_tI]
    exact hQ.only (Same.refl I) d (.bl _)) hm
theorem em_index {l : List Nat} {n : Nat} {apos : Pos} (ha : EM c ρ M a (.dat (S l)) M1) (hb : EM c ρ M1 b (.dat (S [n])) M2) (h : n ∈ l) (hs : ∀ env : PySem.Env, starEach [b] env = [(false, eval b env)] := by intro _; rfl) (hbase : ∀ env : PySem.Env, attributeBase a "index" env (eval a env) = eval a env := by intro _; rfl)
    (hline : (apos.endLine == pos.line) = true := by rfl) : EM c ρ M (.Call (.Attribute a "index" apos) [b] [] pos) (.dat (.int (l.idxOf n : Nat))) M2 := fun X G σ I F en di Q hQ =>
  wp_pe (pe_m1 PySem.F.slot_str_index PySem.F.type_str_index (sm_mt (r := fun _ => _) (fun _ => mt_sindex) (fun _ _ _ _ => rfl)) pe_wp pe_wp (hs _) (hbase _) hline) (em_bind ha G en di fun v I1 s1 d1 i1 => ⟨⟨_, is_str i1⟩, em_bind hb G (en.mono s1) d1 fun u I2 s2 d2 i2 => by
    obtain ⟨r, e⟩ := occ_idx h
    exact ⟨sOf l, sOf [n], _, r, is_str i1, by rw [is_str i2], e, hQ.only (s1.trans s2) d2 (.int _)⟩⟩)
theorem om_none : OM c ρ M none none := fun X G σ I F en di Q q => wp_po po_none (q I (Same.refl I) di)
theorem om_some {i : Int} (h : EM c ρ M e (.dat (.int i)) M) : OM c ρ M (some e) (some i) := fun X G σ I F en di Q q => wp_po (po_some pe_wp) (em_bind h G en di fun v I2 s2 d2 i2 => ⟨i, is_int i2, q I2 s2 d2⟩)
theorem em_slT {ds : List PyData} {lo hi : Option Expr} {i j : Option Int} {p2 : Pos} (ha : EM c ρ M a (.dat (.tuple ds)) M) (hl : OM c ρ M lo i) (hh : OM c ρ M hi j) : EM c ρ M (.Subscript a (.Slice lo hi none p2) pos) (.dat (.tuple (cutD ds i j))) M := fun X G σ I F en di Q hQ =>
  wp_pe (pe_slice (sm_sl (r := fun X => rSlA X.K) (fun _ => sl_tupA) (fun _ _ _ _ => rfl)) pe_wp po_wp po_wp) (em_bind ha G en di fun v I1 s1 d1 i1 => hl X G σ I1 F (en.mono s1) d1 _ fun I2 s2 d2 => hh X G σ I2 F (en.mono (s1.trans s2)) d2 _ fun I3 s3 d3 => by
    obtain ⟨q, ys, rfl, e1, f1⟩ := is_tup (i1.mono (s2.trans s3))
    have fc := dats_cut f1 i j
    refine ⟨q, ys, rfl, SqT.of (j3_I e1), fun hw => ?_, fun _ => gives_tup (hQ.mono ((s1.trans s2).trans s3)) only_self d3 fc⟩
    rw [cutV_all _ _ _ hw] at fc
    exact hQ.only ((s1.trans s2).trans s3) d3 (.tup e1 fc))
theorem em_catT {ds es : List PyData} (ha : EM c ρ M a (.dat (.tuple ds)) M1) (hb : EM c ρ M1 b (.dat (.tuple es)) M2) (hz : ds.length + es.length ≤ 100000) : EM c ρ M (.BinOp a .Add b pos) (.dat (.tuple (ds ++ es))) M2 :=
  ev_op (r := fun X => rCatA X.K) (fun _ _ => op_catA) ha hb fun X G I F v u d h1 h2 Q hQ => by
    obtain ⟨p, xs, rfl, e1, f1⟩ := is_tup h1
    obtain ⟨q, ys, rfl, e2, f2⟩ := is_tup h2
    refine ⟨p, q, xs, ys, rfl, rfl, SqT.of (j3_I e1), SqT.of (j3_I e2), by rw [f1.length, f2.length]; exact Nat.le_trans hz (by decide), fun h => ?_, fun _ h => ?_, fun _ _ => gives_tup hQ only_self d (f1.append f2)⟩
    · have := f1.append f2
      rw [h, List.nil_append] at this
      exact hQ.only (Same.refl I) d (.tup e2 this)
    · have := f1.append f2
      rw [h, List.append_nil] at this
      exact hQ.only (Same.refl I) d (.tup e1 this)
theorem em_rep {ds : List PyData} {n : Nat} (ha : EM c ρ M a (.dat (.list ds)) M1) (hb : EM c ρ M1 b (.dat (.int n)) M2) (hz : ds.length * n ≤ 100000) (hn : n ≤ 100000) : EM c ρ M (.BinOp a .Mult b pos) (.dat (.list (List.replicate n ds).flatten)) M2 :=
  ev_op (r := fun X => rRep) (fun _ _ => op_rep) ha hb fun X G I F v u d h1 h2 Q hQ => by
    obtain ⟨p, xs, rfl, e1, f1⟩ := is_lst h1
    refine ⟨p, n, xs, rfl, is_int h2, j3_I e1, by omega, by omega, by rw [f1.length]; exact Nat.le_trans hz (by decide), ?_⟩
    exact gives_lst hQ only_self d (dats_rep f1 _)
theorem ev_newL : EV c ρ M (.List [] pos) (newO (mL []) M) := fun X G σ I F en di Q hQ =>
  wp_pe (pe_lst pa_wp) (am_bind am_nil G en di fun vs I1 s1 d1 i1 => by
    cases i1
    exact ⟨by decide, gives_new (hQ.mono s1) d1 fun p hp => ⟨p, hp, rfl, rfl⟩⟩)
theorem em_ixM {i : Int} (ha : EM c ρ M a (.raw (.ref q)) M1) (hb : EM c ρ M1 b (.dat (.int i)) M2) (hm : M2 q = some (mL ds)) (h : atI ds i = some d) (hfl : flatD d = true) (hs : PlainIx b := by exact fun _ _ => rfl) : EM c ρ M (.Subscript a b pos) (.dat d) M2 := by
  intro X G σ I F en di Q hQ
  refine wp_pe (pe_ix (sm_ix (r := fun X => rIxL X.K) (fun _ => ix_list) (fun _ _ _ _ => rfl)) pe_wp pe_wp hs) (two G en di ha hb fun I2 v u s dd i1 i2 => ?_)
  refine ⟨q, ds.map fV, i, fV d, is_raw i1, is_int i2, SqL.of (j3_M dd hm), ?_, hQ.only s dd (dat_flat hfl)⟩
  obtain ⟨j, e1, e2⟩ := atI_len h
  unfold atI
  rw [List.length_map, e2]
  show (ds.map fV)[j]? = _
  rw [List.getElem?_map, e1]
  rfl
theorem em_frzL (ha : EM c ρ M e (.raw (.ref q)) M1) (hm : M1 q = some (mL ds)) (hfl : Flats ds) : EM c ρ M e (.dat (.list ds)) (delM M1 q) := fun X G σ I F en di Q hQ =>
  em_bind ha G en di fun v I2 s d i => by
    rw [is_raw i, frz_J hm d]
    exact hQ.only (s.trans (frz_same hm d)) (frz_ds hm d) (.lst upd_same (dats_flat hfl))
theorem em_tupleM (ha : EM ⟨g, k, N, sc, gd, bl⟩ ρ M e (.raw (.ref q)) M1) (hm : M1 q = some (mL ds)) (hfl : Flats ds) (hf : glB sc "tuple" = true := by decide +kernel) (hs : ∀ env : PySem.Env, starEach (e :: []) env = (false, eval e env) :: starEach [] env := by intro _; rfl) : EM ⟨g, k, N, sc, gd, bl⟩ ρ M (.Call (.Name "tuple" p) [e] [] pos) (.dat (.tuple ds)) M1 :=
  ev_callTy (fun _ _ => call_tuple_of) (am_one ha hs) (fun X G I F vs d i Q hQ => by
    obtain ⟨v, rfl, h⟩ := is1 i
    exact ⟨q, ds.map fV, by rw [is_raw h], .inl ⟨SqL.of (j3_M d hm), gives_tup hQ only_self d (dats_flat hfl)⟩⟩) hf (hs := hs)
theorem ev_append {apos : Pos} (ha : EM c ρ M a (.raw (.ref q)) M) (hm : M q = some (mL ds)) (he : EV c ρ M e fun y M1 => ∃ d ds2, y = .dat d ∧ flatD d = true ∧ M1 q = some (mL ds2) ∧ ds2.length ≤ 100000 ∧ R (.dat .none) (upd M1 q (mL (ds2 ++ [d]))))
    (hs : ∀ env : PySem.Env, starEach (e :: []) env = (false, eval e env) :: starEach [] env := by intro _; rfl) (hbase : ∀ env : PySem.Env, attributeBase a "append" env (eval a env) = eval a env := by intro _; rfl)
    (hfew : ∀ env : PySem.Env, ((backTo pos (starEach [e] env)).all (fun x => !x.1) && (backToKw pos (keywordEach [] env)).all (fun x => x.1.isSome) && decide ([e].length + ([] : List Keyword).length + (if ([] : List Keyword).isEmpty then 0 else 1) < 30)) = true := by intro _; rfl)
    (hline : (apos.endLine == pos.line) = true := by rfl) : EV c ρ M (.Call (.Attribute a "append" apos) [e] [] pos) R := fun X G σ I F en di Q hQ =>
  wp_pe (pe_bm PySem.F.plainAttrs_list PySem.F.slot_list_append PySem.F.type_list_append (sm_mt (r := fun _ => rAppend) (fun _ => mt_append) (fun _ _ _ _ => rfl)) pe_wp (pa_cons pe_wp pa_nil (hs _)) (hbase _) (hfew _) hline (hs _) rfl) (em_bind ha G en di fun v I1 s1 d1 i1 => ⟨by
      rw [is_raw i1]
      exact .inl ⟨rfl, _, SqL.of (j3_M d1 hm)⟩, he X G σ I1 F (en.mono s1) d1 _ fun u I2 y M1 ⟨d, ds2, e1, hd, hm2, hz, r⟩ s2 d2 i2 => by
        subst e1
        refine ⟨q, ds2.map fV, fV d, is_raw i1, by rw [flat_dat hd i2], j3_M d2 hm2, ?_, ?_⟩
        · rw [List.length_map]
          exact Nat.lt_of_le_of_lt hz (by decide)
        · rw [upd_J hm2 d2]
          have e2 : HO.lst (ds2.map fV ++ [fV d]) = mL (ds2 ++ [d]) := by unfold mL; rw [List.map_append]; rfl
          rw [e2]
          exact hQ _ I2 _ _ r (s1.trans s2) (ds_upd hm2 d2) .non⟩)
theorem em_sumT {ns : List Int} (ha : EM ⟨g, k, N, sc, gd, bl⟩ ρ M e (.dat (tI ns)) M1) (hf : glB sc "sum" = true := by decide +kernel) (hs : ∀ env : PySem.Env, starEach (e :: []) env = (false, eval e env) :: starEach [] env := by intro _; rfl) : EM ⟨g, k, N, sc, gd, bl⟩ ρ M (.Call (.Name "sum" p) [e] [] pos) (.dat (.int ns.sum)) M1 :=
  ev_callB (fun _ G => cr_sumT G.calm) (am_one ha hs) (fun X G I F vs d i Q hQ => by
    obtain ⟨v, rfl, h⟩ := is1 i
    obtain ⟨q, ys, rfl, e1, f1⟩ := is_tup h
    have := f1.ints
    subst this
    exact ⟨q, ns, rfl, SqT.of (j3_I e1), hQ.only (Same.refl I) d (.int _)⟩) hf (hs := hs)
theorem em_minT {ns : List Int} (ha : EM ⟨g, k, N, sc, gd, bl⟩ ρ M e (.dat (tI ns)) M1) (hne : 0 < ns.length) (hf : glB sc "min" = true := by decide +kernel) (hs : ∀ env : PySem.Env, starEach (e :: []) env = (false, eval e env) :: starEach [] env := by intro _; rfl) : EM ⟨g, k, N, sc, gd, bl⟩ ρ M (.Call (.Name "min" p) [e] [] pos) (.dat (.int (minL ns))) M1 :=
  ev_callB (fun _ G => cr_minT G.calm G.hu) (am_one ha hs) (fun X G I F vs d i Q hQ => by
    obtain ⟨v, rfl, h⟩ := is1 i
    obtain ⟨q, ys, rfl, e1, f1⟩ := is_tup h
    have := f1.ints
    subst this
    cases ns with
    | nil => simp at hne
    | cons n ns => exact ⟨q, n, ns, rfl, j3_I e1, hQ.only (Same.refl I) d (.int _)⟩) hf (hs := hs)
theorem av_nil {R : List Sl → Hp → Prop} (h : R [] M) : AV c ρ M [] R := fun X G σ I F en di Q hQ => wp_pa pa_nil (hQ [] I [] M h (Same.refl I) di .nil)
theorem av_cons {R : List Sl → Hp → Prop} (h : EV c ρ M e fun x M1 => AV c ρ M1 es fun xs M2 => R (x :: xs) M2) (hs : ∀ env : PySem.Env, starEach (e :: es) env = (false, eval e env) :: starEach es env := by intro _; rfl) : AV c ρ M (e :: es) R := fun X G σ I F en di Q hQ =>
  wp_pa (pa_cons pe_wp pa_wp (hs X.env)) (h X G σ I F en di _ fun v I1 x M1 r s1 d1 i1 => r X G σ I1 F (en.mono s1) d1 _ fun vs I2 xs M2 r2 s2 d2 i2 => hQ (v :: vs) I2 (x :: xs) M2 r2 (s1.trans s2) d2 (.cons (i1.mono s2) i2))
theorem em_sortD (ha : EM ⟨g, k, N, sc, gd, bl⟩ ρ M e (.dat (.list ds)) M1) (h1 : AllAlike ds) (h2 : Sortable ds) (h3 : PyData.depthAll ds ≤ 50) (hf : glB sc "sorted" = true := by decide +kernel) (hs : ∀ env : PySem.Env, starEach (e :: []) env = (false, eval e env) :: starEach [] env := by intro _; rfl) : EM ⟨g, k, N, sc, gd, bl⟩ ρ M (.Call (.Name "sorted" p) [e] [] pos) (.dat (.list (sortD ds))) M1 :=
  ev_callB (r := fun _ => rSrtD) (fun _ G => cr_sortedDat G.hu) (am_one ha hs) (fun X G I F vs d i Q hQ => by
    obtain ⟨v, rfl, h⟩ := is1 i
    obtain ⟨q, ys, rfl, e1, f1⟩ := is_lst h
    exact ⟨I, q, ys, ds, same_j3, rfl, e1, f1, h1, h2, h3, fun p zs hz hp => gives_lst hQ only_self d hz p hp⟩) hf (hs := hs)
theorem em_sortI {ns : List Int} (ha : EM ⟨g, k, N, sc, gd, bl⟩ ρ M e (.dat (.list (ns.map .int))) M1) (hf : glB sc "sorted" = true := by decide +kernel) (hs : ∀ env : PySem.Env, starEach (e :: []) env = (false, eval e env) :: starEach [] env := by intro _; rfl) : EM ⟨g, k, N, sc, gd, bl⟩ ρ M (.Call (.Name "sorted" p) [e] [] pos) (.dat (.list ((srtI ns).map .int))) M1 := by
  rw [← sortD_I]
  exact em_sortD ha (AllAlike.of fun b b' => by simp [PySem.W.alike]) (Sortable.others fun b => ⟨by simp, by simp⟩) (by rw [depth_ints]; omega) hf hs
theorem ev_subE (ha : EV c ρ M a fun x M1 => ∃ i : Int, x = .dat (.int i) ∧ EV c ρ M1 b fun y M2 => ∃ j : Int, y = .dat (.int j) ∧ R (.dat (.int (i - j))) M2) : EV c ρ M (.BinOp a .Sub b pos) R :=
  ev_opE (fun _ _ => op_sub) (EV.imp ha fun x M1 ⟨i, e, h⟩ => EV.imp h fun y M2 ⟨j, e2, h2⟩ => by
    subst e e2
    exact fun X G I F v u d h1 h3 Q hQ => ⟨i, j, is_int h1, is_int h3, hQ.now h2 d (.int _)⟩)
theorem ev_newListE (h : EV ⟨g, k, N, sc, gd, bl⟩ ρ M e fun x M1 => ∃ ds, x = .dat (.tuple ds) ∧ Flats ds ∧ ∀ p, M1 p = none → R (.raw (.ref p)) (upd M1 p (mL ds))) (hf : glB sc "list" = true := by decide +kernel) (hs : ∀ env : PySem.Env, starEach (e :: []) env = (false, eval e env) :: starEach [] env := by intro _; rfl) (hp : ∀ env : PySem.Env, (backTo pos (starEach [] env)).any (·.1) = false := by intro _; rfl) : EV ⟨g, k, N, sc, gd, bl⟩ ρ M (.Call (.Name "list" p) [e] [] pos) R := fun X G σ I F en di Q hQ => by
  obtain ⟨h1, h2⟩ := G.gl hf
  refine wp_pe (pe_callTy (sm_call (r := fun X xs H Q => ∃ p ys, xs = [V.ref p] ∧ (SqL X.K H p ys ∨ SqT X.K H p ys) ∧ ∀ l, H l = none → Q (.ref l) (upd H l (.lst ys))) G (fun _ _ => call_list_of) (fun _ _ _ _ => rfl)) h1 (by rw [G.mg]; exact g.blt "list" (by decide +kernel)) (by decide +kernel : bootBuiltins "list" = some (.type "list")) (pa_cons pe_wp pa_nil (hs _)) (by decide +kernel) h2 (hs _) (hp _)) ?_
  refine h X G σ I F en di _ fun v I1 x M1 ⟨ds, e1, hfl, r⟩ s1 d1 i1 => ?_
  subst e1
  obtain ⟨q, ys, rfl, e1, f1⟩ := is_tup i1
  have := flats_dat hfl f1
  subst this
  exact ⟨q, _, rfl, .inr (SqT.of (j3_I e1)), gives_new (hQ.mono s1) d1 r⟩
theorem ev_tupV {es : List Expr} {x1} (h : AV c ρ M es fun xs M1 => ∃ ds, xs = ds.map Sl.dat ∧ ds.length ≤ 1000 ∧ R (.dat (.tuple ds)) M1) : EV c ρ M (.Tuple es x1 pos) R := fun X G σ I F en di Q hQ =>
  wp_pe (pe_tup pa_wp) (h X G σ I F en di _ fun vs I1 xs M1 ⟨ds, e1, hz, r⟩ s1 d1 i1 => by
    subst e1
    exact ⟨by rw [(dats_of i1).length]; exact Nat.le_of_lt (small1000 hz), gives_tup (hQ.mono s1) r d1 (dats_of i1)⟩)
theorem km_nil : KM c ρ M [] [] M := fun X G σ I F en di Q hQ => wp_pk pk_nil (hQ [] I (Same.refl I) di .nil)
theorem km_cons {nm} {kpos : Pos} {kws : List Keyword} (h : EM c ρ M e x M1) (ht : KM c ρ M1 kws xs M2) : KM c ρ M (⟨nm, e, kpos⟩ :: kws) (x :: xs) M2 := fun X G σ I F en di Q hQ =>
  wp_pk (pk_cons pe_wp pk_wp) (em_bind h G en di fun v I1 s1 d1 i1 => ht X G σ I1 F (en.mono s1) d1 _ fun vs I2 s2 d2 i2 => hQ (v :: vs) I2 (s1.trans s2) d2 (.cons (i1.mono s2) i2))
end
end Wk
end
section
set_option maxRecDepth 100000
set_option maxHeartbeats 1000000
/-! Statements, a name's value being known to the last sign. -/
namespace Wk
open PySem L2 Wr PyProof.Rows
/-- the name nm holds the text hs, an object of its own -/
structure Hm (X : Cx) (nm hs : Str) (s : Shared) : Prop where
  ex : ∃ m t, s.heap.Ns X.env.locals m ∧ m nm = some (.str hs t) ∧ 1 ≤ t ∧ t < s.toks
section
variable {X : Cx} {nm hs : Str} {s s' : Shared} {pins : List (Addr × Obj)} {σ : L2.St} {H : Hp}
theorem Hm.kp (h : Hm X nm hs s) (k : Kp X s s') : Hm X nm hs s' := by
  obtain ⟨m, t, a, b, c, d⟩ := h.ex
  exact ⟨m, t, k.ns m a, b, c, Nat.lt_of_lt_of_le d k.tk⟩
theorem store_h {M : Model} {A : Around} {E : Value → Shared → Prop} {i : Nat} {x : Str} {v : V} {u : Value} {Q : Unit → Shared → Prop} (I : Inv X pins σ H s) (hm : Hm X nm hs s) (hN : X.N.Nodup) (hi : X.N[i]? = some x) (hx : Loc X.env.scope x) (hf : X.fn x = true ∨ X.env.scope.names.lookup x = some .local) (hne : x ≠ nm) (r : RelV v u)
    (h : ∀ s', Inv X pins (σ.set i (some v)) H s' → Hm X nm hs s' → Q () s') : wpAny M A (storeName X.env x u) Q E s := by
  have a : wpAny M A (storeName X.env x u) (fun _ s' => Inv X pins (σ.set i (some v)) H s') E s := store_ok I hN hi hx r (fun s' J => J) hf
  have b : wpAny M A (storeName X.env x u) (fun _ s' => Hm X nm hs s') E s := by
    obtain ⟨m, t, e1, e2, e3, e4⟩ := hm.ex
    rcases hx with hk | hk
    · refine wpAny_storeName_local hk e1 (fun h' n' _ => ⟨_, t, n', ?_, e3, Nat.lt_succ_of_lt e4⟩) (by rw [I.ok.kind]; rfl)
      show (if nm = x then some u else m nm) = _
      rw [if_neg (Ne.symm hne)]
      exact e2
    · obtain ⟨c, hc⟩ := I.ok.has x (.inl hk)
      obtain ⟨w, z⟩ := I.cell x c hc
      exact wpAny_storeName_cell I.ok.kind hk hc z fun h' _ sb => ⟨m, t, e1.sameBut sb (Ne.symm (I.cne x c hc)), e2, e3, e4⟩
  exact wpAny_mono (any_both a b) (fun _ s' q => h s' q.1 q.2) fun _ _ q => q.1
end
/-! ### what is walked -/
def PIEk (X : Cx) (pins : List (Addr × Obj)) (σ : L2.St) (tg : Expr) (R : It → Hp → Prop) (s : Shared) (itv : Value) (s2 : Shared) : Prop :=
  ∃ (it : Addr) (fp : List Addr) (tn : Nat → Heap → Prop) (T : It) (H' : Hp), itv = .ref it ∧ Inv X pins σ H' s2 ∧ Turn X.prog X.w X.K tg T fp it tn ∧ tn 0 s2.heap ∧ (∀ b ∈ fp, FpOk X pins H' b) ∧ (∀ b ∈ fp, ∀ p ∈ pins, p.1 < b) ∧ R T H' ∧ Kp X s s2
def wpI (X : Cx) (tg iter : Expr) : TI := fun σ H R => ∀ (pins : List (Addr × Obj)) (s : Shared), Inv X pins σ H s → Jk X pins → wpAny (model X.prog X.w) X.A (eval iter X.env) (fun v s1 => wpAny (model X.prog X.w) X.A (pyIter v) (PIEk X pins σ tg R s) X.xe s1) X.xe s
section
variable {X : Cx} {s : Shared} {pins : List (Addr × Obj)} {σ : L2.St} {H : Hp}
theorem young (I : Inv X pins σ H s) {b : Addr} (hb : s.heap.objs.size ≤ b) : ∀ p ∈ pins, p.1 < b := fun p hp => Nat.lt_of_lt_of_le (Heap.lt_size (I.pin p (List.mem_append_right _ hp)).1) hb
/-- one step of an iterator keeps the frame -/
theorem item_k {tg : Expr} {fp : List Addr} {tn : Nat → Heap → Prop} {T : It} {it : Addr} {i : Nat} (hT : Turn X.prog X.w X.K tg T fp it tn) (hc : X.calm = true) (I : Inv X pins σ H s) (J : Jk X pins) (fpo : ∀ b ∈ fp, FpOk X pins H b) (lt : ∀ b ∈ fp, ∀ p ∈ pins, p.1 < b) (st : tn i s.heap) (go : T.go i H) {E : Value → Shared → Prop} :
    wpAny (model X.prog X.w) X.A (pyNext (.ref it)) (fun r s1 => ∃ u, r = some u ∧ wpAny (model X.prog X.w) X.A (letOwnedTupleGo tg (.ref it) u) (fun _ s2 => (∃ x H', Inv X pins σ H' s2 ∧ RelV x u ∧ T.yld i H x H' ∧ tn (i + 1) s2.heap ∧ ∀ b ∈ fp, H' b = none) ∧ Kp X s s2) E s1) E s := by
  obtain ⟨j2, o2, hp, h1, h2, Y⟩ := jk_inv I J
  have fpy : ∀ b ∈ fp, FpOk (jkC X s H j2) [] H b := fun b hb => by
    obtain ⟨f0, f1, f2, f3, f4, f5⟩ := fpo b hb
    have l2 : j2 < b := lt b hb (j2, o2) hp
    refine ⟨f0, Nat.ne_of_gt l2, fun z => ?_, .inr (Nat.le_trans (cut_size s.heap j2) (Nat.le_of_lt l2)), f4, fun p hp => by cases hp⟩
    rcases List.mem_cons.mp (I.stkSub b z) with y | y
    · exact f1 y
    · exact f2 y
  have a := hT.item X rfl rfl rfl hc i pins s σ H E I fpo st go
  have b := hT.item (jkC X s H j2) rfl rfl rfl hc i [] s [] H E Y fpy st go
  refine wpAny_mono (any_both (PySem.wpAny_toks a) b) (fun r s1 q => ?_) fun e s1 q => q.1.2
  obtain ⟨⟨t1, u, e1, a1⟩, u', e2, b1⟩ := q
  rw [e1] at e2
  cases e2
  refine ⟨u, e1, wpAny_mono (any_both (PySem.wpAny_toks a1) b1) (fun z s2 q => ?_) fun e s1 q => q.1.2⟩
  obtain ⟨⟨t2, q1⟩, x', H', Y', _⟩ := q
  exact ⟨q1, jk_kp I h1 h2 Y' (Nat.le_trans t1 t2)⟩
theorem done_k {tg : Expr} {fp : List Addr} {tn : Nat → Heap → Prop} {T : It} {it : Addr} {i : Nat} (hT : Turn X.prog X.w X.K tg T fp it tn) (hc : X.calm = true) (I : Inv X pins σ H s) (J : Jk X pins) (fpo : ∀ b ∈ fp, FpOk X pins H b) (lt : ∀ b ∈ fp, ∀ p ∈ pins, p.1 < b) (st : tn i s.heap) (stop : T.stop i H) {E : Value → Shared → Prop} :
    wpAny (model X.prog X.w) X.A (pyNext (.ref it)) (fun r s1 => (r = none ∧ Inv X pins σ H s1) ∧ Kp X s s1) E s := by
  obtain ⟨j2, o2, hp, h1, h2, Y⟩ := jk_inv I J
  have fpy : ∀ b ∈ fp, FpOk (jkC X s H j2) [] H b := fun b hb => by
    obtain ⟨f0, f1, f2, f3, f4, f5⟩ := fpo b hb
    have l2 : j2 < b := lt b hb (j2, o2) hp
    refine ⟨f0, Nat.ne_of_gt l2, fun z => ?_, .inr (Nat.le_trans (cut_size s.heap j2) (Nat.le_of_lt l2)), f4, fun p hp => by cases hp⟩
    rcases List.mem_cons.mp (I.stkSub b z) with y | y
    · exact f1 y
    · exact f2 y
  have a := hT.done X rfl rfl rfl hc i pins s σ H E I fpo st stop
  have b := hT.done (jkC X s H j2) rfl rfl rfl hc i [] s [] H E Y fpy st stop
  refine wpAny_mono (any_both (PySem.wpAny_toks a) b) (fun r s1 q => ?_) fun e s1 q => q.1.2
  obtain ⟨⟨t1, q1⟩, _, Y'⟩ := q
  exact ⟨q1, jk_kp I h1 h2 Y' t1⟩
/-- the iterator of a list; of a range that was just made -/
theorem iter_list {tg : Expr} {a : Addr} {xs : List V} {R : It → Hp → Prop} {s0 : Shared} {E : Value → Shared → Prop} (I : Inv X pins σ H s) (hq : SqL X.K H a xs) (k : Kp X s0 s) (q : R (Itl X.K a) H) : wpAny (model X.prog X.w) X.A (pyIter (.ref a)) (PIEk X pins σ tg R s0) E s := by
  obtain ⟨its, rv, p, _⟩ := I.list hq
  refine wpAny_pyIter_list p.isList ⟨s.heap.objs.size, [s.heap.objs.size], _, _, H, rfl, I.kept (t' := s.toks) fun b o e => Heap.get?_push_of_some _ e, turn_list a _, ⟨_, Heap.get?_push_size _ rfl, rfl, rfl⟩, fun b hb => ?_, fun b hb => ?_, q, k.trans Kp.push⟩
  · rw [List.mem_singleton.mp hb]
    exact I.fpOk (Nat.le_refl _) (I.hok.fresh (Nat.le_refl _))
  · rw [List.mem_singleton.mp hb]
    exact young I (Nat.le_refl _)
theorem iter_range {tg : Expr} {n : Int} {t u v : Tok} {tk : Nat} {R : It → Hp → Prop} {s0 : Shared} {E : Value → Shared → Prop} (I : Inv X pins σ H s) (h1 : -(2 ^ 62) ≤ n) (h2 : n < 2 ^ 62) (k : Kp X s0 s) (ht : s.toks ≤ tk) (q : R (Itr 0 n.toNat) H) :
    wpAny (model X.prog X.w) X.A (pyIter (.ref s.heap.objs.size)) (PIEk X pins σ tg R s0) E { s with heap := s.heap.push { cls := .type "range", data := .fields #[.int 0 t, .int n u, .int 1 v] }, toks := tk } := by
  have I1 : Inv X pins σ H { s with heap := s.heap.push { cls := .type "range", data := .fields #[.int 0 t, .int n u, .int 1 v] }, toks := tk } := I.kept fun b o e => Heap.get?_push_of_some _ e
  have k1 : Kp X s { s with heap := s.heap.push { cls := .type "range", data := .fields #[.int 0 t, .int n u, .int 1 v] }, toks := tk } := .same (fun b o e => Heap.get?_push_of_some _ e) ht
  refine wpAny_pyIter_range (IsRange.new ..) (small_one (by decide) (by decide) h1 h2) ?_
  generalize hz : (s.heap.push { cls := .type "range", data := .fields #[.int 0 t, .int n u, .int 1 v] }) = hp at I1 k1 ⊢
  refine ⟨hp.objs.size, [hp.objs.size], _, _, H, rfl, I1.kept (t' := tk) fun b o e => Heap.get?_push_of_some _ e, turn_range _ 0 n.toNat, ?_, fun b hb => ?_, fun b hb => ?_, q, (k.trans k1).trans (.same (fun b o e => Heap.get?_push_of_some _ e) (Nat.le_refl _))⟩
  · have e1 : (0 : Int) + ((0 : Nat) : Int) * 1 = 0 := by simp
    have e2 : ((n.toNat : Nat) : Int) - ((0 : Nat) : Int) = Builtin.Range.rangeSize 0 n 1 := by rw [rangeSize_one]; split <;> omega
    show IsRangeIter _ _ ((0 : Int) + ((0 : Nat) : Int) * 1) (((n.toNat : Nat) : Int) - ((0 : Nat) : Int)) 1
    rw [e1, e2]
    exact Heap.get?_push_size _ rfl
  · rw [List.mem_singleton.mp hb]
    exact I1.fpOk (Nat.le_refl _) (I1.hok.fresh (Nat.le_refl _))
  · rw [List.mem_singleton.mp hb]
    exact young I1 (Nat.le_refl _)
end
def SrcD (c : Cs) (ρ : List (Option Sl)) (M : Hp) (tg iter : Expr) (ds : List Sl) (M1 : Hp) : Prop := ∀ X, Good c X → ∀ (σ : L2.St) (I F : Hp), En c.g.C I σ ρ → Ds I M F → ∀ R : It → Hp → Prop, (∀ T I2, Same I I2 → Ds I2 M1 F → (∀ F', WalkOk c.g.C T ds I2 F') → R T (J3 I2 M1 F)) → wpI X tg iter σ (J3 I M F) R
section
variable {g : Gm} {k : Nat} {N : List Str} {sc : Scope} {gd : Bool} {bl : Option Scope} {c : Cs} {ρ ρ' : List (Option Sl)} {M M1 M2 M3 M' : Hp} {a b e : Expr} {es : List Expr} {x y z : Sl} {xs : List Sl} {R : Wish} {pos p pt : Pos} {I I2 F : Hp} {C : Addr} {Q : VK} {K : Kont} {st : Stmt} {rest : List Stmt} {tg iter : Expr} {ds : List PyData} {nm hs : Str} {q : Addr}
theorem src_l (h : EM c ρ M iter (.dat (.list ds)) M1) : SrcD c ρ M tg iter (ds.map Sl.dat) M1 := fun X G σ I F en di R hR pins s Iv J =>
  thn (h X G σ I F en di (fun v H => ∃ I2, H = J3 I2 M1 F ∧ Same I I2 ∧ Ds I2 M1 F ∧ Is c.g.C I2 v (.dat (.list ds))) (fun v I2 x M' ⟨e1, e2⟩ s2 d2 i2 => by subst e1 e2; exact ⟨I2, rfl, s2, d2, i2⟩) pins s Iv J) fun u s1 ⟨⟨v, H1, I1, r1, I2, e1, s2, d2, i2⟩, k1⟩ => by
    subst e1
    obtain ⟨q, ys, rfl, e1, f1⟩ := is_lst i2
    cases r1
    exact iter_list I1 (SqL.of (j3_I e1)) k1 (hR _ I2 s2 d2 fun F' => walk_l e1 f1)
theorem src_lT {α : Type} {zs : List α} {en : α → PyData} (h : EM c ρ M iter (.dat (.list (zs.map en))) M1) : SrcD c ρ M tg iter (zs.map fun z => .dat (en z)) M1 := by
  have := src_l (tg := tg) h
  rw [List.map_map] at this
  exact this
theorem src_r {n : Nat} (h : EM ⟨g, k, N, sc, gd, bl⟩ ρ M e (.dat (.int n)) M1) (hz : n ≤ 1000000) (hf : glB sc "range" = true := by decide +kernel) (hs : ∀ env : PySem.Env, starEach [e] env = [(false, eval e env)] := by intro _; rfl) :
    SrcD ⟨g, k, N, sc, gd, bl⟩ ρ M tg (.Call (.Name "range" p) [e] [] pos) ((List.range n).map fun i : Nat => Sl.dat (.int i)) M1 := fun X G σ I F en di R hR pins s Iv J => by
  obtain ⟨h1, _⟩ := G.gl hf
  refine Call_ (ld_blt Iv h1 (by rw [G.mg]; exact g.blt _ (by decide +kernel)) boot_range (PyProof.Rows.callWith_type1 (?_ : wpAny _ _ (spliced (backTo pos (starEach [e] X.env))) _ _ _) (hs _) rfl))
  rw [hs]
  refine Calls.spliced_cons (thn (h X G σ I F en di (fun v H => ∃ I2, H = J3 I2 M1 F ∧ Same I I2 ∧ Ds I2 M1 F ∧ v = .int n) (fun v I2 x M' ⟨e1, e2⟩ s2 d2 i2 => by subst e1 e2; exact ⟨I2, rfl, s2, d2, is_int i2⟩) pins s Iv J) fun u s1 ⟨⟨v, H1, I1, r1, I2, e1, s2, d2, e2⟩, k1⟩ => ?_)
  subst e1 e2
  obtain ⟨t, rfl⟩ := r1
  refine Calls.spliced_nil (call_range_1 ?_)
  exact iter_range I1 (by omega) (by omega) k1 (by omega) (by simpa using hR _ I2 s2 d2 fun F' => walk_r)
/-! ### statements -/
def wpS (nm hs : Str) (X : Cx) (st : Stmt) : TS := fun D σ H => ∀ (pins : List (Addr × Obj)) (s : Shared), Inv X pins σ H s → Jk X pins → Hm X nm hs s → wpAny (model X.prog X.w) X.A (exec st X.env) (fun f s' => SP X pins D f s' ∧ Hm X nm hs s') X.xe s
def wpB (nm hs : Str) (X : Cx) (b : List Stmt) : TS := fun D σ H => ∀ (pins : List (Addr × Obj)) (s : Shared), Inv X pins σ H s → Jk X pins → Hm X nm hs s → wpAny (model X.prog X.w) X.A (execs b X.env) (fun f s' => SP X pins D f s' ∧ Hm X nm hs s') X.xe s
def SD (nm hs : Str) (c : Cs) (ρ : List (Option Sl)) (M : Hp) (st : Stmt) (K : Kont) : Prop := ∀ X, Good c X → ∀ (σ : L2.St) (I F : Hp) (D : Ends), En c.g.C I σ ρ → Ds I M F → KOk c.g.C I F K D → wpS nm hs X st D σ (J3 I M F)
def BD (nm hs : Str) (c : Cs) (ρ : List (Option Sl)) (M : Hp) (b : List Stmt) (K : Kont) : Prop := ∀ X, Good c X → ∀ (σ : L2.St) (I F : Hp) (D : Ends), En c.g.C I σ ρ → Ds I M F → KOk c.g.C I F K D → wpB nm hs X b D σ (J3 I M F)
theorem bd_nil (h : K.nx ρ M) : BD nm hs c ρ M [] K := fun X G σ I F D en di kk pins s Iv _ hm => wpAny_execs_nil ⟨⟨σ, _, Iv, kk.nx σ I ρ M h (Same.refl I) en di⟩, hm⟩
theorem bd_cons (h : SD nm hs c ρ M st { K with nx := fun ρ' M' => BD nm hs c ρ' M' rest K }) : BD nm hs c ρ M (st :: rest) K := fun X G σ I F D en di kk pins s Iv J hm => by
  refine wpAny_execs_cons (thn (h X G σ I F { D with nx := fun σ H => wpB nm hs X rest D σ H } en di ⟨fun σ I2 ρ' M' h s2 en d => h X G σ I2 F D en d (kk.mono s2), kk.rt, kk.bk, kk.ct⟩ pins s Iv J hm) fun f s1 ⟨q, hm1⟩ => ?_)
  cases f with
  | next =>
    obtain ⟨σ', H', I', q⟩ := q
    exact q pins s1 I' J hm1
  | ret v => exact ⟨q, hm1⟩
  | brk => exact ⟨q, hm1⟩
  | cont => exact ⟨q, hm1⟩
/-- the expression's end, told whole -/
theorem ev_at {X : Cx} (h : EV c ρ M e R) (G : Good c X) {σ : L2.St} {pins : List (Addr × Obj)} {s : Shared} (en : En c.g.C I σ ρ) (di : Ds I M F) (Iv : Inv X pins σ (J3 I M F) s) (J : Jk X pins) : wpAny (model X.prog X.w) X.A (eval e X.env) (fun u s' => (∃ v I2 x M', Inv X pins σ (J3 I2 M' F) s' ∧ RelV v u ∧ R x M' ∧ Same I I2 ∧ Ds I2 M' F ∧ Is c.g.C I2 v x) ∧ Kp X s s') X.xe s :=
  thn (h X G σ I F en di (fun v H => ∃ I2 x M', H = J3 I2 M' F ∧ R x M' ∧ Same I I2 ∧ Ds I2 M' F ∧ Is c.g.C I2 v x) (fun v I2 x M' r s2 d2 i2 => ⟨I2, x, M', rfl, r, s2, d2, i2⟩) pins s Iv J) fun u s' ⟨⟨v, H1, I1, r1, I2, x, M', e1, q⟩, k1⟩ => by
    subst e1
    exact ⟨⟨v, I2, x, M', I1, r1, q⟩, k1⟩
theorem bd_ret (h : EV c ρ M e K.rt) : BD nm hs c ρ M (.Return (some e) pos :: rest) K := bd_cons fun X G σ I F D en di kk pins s Iv J hm =>
  wpAny_Return_some (thn (h X G σ I F en di _ kk.rt pins s Iv J) fun v s1 ⟨⟨x, H1, I1, r1, q1⟩, k1⟩ => ⟨⟨x, σ, H1, I1, r1, q1⟩, hm.kp k1⟩)
theorem bd_if {t : Bool} {A B : List Stmt} (h : TM c ρ M e t M1) (h1 : t = true → BD nm hs c ρ M1 A { K with nx := fun ρ' M' => BD nm hs c ρ' M' rest K }) (h2 : t = false → BD nm hs c ρ M1 B { K with nx := fun ρ' M' => BD nm hs c ρ' M' rest K }) : BD nm hs c ρ M (.If e A B pos :: rest) K := bd_cons fun X G σ I F D en di kk pins s Iv J hm => by
  refine wpAny_If (thn (h X G σ I F en di (fun b H => b = t ∧ ∃ I2, H = J3 I2 M1 F ∧ Same I I2 ∧ Ds I2 M1 F) (fun I2 s2 d2 => ⟨rfl, I2, rfl, s2, d2⟩) pins s Iv J) fun d s1 ⟨⟨H1, I1, e1, I2, e2, s2, d2⟩, k1⟩ => ?_)
  subst e1 e2
  cases d with
  | true => exact h1 rfl X G σ I2 F _ (en.mono s2) d2 (kk.mono s2) pins s1 I1 J (hm.kp k1)
  | false => exact h2 rfl X G σ I2 F _ (en.mono s2) d2 (kk.mono s2) pins s1 I1 J (hm.kp k1)
/-- if e: .., where e is false -/
theorem bd_pass {A : List Stmt} (h : TM c ρ M e false M1) (h2 : BD nm hs c ρ M1 rest K) : BD nm hs c ρ M (.If e A [] pos :: rest) K := bd_if h (fun q => nomatch q) fun _ => bd_nil h2
theorem bd_do (h : EV c ρ M e fun _ M' => BD nm hs c ρ M' rest K) (hsw : ∀ env : PySem.Env, swapsWith e none pos.line env = pure false := by intro _; rfl) : BD nm hs c ρ M (.Expr e pos :: rest) K := bd_cons fun X G σ I F D en di kk pins s Iv J hm =>
  wpAny_Expr_any (thn (ev_at h G en di Iv J) fun v s1 ⟨⟨w, I2, x, M', I1, r1, q1, s2, d2, i2⟩, k1⟩ => ⟨⟨σ, _, I1, kk.nx σ I2 ρ M' q1 s2 (en.mono s2) d2⟩, hm.kp k1⟩) Iv.quiet (hsw _)
theorem bd_setE (i : Nat) {f : Str} {p' : Pos} (h : EV ⟨g, k, N, sc, gd, bl⟩ ρ M e fun x M' => BD nm hs ⟨g, k, N, sc, gd, bl⟩ (ρ.set i (some x)) M' rest K) (hne : f ≠ nm := by decide) (hc : chkL N sc bl i f = true := by decide +kernel)
    (hsw : ∀ env : PySem.Env, env.scope = sc → swapsWith e (some (.Name f p')) pos.line env = pure false := by intro env h; cases env; cases h; rfl) : BD nm hs ⟨g, k, N, sc, gd, bl⟩ ρ M (.Assign [.Name f p'] e pos :: rest) K := bd_cons fun X G σ I F D en di kk pins s Iv J hm => by
  have L := G.loc hc
  refine wpAny_Assign_Name (thn (ev_at h G en di Iv J) fun v s1 ⟨⟨w, I2, x, M', I1, r1, q1, s2, d2, i2⟩, k1⟩ => ?_) (hsw _ G.sc)
  exact store_h I1 (hm.kp k1) L.nd L.hN L.hx L.hf hne r1 fun s3 I3 hm3 => ⟨⟨_, _, I3, kk.nx _ I2 _ M' q1 s2 ((en.mono s2).set i2) d2⟩, hm3⟩
theorem bd_set (i : Nat) {f : Str} {p' : Pos} (h : EM ⟨g, k, N, sc, gd, bl⟩ ρ M e x M1) (hk : BD nm hs ⟨g, k, N, sc, gd, bl⟩ (ρ.set i (some x)) M1 rest K) (hne : f ≠ nm := by decide) (hc : chkL N sc bl i f = true := by decide +kernel)
    (hsw : ∀ env : PySem.Env, env.scope = sc → swapsWith e (some (.Name f p')) pos.line env = pure false := by intro env h; cases env; cases h; rfl) : BD nm hs ⟨g, k, N, sc, gd, bl⟩ ρ M (.Assign [.Name f p'] e pos :: rest) K := bd_setE i (EM.to h hk) hne hc hsw
/-- a list's item is stored -/
theorem bd_setItem {i : Nat} (he : EV c ρ M e fun y M1 => ∃ d ds, y = .dat d ∧ flatD d = true ∧ M1 q = some (mL ds) ∧ i < ds.length ∧ BD nm hs c ρ (upd M1 q (mL (ds.set i d))) rest K) (ha : ∀ M, EM c ρ M a (.raw (.ref q)) M) (hb : ∀ M, EM c ρ M b (.dat (.int i)) M)
    (has : ∀ (env : PySem.Env) v, assign (.Subscript a b p) env v = (do
      let ov ← holding [v] (eval a env)
      let iv ← holding [v, ov] (eval b env)
      standAt p
      holding [v, ov, iv] (setItem ov iv v)
      release [v, ov, iv] []) := by intro _ _; rfl)
    (hsw : ∀ env : PySem.Env, env.scope = c.sc → swapsWithSole [.Subscript a b p] e pos.line env = pure false := by intro env h; cases env; cases h; rfl) (hw : ∀ env : PySem.Env, env.scope = c.sc → swappedStores [.Subscript a b p] e env = pure none := by intro env h; cases env; cases h; rfl) :
    BD nm hs c ρ M (.Assign [.Subscript a b p] e pos :: rest) K := bd_cons fun X G σ I F D en di kk pins s Iv J hm => by
  refine wpAny_Assign_stores (thn (ev_at he G en di Iv J) fun v s1 ⟨⟨w, I2, y, M2, I1, r1, ⟨d, ds, e1, hd, hm2, hi, hB⟩, s2, d2, i2⟩, k1⟩ => ?_) (hsw _ G.sc) (hw _ G.sc)
  subst e1
  have h1 : (assignEach [Expr.Subscript a b p] X.env).map (·.2) = [assign (.Subscript a b p) X.env] := rfl
  rw [h1]
  refine (?_ : wpAny (model X.prog X.w) X.A (assign (.Subscript a b p) X.env v) (fun _ s' => SP X pins D .next s' ∧ Hm X nm hs s') X.xe s1)
  rw [has]
  have en2 := en.mono s2
  refine wpAny_bind (wpAny_holding (thn (ev_at (ha M2) G en2 d2 I1 J) fun ov s3 ⟨⟨o1, I3, x3, M3, Iv3, r3, ⟨ex3, eM3⟩, s23, d3, i3⟩, k3⟩ => ?_))
  subst ex3 eM3
  refine wpAny_bind (wpAny_holding (thn (ev_at (hb M3) G (en2.mono s23) d3 Iv3 J) fun iv s4 ⟨⟨o2, I4, x4, M4, Iv4, r4, ⟨ex4, eM4⟩, s34, d4, i4⟩, k4⟩ => ?_))
  subst ex4 eM4
  have st24 := s23.trans s34
  have hr : rSetL o1 o2 w (J3 I4 M4 F) (fun H' => H' = J3 I4 (upd M4 q (mL (ds.set i d))) F) := by
    refine ⟨q, ds.map fV, (i : Int), i, is_raw i3, is_int i4, j3_M d4 hm2, ?_, ?_⟩
    · unfold ixN
      rw [if_pos (by omega), List.length_map, if_pos (by omega), Int.toNat_natCast]
    · rw [upd_J hm2 d4, flat_dat hd i2]
      have e2 : HO.lst ((ds.map fV).set i (fV d)) = mL (ds.set i d) := by unfold mL; rw [List.map_set]
      rw [e2]
  refine wpAny_bind (wpAny_standAt (wpAny_bind (wpAny_holding (thn (kp_val Iv4 J (set_list pins s4 σ _ o1 o2 w ov iv v _ Iv4 r3 r4 r1 hr) fun j2 Y => wpAny_mono (set_list (X := jkC X s4 _ j2) [] s4 [] _ o1 o2 w ov iv v _ Y r3 r4 r1 hr) (fun _ s' ⟨H', Y', _⟩ => ⟨[], H', Y'⟩) fun _ _ _ => trivial) fun _ s5 ⟨⟨H5, Iv5, e5⟩, k5⟩ => ?_))))
  subst e5
  exact wpAny_release ⟨⟨σ, _, Iv5, kk.nx σ I4 ρ _ hB (s2.trans st24) (en2.mono st24) (ds_upd hm2 d4)⟩, (((hm.kp k1).kp k3).kp k4).kp k5⟩
/-- x, y = a, b with plain local names -/
theorem bd_par2V (i j : Nat) {f1 f2 : Str} {p1 p2 pt2 : Pos} {kt k2} (h : AV ⟨g, k, N, sc, gd, bl⟩ ρ M [a, b] fun xs M1 => ∃ x y, xs = [x, y] ∧ BD nm hs ⟨g, k, N, sc, gd, bl⟩ ((ρ.set i (some x)).set j (some y)) M1 rest K) (hn1 : f1 ≠ nm := by decide) (hn2 : f2 ≠ nm := by decide)
    (hc : chkL N sc bl i f1 = true := by decide +kernel) (hc2 : chkL N sc bl j f2 = true := by decide +kernel) (hij : i ≠ j := by decide)
    (hw : ∀ env : PySem.Env, env.scope = sc → swappedStores [.Tuple [.Name f1 p1, .Name f2 p2] kt pt] (.Tuple [a, b] k2 pt2) env = pure (some [f1, f2]) := by intro env h; cases env; cases h; rfl)
    (hsw : ∀ env : PySem.Env, env.scope = sc → swapsWithSole [.Tuple [.Name f1 p1, .Name f2 p2] kt pt] (.Tuple [a, b] k2 pt2) pos.line env = pure false := by intro env h; cases env; cases h; rfl) :
    BD nm hs ⟨g, k, N, sc, gd, bl⟩ ρ M (.Assign [.Tuple [.Name f1 p1, .Name f2 p2] kt pt] (.Tuple [a, b] k2 pt2) pos :: rest) K := bd_cons fun X G σ I F D en di kk pins s Iv J hm => by
  have L1 := G.loc hc
  have L2 := G.loc hc2
  rw [exec_Assign_arm]
  refine wpAny_bind (wpAny_standAt ?_)
  rw [hsw _ G.sc]
  refine wpAny_bind (wpAny_pure ?_)
  rw [if_neg (by decide)]
  refine wpAny_bind (Tuple_ (thn (h X G σ I F en di (fun vs H => ∃ I2 xs M', H = J3 I2 M' F ∧ (∃ x y, xs = [x, y] ∧ BD nm hs ⟨g, k, N, sc, gd, bl⟩ ((ρ.set i (some x)).set j (some y)) M' rest K) ∧ Same I I2 ∧ Ds I2 M' F ∧ Iss g.C I2 vs xs) (fun vs I2 xs M' r s2 d2 i2 => ⟨I2, xs, M', rfl, r, s2, d2, i2⟩) _ pins s Iv J) fun us s1 ⟨⟨vs, H1, I1, r1, I2, xs, M', e1, ⟨x, y, e2, hk⟩, s2, d2, i2⟩, k1⟩ => ?_))
  subst e1 e2
  obtain ⟨v, w, rfl, iv, iw⟩ := is2 i2
  cases r1 with
  | @cons _ u1 _ _ rv r1 =>
    cases r1 with
    | @cons _ u2 _ _ rw' r1 =>
      cases r1
      refine wpAny_newObj_type ?_ (by show 2 ≤ sizeLine; decide)
      rw [hw _ G.sc]
      refine wpAny_bind (wpAny_pure ?_)
      refine (?_ : wpAny (model X.prog X.w) X.A (do rule "assign.swapped-stores"; let items ← unpackItems (.ref s1.heap.objs.size) 2 none; assignInOrder [fun v => bindName X.env f2 v, fun v => bindName X.env f1 v] items.reverse; pure Flow.next) _ _ _)
      refine wpAny_bind (wpAny_rule (wpAny_bind (unpackItems_tuple (items := #[u1, u2]) (Iv.ok.hd G.calm) (IsTup.new s1.heap _) fun h' hx' => ?_)))
      have kept : ∀ b o, s1.heap.get? b = some o → h'.get? b = some o := fun b o e => hx' b o (Nat.ne_of_lt (Heap.lt_size (Heap.get?_push_of_some _ e))) (Heap.get?_push_of_some _ e)
      have I3 := I1.kept (h' := h') (t' := s1.toks) kept
      have hm3 : Hm X nm hs { s1 with heap := h', toks := s1.toks } := (hm.kp k1).kp (.same kept (Nat.le_refl _))
      refine (?_ : wpAny _ _ (assignInOrder [fun v => bindName X.env f2 v, fun v => bindName X.env f1 v] [u2, u1] >>= fun _ => pure Flow.next) _ _ _)
      refine wpAny_bind (assignInOrder_cons (wpAny_bindName (store_h I3 hm3 L2.nd L2.hN L2.hx L2.hf hn2 rw' fun s4 I4 hm4 => ?_)))
      refine assignInOrder_cons (wpAny_bindName (store_h I4 hm4 L1.nd L1.hN L1.hx L1.hf hn1 rv fun s5 I5 hm5 => assignInOrder_nil (wpAny_pure ⟨?_, hm5⟩)))
      rw [List.set_comm _ _ (Ne.symm hij)] at I5
      exact ⟨_, _, I5, kk.nx _ I2 _ M' hk s2 (((en.mono s2).set iv).set iw) d2⟩
/-! ### for name in .. -/
theorem bd_for {ds : List Sl} {f : Str} {body : List Stmt} (i0 : Nat) (src : SrcD ⟨g, k, N, sc, gd, bl⟩ ρ M (.Name f pt) iter ds M1) (Jn : Nat → List (Option Sl) → Hp → Prop) (h0 : Jn 0 ρ M1)
    (hst : ∀ i d ρ' M', ds[i]? = some d → Jn i ρ' M' → BD nm hs ⟨g, k, N, sc, gd, bl⟩ (ρ'.set i0 (some d)) M' body { nx := Jn (i + 1), ct := Jn (i + 1), bk := fun ρ M => BD nm hs ⟨g, k, N, sc, gd, bl⟩ ρ M rest K, rt := K.rt }) (hd : ∀ ρ' M', Jn ds.length ρ' M' → BD nm hs ⟨g, k, N, sc, gd, bl⟩ ρ' M' rest K) (hne : f ≠ nm := by decide) (hc : chkL N sc bl i0 f = true := by decide +kernel)
    (hfs : ∀ (env : PySem.Env) (x : Value), foldedSetIterable iter env x = pure x := by intro _ _; rfl) : BD nm hs ⟨g, k, N, sc, gd, bl⟩ ρ M (.For (.Name f pt) iter body [] pos :: rest) K := bd_cons fun X G σ I F D en di kk pins s Iv J hm => by
  have L := G.loc hc
  have hp : PassesOwn (model X.prog X.w) X.A X.env X.xe := by rw [G.xe]; exact PassesOwn.never
  refine wpAny_For (thn (src X G σ I F en di (fun T H => ∃ I1, H = J3 I1 M1 F ∧ Same I I1 ∧ Ds I1 M1 F ∧ ∀ F', WalkOk g.C T ds I1 F') (fun T I2 s2 d2 wk => ⟨I2, rfl, s2, d2, wk⟩) pins s Iv J) fun v s1 h1 => thn h1 fun itv s2 h2 => ?_) (fun x => hfs _ x)
  obtain ⟨it, fp, tn, T, H2, e, Iv2, hT, st2, f2, lt2, ⟨I1, e1, s1', d1, wk⟩, k2⟩ := h2
  subst e e1
  have stat : ∀ {H' : Hp}, (∀ b ∈ fp, H' b = none) → ∀ b ∈ fp, FpOk X pins H' b := fun hn b hb => ⟨hn b hb, (f2 b hb).2⟩
  refine codeAny_forLoop_any (fun n s' => ∃ i σ' I2 ρ' M', n = ds.length - i ∧ i ≤ ds.length ∧ Inv X pins σ' (J3 I2 M' F) s' ∧ Hm X nm hs s' ∧ tn i s'.heap ∧ (∀ b ∈ fp, (J3 I2 M' F) b = none) ∧ Same I1 I2 ∧ En g.C I2 σ' ρ' ∧ Ds I2 M' F ∧ Jn i ρ' M') ?_ ds.length ⟨0, σ, I1, ρ, M1, rfl, Nat.zero_le _, Iv2, hm.kp k2, st2, fun b hb => (f2 b hb).1, Same.refl I1, en.mono s1', d1, h0⟩
  rintro n s3 ⟨i, σ3, I2, ρ', M', hn, hi, Iv3, hm3, st3, fr3, s12, en3, d3, hJ⟩
  by_cases hlt : i < ds.length
  · obtain ⟨d, hdd⟩ : ∃ d, ds[i]? = some d := ⟨_, List.getElem?_eq_getElem hlt⟩
    refine wpAny_passesOwn hp (thn (item_k hT G.calm Iv3 J (stat fr3) lt2 st3 ((wk F).go i I2 M' hlt s12 d3)) fun r s4 ⟨u, hr, h4⟩ => ?_)
    subst hr
    refine wpAny_passesOwn hp (thn h4 fun _ s5 ⟨⟨x, H5, Iv5, r5, y5, st5, fr5⟩, k5⟩ => ?_)
    obtain ⟨I5, s25, d5, e5, i5⟩ := (wk F).yld i I2 M' x H5 d s12 d3 y5 hdd
    subst e5
    have hb := hst i d ρ' M' hdd hJ
    have Iv5' := Iv5.pinned (stat fr5) (hT.obj _ _ st5)
    have J' : Jk X (pins ++ pinsAt fp s5.heap) := J.app _
    have s15 := s12.trans s25
    refine wpAny_passesOwn hp (wpAny_assign_Name (store_h Iv5' (hm3.kp k5) L.nd L.hN L.hx L.hf hne r5 fun s6 Iv6 hm6 => ?_))
    refine wpAny_passesOwn hp (thn (hb X G (σ3.set i0 (some x)) I5 F { nx := fun σ H => ∃ I7 ρ7 M7, H = J3 I7 M7 F ∧ Same I1 I7 ∧ En g.C I7 σ ρ7 ∧ Ds I7 M7 F ∧ Jn (i + 1) ρ7 M7, ct := fun σ H => ∃ I7 ρ7 M7, H = J3 I7 M7 F ∧ Same I1 I7 ∧ En g.C I7 σ ρ7 ∧ Ds I7 M7 F ∧ Jn (i + 1) ρ7 M7, bk := fun σ H => ∃ I7 ρ7 M7, H = J3 I7 M7 F ∧ Same I1 I7 ∧ En g.C I7 σ ρ7 ∧ Ds I7 M7 F ∧ BD nm hs ⟨g, k, N, sc, gd, bl⟩ ρ7 M7 rest K, rt := D.rt } ((en3.mono s25).set i5) d5
      ⟨fun σ7 I7 ρ7 M7 h7 s57 en7 d7 => ⟨I7, ρ7, M7, rfl, s15.trans s57, en7, d7, h7⟩, kk.rt.mono (s1'.trans s15), fun σ7 I7 ρ7 M7 h7 s57 en7 d7 => ⟨I7, ρ7, M7, rfl, s15.trans s57, en7, d7, h7⟩, fun σ7 I7 ρ7 M7 h7 s57 en7 d7 => ⟨I7, ρ7, M7, rfl, s15.trans s57, en7, d7, h7⟩⟩ _ s6 Iv6 J' hm6) fun fl s7 ⟨q7, hm7⟩ => ?_)
    have again : ∀ {σ7 : L2.St} {H7 : Hp}, Inv X (pins ++ pinsAt fp s5.heap) σ7 H7 s7 → (∃ I7 ρ7 M7, H7 = J3 I7 M7 F ∧ Same I1 I7 ∧ En g.C I7 σ7 ρ7 ∧ Ds I7 M7 F ∧ Jn (i + 1) ρ7 M7) → ∃ m, m < n ∧ ∃ i σ' I2 ρ' M', m = ds.length - i ∧ i ≤ ds.length ∧ Inv X pins σ' (J3 I2 M' F) s7 ∧ Hm X nm hs s7 ∧ tn i s7.heap ∧ (∀ b ∈ fp, (J3 I2 M' F) b = none) ∧ Same I1 I2 ∧ En g.C I2 σ' ρ' ∧ Ds I2 M' F ∧ Jn i ρ' M' := fun {σ7 H7} Iv7 ⟨I7, ρ7, M7, e7, s17, en7, d7, h7⟩ => by
      subst e7
      have at_ : ∀ b ∈ fp, ∀ o, s5.heap.get? b = some o → s7.heap.get? b = some o ∧ J3 I7 M7 F b = none := fun b hb o e => let z := Iv7.pin (b, o) (List.mem_append_right _ (List.mem_append_right _ (mem_pinsAt hb e))); ⟨z.1, z.2.1⟩
      refine ⟨ds.length - (i + 1), by omega, i + 1, σ7, I7, ρ7, M7, rfl, hlt, Iv7.unpinned, hm7, hT.keep _ _ _ st5 fun b hb o e => (at_ b hb o e).1, fun b hb => ?_, s17, en7, d7, h7⟩
      obtain ⟨o, e, _⟩ := hT.obj _ _ st5 b hb
      exact (at_ b hb o e).2
    cases fl with
    | next =>
      obtain ⟨σ7, H7, Iv7, n7⟩ := q7
      exact again Iv7 n7
    | cont =>
      obtain ⟨σ7, H7, Iv7, n7⟩ := q7
      exact again Iv7 n7
    | brk =>
      obtain ⟨σ7, H7, Iv7, I7, ρ7, M7, e7, s17, en7, d7, h7⟩ := q7
      subst e7
      exact ⟨⟨σ7, _, Iv7.unpinned, kk.nx σ7 I7 ρ7 M7 h7 (s1'.trans s17) en7 d7⟩, hm7⟩
    | ret v =>
      obtain ⟨x7, σ7, H7, Iv7, r7, z7⟩ := q7
      exact ⟨⟨x7, σ7, H7, Iv7.unpinned, r7, z7⟩, hm7⟩
  · have e : i = ds.length := by omega
    subst e
    refine wpAny_passesOwn hp (thn (done_k hT G.calm Iv3 J (stat fr3) lt2 st3 ((wk F).stop I2 M' s12 d3)) fun r s4 ⟨⟨hr, Iv4⟩, k4⟩ => ?_)
    subst hr
    exact wpAny_execs_nil ⟨⟨σ3, _, Iv4, kk.nx σ3 I2 ρ' M' (hd ρ' M' hJ) (s1'.trans s12) en3 d3⟩, hm3.kp k4⟩
end
end Wk
end
section
set_option maxRecDepth 100000
set_option maxHeartbeats 1000000
/-! List comprehensions keep the frame. -/
namespace Wk
open PySem L2 Wr PyProof.Rows
section
variable {X : Cx} {pins : List (Addr × Obj)} {s : Shared} {σ : L2.St} {H : Hp} {Q : VK} {elt tg iter : Expr} {ifs : List Expr} {scope : Scope} {own : List (Str × Nat)} {pos : Pos} {g : TG} {tt : TT} {te : TE}
/-- behind the block: names and cells as ahead of it -/
theorem blk_keep {s3 s6 : Shared} {H3 H5 : Hp} {fp : List Addr} (I3 : Inv X pins σ H3 s3) (fo : ∀ b ∈ fp, FpOk X pins H3 b) (u : Un (frs X.stack) fp H3 H5 s3.heap s6.heap) : (∀ m, s3.heap.Ns X.env.locals m → s6.heap.Ns X.env.locals m) ∧ ∀ x c v, X.env.cells.lookup x = some c → s3.heap.IsCell c v → s6.heap.IsCell c v := by
  refine ⟨fun m ⟨o, es, ep, e1, r⟩ => ?_, fun x c v e ⟨o, e1, r⟩ => ?_⟩
  · obtain ⟨sl, e2⟩ := u.any e1 I3.free fun z => (fo _ z).2.1 rfl
    exact ⟨_, es, ep, e2, r⟩
  · obtain ⟨sl, e2⟩ := u.any e1 (I3.freeC x c e) fun z => (fo _ z).2.2.2.2.1 x c e rfl
    exact ⟨_, e2, r⟩
theorem lc_kp (hc : X.calm = true) (hN : X.N.Nodup) (I : Inv X pins σ H s) (ok : BlkOk X.N X.env.scope scope own)
    (hg : ∀ (s : Shared) (H : Hp) (C : Addr) (cl : List (Str × Addr)) (fp : List Addr), PG (X.blk s H scope (compEnvC scope cl C X.env) fp) tg g) (ht : ∀ (s : Shared) (H : Hp) (C : Addr) (cl : List (Str × Addr)) (fp : List Addr), PTs (X.blk s H scope (compEnvC scope cl C X.env) fp) ifs tt)
    (he : ∀ (s : Shared) (H : Hp) (C : Addr) (cl : List (Str × Addr)) (fp : List Addr), L2.PE (X.blk s H scope (compEnvC scope cl C X.env) fp) elt te) (hs : ∀ x, foldedSetIterable iter X.env x = pure x)
    (h : wpAny (model X.prog X.w) X.A (eval iter X.env) (fun v s1 => wpAny (model X.prog X.w) X.A (pyIter v) (PIEk X pins σ tg (fun T H1 => tLc (fun _ _ R => R T H1) g tt te (own.map (·.2)) σ H Q) s) X.xe s1) X.xe s) :
    wpAny (model X.prog X.w) X.A (eval (.ListComp elt [⟨tg, iter, ifs, 0⟩] scope pos) X.env) (fun u s' => EP X pins σ Q u s' ∧ Kp X s s') X.xe s := by
  have key : wpAny (model X.prog X.w) X.A (eval (.ListComp elt [⟨tg, iter, ifs, 0⟩] scope pos) X.env) (fun u s' => EP X pins σ Q u s' ∧ (∀ m, s.heap.Ns X.env.locals m → s'.heap.Ns X.env.locals m) ∧ ∀ x c v, X.env.cells.lookup x = some c → s.heap.IsCell c v → s'.heap.IsCell c v) X.xe s := by
    rw [eval_ListComp]
    have clo : ∀ y ∈ scope.names, y.2 = .free → ∃ c, X.env.cells.lookup y.1 = some c := fun y hy e => (ok.free y hy e).elim (fun k => I.ok.has _ (.inl k)) fun k => I.ok.has _ (.inr k)
    refine wpAny_comprehension_free (use := none) rfl hs (closure_ok clo) ok.kind (fun y hy e => by rw [ok.uniq y hy, e]) (thn h fun xv s1 hx => thn hx fun itv s2 hy => ?_)
    obtain ⟨it, fp, tn, T, H2, e0, I2, hT, st2, fo2, _, q, k2⟩ := hy
    subst e0
    refine wpAny_newObj_type (newEnv_comp ?_) (by show 0 ≤ sizeLine; decide)
    have hDn : H2 s2.heap.objs.size = none := I2.hok.fresh (Nat.le_refl _)
    obtain ⟨W, ⟨m0, w0⟩, turn⟩ := q _ hDn
    have I3 : Inv X pins σ (upd H2 s2.heap.objs.size (.lst [])) { s2 with heap := s2.heap.push { cls := .type "list", data := .seq ([] : List Value).toArray } } := I2.laid (t' := s2.toks) (fun b o e => Heap.get?_push_of_some _ e) (Nat.le_refl _) ⟨Nat.zero_le _, [], 0, .nil, Heap.get?_push_size _ rfl⟩
    have p23 : ∀ b o, s2.heap.get? b = some o → (s2.heap.push { cls := .type "list", data := .seq ([] : List Value).toArray }).get? b = some o := fun b o e => Heap.get?_push_of_some _ e
    have z23 : (s2.heap.push { cls := .type "list", data := .seq ([] : List Value).toArray }).objs.size = s2.heap.objs.size + 1 := Heap.size_push _ _
    generalize hD : s2.heap.objs.size = D at *
    generalize hh3 : s2.heap.push { cls := .type "list", data := .seq ([] : List Value).toArray } = h3 at *
    generalize hs3 : ({ s2 with heap := h3 } : Shared) = s3 at *
    have eh3 : s3.heap = h3 := by rw [← hs3]
    have fo3 : ∀ b ∈ fp, FpOk X pins (upd H2 D (.lst [])) b ∧ b < s3.heap.objs.size := fun b hb => by
      obtain ⟨o, e, _⟩ := hT.obj _ _ st2 b hb
      have hlt : b < D := by rw [← hD]; exact Heap.lt_size e
      exact ⟨⟨by rw [upd_ne (Nat.ne_of_lt hlt)]; exact (fo2 b hb).1, (fo2 b hb).2⟩, by rw [eh3, z23]; exact Nat.lt_succ_of_lt hlt⟩
    have st3 : tn 0 s3.heap := hT.keep _ _ _ st2 fun b _ o e => by rw [eh3]; exact p23 b o e
    have I4 := block_start I3 ok hN fo3
    generalize hcl : cellsFrom (s3.heap.objs.size + 1) scope.names (cloFrom X.env.cells scope.names []) = cl at I4
    have pg := hg s3 (upd H2 D (.lst [])) s3.heap.objs.size cl fp
    have pt := ht s3 (upd H2 D (.lst [])) s3.heap.objs.size cl fp
    have pe := he s3 (upd H2 D (.lst [])) s3.heap.objs.size cl fp
    refine (?_ : codeAny (model X.prog X.w) X.A (.compStart (.ListComp elt [⟨tg, iter, ifs, 0⟩] scope pos) 0 (.ref it) (.ref D) (compEnvC scope cl s3.heap.objs.size X.env)) (compPost (model X.prog X.w) X.A X.xe none _ (.ref D) s3.heap.objs.size) { s3 with heap := pushCells (s3.heap.push { cls := .type "dict", data := .dict #[] }) scope.names })
    have cL : (compEnvC scope cl s3.heap.objs.size X.env).locals = s3.heap.objs.size := rfl
    generalize compEnvC scope cl s3.heap.objs.size X.env = ce at I4 pg pt pe cL ⊢
    generalize upd H2 D (.lst []) = H3 at I3 I4 pg pt pe w0 fo3
    generalize hs4 : ({ s3 with heap := pushCells (s3.heap.push { cls := .type "dict", data := .dict #[] }) scope.names } : Shared) = s4 at I4 ⊢
    have st4 : tn 0 s4.heap := hT.keep _ _ _ st3 fun b _ o e => by rw [← hs4]; exact pushCells_keeps _ _ _ _ (Heap.get?_push_of_some _ e)
    have stat : ∀ {σ' : L2.St} {H' : Hp} {s' : Shared}, Inv (X.blk s3 H3 scope ce fp) [] σ' H' s' → (∀ b ∈ fp, H' b = none) → ∀ b ∈ fp, FpOk (X.blk s3 H3 scope ce fp) [] H' b := fun {σ' H' s'} I' hn b hb => ⟨hn b hb, (I'.ok.exf b hb).1, I'.ok.exfs b hb, .inl hb, fun x c e => (I'.ok.exf b hb).2 x c e, fun p hp => by cases hp⟩
    have loop : codeAny (model X.prog X.w) X.A (.compLoop (.ListComp elt [⟨tg, iter, ifs, 0⟩] scope pos) 0 (.ref it) (.ref D) ce) (compPost (model X.prog X.w) X.A X.xe none (fun u s' => EP X pins σ Q u s' ∧ (∀ m, s.heap.Ns X.env.locals m → s'.heap.Ns X.env.locals m) ∧ ∀ x c v, X.env.cells.lookup x = some c → s.heap.IsCell c v → s'.heap.IsCell c v) (.ref D) s3.heap.objs.size) s4 := by
      refine compLoop_any (fun n s' => ∃ i H', Inv (X.blk s3 H3 scope ce fp) [] (wipe σ (own.map (·.2))) H' s' ∧ tn i s'.heap ∧ (∀ b ∈ fp, H' b = none) ∧ W i n H') ?_ m0 ⟨0, H3, I4, st4, fun b hb => (fo3 b hb).1.1, w0⟩
      rintro n s5 ⟨i, H5, I5, st5, n5, w5⟩
      rcases turn i n H5 w5 with ⟨stop, qq⟩ | ⟨go, Nx, hNx, step⟩
      · refine thnF (hT.done (X.blk s3 H3 scope ce fp) rfl rfl rfl hc i [] s5 _ H5 (fun _ _ => False) I5 (stat I5 n5) st5 stop) fun r s6 ⟨hr, I6⟩ => ?_
        subst hr
        have I7 : Inv X pins σ H5 s6 := I3.call' (ch := fp) I6.os I6.base I6.hok I6.bare fun b hb => let z := (fo3 b hb).1.2; ⟨z.2.2.1, z.1, z.2.2.2.1, z.2.2.2.2⟩
        obtain ⟨kn, kc⟩ := blk_keep I3 (fun b hb => (fo3 b hb).1) I6.base
        have nC : H5 s3.heap.objs.size = none := by rw [← cL]; exact I6.free
        obtain ⟨m, hm, _⟩ := I6.loc
        have hm : s6.heap.Ns ce.locals m := hm
        rw [cL] at hm
        obtain ⟨f0, f1, f2, f3, f4, f5⟩ := I3.fpOk (Nat.le_refl _) nC
        have k03 : Kp X s s3 := k2.trans (.same (fun b o e => by rw [eh3]; exact p23 b o e) (by rw [← hs3]; exact Nat.le_refl _))
        refine ⟨m, hm, fun h'' sb => ⟨⟨.ref D, H5, I7.turned (t' := s6.toks) (fun b o hb e => (sb.2 b hb).trans e) f0 f1 f3 f4 f5, rfl, qq⟩, fun mm e => ?_, fun x c v e hcell => ?_⟩⟩
        · exact (kn mm (k03.ns mm e)).sameBut sb (Ne.symm f1)
        · exact (kc x c v e (k03.cl x c v e hcell)).sameBut sb (f4 x c e)
      · refine thnF (hT.item (X.blk s3 H3 scope ce fp) rfl rfl rfl hc i [] s5 _ H5 (fun _ _ => False) I5 (stat I5 n5) st5 go) fun r s6 ⟨u, hr, h6⟩ => ?_
        subst hr
        refine thnF h6 fun _ s7 ⟨x, H7, I7, r7, y7, st7, n7⟩ => ?_
        refine thnF (pg.run _ s7 _ H7 x u _ (I7.pinned (stat I7 n7) (hT.obj _ _ st7)) r7 (step x H7 y7)) fun _ s8 ⟨σ8, H8, I8, hw8, q8⟩ => thnF (pt.run _ s8 σ8 H8 _ I8 q8) fun b s9 ⟨H9, I9, q9⟩ => ?_
        have fin : ∀ {s' : Shared} {H' : Hp}, Inv (X.blk s3 H3 scope ce fp) ([] ++ pinsAt fp s7.heap) σ8 H' s' → Nx H' → ∃ m, m < n ∧ ∃ i H', Inv (X.blk s3 H3 scope ce fp) [] (wipe σ (own.map (·.2))) H' s' ∧ tn i s'.heap ∧ (∀ b ∈ fp, H' b = none) ∧ W i m H' := fun {s' H'} I' nx => by
          obtain ⟨m', hm, w'⟩ := hNx H' nx
          have atb : ∀ b ∈ fp, ∀ o, s7.heap.get? b = some o → s'.heap.get? b = some o ∧ H' b = none := fun b hb o e => let z := I'.pin (b, o) (List.mem_append_right _ (List.mem_append_right _ (mem_pinsAt hb e))); ⟨z.1, z.2.1⟩
          refine ⟨m', hm, i + 1, H', (I'.unpinned (pins := [])).weak (by rw [← hw8, wipe_length]) (fun j v e => by rw [← hw8] at e; exact (wipe_some e).1), hT.keep _ _ _ st7 fun b hb o e => (atb b hb o e).1, fun b hb => ?_, w'⟩
          obtain ⟨o, e, _⟩ := hT.obj _ _ st7 b hb
          exact (atb b hb o e).2
        cases b with
        | false =>
          simp only [Bool.false_eq_true, if_false] at q9 ⊢
          exact fin I9 q9
        | true =>
          simp only [if_true] at q9 ⊢
          exact thnF (pe.run _ s9 σ8 H9 _ I9 q9) fun z s10 ⟨yv, H10, I10, r10, acc, hD10, hz10, nx⟩ => app_ok (X := X.blk s3 H3 scope ce fp) I10 hD10 hz10 r10 fun s11 I11 => fin I11 nx
    exact codeAny_compStart_list loop (hT.self X.A 0 _ _ _ st4 loop)
  exact wpAny_mono (PySem.wpAny_toks key) (fun u s' q => ⟨q.2.1, q.2.2.1, q.2.2.2, q.1⟩) fun e s' q => q.2
theorem pe_lc {wi : TI} (hc : X.calm = true) (hN : X.N.Nodup) (hi : ∀ (pins : List (Addr × Obj)) (s : Shared) (σ : L2.St) (H : Hp) (R : It → Hp → Prop), Inv X pins σ H s → Jk X pins → wi σ H R → wpAny (model X.prog X.w) X.A (eval iter X.env) (fun v s1 => wpAny (model X.prog X.w) X.A (pyIter v) (PIEk X pins σ tg R s) X.xe s1) X.xe s) (ok : BlkOk X.N X.env.scope scope own)
    (hg : ∀ (s : Shared) (H : Hp) (C : Addr) (cl : List (Str × Addr)) (fp : List Addr), PG (X.blk s H scope (compEnvC scope cl C X.env) fp) tg g) (ht : ∀ (s : Shared) (H : Hp) (C : Addr) (cl : List (Str × Addr)) (fp : List Addr), PTs (X.blk s H scope (compEnvC scope cl C X.env) fp) ifs tt)
    (he : ∀ (s : Shared) (H : Hp) (C : Addr) (cl : List (Str × Addr)) (fp : List Addr), L2.PE (X.blk s H scope (compEnvC scope cl C X.env) fp) elt te) (hs : ∀ x, foldedSetIterable iter X.env x = pure x) : PE X (.ListComp elt [⟨tg, iter, ifs, 0⟩] scope pos) (tLc wi g tt te (own.map (·.2))) := fun pins s σ H Q I J h =>
  lc_kp hc hN I ok hg ht he hs (hi pins s σ H _ I J h)
end
end Wk
end
section
set_option maxRecDepth 100000
set_option maxHeartbeats 1000000
/-! List comprehensions, over what keeps the frame (printed by gen_zg.py from the rules of We). -/
namespace Wk
open PySem L2 Wr PyProof.Rows
section
variable {g : Gm} {k : Nat} {N : List Str} {sc : Scope} {gd : Bool} {bl : Option Scope} {c : Cs} {ρ : List (Option Sl)} {M M1 M2 M3 M' : Hp} {a b e : Expr} {R : Wish} {pos p pt : Pos} {I I2 F : Hp} {Q : VK} {tg iter elt : Expr} {ifs : List Expr} {scope : Scope} {α : Type} {zs : List α} {enc : α → Sl} {t : α → Bool} {r : α → PyData}
theorem lc_read {X : Cx} (G : Good c X) {σ : L2.St} (en : En c.g.C I σ ρ) (di : Ds I M F) {elt : Expr} {ifs : List Expr} {scope : Scope} {ds : List Sl} (own : List (Str × Nat)) (src : SrcD c ρ M tg iter ds M1) (J : Nat → List PyData → Hp → Prop) (h0 : J 0 [] M1)
    (hs : ∀ i d acc M', ds[i]? = some d → J i acc M' → LcTurn c ρ own scope tg elt ifs J i d acc M')
    (hd : ∀ acc M', J ds.length acc M' → R (.dat (.list acc)) M') (hz : ds.length ≤ 100000) (hQ : Gives c.g.C I F R Q) : tLc (wpI X tg iter) (lcG X scope tg) (lcT X scope ifs) (lcE X scope elt) (own.map (·.2)) σ (J3 I M F) Q := by
  refine src X G σ I F en di _ fun It I1 s1 d1 wk Dl hD => ?_
  obtain ⟨n1, n2, n3⟩ := j3_none hD
  have hst : ∀ {I2 M' : Hp} {acc : List V}, Ds I2 M' (upd F Dl (.lst acc)) → I2 Dl = none ∧ M' Dl = none := fun {I2 M' acc} d => by
    have q1 : I2 Dl = none := d.im.noI (o := .lst acc) (by
      have z : M' Dl = none := by
        cases e : M' Dl with
        | none => rfl
        | some u =>
          have := d.mf Dl u e
          rw [upd_same] at this
          cases this
      unfold join
      rw [z]
      exact upd_same)
    refine ⟨q1, ?_⟩
    cases e : M' Dl with
    | none => rfl
    | some u =>
      have := d.mf Dl u e
      rw [upd_same] at this
      cases this
  have hat : ∀ {I2 M' : Hp} {acc : List V}, Ds I2 M' (upd F Dl (.lst acc)) → J3 I2 M' (upd F Dl (.lst acc)) Dl = some (.lst acc) := fun {I2 M' acc} d => by
    obtain ⟨q1, q2⟩ := hst d
    unfold J3 join
    rw [q1, q2]
    exact upd_same
  have hup : ∀ {I2 M' : Hp} {acc acc' : List V}, Ds I2 M' (upd F Dl (.lst acc)) → upd (J3 I2 M' (upd F Dl (.lst acc))) Dl (.lst acc') = J3 I2 M' (upd F Dl (.lst acc')) := fun {I2 M' acc acc'} d => by
    obtain ⟨q1, q2⟩ := hst d
    unfold J3
    rw [upd_M q1, upd_M q2, upd_upd]
  have hds : ∀ {I2 M' : Hp} {acc acc' : List V}, Ds I2 M' (upd F Dl (.lst acc)) → Ds I2 M' (upd F Dl (.lst acc')) := fun {I2 M' acc acc'} d => by
    obtain ⟨q1, q2⟩ := hst d
    refine ⟨fun a o e => ?_, fun a o e => ?_⟩
    · have z := d.im a o e
      obtain ⟨z1, z2⟩ := join_none z
      have ha : a ≠ Dl := fun q => by rw [q, q1] at e; cases e
      unfold join
      rw [z1]
      rw [upd_ne ha] at z2
      rw [upd_ne ha]
      exact z2
    · have ha : a ≠ Dl := fun q => by rw [q, q2] at e; cases e
      have z := d.mf a o e
      rw [upd_ne ha] at z
      rw [upd_ne ha]
      exact z
  have start : Ds I1 M1 (upd F Dl (.lst [])) := ⟨fun a o e => by
    have ha : a ≠ Dl := fun q => by rw [q, n1] at e; cases e
    obtain ⟨z1, z2⟩ := join_none (d1.im a o e)
    unfold join
    rw [z1, upd_ne ha]
    exact z2, fun a o e => by
    have ha : a ≠ Dl := fun q => by rw [q, n2] at e; cases e
    rw [upd_ne ha]
    exact d1.mf a o e⟩
  refine ⟨fun i m H => m = ds.length - i ∧ i ≤ ds.length ∧ ∃ I2 M' acc ys, H = J3 I2 M' (upd F Dl (.lst ys)) ∧ Same I1 I2 ∧ Ds I2 M' (upd F Dl (.lst ys)) ∧ Dats I2 ys acc ∧ ys.length ≤ i ∧ J i acc M', ⟨ds.length, by simp, Nat.zero_le _, I1, M1, [], [], ?_, Same.refl I1, start, .nil, Nat.le_refl _, h0⟩, ?_⟩
  · unfold J3
    rw [upd_M n1, upd_M n2]
  rintro i m H ⟨rfl, hi, I2, M', acc, ys, rfl, s2, d2, f2, hl, hJ⟩
  by_cases hlt : i < ds.length
  · obtain ⟨d, hdd⟩ : ∃ d, ds[i]? = some d := ⟨_, List.getElem?_eq_getElem hlt⟩
    obtain ⟨js, ρ2, b, M2, hjs, ht, hb, h1, h2⟩ := (hs i d acc M' hdd hJ).ex
    refine .inr ⟨(wk _).go i I2 M' hlt s2 d2, fun H3 => ∃ I3 M3 acc ys, H3 = J3 I3 M3 (upd F Dl (.lst ys)) ∧ Same I1 I3 ∧ Ds I3 M3 (upd F Dl (.lst ys)) ∧ Dats I3 ys acc ∧ ys.length ≤ i + 1 ∧ J (i + 1) acc M3, fun H3 q => ⟨ds.length - (i + 1), by omega, rfl, hlt, q⟩, fun v H' hy s0 H0 C' cl fp => ?_⟩
    obtain ⟨I3, s3, d3, rfl, i3⟩ := (wk _).yld i I2 M' v H' d s2 d2 hy hdd
    have en0 := ((en.mono s1).mono s2).mono s3
    refine ht _ (G.blk s0 H0 cl C' fp) (wipe σ (own.map (·.2))) I3 M' _ v (en0.wipe _) d3 i3 _ (fun σ4 en4 hl4 hn4 => ?_)
    refine ⟨?_, fun s5 H5 C5 cl5 fp5 => ?_⟩
    · rw [← wipe_wipe σ (own.map (·.2))]
      exact wipe_same hl4 fun j hj => hn4 j fun q => hj (hjs j q)
    · refine hb _ (G.blk s5 H5 cl5 C5 fp5) σ4 I3 _ en4 d3 _ fun I4 s4 d4 => ?_
      cases b with
      | false =>
        rw [if_neg Bool.false_ne_true]
        exact ⟨I4, M2, acc, ys, rfl, (s2.trans s3).trans s4, d4, Dats.mono (s3.trans s4) _ _ f2, by omega, h2 rfl⟩
      | true =>
        rw [if_pos rfl]
        intro s6 H6 C6 cl6 fp6
        refine h1 rfl _ (G.blk s6 H6 cl6 C6 fp6) σ4 I4 _ (en4.mono s4) d4 _ fun w I5 y M5 ⟨r, hy, hJ'⟩ s5 d5 i5 => ?_
        subst hy
        refine ⟨ys, hat d5, Nat.lt_of_le_of_lt hl (Nat.lt_of_lt_of_le hlt (Nat.le_trans hz (by decide))), I5, M5, acc ++ [r], ys ++ [w], ?_, ((s2.trans s3).trans s4).trans s5, hds d5, (Dats.mono ((s3.trans s4).trans s5) _ _ f2).append (.cons i5 .nil), by rw [List.length_append, List.length_singleton]; omega, hJ'⟩
        exact hup d5
  · have e : i = ds.length := by omega
    subst e
    refine .inl ⟨(wk _).stop I2 M' s2 d2, ?_⟩
    -- the list goes over to what stands still
    obtain ⟨q1, q2⟩ := hst d2
    have e1 : J3 I2 M' (upd F Dl (.lst ys)) = J3 (upd I2 Dl (.lst ys)) M' F := by
      unfold J3
      rw [← upd_M q2, ← upd_M q1, upd_I]
    rw [e1]
    have s4 : Same I2 (upd I2 Dl (.lst ys)) := same_new q1
    refine hQ (.ref Dl) (upd I2 Dl (.lst ys)) (.dat (.list acc)) M' (hd acc M' hJ) ((s1.trans s2).trans s4) ⟨fun a o e => ?_, fun a o e => ?_⟩ (.lst upd_same (Dats.mono s4 _ _ f2))
    · by_cases ha : a = Dl
      · subst ha
        unfold join
        rw [q2]
        exact n3
      · rw [upd_ne ha] at e
        obtain ⟨z1, z2⟩ := join_none (d2.im a o e)
        unfold join
        rw [z1]
        rw [upd_ne ha] at z2
        exact z2
    · have ha : a ≠ Dl := fun q => by rw [q, q2] at e; cases e
      have z := d2.mf a o e
      rw [upd_ne ha] at z
      exact z
theorem ev_lcJ {ds : List Sl} (own : List (Str × Nat)) (src : SrcD c ρ M tg iter ds M1) (J : Nat → List PyData → Hp → Prop) (h0 : J 0 [] M1) (hst : ∀ i d acc M', ds[i]? = some d → J i acc M' → LcTurn c ρ own scope tg elt ifs J i d acc M')
    (hd : ∀ acc M', J ds.length acc M' → R (.dat (.list acc)) M') (hz : ds.length ≤ 100000) (ok : blkC c.N c.sc scope own = true) (nd : decide c.N.Nodup = true) (hfs : ∀ (env : PySem.Env) (x : Value), foldedSetIterable iter env x = pure x) : EV c ρ M (.ListComp elt [⟨tg, iter, ifs, 0⟩] scope pos) R := fun X G σ I F en di Q hQ =>
  wp_pe (pe_lc (wi := wpI X tg iter) (g := lcG X scope tg) (tt := lcT X scope ifs) (te := lcE X scope elt) G.calm (by rw [G.N]; exact of_decide_eq_true nd) (fun pins s _ _ _ Iv Jk h => h pins s Iv Jk) (by rw [G.N, G.sc]; exact blkOk_by ok)
    (fun s0 H0 C' cl fp => ⟨fun pins s2 σ H v u Q I r h => h s0 H0 C' cl fp pins s2 u I r⟩) (fun s0 H0 C' cl fp => ⟨fun pins s2 σ H Q I h => h s0 H0 C' cl fp pins s2 I⟩) (fun s0 H0 C' cl fp => ⟨fun pins s2 σ H Q I h => h s0 H0 C' cl fp pins s2 I⟩) (fun x => hfs _ x))
  (lc_read G en di own src J h0 hst hd hz hQ)
theorem em_lcP {c : Cs} (own : List (Str × Nat)) (src : SrcD c ρ M tg iter (zs.map enc) M1) (h : LcEach c ρ own scope tg elt ifs zs enc t r M1) (hz : zs.length ≤ 100000) (ok : blkC c.N c.sc scope own = true) (nd : decide c.N.Nodup = true)
    (hfs : ∀ (env : PySem.Env) (x : Value), foldedSetIterable iter env x = pure x := by intro _ _; rfl) : EM c ρ M (.ListComp elt [⟨tg, iter, ifs, 0⟩] scope pos) (.dat (.list ((zs.filter t).map r))) M1 :=
  ev_lcJ own src (pureJ zs t r M1) ⟨rfl, by simp⟩ (lc_each h) (fun acc M' ⟨e1, e2⟩ => ⟨by rw [e2, take_all], e1⟩) (by rw [List.length_map]; exact hz) ok nd hfs
theorem em_lc1 {f : Str} (j : Nat) (src : SrcD ⟨g, k, N, sc, gd, bl⟩ ρ M (.Name f pt) iter (zs.map enc) M1) (ht : ∀ z ∈ zs, Wr.TsM ⟨g, k, N, relS scope sc, gd, some scope⟩ (ρ.set j (some (enc z))) M1 ifs (t z) M1)
    (he : ∀ z ∈ zs, t z = true → Wr.EM ⟨g, k, N, relS scope sc, gd, some scope⟩ (ρ.set j (some (enc z))) M1 elt (.dat (r z)) M1) (hz : zs.length ≤ 100000) (ok : blkC N sc scope [(f, j)] = true := by decide +kernel) (nd : decide N.Nodup = true := by decide +kernel) (hc : chkL N (relS scope sc) (some scope) j f = true := by decide +kernel)
    (hfs : ∀ (env : PySem.Env) (x : Value), foldedSetIterable iter env x = pure x := by intro _ _; rfl) : EM ⟨g, k, N, sc, gd, bl⟩ ρ M (.ListComp elt [⟨.Name f pt, iter, ifs, 0⟩] scope pos) (.dat (.list ((zs.filter t).map r))) M1 :=
  em_lcP [(f, j)] src (each_one (c := ⟨g, k, N, sc, gd, bl⟩) j hc ht he) hz ok nd hfs
theorem em_lc1n {f : Str} (j : Nat) (src : SrcD ⟨g, k, N, sc, gd, bl⟩ ρ M (.Name f pt) iter (zs.map enc) M1)
    (he : ∀ z ∈ zs, Wr.EM ⟨g, k, N, relS scope sc, gd, some scope⟩ (ρ.set j (some (enc z))) M1 elt (.dat (r z)) M1) (hz : zs.length ≤ 100000) (ok : blkC N sc scope [(f, j)] = true := by decide +kernel) (nd : decide N.Nodup = true := by decide +kernel) (hc : chkL N (relS scope sc) (some scope) j f = true := by decide +kernel)
    (hfs : ∀ (env : PySem.Env) (x : Value), foldedSetIterable iter env x = pure x := by intro _ _; rfl) : EM ⟨g, k, N, sc, gd, bl⟩ ρ M (.ListComp elt [⟨.Name f pt, iter, [], 0⟩] scope pos) (.dat (.list (zs.map r))) M1 := by
  have h := em_lc1 (t := fun _ => true) (r := r) (pos := pos) (ifs := []) j src (fun z hz => Wr.ts_nil) (fun z hz _ => he z hz) hz ok nd hc hfs
  have e : zs.filter (fun _ => true) = zs := List.filter_eq_self.mpr (fun _ _ => rfl)
  rw [e] at h
  exact h
theorem lc_readG {X : Cx} (G : Good c X) {σ : L2.St} (en : En c.g.C I σ ρ) (di : Ds I M F) {elt : Expr} {ifs : List Expr} {scope : Scope} {ds : List Sl} (own : List (Str × Nat)) (wi : TI) (src : ∀ R : It → Hp → Prop, (∀ T I2, Same I I2 → Ds I2 M1 F → (∀ F', WalkOk c.g.C T ds I2 F') → R T (J3 I2 M1 F)) → wi σ (J3 I M F) R) (J : Nat → List PyData → Hp → Prop) (h0 : J 0 [] M1)
    (hs : ∀ i d acc M', ds[i]? = some d → J i acc M' → LcTurn c ρ own scope tg elt ifs J i d acc M')
    (hd : ∀ acc M', J ds.length acc M' → R (.dat (.list acc)) M') (hz : ds.length ≤ 100000) (hQ : Gives c.g.C I F R Q) : tLc wi (lcG X scope tg) (lcT X scope ifs) (lcE X scope elt) (own.map (·.2)) σ (J3 I M F) Q := by
  refine src _ fun It I1 s1 d1 wk Dl hD => ?_
  obtain ⟨n1, n2, n3⟩ := j3_none hD
  have hst : ∀ {I2 M' : Hp} {acc : List V}, Ds I2 M' (upd F Dl (.lst acc)) → I2 Dl = none ∧ M' Dl = none := fun {I2 M' acc} d => by
    have q1 : I2 Dl = none := d.im.noI (o := .lst acc) (by
      have z : M' Dl = none := by
        cases e : M' Dl with
        | none => rfl
        | some u =>
          have := d.mf Dl u e
          rw [upd_same] at this
          cases this
      unfold join
      rw [z]
      exact upd_same)
    refine ⟨q1, ?_⟩
    cases e : M' Dl with
    | none => rfl
    | some u =>
      have := d.mf Dl u e
      rw [upd_same] at this
      cases this
  have hat : ∀ {I2 M' : Hp} {acc : List V}, Ds I2 M' (upd F Dl (.lst acc)) → J3 I2 M' (upd F Dl (.lst acc)) Dl = some (.lst acc) := fun {I2 M' acc} d => by
    obtain ⟨q1, q2⟩ := hst d
    unfold J3 join
    rw [q1, q2]
    exact upd_same
  have hup : ∀ {I2 M' : Hp} {acc acc' : List V}, Ds I2 M' (upd F Dl (.lst acc)) → upd (J3 I2 M' (upd F Dl (.lst acc))) Dl (.lst acc') = J3 I2 M' (upd F Dl (.lst acc')) := fun {I2 M' acc acc'} d => by
    obtain ⟨q1, q2⟩ := hst d
    unfold J3
    rw [upd_M q1, upd_M q2, upd_upd]
  have hds : ∀ {I2 M' : Hp} {acc acc' : List V}, Ds I2 M' (upd F Dl (.lst acc)) → Ds I2 M' (upd F Dl (.lst acc')) := fun {I2 M' acc acc'} d => by
    obtain ⟨q1, q2⟩ := hst d
    refine ⟨fun a o e => ?_, fun a o e => ?_⟩
    · have z := d.im a o e
      obtain ⟨z1, z2⟩ := join_none z
      have ha : a ≠ Dl := fun q => by rw [q, q1] at e; cases e
      unfold join
      rw [z1]
      rw [upd_ne ha] at z2
      rw [upd_ne ha]
      exact z2
    · have ha : a ≠ Dl := fun q => by rw [q, q2] at e; cases e
      have z := d.mf a o e
      rw [upd_ne ha] at z
      rw [upd_ne ha]
      exact z
  have start : Ds I1 M1 (upd F Dl (.lst [])) := ⟨fun a o e => by
    have ha : a ≠ Dl := fun q => by rw [q, n1] at e; cases e
    obtain ⟨z1, z2⟩ := join_none (d1.im a o e)
    unfold join
    rw [z1, upd_ne ha]
    exact z2, fun a o e => by
    have ha : a ≠ Dl := fun q => by rw [q, n2] at e; cases e
    rw [upd_ne ha]
    exact d1.mf a o e⟩
  refine ⟨fun i m H => m = ds.length - i ∧ i ≤ ds.length ∧ ∃ I2 M' acc ys, H = J3 I2 M' (upd F Dl (.lst ys)) ∧ Same I1 I2 ∧ Ds I2 M' (upd F Dl (.lst ys)) ∧ Dats I2 ys acc ∧ ys.length ≤ i ∧ J i acc M', ⟨ds.length, by simp, Nat.zero_le _, I1, M1, [], [], ?_, Same.refl I1, start, .nil, Nat.le_refl _, h0⟩, ?_⟩
  · unfold J3
    rw [upd_M n1, upd_M n2]
  rintro i m H ⟨rfl, hi, I2, M', acc, ys, rfl, s2, d2, f2, hl, hJ⟩
  by_cases hlt : i < ds.length
  · obtain ⟨d, hdd⟩ : ∃ d, ds[i]? = some d := ⟨_, List.getElem?_eq_getElem hlt⟩
    obtain ⟨js, ρ2, b, M2, hjs, ht, hb, h1, h2⟩ := (hs i d acc M' hdd hJ).ex
    refine .inr ⟨(wk _).go i I2 M' hlt s2 d2, fun H3 => ∃ I3 M3 acc ys, H3 = J3 I3 M3 (upd F Dl (.lst ys)) ∧ Same I1 I3 ∧ Ds I3 M3 (upd F Dl (.lst ys)) ∧ Dats I3 ys acc ∧ ys.length ≤ i + 1 ∧ J (i + 1) acc M3, fun H3 q => ⟨ds.length - (i + 1), by omega, rfl, hlt, q⟩, fun v H' hy s0 H0 C' cl fp => ?_⟩
    obtain ⟨I3, s3, d3, rfl, i3⟩ := (wk _).yld i I2 M' v H' d s2 d2 hy hdd
    have en0 := ((en.mono s1).mono s2).mono s3
    refine ht _ (G.blk s0 H0 cl C' fp) (wipe σ (own.map (·.2))) I3 M' _ v (en0.wipe _) d3 i3 _ (fun σ4 en4 hl4 hn4 => ?_)
    refine ⟨?_, fun s5 H5 C5 cl5 fp5 => ?_⟩
    · rw [← wipe_wipe σ (own.map (·.2))]
      exact wipe_same hl4 fun j hj => hn4 j fun q => hj (hjs j q)
    · refine hb _ (G.blk s5 H5 cl5 C5 fp5) σ4 I3 _ en4 d3 _ fun I4 s4 d4 => ?_
      cases b with
      | false =>
        rw [if_neg Bool.false_ne_true]
        exact ⟨I4, M2, acc, ys, rfl, (s2.trans s3).trans s4, d4, Dats.mono (s3.trans s4) _ _ f2, by omega, h2 rfl⟩
      | true =>
        rw [if_pos rfl]
        intro s6 H6 C6 cl6 fp6
        refine h1 rfl _ (G.blk s6 H6 cl6 C6 fp6) σ4 I4 _ (en4.mono s4) d4 _ fun w I5 y M5 ⟨r, hy, hJ'⟩ s5 d5 i5 => ?_
        subst hy
        refine ⟨ys, hat d5, Nat.lt_of_le_of_lt hl (Nat.lt_of_lt_of_le hlt (Nat.le_trans hz (by decide))), I5, M5, acc ++ [r], ys ++ [w], ?_, ((s2.trans s3).trans s4).trans s5, hds d5, (Dats.mono ((s3.trans s4).trans s5) _ _ f2).append (.cons i5 .nil), by rw [List.length_append, List.length_singleton]; omega, hJ'⟩
        exact hup d5
  · have e : i = ds.length := by omega
    subst e
    refine .inl ⟨(wk _).stop I2 M' s2 d2, ?_⟩
    -- the list goes over to what stands still
    obtain ⟨q1, q2⟩ := hst d2
    have e1 : J3 I2 M' (upd F Dl (.lst ys)) = J3 (upd I2 Dl (.lst ys)) M' F := by
      unfold J3
      rw [← upd_M q2, ← upd_M q1, upd_I]
    rw [e1]
    have s4 : Same I2 (upd I2 Dl (.lst ys)) := same_new q1
    refine hQ (.ref Dl) (upd I2 Dl (.lst ys)) (.dat (.list acc)) M' (hd acc M' hJ) ((s1.trans s2).trans s4) ⟨fun a o e => ?_, fun a o e => ?_⟩ (.lst upd_same (Dats.mono s4 _ _ f2))
    · by_cases ha : a = Dl
      · subst ha
        unfold join
        rw [q2]
        exact n3
      · rw [upd_ne ha] at e
        obtain ⟨z1, z2⟩ := join_none (d2.im a o e)
        unfold join
        rw [z1]
        rw [upd_ne ha] at z2
        exact z2
    · have ha : a ≠ Dl := fun q => by rw [q, q2] at e; cases e
      have z := d2.mf a o e
      rw [upd_ne ha] at z
      exact z
end
end Wk
end
section
set_option maxRecDepth 100000
set_option maxHeartbeats 1000000
/-! repr; a def's call with all that is known of it; one_of's text is an object of its own. -/
namespace Wk
open PySem L2 Wr PyProof.Rows
/-! ### repr -/
def rRepr (X : Cx) : List V → Hp → VK → Prop := fun vs H Q => ∃ a d, vs = [.ref a] ∧ Dp X.K H (.ref a) d ∧ d.showable = true ∧ d.hasDict = false ∧ d.depth ≤ 10 ∧ d.shown.length ≤ sizeLine ∧ Q (.str d.shown) H
theorem cr_repr {X : Cx} (hg : X.A.guards = some []) (hu : X.A.units + 64 < cLine) : CallR X (.builtin "repr") (rRepr X) := by
  intro pins s σ H vs us Q I r ⟨a, d, e, hd, h1, h2, h3, h4, q⟩
  subst e
  rw [Vals.ref1 r]
  obtain ⟨as, rd⟩ := Dp.reads I d (.ref a) (.ref a) hd rfl
  exact repr_of_reads' rd h1 (PyData.noDict_hsm h2) hg (by omega) (fun _ _ e => e) (fun h' u tk hk => ⟨.str d.shown, H, I.kept hk, ⟨_, rfl⟩, q⟩) h4
structure Shows (d : PyData) : Prop where
  ok : d.showable = true
  nd : d.hasDict = false
  dp : d.depth ≤ 10
  len : d.shown.length ≤ sizeLine
theorem em_repr {g : Gm} {k : Nat} {N : List Str} {sc : Scope} {bl : Option Scope} {ρ : List (Option Sl)} {M M1 : Hp} {e : Expr} {pos p : Pos} {ds : List PyData} (ha : EM ⟨g, k, N, sc, true, bl⟩ ρ M e (.dat (.list ds)) M1) (sh : Shows (.list ds)) (hf : glB sc "repr" = true := by decide +kernel) (hs : ∀ env : PySem.Env, starEach (e :: []) env = (false, eval e env) :: starEach [] env := by intro _; rfl) : EM ⟨g, k, N, sc, true, bl⟩ ρ M (.Call (.Name "repr" p) [e] [] pos) (.dat (.str (PyData.list ds).shown)) M1 :=
  ev_callB (r := rRepr) (fun X G => cr_repr (G.gd rfl) G.hu) (am_one ha hs) (fun X G I F vs dd i Q hQ => by
    obtain ⟨v, rfl, h⟩ := is1 i
    have h' := h
    obtain ⟨q, ys, rfl, e1, f1⟩ := is_lst h'
    exact ⟨q, .list ds, rfl, Dat.dp _ _ (Dat.mono same_j3 _ _ h), sh.ok, sh.nd, sh.dp, sh.len, hQ.only (Same.refl I) dd (.str _)⟩) hf (hs := hs)
/-! ### a def's call -/
section
variable {P : Program} {w : World} {K : PySem.W.Frag} {mg : Str → Option Value} {base : Heap} {x : Str} {st : Stmt} {f : Addr} {fd : FuncData} {N ps : List Str} {A : Around} {outer : List Env} {s : Shared} {H : Hp} {us : List Value} {vs : List V} {args : Args}
theorem call_gen {R : Result → Shared → Prop} (Fu : Fun K x x st f fd) (S : FnScope N ps (defScope st)) (hd : A.handled = none) (dep : A.depth < recursionLimit) (e0 : Env0 P w K mg base A outer s H) (hb : BindsTo s fd args (ps.zip us)) (hl : vs.length = ps.length) (r : Vals vs us)
    (body : ∀ cdv s1, Inv (cxOf CX0 P w K mg base N x (defScope st) f cdv A outer s H E0).nox [] (L2.start N vs) H s1 → s.toks ≤ s1.toks → ((∀ y ∈ (defScope st).names, y.2 ≠ .cell) → s.toks + ps.length ≤ s1.toks) →
      (∀ n c, (cellsFrom (s.heap.objs.size + 1) (defScope st).names []).lookup n = some c → s1.heap.IsCell c (bindC (fun n => (defScope st).names.lookup n) (ps.zip us) (fun _ => none) n)) →
      wpAny (model P w) (A.deeper (envOfC x (defScope st) s.heap.objs.size f cdv)) (execs (defBody st) (envOfC x (defScope st) s.heap.objs.size f cdv)) (fun fl s' => match fl with
        | .ret u => R (.ok (.ret u)) s'
        | .next => R (.ok (.ret .none)) s'
        | _ => False) (fun _ _ => False) s1) : codeAny (model P w) A (.call (.ref f) args) R s := by
  obtain ⟨oc, od, kV, doc, pm, an, cdv, ct, osl, rfl, lk, hcd⟩ := Fu.ex
  have KX : K.In s.heap := e0.mod.kin.keeps fun b o e => (e0.bs b o e).1
  have lim : s.heap.NoLimit := e0.mod.nolimit.keeps fun b o e => (e0.bs b o e).1
  have hul : us.length = ps.length := by rw [← r.length, hl]
  have hkind : ∀ y ∈ ps.zip us, (defScope st).names.lookup y.1 = some .local ∨ ((defScope st).names.lookup y.1 = some .cell ∧ ((cellsFrom (s.heap.objs.size + 1) (defScope st).names []).lookup y.1).isSome = true) := fun ⟨n, v⟩ hy => (S.par n (List.of_mem_zip hy).1).elim .inl fun q => .inr ⟨q, PySem.W.cellsFrom_some _ _ _ (.inl q)⟩
  refine codeAny_call_function dep (KX _ _ lk) rfl S.co S.gen rfl (PySem.W.codeRec_of KX hcd) (hb _ _ _ _ ?_)
  have a := PySem.wpAny_toks (wpAny_newFunctionEnv_cells (M := model P w) (A := A.in1) (E := fun _ _ => False) (globals := mainGlobals) (binds := ps.zip us) (qual := x ++ ".<locals>.") (func := some f) (code := cdv) (builtins := builtinsNs) (s := s) S.kind hkind (Q := fun env s1 => env = envOfC x (defScope st) s.heap.objs.size f cdv ∧ InCallC s s.heap.objs.size (bindL (envOfC x (defScope st) s.heap.objs.size f cdv).kindOf (ps.zip us) fun _ => none) (cellsFrom (s.heap.objs.size + 1) (defScope st).names []) (bindC (envOfC x (defScope st) s.heap.objs.size f cdv).kindOf (ps.zip us) fun _ => none) s1) fun env he s1 z => by subst he; exact ⟨rfl, z⟩)
  have b : wpAny (model P w) A.in1 (newFunctionEnv (defScope st) mainGlobals [] (ps.zip us) (x ++ ".<locals>.") (some f) cdv none builtinsNs) (fun _ s1 => (∀ y ∈ (defScope st).names, y.2 ≠ .cell) → s.toks + ps.length ≤ s1.toks) (fun _ _ => True) s := by
    by_cases hn : ∀ y ∈ (defScope st).names, y.2 ≠ .cell
    · refine wpAny_newFunctionEnv hn (fun y hy => ?_) (fun h' _ _ _ => ?_) S.kind
      · rcases hkind y hy with q | q
        · exact q
        · exact absurd rfl (hn _ (PySem.mem_of_lookup q.1))
      · show s.toks + ps.length ≤ s.toks + (ps.zip us).length
        rw [List.length_zip, hul]
        omega
    · exact wpAny_mono a (fun _ _ _ z => absurd z hn) fun _ _ _ => trivial
  refine wpAny_mono (any_both a b) (fun env s1 q => ?_) fun e s' q => q.1.2.elim
  obtain ⟨⟨t1, he, z⟩, t2⟩ := q
  subst he
  refine ⟨lim.keeps z.toInCall.keep, codeAny_func ?_⟩
  have I0 : Inv (cxOf CX0 P w K mg base N x (defScope st) f cdv A outer s H E0) [] (L2.start N vs) H s1 := inv_start S hd e0 hl r z
  have I : Inv (cxOf CX0 P w K mg base N x (defScope st) f cdv A outer s H E0).nox [] (L2.start N vs) H s1 := I0.wish _
  refine wpAny_mono (body cdv s1 I t1 t2 z.cell) (fun fl s' q => ?_) fun e s' q => q.elim
  cases fl with
  | ret u => exact q
  | next => exact q
  | brk => exact q.elim
  | cont => exact q.elim
end
end Wk
end
section
set_option maxRecDepth 100000
set_option maxHeartbeats 1000000
/-! one_of: the text it gives is an object of its own, and its frame lies there. -/
namespace Wk
open PySem L2 Wr PyProof.Rows
/-- a text of its own, and a dict that is younger than the state ahead -/
structure Own (s s' : Shared) (H' : Hp) (u : Value) (h : Str) : Prop where
  own : ∃ t, u = .str h t ∧ 1 ≤ t ∧ t < s'.toks
  jk : ∃ p o es ep, s.heap.objs.size ≤ p ∧ s'.heap.get? p = some o ∧ H' p = none ∧ o.data = .dict es ep ∧ StrKeys es
theorem one_call {g : Gm} (Fs_ : Fs g) {f : Addr} {fd : FuncData} (Fu : Fun g.K "_law_one_of" "_law_one_of" (topS 61) f fd) {k : Nat} {N : List Str} {sc : Scope} {gd : Bool} {bl : Option Scope} {X : Cx} (G : Good ⟨g, k, N, sc, gd, bl⟩ X) (hk : 2 ≤ k) {pins : List (Addr × Obj)} {σ : L2.St} {I M F : Hp} {s : Shared} {a : Addr} {l : List Nat} {u2 : Value}
    (Iv : Inv X pins σ (J3 I M F) s) (d : Ds I M F) (hw : WellIn M a) (h1 : 1 ≤ l.length) (h2 : l.length ≤ 1000) (r2 : RelV (.str (sOf l)) u2) :
    wpAny (model X.prog X.w) X.A (call (.ref f) [.ref a, u2]) (fun u s' => ∃ z ∈ l, ∃ M' I2, Wl a M M' ∧ Inv X pins σ (J3 I2 M' F) s' ∧ Same I I2 ∧ Ds I2 M' F ∧ Own s s' (J3 I2 M' F) u (sOf [z])) X.xe s := by
  have bd : BindsTo s fd ⟨[.ref a, u2], []⟩ ((["_law_well_here", "_law_some"] : List Str).zip [.ref a, u2]) := by
    obtain ⟨oc, od, kV, doc, pm, an, cdv, ct, osl, rfl, lk, hcd⟩ := Fu.ex
    exact .of_eq rfl
  have e0 := Iv.env0
  have rm : Room 2 X.A := G.room.mono hk
  rw [G.prog, G.w, G.K, G.mg, G.base] at e0
  rw [G.prog, G.w]
  refine wpAny_call (codeAny_mono (call_gen (R := fun r s' => ∃ u, r = .ok (.ret u) ∧ ∃ z ∈ l, ∃ M' I2, Wl a M M' ∧ (s'.os = s.os ∧ AllBare s'.gens ∧ Un (frs X.stack) [] (J3 I M F) (J3 I2 M' F) s.heap s'.heap ∧ HOk g.P g.w (J3 I2 M' F) s'.heap) ∧ Same I I2 ∧ Ds I2 M' F ∧ Own s s' (J3 I2 M' F) u (sOf [z])) (vs := [.ref a, .str (sOf l)]) (us := [.ref a, u2]) Fu sc_one rm.hd rm.depth e0 bd rfl (.cons rfl (.cons r2 .nil)) ?_) ?_)
  · intro cdv s1 J t1 t2 _
    have tk : 1 ≤ s1.toks := by
      have := t2 (by decide +kernel)
      simp at this
      omega
    generalize hX : (cxOf CX0 g.P g.w g.K g.mg g.base ["_law_well_here", "_law_some"] "_law_one_of" (defScope (topS 61)) f cdv X.A X.stack s (J3 I M F) E0).nox = Y at J
    have GY : Good ⟨g, 1, ["_law_well_here", "_law_some"], defScope (topS 61), false, none⟩ Y := by
      rw [← hX]
      exact ⟨rfl, rfl, rfl, rfl, rfl, rfl, rfl, rm.deeper _, rfl, fun _ _ => rfl, rfl, fun z => nomatch z⟩
    have eA : Y.A = X.A.deeper (envOfC "_law_one_of" (defScope (topS 61)) s.heap.objs.size f cdv) := by rw [← hX]; rfl
    have eE : Y.env = envOfC "_law_one_of" (defScope (topS 61)) s.heap.objs.size f cdv := by rw [← hX]; rfl
    have eL : Y.env.locals = s.heap.objs.size := by rw [eE]; rfl
    have e1 : Y.s_0 = s := by rw [← hX]; rfl
    have e2 : Y.H_0 = J3 I M F := by rw [← hX]; rfl
    have e3 : Y.fs = frs X.stack := by rw [← hX]; rfl
    have e4 : Y.ex = [] := by rw [← hX]; rfl
    have eP : Y.prog = g.P := GY.prog
    have eW : Y.w = g.w := GY.w
    rw [← eA, ← eE, ← eP, ← eW]
    have en : En g.C I (L2.start ["_law_well_here", "_law_some"] [V.ref a, V.str (sOf l)]) [some (.raw (.ref a)), some (.dat (S l))] := en_start (N := ["_law_well_here", "_law_some"]) (xs := [.raw (.ref a), .dat (S l)]) (.cons rfl (.cons (.str _) .nil))
    have hbody : defBody (topS 61) = defBody (topS 61) := rfl
    have hE : Y.xe = fun _ _ => False := GY.xe
    rw [← hE]
    refine wpAny_execs_cons (wpAny_Return_some (Subscript_ (wpAny_mono (PySem.wpAny_toks ((Wr.em_var 1 : Wr.EM ⟨g, 1, ["_law_well_here", "_law_some"], defScope (topS 61), false, none⟩ [some (.raw (.ref a)), some (.dat (S l))] M _ (.dat (S l)) M) Y GY _ I F en d (fun v H => v = .str (sOf l) ∧ ∃ I2, H = J3 I2 M F ∧ Same I I2 ∧ Ds I2 M F) (fun v I2 x M' ⟨z1, z2⟩ s2 d2 i2 => by subst z1 z2; exact ⟨is_str i2, I2, rfl, s2, d2⟩) [] s1 J)) (fun v s2 q => ?_) (fun _ _ z => z.2))))
    obtain ⟨k2, v', H2, J2, rv, ev, I2, eH, s2', d2⟩ := q
    subst ev eH
    have en2 := en.mono s2'
    refine wpAny_mono (PySem.wpAny_toks ((Wr.ev_call (R := fun y M' => ∃ d0 : Nat, d0 < l.length ∧ y = .dat (.int d0) ∧ Wl a M M') (fn_dip Fs_) (Wr.am_two (Wr.em_var 0) (Wr.em_lenS (Wr.em_var 1) (by omega))) ⟨a, l.length, rfl, by omega, by omega, hw, fun d0 hd M' hM => ⟨d0, hd, rfl, hM⟩⟩ : Wr.EV ⟨g, 1, ["_law_well_here", "_law_some"], defScope (topS 61), false, none⟩ [some (.raw (.ref a)), some (.dat (S l))] M _ _) Y GY _ I2 F en2 d2 (fun v H => ∃ d0 : Nat, d0 < l.length ∧ v = .int d0 ∧ ∃ I3 M', H = J3 I3 M' F ∧ Wl a M M' ∧ Same I2 I3 ∧ Ds I3 M' F) (fun v I3 x M' ⟨d0, z1, z2, z3⟩ s3 d3 i3 => by subst z2; exact ⟨d0, z1, is_int i3, I3, M', rfl, z3, s3, d3⟩) [] s2 J2)) (fun u s3 q => ?_) (fun _ _ z => z.2)
    obtain ⟨k3, u', H3, J3', ru, d0, hd0, eu, I3, M', eH, hM, s3', d3⟩ := q
    subst eu eH
    obtain ⟨t, rfl⟩ := rv
    obtain ⟨t', rfl⟩ := ru
    have hz : (sOf l).cps[d0]? = some (l[d0]) := by
      show l.toArray[d0]? = _
      rw [List.getElem?_toArray, List.getElem?_eq_getElem hd0]
    have hlen : (sOf l).length = l.length := sOf_length l
    refine tail_any (ops := [.int d0 t', .str (sOf l) t]) (typeIs_str s3 (sOf l) t) slot_str_getitem.lookup (getItem_str (c := l[d0]) ?_ ?_ ?_) (by with_unfolding_all rfl)
    · have e1 : decide ((d0 : Int) < -(2 ^ 63 : Int)) = false := decide_eq_false (by omega)
      have e2 : decide ((d0 : Int) ≥ 2 ^ 63) = false := decide_eq_false (by omega)
      rw [e1, e2]
      rfl
    · have h0 : seqIndex? (d0 : Int) (sOf l).length = some d0 := by
        rw [hlen]
        unfold seqIndex?
        have a1 : ¬ (d0 : Int) < 0 := by omega
        have a2 : (0 : Int) ≤ (d0 : Int) := by omega
        have a3 : (d0 : Int) < (l.length : Int) := by omega
        simp only [a1, if_false, a2, a3, decide_true, Bool.and_self, if_true, Int.toNat_natCast]
      rw [h0]
      exact hz
    · refine ⟨_, rfl, l[d0], List.getElem_mem hd0, M', I3, hM, ?_, s2'.trans s3', d3, ⟨⟨s3.toks, rfl, Nat.le_trans tk (Nat.le_trans k2 k3), Nat.lt_succ_self _⟩, ?_⟩⟩
      · have Jt := J3'.tok (s3.toks + 1)
        rw [← e1, ← e2, ← e3]
        have hb := Jt.base
        rw [e4] at hb
        exact ⟨Jt.os, Jt.bare, hb, Jt.hok⟩
      · obtain ⟨m, ⟨o, es, ep, q1, q2, q3, _⟩, _⟩ := J3'.loc
        exact ⟨Y.env.locals, o, es, ep, by rw [eL]; exact Nat.le_refl _, q1, J3'.free, q2, q3⟩
  · rintro r s' ⟨u, e, z, hz, M', I2, hM, ⟨os, ba, un, ho⟩, s2, d2, ow⟩
    subst e
    exact ⟨z, hz, M', I2, hM, Iv.call' (ch := []) os un (by rw [G.prog, G.w]; exact ho) ba (fun b q => nomatch q), s2, d2, ow⟩
end Wk
end
section
set_option maxRecDepth 100000
set_option maxHeartbeats 1000000
/-! A loop from its iterator on; a text less a sign. -/
namespace Wr
open PySem L2
theorem repl_one (b : Nat) : ∀ l : List Nat, StrLaws.replL [b] [] l = l.filter fun c => !decide (c = b)
  | [] => StrLaws.replL_nil
  | c :: l => by
    by_cases h : c = b
    · subst h
      rw [StrLaws.replL_hit (by simp) (by simp), List.filter_cons_of_neg (by simp)]
      exact repl_one c l
    · rw [StrLaws.replL_miss (by simp [h]), List.filter_cons_of_pos (by simp [h]), repl_one b l]
theorem replace_one (pl : List Nat) (b : Nat) : Txt.replace (sOf pl) (sOf [b]) (sOf []) = sOf (pl.filter fun c => !decide (c = b)) := by
  have h := StrLaws.replace_list (x := sOf pl) (y := sOf [b]) (z := sOf []) (by rw [sOf_length]; exact Nat.le_refl _)
  have e : StrLaws.replL (sOf [b]).cps.toList (sOf []).cps.toList (sOf pl).cps.toList = pl.filter fun c => !decide (c = b) := repl_one b pl
  rw [e] at h
  generalize Txt.replace (sOf pl) (sOf [b]) (sOf []) = r at h
  cases r with
  | mk cps =>
    have h : cps.toList = pl.filter fun c => !decide (c = b) := h
    unfold sOf
    rw [← h]
/-- the loop, its iterator being made -/
theorem for_run {g : Gm} {k : Nat} {N : List Str} {sc : Scope} {gd : Bool} {bl : Option Scope} {ρ : List (Option Sl)} {M : Hp} {K : Kont} {f : Str} {pt : Pos} {body : List Stmt} {ds : List Sl} (i0 : Nat) {X : Cx} (G : Good ⟨g, k, N, sc, gd, bl⟩ X) {σ : L2.St} {I F : Hp} {D : L2.Ends} {pins : List (Addr × Obj)} {s : Shared} {it : Addr} {fp : List Addr} {tn : Nat → Heap → Prop} {T : It}
    (Jn : Nat → List (Option Sl) → Hp → Prop) (h0 : Jn 0 ρ M) (hst : ∀ i d ρ' M', ds[i]? = some d → Jn i ρ' M' → BD ⟨g, k, N, sc, gd, bl⟩ (ρ'.set i0 (some d)) M' body { nx := Jn (i + 1), ct := Jn (i + 1), bk := K.nx, rt := K.rt }) (hd : ∀ ρ' M', Jn ds.length ρ' M' → K.nx ρ' M')
    (hT : Turn X.prog X.w X.K (.Name f pt) T fp it tn) (st : tn 0 s.heap) (fo : ∀ b ∈ fp, FpOk X pins (J3 I M F) b) (wk : WalkOk g.C T ds I F) (en : En g.C I σ ρ) (di : Ds I M F) (kk : KOk g.C I F K D) (Iv : Inv X pins σ (J3 I M F) s) (hc : chkL N sc bl i0 f = true := by decide +kernel) :
    codeAny (model X.prog X.w) X.A (.forLoop (.Name f pt) (.ref it) body [] X.env) (fun r s' => match r with | .ok fl => SP X pins D fl s' | .error e => cameBackBy (model X.prog X.w) X.A X.env X.xe e s') s := by
  have L := G.loc hc
  have hp : PassesOwn (model X.prog X.w) X.A X.env X.xe := by rw [G.xe]; exact PassesOwn.never
  have stat : ∀ {H' : Hp}, (∀ b ∈ fp, H' b = none) → ∀ b ∈ fp, FpOk X pins H' b := fun hn b hb => ⟨hn b hb, (fo b hb).2⟩
  refine codeAny_forLoop_any (fun n s' => ∃ i σ' I2 ρ' M', n = ds.length - i ∧ i ≤ ds.length ∧ Inv X pins σ' (J3 I2 M' F) s' ∧ tn i s'.heap ∧ (∀ b ∈ fp, (J3 I2 M' F) b = none) ∧ Same I I2 ∧ En g.C I2 σ' ρ' ∧ Ds I2 M' F ∧ Jn i ρ' M') ?_ ds.length ⟨0, σ, I, ρ, M, rfl, Nat.zero_le _, Iv, st, fun b hb => (fo b hb).1, Same.refl I, en, di, h0⟩
  rintro n s3 ⟨i, σ3, I2, ρ', M', hn, hi, Iv3, st3, fr3, s12, en3, d3, hJ⟩
  by_cases hlt : i < ds.length
  · obtain ⟨d, hdd⟩ : ∃ d, ds[i]? = some d := ⟨_, List.getElem?_eq_getElem hlt⟩
    refine wpAny_passesOwn hp (thn (hT.item X rfl rfl rfl G.calm i pins s3 σ3 _ X.xe Iv3 (stat fr3) st3 (wk.go i I2 M' hlt s12 d3)) fun r s4 ⟨u, hr, h4⟩ => ?_)
    subst hr
    refine wpAny_passesOwn hp (thn h4 fun _ s5 ⟨x, H5, Iv5, r5, y5, st5, fr5⟩ => ?_)
    obtain ⟨I5, s25, d5, e5, i5⟩ := wk.yld i I2 M' x H5 d s12 d3 y5 hdd
    subst e5
    have s15 := s12.trans s25
    refine wpAny_passesOwn hp (wpAny_assign_Name (store_ok (Iv5.pinned (stat fr5) (hT.obj _ _ st5)) L.nd L.hN L.hx r5 (fun s6 Iv6 => ?_) L.hf))
    refine wpAny_passesOwn hp (thn (hst i d ρ' M' hdd hJ X G (σ3.set i0 (some x)) I5 F { nx := fun σ H => ∃ I7 ρ7 M7, H = J3 I7 M7 F ∧ Same I I7 ∧ En g.C I7 σ ρ7 ∧ Ds I7 M7 F ∧ Jn (i + 1) ρ7 M7, ct := fun σ H => ∃ I7 ρ7 M7, H = J3 I7 M7 F ∧ Same I I7 ∧ En g.C I7 σ ρ7 ∧ Ds I7 M7 F ∧ Jn (i + 1) ρ7 M7, bk := fun σ H => ∃ I7 ρ7 M7, H = J3 I7 M7 F ∧ Same I I7 ∧ En g.C I7 σ ρ7 ∧ Ds I7 M7 F ∧ K.nx ρ7 M7, rt := D.rt } ((en3.mono s25).set i5) d5
      ⟨fun σ7 I7 ρ7 M7 h7 s57 en7 d7 => ⟨I7, ρ7, M7, rfl, s15.trans s57, en7, d7, h7⟩, kk.rt.mono s15, fun σ7 I7 ρ7 M7 h7 s57 en7 d7 => ⟨I7, ρ7, M7, rfl, s15.trans s57, en7, d7, h7⟩, fun σ7 I7 ρ7 M7 h7 s57 en7 d7 => ⟨I7, ρ7, M7, rfl, s15.trans s57, en7, d7, h7⟩⟩ _ s6 Iv6) fun fl s7 q7 => ?_)
    have again : ∀ {σ7 : L2.St} {H7 : Hp}, Inv X (pins ++ pinsAt fp s5.heap) σ7 H7 s7 → (∃ I7 ρ7 M7, H7 = J3 I7 M7 F ∧ Same I I7 ∧ En g.C I7 σ7 ρ7 ∧ Ds I7 M7 F ∧ Jn (i + 1) ρ7 M7) → ∃ m, m < n ∧ ∃ i σ' I2 ρ' M', m = ds.length - i ∧ i ≤ ds.length ∧ Inv X pins σ' (J3 I2 M' F) s7 ∧ tn i s7.heap ∧ (∀ b ∈ fp, (J3 I2 M' F) b = none) ∧ Same I I2 ∧ En g.C I2 σ' ρ' ∧ Ds I2 M' F ∧ Jn i ρ' M' := fun {σ7 H7} Iv7 ⟨I7, ρ7, M7, e7, s17, en7, d7, h7⟩ => by
      subst e7
      have at_ : ∀ b ∈ fp, ∀ o, s5.heap.get? b = some o → s7.heap.get? b = some o ∧ J3 I7 M7 F b = none := fun b hb o e => let z := Iv7.pin (b, o) (List.mem_append_right _ (List.mem_append_right _ (mem_pinsAt hb e))); ⟨z.1, z.2.1⟩
      refine ⟨ds.length - (i + 1), by omega, i + 1, σ7, I7, ρ7, M7, rfl, hlt, Iv7.unpinned, hT.keep _ _ _ st5 fun b hb o e => (at_ b hb o e).1, fun b hb => ?_, s17, en7, d7, h7⟩
      obtain ⟨o, e, _⟩ := hT.obj _ _ st5 b hb
      exact (at_ b hb o e).2
    cases fl with
    | next =>
      obtain ⟨σ7, H7, Iv7, n7⟩ := q7
      exact again Iv7 n7
    | cont =>
      obtain ⟨σ7, H7, Iv7, n7⟩ := q7
      exact again Iv7 n7
    | brk =>
      obtain ⟨σ7, H7, Iv7, I7, ρ7, M7, e7, s17, en7, d7, h7⟩ := q7
      subst e7
      exact ⟨σ7, _, Iv7.unpinned, kk.nx σ7 I7 ρ7 M7 h7 s17 en7 d7⟩
    | ret v =>
      obtain ⟨x7, σ7, H7, Iv7, r7, z7⟩ := q7
      exact ⟨x7, σ7, H7, Iv7.unpinned, r7, z7⟩
  · have e : i = ds.length := by omega
    subst e
    refine wpAny_passesOwn hp (thn (hT.done X rfl rfl rfl G.calm _ pins s3 σ3 _ X.xe Iv3 (stat fr3) st3 (wk.stop I2 M' s12 d3)) fun r s4 ⟨hr, Iv4⟩ => ?_)
    subst hr
    exact wpAny_execs_nil ⟨σ3, _, Iv4, kk.nx σ3 I2 ρ' M' (hd ρ' M' hJ) s12 en3 d3⟩
end Wr
end
section
set_option maxRecDepth 100000
set_option maxHeartbeats 1000000
/-! is_low: one herd. -/
namespace Wr
open PySem L2
abbrev N_low : List Str := ["_law_signs", "_law_joins", "_law_pile_here", "_law_home", "_law_herd", "_law_lost", "_law_k", "_law_both", "_law_a"]
theorem sc_low : FnScope N_low ["_law_signs", "_law_joins", "_law_pile_here", "_law_home"] (defScope (topS 68)) := ⟨rfl, rfl, rfl, by decide +kernel, rfl, by decide +kernel, by decide +kernel⟩
def stFor : Stmt → List Stmt
  | .For _ _ b _ _ => b
  | _ => []
abbrev lowFor : List Stmt := stFor ((defBody (topS 68)).getD 1 (.Pass ⟨0, 0, 0, 0⟩))
abbrev lowC (g : Gm) : Cs := ⟨g, 2, N_low, defScope (topS 68), false, none⟩
abbrev lowR (pl : List Nat) (ts : List (Nat × Nat)) (ns : List Int) (b : Nat) (o4 o5 : Option Sl) : List (Option Sl) := [some (.dat (S pl)), some (.dat (joinsD ts)), some (.dat (tI ns)), some (.dat (S [b])), o4, o5, none, none, none]
theorem range_pl (U : List Nat) : (List.range U.length).map (plAt U) = U := by
  apply List.ext_getElem?
  intro i
  rw [List.getElem?_map]
  by_cases hi : i < U.length
  · rw [List.getElem?_range hi, List.getElem?_eq_getElem hi]
    show some (plAt U i) = _
    unfold plAt
    rw [List.getD_eq_getElem?_getD, List.getElem?_eq_getElem hi]
    rfl
  · rw [List.getElem?_eq_none (by simpa using hi), List.getElem?_eq_none (by omega)]
    rfl
theorem outNI (ts : List (Nat × Nat)) (U : List Nat) (a : Nat) : ((ts.filter fun q => decide (a ∈ tS q) && crosses q U).length : Int) = (outN ts U a : Int) := by rw [outN_ties]
theorem low_body {g : Gm} (F : Fs g) {pl : List Nat} {ts : List (Nat × Nat)} {ns : List Int} {b : Nat} {U : List Nat} {o5 : Option Sl} {M : Hp} {K : Kont} (hp : pl.length ≤ 7) (ht : ts.length ≤ 100) (hn : ns.length = pl.length) (hU : ∀ x ∈ U, x ∈ pl) (h1 : U ≠ []) (hl : U.length ≤ 7)
    (yes : 0 ≤ minL (spareL pl ts ns U) → K.rt (.dat (.bool false)) M) (no : ¬ 0 ≤ minL (spareL pl ts ns U) → ∀ o, K.nx (lowR pl ts ns b (some (.dat (S U))) o) M) : BD (lowC g) (lowR pl ts ns b (some (.dat (S U))) o5) M lowFor K := by
  have hU0 : 0 < U.length := List.length_pos_iff.mpr h1
  refine bd_set 5 (x := .dat (.list (U.map fun a => PyData.int (outN ts U a : Int)))) (em_lc1n (zs := U) (enc := fun a => .dat (S [a])) (r := fun a => .int (outN ts U a : Int)) 8 (src_s (em_var 4)) (fun a ha => EM.is (em_lenL (em_lc1 (zs := ts) (enc := fun q => .dat (S (tS q))) (t := fun q => decide (a ∈ tS q) && crosses q U) (r := fun q => S (tS q)) 7 (src_lT (em_var 1))
    (fun q hq => ts_one (tm_and (tm_in1 (em_var 8) (em_var 7)) fun _ => tm_neB (em_in1 (x := q.1) (em_ixS (em_var 7) em_int rfl (by show 2 ≤ 100000; omega)) (em_var 4)) (em_in1 (x := q.2) (em_ixS (em_var 7) em_int rfl (by show 2 ≤ 100000; omega)) (em_var 4)))) (fun q _ _ => em_var 7) (by omega))) (by rw [List.length_map, outNI])) (by omega)) ?_
  have e : (List.range U.length).map (fun k => hAt pl ns (plAt U k) - (outN ts U (plAt U k) : Int)) = spareL pl ts ns U := by
    have := congrArg (List.map fun a => hAt pl ns a - (outN ts U a : Int)) (range_pl U)
    rw [List.map_map] at this
    exact this
  refine bd_when (t := decide (0 ≤ minL (spareL pl ts ns U))) (tm_ge (em_minL (ns := spareL pl ts ns U) (EM.is (em_lc1n (zs := List.range U.length) (enc := fun i : Nat => .dat (.int (i : Int))) (r := fun k => .int (hAt pl ns (plAt U k) - (outN ts U (plAt U k) : Int))) 6 (src_r (em_lenS (em_var 4) (by omega)) (by omega)) (fun k hk => ?_) (by rw [List.length_range]; omega)) ?_) (by rw [← e]; simpa using hU0)) em_int) (fun q => ?_) fun q => ?_
  · have hk' : k < U.length := List.mem_range.mp hk
    have hm : plAt U k ∈ pl := hU _ (plAt_mem hk')
    have hi := (plAt_idx hm).1
    refine em_sub (em_ixT (ds := ns.map .int) (em_var 2) (em_index (em_var 0) (em_ixS (em_var 4) (em_var 6) (pl_ix hk') (by omega)) hm) (pi_ix (by omega))) (em_ixL (ds := U.map fun a => PyData.int (outN ts U a : Int)) (em_var 5) (em_var 6) (atI_nat ?_))
    rw [List.getElem?_map, List.getElem?_eq_getElem hk']
    show some (PyData.int (outN ts U U[k] : Int)) = _
    have : plAt U k = U[k] := by
      unfold plAt
      rw [List.getD_eq_getElem?_getD, List.getElem?_eq_getElem hk']
      rfl
    rw [this]
  · rw [← e, List.map_map]
    rfl
  · exact bd_ret (EM.to em_bool (yes (of_decide_eq_true q)))
  · exact bd_nil (no (of_decide_eq_false q) _)
end Wr
end
section
set_option maxRecDepth 100000
set_option maxHeartbeats 1000000
/-! is_low, called with a text of its own. -/
namespace Wk
open PySem L2 Wr PyProof.Rows
/-- a name read: the state is as before -/
theorem var0 {X : Cx} {pins : List (Addr × Obj)} {s : Shared} {σ : L2.St} {H : Hp} {i : Nat} {x : Str} {v : V} {pos : Pos} (I : Inv X pins σ H s) (hN : X.N[i]? = some x) (hv : Vis X.env.scope x) (e : σ[i]? = some (some v)) (hd : (x == ("__debug__" : Str)) = false) (hcd : (x == ("__classdict__" : Str)) = false) : wpAny (model X.prog X.w) X.A (eval (.Name x pos) X.env) (fun u s' => s' = s ∧ RelV v u) X.xe s := by
  obtain ⟨m, hn, hl⟩ := I.loc
  obtain ⟨u, r, l⟩ := hl i x v hN e hv
  rcases l with ⟨k1, k2⟩ | ⟨k1, c, k2, k3⟩
  · exact wpAny_Name (wpAny_loadName_local I.ok.kind k1 hn k2 ⟨rfl, r⟩) hd
  · rcases k1 with k1 | k1
    · exact wpAny_Name (wpAny_loadName_cell I.ok.kind k1 k2 k3 ⟨rfl, r⟩) hd
    · exact wpAny_Name (wpAny_loadName_free I.ok.kind k1 k2 k3 ⟨rfl, r⟩ hcd) hd
theorem low_none {pl : List Nat} {ns : List Int} {b : Nat} (h : ∀ k, k < pl.length → plAt pl k ≠ b → 0 ≤ piAt ns k) : (List.range pl.length).filter (fun k => !decide (plAt pl k = b) && decide (piAt ns k < 0)) = [] := List.filter_eq_nil_iff.mpr fun k hk => by
  have hk' := List.mem_range.mp hk
  by_cases e : plAt pl k = b
  · simp [e]
  · have := h k hk' e
    simp [e]
    omega
theorem each_oneX {α : Type} {g : Gm} {k : Nat} {N : List Str} {sc : Scope} {gd : Bool} {bl : Option Scope} {ρ : List (Option Sl)} {M1 : Hp} {scope : Scope} {pt : Pos} {elt : Expr} {ifs : List Expr} {zs : List α} {enc : α → Sl} {t : α → Bool} {r : α → PyData} {f : Str} (j : Nat) (ht : ∀ z ∈ zs, Wr.TsM ⟨g, k, N, relS scope sc, gd, some scope⟩ (ρ.set j (some (enc z))) M1 ifs (t z) M1)
    (he : ∀ z ∈ zs, t z = true → Wr.EM ⟨g, k, N, relS scope sc, gd, some scope⟩ (ρ.set j (some (enc z))) M1 elt (.dat (r z)) M1) (hc : chkL N (relS scope sc) (some scope) j f = true := by decide +kernel) : LcEach ⟨g, k, N, sc, gd, bl⟩ ρ [(f, j)] scope (.Name f pt) elt ifs zs enc t r M1 := each_one (c := ⟨g, k, N, sc, gd, bl⟩) j hc ht he
/-- the test: no place off the bank has less than 0 -/
def stTest : Stmt → Expr
  | .If t _ _ _ => t
  | .For _ t _ _ _ => t
  | _ => .Constant (.bool false) 0 ⟨0, 0, 0, 0⟩
abbrev lowTest : Expr := stTest ((defBody (topS 68)).getD 0 (.Pass ⟨0, 0, 0, 0⟩))
theorem low_if {g : Gm} {Y : Cx} (G : Good (lowC g) Y) {σ : L2.St} {I M Fr : Hp} {pl : List Nat} {ts : List (Nat × Nat)} {ns : List Int} {b : Nat} {s : Shared} (en : En g.C I σ (lowR pl ts ns b none none)) (di : Ds I M Fr) (Iv : Inv Y [] σ (J3 I M Fr) s) (hp : pl.length ≤ 7) (hn : ns.length = pl.length) (h0 : ∀ k, k < pl.length → plAt pl k ≠ b → 0 ≤ piAt ns k) :
    wpAny (model Y.prog Y.w) Y.A (isTrue lowTest Y.env (eval lowTest Y.env)) (fun t s' => t = false ∧ Kp Y s s' ∧ ∃ I2, Same I I2 ∧ Ds I2 M Fr ∧ Inv Y [] σ (J3 I2 M Fr) s') Y.xe s := by
  obtain ⟨r1, _⟩ := G.gl (show glB (defScope (topS 68)) "range" = true by decide +kernel)
  obtain ⟨l1, l2⟩ := G.gl (show glB (defScope (topS 68)) "len" = true by decide +kernel)
  have mR : Y.mg "range" = none := by rw [G.mg]; exact g.blt _ (by decide +kernel)
  have mL : Y.mg "len" = none := by rw [G.mg]; exact g.blt _ (by decide +kernel)
  have nm : ∀ (i : Nat) (x : Str) (dd : Sl) (s' : Shared) (I' : Hp) (pos : Pos), Inv Y [] σ (J3 I' M Fr) s' → Same I I' → chkV N_low (defScope (topS 68)) i x = true → (lowR pl ts ns b none none)[i]? = some (some dd) → wpAny (model Y.prog Y.w) Y.A (eval (.Name x pos) Y.env) (fun u s2 => s2 = s' ∧ ∃ v, RelV v u ∧ Is g.C I' v dd) Y.xe s' := fun i x dd s' I' pos J sI h q => by
    unfold chkV at h
    simp only [Bool.and_eq_true, decide_eq_true_eq, Bool.not_eq_true'] at h
    obtain ⟨⟨⟨h1, h2⟩, h3⟩, h4⟩ := h
    obtain ⟨v, e1, i1⟩ := (en.mono sI).at_ i dd q
    exact thn (var0 J (by rw [G.N]; exact h1) (by rw [G.sc]; exact vis_of h2) e1 h3 h4) fun u s2 ⟨a1, a2⟩ => ⟨a1, v, a2, i1⟩
  have hlen : (sOf pl).length = pl.length := sOf_length pl
  refine wpAny_isTrue_Compare1 (thn (lc_kp (Q := fun v H => ∃ I3, H = J3 I3 M Fr ∧ Same I I3 ∧ Ds I3 M Fr ∧ Is g.C I3 v (.dat (.list []))) (own := [("_law_k", 6)]) (g := lcG Y _ _) (tt := lcT Y _ _) (te := lcE Y _ _) G.calm (by rw [G.N]; exact of_decide_eq_true (show decide N_low.Nodup = true by decide +kernel)) Iv (by rw [G.N, G.sc]; exact blkOk_by (show blkC N_low (defScope (topS 68)) _ _ = true by decide +kernel))
    (fun s0 H0 C' cl fp => ⟨fun pins s2 σ H v u Q I r h => h s0 H0 C' cl fp pins s2 u I r⟩) (fun s0 H0 C' cl fp => ⟨fun pins s2 σ H Q I h => h s0 H0 C' cl fp pins s2 I⟩) (fun s0 H0 C' cl fp => ⟨fun pins s2 σ H Q I h => h s0 H0 C' cl fp pins s2 I⟩) (fun x => rfl) ?_) fun v s2 ⟨⟨w, H2, J2, rw2, I2, eH, s2', d2, i2⟩, k2⟩ => ?_)
  · refine Call_ (ld_blt Iv r1 mR boot_range (PyProof.Rows.callWith_type1 (Calls.spliced_cons (wpAny_Call_Name_kw (ld_blt Iv l1 mL (by decide +kernel : bootBuiltins "len" = some (.builtin "len")) (PyProof.Rows.callWith_builtin1 (Calls.spliced_cons (thn (nm 0 _ _ s I _ Iv (Same.refl I) (by decide +kernel) rfl) fun u s1 q => Calls.spliced_nil ?_)) rfl rfl) (by decide +kernel) l2))) rfl rfl))
    obtain ⟨rfl, v, rv, iv⟩ := q
    rw [is_str iv] at rv
    obtain ⟨t, rfl⟩ := rv
    refine P.len_str (by rw [hlen]; omega) (Calls.spliced_nil (call_range_1 ?_))
    rw [hlen]
    refine iter_range (Iv.tok _) (by omega) (by omega) (Kp.toks (by omega)) (by omega) ?_
    refine lc_readG (c := ⟨g, 2, N_low, defScope (topS 68), false, none⟩) (ds := (List.range pl.length).map fun i : Nat => Sl.dat (.int (i : Int))) (R := only (.dat (.list [])) M) G en di [("_law_k", 6)] (fun _ _ R => R (Itr 0 ((pl.length : Int)).toNat) (J3 I M Fr)) (M1 := M) (fun R hR => hR _ I (Same.refl I) di fun F' => by rw [Int.toNat_natCast]; exact walk_r) (pureJ (List.range pl.length) (fun k => !decide (plAt pl k = b) && decide (piAt ns k < 0)) (fun k => .int (k : Int)) M) ⟨rfl, by simp⟩ (lc_each (each_oneX (g := g) (k := 2) (N := N_low) (sc := defScope (topS 68)) (gd := false) (bl := none) 6 (fun k hk => Wr.ts_one (Wr.tm_and (Wr.TM.is (Wr.tm_neS (l := [plAt pl k]) (m := [b]) (Wr.em_ixS (Wr.em_var 0) (Wr.em_var 6) (pl_ix (List.mem_range.mp hk)) (by omega)) (Wr.em_var 3)) (by simp)) fun _ => Wr.tm_lt (Wr.em_ixT (ds := ns.map .int) (Wr.em_var 2) (Wr.em_var 6) (pi_ix (by have := List.mem_range.mp hk; omega))) Wr.em_int)) fun k hk _ => Wr.em_var 6)) (fun acc M' ⟨e1, e2⟩ => ?_) (by simp; omega) (fun v I3 x M' ⟨e1, e2⟩ s3 d3 i3 => by subst e1 e2; exact ⟨I3, rfl, s3, d3, i3⟩)
    rw [e2, take_all, low_none h0, e1]
    exact ⟨rfl, rfl⟩
  · subst eH
    obtain ⟨q, ys, rfl, e1, f1⟩ := is_lst i2
    cases f1
    cases rw2
    refine wpAny_List_spliced (Calls.spliced_nil ⟨Nat.zero_le _, ?_⟩)
    obtain ⟨w3, H3, J3', rw3, q3⟩ := laid_k (ho := .lst []) (o := { cls := .type "list", data := .seq ([] : List Value).toArray }) (Q := fun v H => ∃ p, v = .ref p ∧ H = upd (J3 I2 M Fr) p (.lst []) ∧ J3 I2 M Fr p = none) J2 ⟨Nat.zero_le _, [], 0, .nil, Heap.get?_push_size _ rfl⟩ (fun p hp => ⟨p, rfl, rfl, hp⟩)
    obtain ⟨p, rfl, eH, hp'⟩ := q3
    subst eH
    obtain ⟨n1, n2, n3⟩ := j3_none hp'
    have s3 : Same I2 (upd I2 p (.lst [])) := same_new n1
    rw [upd_I3] at J3'
    obtain ⟨as, ra⟩ := Dp.reads J3' (.list []) (.ref q) (.ref q) (Dat.dp _ _ (Dat.mono same_j3 _ _ (Dat.mono s3 _ _ i2))) rfl
    obtain ⟨bs, rb⟩ := Dp.reads J3' (.list []) (.ref p) _ (Dat.dp _ _ (Dat.mono same_j3 _ _ (.lst upd_same .nil))) rw3
    refine SeqAt.compareNe_shaped ra rb shaped_nil shaped_nil (GV.of G).hu (wpAny_truthy_bool ⟨by rw [eqv_nil]; rfl, k2.trans Kp.push, _, s2'.trans s3, d2.newI hp', J3'⟩)
end Wk
end
section
set_option maxRecDepth 100000
set_option maxHeartbeats 1000000
/-! is_low, called with a text of its own: the loop, the call. -/
namespace Wk
open PySem L2 Wr PyProof.Rows
theorem cut_tail {α : Type} (xs : List α) : Wr.cutD xs (some 1) none = xs.tail := by
  cases xs with
  | nil => rfl
  | cons x xs =>
    unfold Wr.cutD
    have h1 : HT.sIx (x :: xs).length 0 (some 1) = 1 := by
      unfold HT.sIx
      simp
      try omega
    have h2 : HT.sIx (x :: xs).length (x :: xs).length none = (x :: xs).length := by
      unfold HT.sIx
      simp
    rw [h1, h2]
    simp
abbrev lowSrc : Expr := stTest ((defBody (topS 68)).getD 1 (.Pass ⟨0, 0, 0, 0⟩))
/-- the herds, from a text of its own -/
theorem low_src {g : Gm} (Fs_ : Fs g) {Y : Cx} (G : Good (lowC g) Y) {σ : L2.St} {I M Fr : Hp} {pl : List Nat} {ts : List (Nat × Nat)} {ns : List Int} {b : Nat} {s : Shared} {t : Tok} {c : Addr} (en : En g.C I σ (lowR pl ts ns b none none)) (di : Ds I M Fr) (Iv : Inv Y [] σ (J3 I M Fr) s) (hp : pl.length ≤ 7)
    (hcl : Y.env.cells.lookup ("_law_home" : Str) = some c) (hv : s.heap.IsCell c (some (.str (sOf [b]) t))) (t1 : 1 ≤ t) (t2 : t < s.toks) :
    wpAny (model Y.prog Y.w) Y.A (eval lowSrc Y.env) (fun u s' => ∃ v I2, Inv Y [] σ (J3 I2 M Fr) s' ∧ RelV v u ∧ Same I I2 ∧ Ds I2 M Fr ∧ Is g.C I2 v (.dat (.list ((lawHerds (pl.filter fun c => !decide (c = b))).tail.map S)))) Y.xe s := by
  obtain ⟨fH, fdH, psH, h1, h2, h3, h4⟩ := (fn_lherds Fs_).ex
  rw [← G.prog, ← G.w, ← G.K, ← G.mg, ← G.base] at h1
  rw [← G.mg] at h2
  rw [← G.K] at h3 h4
  obtain ⟨g1, g2⟩ := G.gl (show glB (defScope (topS 68)) "_law_herds" = true by decide +kernel)
  have hz : (sOf pl).length ≤ 7 := by rw [sOf_length]; exact hp
  have hN : Y.N[0]? = some ("_law_signs" : Str) := by rw [G.N]; rfl
  have kc : Y.env.kindOf "_law_home" = some .cell := by
    show Y.env.scope.names.lookup _ = _
    rw [G.sc]
    show (defScope (topS 68)).names.lookup ("_law_home" : Str) = some .cell
    decide +kernel
  have hfl : (pl.filter fun c => !decide (c = b)).length ≤ 7 := Nat.le_trans (List.length_filter_le _ _) hp
  obtain ⟨v0, e0, i0⟩ := en.at_ 0 _ rfl
  have hvis : Vis Y.env.scope "_law_signs" := by rw [G.sc]; exact vis_of (show visB (defScope (topS 68)) "_law_signs" = true by decide +kernel)
  -- the call of herds
  have call : wpAny (model Y.prog Y.w) Y.A (eval (match lowSrc with | .Subscript a _ _ => a | _ => .Constant (.bool false) 0 ⟨0, 0, 0, 0⟩) Y.env) (fun u s' => ∃ v I2, Inv Y [] σ (J3 I2 M Fr) s' ∧ RelV v u ∧ Same I I2 ∧ Ds I2 M Fr ∧ Is g.C I2 v (.dat (.list ((lawHerds (pl.filter fun c => !decide (c = b))).map S)))) Y.xe s := by
    refine wpAny_Call_Name_kw (ld_glob Iv g1 h2 (PySem.W.callWith_K (h₀ := Y.base) Iv.ok.mod.kin h3 (Calls.spliced_cons (PySem.Call_method2 rfl rfl rfl (thn (var0 Iv hN hvis e0 (by decide +kernel) (by decide +kernel)) fun u s1 q => ?_))) rfl rfl) g2)
    obtain ⟨rfl, r0⟩ := q
    rw [is_str i0] at r0
    obtain ⟨t0, rfl⟩ := r0
    refine ⟨"str", _, F.plainAttrs_str, F.slot_str_replace, F.type_str_replace, typeIs_str _ _ _, (fun _ z => nomatch z), Calls.callWith_builtin rfl (Calls.evalArgs_plain (Calls.spliced_cons (wpAny_Name (wpAny_loadName_cell Iv.ok.kind kc hcl hv (Calls.spliced_cons (Calls.Constant_str (Calls.spliced_nil ?_)))) (by decide +kernel))))⟩
    have ez : (Str.empty : Str) = sOf [] := rfl
    refine SC.replace (z := sOf []) (Nat.ne_of_gt t1) (Nat.ne_of_gt (Nat.lt_of_le_of_lt (Nat.le_of_lt t1) t2)) (Nat.ne_of_lt t2) rfl (by rw [sOf_length, sOf_length]; simp; omega) fun t' tk => Calls.spliced_nil ?_
    rw [replace_one]
    have J2 := Iv.tok tk
    refine ⟨J2.kIn, ?_⟩
    refine thn (run_fn (CX := CX0) (E := E0) (ds := []) (dvs := []) (vs := [.str (sOf (pl.filter fun c => !decide (c = b)))]) (Q := fun v H => ∃ I2, H = J3 I2 M Fr ∧ Same I I2 ∧ Ds I2 M Fr ∧ Is g.C I2 v (.dat (.list ((lawHerds (pl.filter fun c => !decide (c = b))).map S)))) h1 (G.room.mono (show 1 ≤ 2 by decide)) h4 .nil pass0 J2 (.cons ⟨_, rfl⟩ .nil) ?_) fun u s3 ⟨v, H3, J3', rv, I3, eH, q⟩ => by subst eH; exact ⟨v, I3, J3', rv, q⟩
    exact ⟨I, M, Fr, [.dat (S _)], only (.dat (.list ((lawHerds (pl.filter fun c => !decide (c = b))).map S))) M, rfl, di, .cons (.str _) .nil, ⟨_, rfl, hfl, only_self⟩, fun v I2 x M' ⟨e1, e2⟩ s2 d2 i2 => by subst e1 e2; exact ⟨I2, rfl, s2, d2, i2⟩⟩
  refine Subscript_ (thn call fun v s2 ⟨w, I2, J2, rv, s2', d2, i2⟩ => ?_)
  refine wpAny_Slice (thn ((L2.po_some L2.pe_int).run [] s2 σ _ (fun o H => o = some 1 ∧ H = J3 I2 M Fr) J2 ⟨1, rfl, rfl, rfl⟩) fun vl s3 ⟨o1, H3, J3', pl', e1, e2⟩ => thn (L2.po_none.run [] s3 σ _ (fun o H => o = none ∧ H = J3 I2 M Fr) J3' ⟨rfl, e2⟩) fun vu s4 ⟨o2, H4, J4, pu, e3, e4⟩ => ?_)
  subst e1 e3 e4
  rw [evalPart_none]
  refine wpAny_pure ?_
  have I4 : Inv Y [] σ (J3 I2 M Fr) { s4 with heap := s4.heap.push { cls := .type "slice", data := .fields #[vl, vu, .none] } } := J4.kept (t' := s4.toks) fun b ob q => Heap.get?_push_of_some _ q
  obtain ⟨q, ys, rfl, e1, f1⟩ := is_lst i2
  have fc := dats_cut f1 (some 1) none
  rw [cut_tail, ← List.map_tail] at fc
  obtain ⟨T, id, hT, ht, hg⟩ := sl_list (X := Y) [] _ σ _ (.ref q) v vl vu (some 1) none s4.heap.objs.size (fun v H => ∃ I3, H = J3 I3 M Fr ∧ Same I I3 ∧ Ds I3 M Fr ∧ Is g.C I3 v (.dat (.list ((lawHerds (pl.filter fun c => !decide (c = b))).tail.map S)))) I4 rv (Heap.IsSliceOf.new ..) pl' pu ⟨q, ys, rfl, SqL.of (j3_I e1), fun p hp' => by
    obtain ⟨n1, n2, n3⟩ := j3_none hp'
    rw [upd_I3]
    exact ⟨_, rfl, s2'.trans (same_new n1), d2.newI hp', .lst upd_same (Dats.mono (same_new n1) _ _ fc)⟩⟩
  refine thn (tail_any (ops := [.ref s4.heap.objs.size, v]) ht hT hg (by with_unfolding_all rfl)) fun u s5 ⟨w5, H5, J5, r5, I5, e5, s5, d5, i5⟩ => ?_
  subst e5
  exact ⟨w5, I5, J5, r5, s5, d5, i5⟩
end Wk
end
section
set_option maxRecDepth 100000
set_option maxHeartbeats 1000000
/-! is_low, called with a text of its own: the call. -/
namespace Wk
open PySem L2 Wr PyProof.Rows
def stTg : Stmt → Pos
  | .For (.Name _ p) _ _ _ _ => p
  | _ => ⟨0, 0, 0, 0⟩
abbrev lowTg : Expr := .Name "_law_herd" (stTg ((defBody (topS 68)).getD 1 (.Pass ⟨0, 0, 0, 0⟩)))
theorem bindC_last {kind : Str → Option NameKind} {n : Str} {v : Value} (hk : kind n ≠ some .local) : ∀ (l : List (Str × Value)) (m : Str → Option Value), bindC kind (l ++ [(n, v)]) m n = some v
  | [], m => by
    show (if kind n = some .local then m else fun y => if y = n then some v else m y) n = some v
    rw [if_neg hk]
    exact if_pos rfl
  | (a, u) :: l, m => bindC_last hk l _
theorem herd_len {l U : List Nat} (h : U ∈ lawHerds l) : U.length ≤ l.length := by
  have := (herd_fold l [[]] 0 (fun x hx => by rw [List.mem_singleton.mp hx]; exact Nat.le_refl _)).2 U h
  omega
theorem low_yes {pl : List Nat} {ts : List (Nat × Nat)} {ns : List Int} {b : Nat} {U : List Nat} (hU : U ∈ (lawHerds (pl.filter fun c => !decide (c = b))).tail) (h1 : U ≠ []) (h : 0 ≤ minL (spareL pl ts ns U)) : lowB pl ts ns b = false := by
  unfold lowB
  rw [List.all_eq_false]
  refine ⟨U, hU, ?_⟩
  have := (min_iff (ns := spareL pl ts ns U) (by unfold spareL; rw [List.length_map]; exact List.length_pos_iff.mpr h1)).mp h
  simpa using this
theorem low_no {pl : List Nat} {ts : List (Nat × Nat)} {ns : List Int} {b : Nat} (h : ∀ U ∈ (lawHerds (pl.filter fun c => !decide (c = b))).tail, U ≠ [] ∧ ¬ 0 ≤ minL (spareL pl ts ns U)) : lowB pl ts ns b = true := by
  unfold lowB
  rw [List.all_eq_true]
  intro U hU
  obtain ⟨a, c⟩ := h U hU
  have m := min_iff (ns := spareL pl ts ns U) (by unfold spareL; rw [List.length_map]; exact List.length_pos_iff.mpr a)
  rw [m] at c
  cases e : (spareL pl ts ns U).all fun x => decide (0 ≤ x) with
  | false => rfl
  | true =>
    rw [List.all_eq_true] at e
    exact absurd (fun x hx => of_decide_eq_true (e x hx)) c
theorem low_call {g : Gm} (Fs_ : Fs g) {f : Addr} {fd : FuncData} (Fu : Fun g.K "_law_is_low" "_law_is_low" (topS 68) f fd) {k : Nat} {N : List Str} {sc : Scope} {gd : Bool} {bl : Option Scope} {X : Cx} (G : GV ⟨g, k, N, sc, gd, bl⟩ X) (hk : 3 ≤ k) {pins : List (Addr × Obj)} {σ : L2.St} {I M F : Hp} {s : Shared} {v0 v1 v2 : V} {u0 u1 u2 : Value} {t : Tok} {pl : List Nat} {ts : List (Nat × Nat)} {ns : List Int} {b : Nat}
    (Iv : Inv X pins σ (J3 I M F) s) (di : Ds I M F) (hp : pl.length ≤ 7) (hts : ts.length ≤ 100) (hn : ns.length = pl.length) (h0 : ∀ k, k < pl.length → plAt pl k ≠ b → 0 ≤ piAt ns k)
    (i : Iss g.C I [v0, v1, v2, .str (sOf [b])] [.dat (S pl), .dat (joinsD ts), .dat (tI ns), .dat (S [b])]) (r0 : RelV v0 u0) (r1 : RelV v1 u1) (r2 : RelV v2 u2) (t1 : 1 ≤ t) (t2 : t < s.toks) :
    wpAny (model X.prog X.w) X.A (call (.ref f) [u0, u1, u2, .str (sOf [b]) t]) (fun u s' => ∃ I2, u = .bool (lowB pl ts ns b) ∧ Inv X pins σ (J3 I2 M F) s' ∧ Same I I2 ∧ Ds I2 M F) X.xe s := by
  have bd : BindsTo s fd ⟨[u0, u1, u2, .str (sOf [b]) t], []⟩ ((["_law_signs", "_law_joins", "_law_pile_here", "_law_home"] : List Str).zip [u0, u1, u2, .str (sOf [b]) t]) := by
    obtain ⟨oc, od, kV, doc, pm, an, cdv, ct, osl, rfl, lk, hcd⟩ := Fu.ex
    exact .of_eq rfl
  have e0 := Iv.env0
  have rm : Room 3 X.A := G.room.mono hk
  rw [G.prog, G.w, G.K, G.mg, G.base] at e0
  rw [G.prog, G.w]
  refine wpAny_call (codeAny_mono (call_gen (R := fun r s' => ∃ u, r = .ok (.ret u) ∧ ∃ I2, u = .bool (lowB pl ts ns b) ∧ (s'.os = s.os ∧ AllBare s'.gens ∧ Un (frs X.stack) [] (J3 I M F) (J3 I2 M F) s.heap s'.heap ∧ HOk g.P g.w (J3 I2 M F) s'.heap) ∧ Same I I2 ∧ Ds I2 M F) (vs := [v0, v1, v2, .str (sOf [b])]) (us := [u0, u1, u2, .str (sOf [b]) t]) Fu sc_low rm.hd rm.depth e0 bd rfl (.cons r0 (.cons r1 (.cons r2 (.cons ⟨_, rfl⟩ .nil)))) ?_) ?_)
  · intro cdv s1 J ta _ hcell
    obtain ⟨c, hc⟩ := cell_has (sc := defScope (topS 68)) (n := s.heap.objs.size + 1) (x := "_law_home") (by decide +kernel)
    have hcl := hcell _ c hc
    have hbc : bindC (fun n => (defScope (topS 68)).names.lookup n) ((["_law_signs", "_law_joins", "_law_pile_here", "_law_home"] : List Str).zip [u0, u1, u2, .str (sOf [b]) t]) (fun _ => none) "_law_home" = some (.str (sOf [b]) t) :=
      bindC_last (kind := fun n => (defScope (topS 68)).names.lookup n) (by decide +kernel) [("_law_signs", u0), ("_law_joins", u1), ("_law_pile_here", u2)] _
    rw [hbc] at hcl
    have ht2 : t < s1.toks := Nat.lt_of_lt_of_le t2 ta
    generalize hX : (cxOf CX0 g.P g.w g.K g.mg g.base N_low "_law_is_low" (defScope (topS 68)) f cdv X.A X.stack s (J3 I M F) E0).nox = Y at J
    have GY : Good (lowC g) Y := by
      rw [← hX]
      exact ⟨rfl, rfl, rfl, rfl, rfl, rfl, rfl, rm.deeper _, rfl, fun _ _ => rfl, rfl, fun z => nomatch z⟩
    have eA : Y.A = X.A.deeper (envOfC "_law_is_low" (defScope (topS 68)) s.heap.objs.size f cdv) := by rw [← hX]; rfl
    have eE : Y.env = envOfC "_law_is_low" (defScope (topS 68)) s.heap.objs.size f cdv := by rw [← hX]; rfl
    have eC : Y.env.cells.lookup ("_law_home" : Str) = some c := by rw [eE]; exact hc
    have e1 : Y.s_0 = s := by rw [← hX]; rfl
    have e2 : Y.H_0 = J3 I M F := by rw [← hX]; rfl
    have e3 : Y.fs = frs X.stack := by rw [← hX]; rfl
    have e4 : Y.ex = [] := by rw [← hX]; rfl
    have eP : Y.prog = g.P := GY.prog
    have eW : Y.w = g.w := GY.w
    rw [← eA, ← eE, ← eP, ← eW]
    have en : En g.C I (L2.start N_low [v0, v1, v2, .str (sOf [b])]) (lowR pl ts ns b none none) := en_start (N := N_low) i
    have hE : Y.xe = fun _ _ => False := GY.xe
    rw [← hE]
    have fin : ∀ {σ' : L2.St} {I2 : Hp} {s' : Shared} {ob : Bool}, Inv Y [] σ' (J3 I2 M F) s' → Same I I2 → Ds I2 M F → ob = lowB pl ts ns b → ∃ u, (Except.ok (.ret (.bool ob)) : Result) = .ok (.ret u) ∧ ∃ I2, u = .bool (lowB pl ts ns b) ∧ (s'.os = s.os ∧ AllBare s'.gens ∧ Un (frs X.stack) [] (J3 I M F) (J3 I2 M F) s.heap s'.heap ∧ HOk Y.prog Y.w (J3 I2 M F) s'.heap) ∧ Same I I2 ∧ Ds I2 M F := fun {σ' I2 s' ob} Jt s2 d2 e => by
      subst e
      rw [← e1, ← e2, ← e3]
      have hb := Jt.base
      rw [e4] at hb
      refine ⟨_, rfl, I2, rfl, ⟨Jt.os, Jt.bare, hb, Jt.hok⟩, s2, d2⟩
    refine wpAny_execs_cons (wpAny_If (wpAny_mono (low_if GY en di J hp hn h0) (fun tb s2 q => ?_) fun _ _ z => z))
    obtain ⟨rfl, k2, I2, s2', d2, J2⟩ := q
    refine wpAny_execs_nil ?_
    have hcl2 := k2.cl _ c _ eC hcl
    have ht3 : t < s2.toks := Nat.lt_of_lt_of_le ht2 k2.tk
    have en2 := en.mono s2'
    refine wpAny_execs_cons (wpAny_For (wpAny_mono (low_src Fs_ GY en2 d2 J2 hp eC hcl2 t1 ht3) (fun v s3 q => ?_) fun _ _ z => z) (fun x => rfl))
    obtain ⟨v, I3, J3', rv, s3', d3, i3⟩ := q
    obtain ⟨q, ys, rfl, ee, f1⟩ := is_lst i3
    cases rv
    refine wpAny_mono (iter_list (tg := lowTg) (R := fun T H => T = Itl Y.K q ∧ H = J3 I3 M F) J3' (SqL.of (j3_I ee)) Kp.refl ⟨rfl, rfl⟩) (fun itv s4 q => ?_) fun _ _ z => z
    obtain ⟨it, fp, tn, T, H4, rfl, J4, hT, st, fo, lt, ⟨eT, eH⟩, k4⟩ := q
    subst eT eH
    have wk : WalkOk g.C (Itl Y.K q) (((lawHerds (pl.filter fun c => !decide (c = b))).tail.map S).map Sl.dat) I3 F := walk_l ee f1
    obtain ⟨rest, e, hform, _⟩ := herds_form (pl.filter fun c => !decide (c = b))
    have hmem : ∀ U ∈ (lawHerds (pl.filter fun c => !decide (c = b))).tail, U ≠ [] ∧ (∀ x ∈ U, x ∈ pl) ∧ U.length ≤ 7 := fun U hU => by
      have hU' := hU
      rw [e, List.tail_cons] at hU
      obtain ⟨a1, a2⟩ := hform U hU
      exact ⟨a1, fun x hx => (List.mem_filter.mp (a2 x hx)).1, Nat.le_trans (herd_len (List.mem_of_mem_tail hU')) (Nat.le_trans (List.length_filter_le _ _) hp)⟩
    have s13 := s2'.trans s3'
    generalize hR : (lawHerds (pl.filter fun c => !decide (c = b))).tail = R at wk hmem
    have lf := @low_no pl ts ns b
    have lt' := @low_yes pl ts ns b
    rw [hR] at lf lt'
    refine codeAny_mono (for_run (K := { nx := fun _ M' => M' = M ∧ lowB pl ts ns b = true, rt := fun x M' => x = .dat (.bool false) ∧ M' = M ∧ lowB pl ts ns b = false }) (D := { nx := fun σ H => ∃ I2, H = J3 I2 M F ∧ Same I I2 ∧ Ds I2 M F ∧ lowB pl ts ns b = true, rt := fun v H => ∃ I2, v = .bl false ∧ H = J3 I2 M F ∧ Same I I2 ∧ Ds I2 M F ∧ lowB pl ts ns b = false }) 4 GY (fun i ρ' M' => M' = M ∧ (∃ o4 o5, ρ' = lowR pl ts ns b o4 o5) ∧ ∀ U ∈ R.take i, ¬ 0 ≤ minL (spareL pl ts ns U)) ⟨rfl, ⟨none, none, rfl⟩, fun U hU => by simp at hU⟩ (fun i d ρ' M' hd hJ => ?_) (fun ρ' M' hJ => ?_) hT st fo wk (en2.mono s3') d3 ?_ J4) ?_
    · obtain ⟨rfl, ⟨o4, o5, rfl⟩, hno⟩ := hJ
      rw [List.getElem?_map, List.getElem?_map] at hd
      cases eq : R[i]? with
      | none => rw [eq] at hd; cases hd
      | some U =>
        rw [eq] at hd
        have hd' := Option.some.inj hd
        subst hd'
        have hU : U ∈ R := List.mem_of_getElem? eq
        obtain ⟨a1, a2, a3⟩ := hmem U hU
        refine low_body Fs_ (o5 := o5) hp hts hn a2 a1 a3 (fun h => ⟨rfl, rfl, lt' hU a1 h⟩) fun h o => ⟨rfl, ⟨_, _, rfl⟩, fun V hV => ?_⟩
        rw [List.take_succ, eq] at hV
        rcases List.mem_append.mp hV with z | z
        · exact hno V z
        · have := List.mem_singleton.mp z
          subst this
          exact h
    · obtain ⟨rfl, _, hno⟩ := hJ
      rw [List.length_map, List.length_map, List.take_length] at hno
      exact ⟨rfl, lf fun U hU => ⟨(hmem U hU).1, hno U hU⟩⟩
    · refine ⟨fun σ I5 ρ M' k s5 en5 d5 => ?_, ?_, fun σ I5 ρ M' k s5 en5 d5 => k.elim, fun σ I5 ρ M' k s5 en5 d5 => k.elim⟩
      · obtain ⟨rfl, hl⟩ := k
        exact ⟨I5, rfl, s13.trans s5, d5, hl⟩
      · intro v I5 x M' k s5 d5 i5
        obtain ⟨rfl, rfl, hl⟩ := k
        exact ⟨I5, is_bl i5, rfl, s13.trans s5, d5, hl⟩
    · intro r s5 q
      cases r with
      | error e => exact q
      | ok fl =>
        cases fl with
        | next =>
          obtain ⟨σ5, H5, J5, I5, rfl, s5', d5, hl⟩ := q
          exact wpAny_execs_cons (wpAny_Return_some (wpAny_Constant_bool (fin J5 s5' d5 hl.symm)))
        | ret u =>
          obtain ⟨v5, σ5, H5, J5, r5, I5, rfl, rfl, s5', d5, hl⟩ := q
          cases r5
          exact fin J5 s5' d5 hl.symm
        | brk =>
          obtain ⟨σ5, H5, J5, q⟩ := q
          exact q.elim
        | cont =>
          obtain ⟨σ5, H5, J5, q⟩ := q
          exact q.elim
  · rintro r s' ⟨u, e, I2, hu, ⟨os, ba, un, ho⟩, s2, d2⟩
    subst e
    exact ⟨I2, hu, Iv.call' (ch := []) os un (by rw [G.prog, G.w]; exact ho) ba (fun b q => nomatch q), s2, d2⟩
end Wk
end
section
set_option maxRecDepth 100000
set_option maxHeartbeats 1000000
/-! The last def: what the walk asks of the numbers. -/
namespace Wr
open PySem
/-- a drawn web and its bank -/
structure Rt (pl : List Nat) (ts : List (Nat × Nat)) (b : Nat) : Prop where
  net : NetOk pl ts
  hb : b ∈ pl
section
variable {pl : List Nat} {ts : List (Nat × Nat)} {b : Nat}
theorem Rt.w (h : Rt pl ts b) : WOk pl ts := h.net.ok
theorem Rt.ends (h : Rt pl ts b) : Ends pl ts := fun q hq => ⟨(h.w.ends q hq).1, (h.w.ends q hq).2.1⟩
theorem Rt.web (h : Rt pl ts b) : WebOk pl ts := ⟨nodup_asc h.w.asc, fun q hq => Nat.ne_of_lt (h.w.ends q hq).2.2, h.ends, h.w.few, h.net.whole⟩
theorem Rt.one (h : Rt pl ts b) : (herdsOf pl ts).length = 1 := (herds_one h.w.pos h.web.nd h.ends).mpr h.web.wf
theorem Rt.spans (h : Rt pl ts b) {l : List Nat} (hl : l ∈ treesOf pl ts) : Spans pl ts l b := by
  have T := (mem_trees h.web h.w.pos).mp hl
  exact (spans_iff h.ends T.lt h.hb).mpr T.wf
theorem Rt.deg (h : Rt pl ts b) {c : Nat} (hc : c ∈ pl) (hne : c ≠ b) : 0 < tiesAt ts c := by
  obtain ⟨q, hq, hx⟩ := h.web.whole [c] ⟨c, hc, by simp⟩ ⟨b, h.hb, by simpa using fun e => hne e.symm⟩
  unfold tiesAt
  refine List.length_pos_iff.mpr fun z => ?_
  have hm : q ∈ ts.filter fun q => decide (c ∈ tS q) := List.mem_filter.mpr ⟨hq, decide_eq_true (by
    unfold crosses at hx
    by_cases e1 : q.1 = c
    · exact List.mem_cons.mpr (.inl e1.symm)
    · by_cases e2 : q.2 = c
      · exact List.mem_cons.mpr (.inr (List.mem_singleton.mpr e2.symm))
      · simp [e1, e2] at hx)⟩
  rw [z] at hm
  cases hm
theorem Rt.again (h : Rt pl ts b) {p : List Int} (hp : p ∈ stayRaw pl ts b) : ∃ r, againOf pl ts b p = some r := by
  obtain ⟨l, f⟩ := (fit_iff pl p).mp (mem_stayRaw.mp hp)
  refine again_ok h.web h.hb ⟨l, fun k hk hne => ?_⟩
  have := f k hk
  unfold topOf at this
  rw [if_neg hne] at this
  exact this
theorem ties_le (ts : List (Nat × Nat)) (a : Nat) : tiesAt ts a ≤ ts.length := List.length_filter_le _ _
structure StayOk (pl : List Nat) (b : Nat) (p : List Int) : Prop where
  len : p.length = pl.length
  bank : hAt pl p b = 0
  num : ∀ x ∈ p, 0 ≤ x ∧ x ≤ 6
theorem Rt.stay (h : Rt pl ts b) {p : List Int} (hp : p ∈ staysOf pl ts b) : StayOk pl b p := by
  obtain ⟨B, h0, _⟩ := (mem_stays h.web h.hb).mp hp
  refine ⟨B.len, h0, fun x hx => ?_⟩
  obtain ⟨k, hk, rfl⟩ := List.getElem_of_mem hx
  have hk' : k < pl.length := by rw [← B.len]; exact hk
  have e : piAt p k = p[k] := by
    unfold piAt
    rw [List.getD_eq_getElem?_getD, List.getElem?_eq_getElem hk]
    rfl
  rw [← e]
  by_cases q : plAt pl k = b
  · have := pi_h h.web.nd p hk'
    rw [q, h0] at this
    omega
  · have := B.box k hk' q
    have h1 := ties_le ts (plAt pl k)
    have h2 := h.w.fewT
    omega
theorem h_mem {p : List Int} (hl : p.length = pl.length) {v : Nat} (hv : v ∈ pl) : hAt pl p v ∈ p := by
  have h1 := (plAt_idx hv).1
  unfold hAt
  rw [List.getD_eq_getElem?_getD, List.getElem?_eq_getElem (by omega : pl.idxOf v < p.length)]
  exact List.getElem_mem _
theorem rich_of (nd : pl.Nodup) {p : List Int} (hl : p.length = pl.length) (h : ∀ v ∈ pl, v ≠ b → 0 ≤ hAt pl p v) : richB pl p b = true := (rich_iff nd hl).mpr h
theorem bare_self (nd : pl.Nodup) {p : List Int} (hl : p.length = pl.length) (h0 : hAt pl p b = 0) : bareL pl p b = p := by
  rw [bare_form nd hl]
  have e : p = pl.map (hAt pl p) := (map_h nd hl).symm
  have : (pl.map fun v => if v = b then 0 else hAt pl p v) = pl.map (hAt pl p) := List.map_congr_left fun v hv => by
    split
    · rename_i q; rw [q, h0]
    · rfl
  rw [this, ← e]
/-- another number at the bank -/
theorem set_h (nd : pl.Nodup) (hb : b ∈ pl) {p : List Int} (hl : p.length = pl.length) (x : Int) {v : Nat} (hv : v ∈ pl) : hAt pl (p.set (pl.idxOf b) x) v = if v = b then x else hAt pl p v := by
  have h1 := (plAt_idx hb)
  have h2 := (plAt_idx hv)
  unfold hAt
  rw [List.getD_eq_getElem?_getD, List.getElem?_set]
  by_cases e : v = b
  · subst e
    rw [if_pos rfl, if_pos rfl, if_pos (by omega)]
    rfl
  · rw [if_neg e, if_neg (fun z => e (by rw [← h2.2, ← h1.2, z])), List.getD_eq_getElem?_getD]
theorem set_bare (nd : pl.Nodup) (hb : b ∈ pl) {p : List Int} (hl : p.length = pl.length) (x : Int) : bareL pl (p.set (pl.idxOf b) x) b = bareL pl p b := by
  rw [bare_form nd hl, bare_form nd (by rw [List.length_set]; exact hl)]
  refine List.map_congr_left fun v hv => ?_
  split
  · rfl
  · rename_i q
    rw [set_h nd hb hl x hv, if_neg q]
theorem cut_set {p : List Int} {k : Nat} (hk : k < p.length) (x : Int) : cutD p none (some (k : Int)) ++ [x] ++ cutD p (some ((k : Int) + 1)) none = p.set k x := by
  have e1 : cutD p none (some (k : Int)) = p.take k := by
    unfold cutD
    have h1 : HT.sIx p.length 0 none = 0 := by unfold HT.sIx; rfl
    have h2 : HT.sIx p.length p.length (some (k : Int)) = k := by
      unfold HT.sIx
      simp
      rw [if_neg (by omega)]
      omega
    rw [h1, h2]
    simp
  have e2 : cutD p (some ((k : Int) + 1)) none = p.drop (k + 1) := by
    unfold cutD
    have h1 : HT.sIx p.length 0 (some ((k : Int) + 1)) = k + 1 := by
      unfold HT.sIx
      simp
      rw [if_neg (by omega)]
      omega
    have h2 : HT.sIx p.length p.length none = p.length := by unfold HT.sIx; rfl
    rw [h1, h2]
    exact List.take_of_length_le (by rw [List.length_drop]; exact Nat.le_refl _)
  rw [e1, e2, List.set_eq_take_append_cons_drop, if_pos hk]
  simp
theorem okH_of {p : List Int} (hl : p.length = pl.length) (h : ∀ x ∈ p, -10 ≤ x ∧ x ≤ 10) : OkH pl p := ⟨hl, fun x hx => by have := h x hx; omega⟩
/-! ### what is shown -/
theorem ints_ok : ∀ {p : List Int}, (∀ x ∈ p, 0 ≤ x ∧ x ≤ 6) → PyData.showableAll (p.map .int) = true ∧ PyData.hasDictAll (p.map .int) = false ∧ PyData.depthAll (p.map .int) = 0 ∧ PyData.leavesShortAll 8 (p.map .int) = true ∧ PyData.weightAll (p.map .int) ≤ 4 * p.length
  | [], _ => ⟨rfl, rfl, rfl, rfl, Nat.zero_le _⟩
  | x :: p, h => by
    obtain ⟨a1, a2, a3, a4, a5⟩ := ints_ok (p := p) fun y hy => h y (List.mem_cons_of_mem _ hy)
    have hx := h x List.mem_cons_self
    have key : PyData.showable (.int x) = true ∧ PyData.leavesShort 8 (.int x) = true ∧ PyData.weight (.int x) ≤ 3 := by
      have : x = 0 ∨ x = 1 ∨ x = 2 ∨ x = 3 ∨ x = 4 ∨ x = 5 ∨ x = 6 := by omega
      rcases this with rfl | rfl | rfl | rfl | rfl | rfl | rfl <;> decide +kernel
    obtain ⟨k1, k2, k3⟩ := key
    refine ⟨?_, ?_, ?_, ?_, ?_⟩
    · rw [List.map_cons, PyData.showableAll, k1, a1]; rfl
    · rw [List.map_cons, PyData.hasDictAll, a2]; simp [PyData.hasDict]
    · rw [List.map_cons, PyData.depthAll, a3]; simp [PyData.depth]
    · rw [List.map_cons, PyData.leavesShortAll, k2, a4]; rfl
    · rw [List.map_cons, PyData.weightAll, List.length_cons]
      omega
theorem heaps_ok : ∀ {l : List (List Int)}, (∀ p ∈ l, p.length ≤ 4 ∧ ∀ x ∈ p, 0 ≤ x ∧ x ≤ 6) → PyData.showableAll (l.map tI) = true ∧ PyData.hasDictAll (l.map tI) = false ∧ PyData.depthAll (l.map tI) ≤ 1 ∧ PyData.leavesShortAll 8 (l.map tI) = true ∧ PyData.weightAll (l.map tI) ≤ 17 * l.length
  | [], _ => ⟨rfl, rfl, Nat.zero_le _, rfl, Nat.zero_le _⟩
  | p :: l, h => by
    obtain ⟨a1, a2, a3, a4, a5⟩ := heaps_ok (l := l) fun y hy => h y (List.mem_cons_of_mem _ hy)
    obtain ⟨h1, h2⟩ := h p List.mem_cons_self
    obtain ⟨b1, b2, b3, b4, b5⟩ := ints_ok h2
    refine ⟨?_, ?_, ?_, ?_, ?_⟩
    · rw [List.map_cons, PyData.showableAll, a1]; unfold tI; rw [PyData.showable, b1]; rfl
    · rw [List.map_cons, PyData.hasDictAll, a2]; unfold tI; rw [PyData.hasDict, b2]; rfl
    · rw [List.map_cons, PyData.depthAll]; unfold tI at *; rw [PyData.depth, b3]; omega
    · rw [List.map_cons, PyData.leavesShortAll, a4]; unfold tI; rw [PyData.leavesShort, b4]; rfl
    · rw [List.map_cons, PyData.weightAll, List.length_cons]
      have : PyData.weight (tI p) = PyData.weightAll (p.map .int) := by unfold tI; rw [PyData.weight]
      omega
end
end Wr
namespace Wk
open PySem Wr
theorem shows_heaps {l : List (List Int)} (h : ∀ p ∈ l, p.length ≤ 4 ∧ ∀ x ∈ p, 0 ≤ x ∧ x ≤ 6) (hz : l.length ≤ 1000) : Shows (.list [.tuple (l.map tI), .tuple (l.map tI)]) := by
  obtain ⟨a1, a2, a3, a4, a5⟩ := heaps_ok h
  have c4 : PyData.leavesShort 8 (.list [.tuple (l.map tI), .tuple (l.map tI)]) = true := by simp [PyData.leavesShort, PyData.leavesShortAll, a4]
  have w : PyData.weight (.list [.tuple (l.map tI), .tuple (l.map tI)]) ≤ 34 * l.length + 2 := by
    simp only [PyData.weight, PyData.weightAll]
    omega
  refine ⟨by simp [PyData.showable, PyData.showableAll, a1], by simp [PyData.hasDict, PyData.hasDictAll, a2], by simp only [PyData.depth, PyData.depthAll]; omega, ?_⟩
  have := PyData.shown_le 8 (by decide) _ c4
  have e : sizeLine = 16777216 := by decide
  omega
theorem shows_bools (a c : Bool) : Shows (.list [.bool a, .bool c]) := by
  have c4 : PyData.leavesShort 8 (.list [.bool a, .bool c]) = true := by simp [PyData.leavesShort, PyData.leavesShortAll]
  have w : PyData.weight (.list [.bool a, .bool c]) = 2 := by simp only [PyData.weight, PyData.weightAll]
  refine ⟨by simp [PyData.showable, PyData.showableAll], by simp [PyData.hasDict, PyData.hasDictAll], by simp only [PyData.depth, PyData.depthAll]; omega, ?_⟩
  have := PyData.shown_le 8 (by decide) _ c4
  have e : sizeLine = 16777216 := by decide
  omega
end Wk
end
section
set_option maxRecDepth 100000
set_option maxHeartbeats 1000000
/-! The last def: its levels. -/
namespace Wk
open PySem L2 Wr PyProof.Rows
section
variable {c : Cs} {ρ : List (Option Sl)} {M M1 : Hp} {a b : Expr} {R : Wish} {pos : Pos}
theorem pe_un {X : Cx} {op : UnaryOp} {r : V → Hp → VK → Prop} {ta : TE} (ho : ∀ Y, Sm X Y → UnR Y (unaryOp op) r) (ha : PE X a ta) : PE X (.UnaryOp op a pos) (tUn r ta) := fun pins s σ H Q I J h =>
  UnaryOp_ (thn (ha pins s σ H _ I J h) fun v s1 ⟨⟨x, H1, I1, r1, q1⟩, k1⟩ => thn (vl I1 J fun Y sm p' σ' I' => ho Y sm p' s1 σ' H1 x v Q I' r1 q1) fun w s2 ⟨z, k2⟩ => ⟨z, k1.trans k2⟩)
theorem em_neg {i : Int} (ha : EM c ρ M a (.dat (.int i)) M1) : EM c ρ M (.UnaryOp .USub a pos) (.dat (.int (-i))) M1 := fun X G σ I F en di Q hQ =>
  wp_pe (pe_un (fun Y _ => un_neg) pe_wp) (em_bind ha G en di fun v I1 s1 d1 i1 => ⟨i, is_int i1, hQ.only s1 d1 (.int _)⟩)
theorem ev_catTE (ha : EV c ρ M a fun x M1 => ∃ ds, x = .dat (.tuple ds) ∧ EV c ρ M1 b fun y M2 => ∃ es, y = .dat (.tuple es) ∧ ds.length + es.length ≤ 100000 ∧ R (.dat (.tuple (ds ++ es))) M2) : EV c ρ M (.BinOp a .Add b pos) R :=
  ev_opE (r := fun X => rCatA X.K) (fun _ _ => op_catA) (EV.imp ha fun x M1 ⟨ds, e, h⟩ => EV.imp h fun y M2 ⟨es, e2, hz, r2⟩ => by
    subst e e2
    intro X G I F v u d h1 h2 Q hQ
    obtain ⟨p, xs, rfl, e1, f1⟩ := is_tup h1
    obtain ⟨q, ys, rfl, e2, f2⟩ := is_tup h2
    refine ⟨p, q, xs, ys, rfl, rfl, SqT.of (j3_I e1), SqT.of (j3_I e2), by rw [f1.length, f2.length]; exact Nat.le_trans hz (by decide), fun h => ?_, fun _ h => ?_, fun _ _ => gives_tup hQ r2 d (f1.append f2)⟩
    · have := f1.append f2
      rw [h, List.nil_append] at this
      exact hQ.now r2 d (.tup e2 this)
    · have := f1.append f2
      rw [h, List.append_nil] at this
      exact hQ.now r2 d (.tup e1 this))
end
theorem cut_map {α β : Type} (f : α → β) (l : List α) (i j : Option Int) : Wr.cutD (l.map f) i j = (Wr.cutD l i j).map f := by
  unfold Wr.cutD
  rw [List.length_map, List.map_take, List.map_drop]
abbrev N_right : List Str := ["_law_well_here", "_law_signs", "_law_joins", "_law_net_here", "_law_many", "_law_home", "_law_due", "_law_k", "_law_levels_here", "_law_pile_here", "_law_more", "_law_trees_here", "_law_again", "_law_is_so", "_law_lacks", "_law_some", "_law_j"]
theorem sc_right : FnScope N_right ["_law_well_here"] (defScope (topS 77)) := ⟨rfl, rfl, rfl, by decide +kernel, rfl, by decide +kernel, by decide +kernel⟩
abbrev rightC (g : Gm) : Cs := ⟨g, 7, N_right, defScope (topS 77), true, none⟩
abbrev rightR (a : Addr) (pl : List Nat) (ts : List (Nat × Nat)) (b : Nat) (o8 o9 o10 o11 o12 o13 o14 : Option Sl) : List (Option Sl) := [some (.raw (.ref a)), some (.dat (S pl)), some (.dat (joinsD ts)), some (.web pl ts), some (.dat (.int pl.length)), some (.dat (S [b])), some (.dat (.list ((staysOf pl ts b).map tI))), some (.dat (.int (pl.idxOf b : Nat))), o8, o9, o10, o11, o12, o13, o14, none, none]
abbrev rightS (i : Nat) : Stmt := (defBody (topS 77)).getD i (.Pass ⟨0, 0, 0, 0⟩)
def lastBody (i : Nat) : List Stmt := (defBody (topS 77)).drop i
abbrev BDr (g : Gm) (b : Nat) := BD "_law_home" (sOf [b]) (rightC g)
theorem wl_ne {M M' : Hp} {a q : Addr} (h : Wl a M M') (hq : q ≠ a) : M' q = M q := h.ne hq
theorem wl_upd {M : Hp} {a q : Addr} {v : HO} (h : WellIn M a) (hq : q ≠ a) : WellIn (upd M q v) a := by
  obtain ⟨x, y, w, e⟩ := h
  exact ⟨x, y, w, by rw [upd_ne hq.symm, e]⟩
theorem stays_len {pl : List Nat} {ts : List (Nat × Nat)} {b : Nat} (h : Rt pl ts b) : (staysOf pl ts b).length ≤ 64 := by
  rw [stays_many h.web h.w.pos h.hb, (trees_perm h.web h.w.pos).length_eq]
  have e1 : (treesOf pl ts).length ≤ (everyLot ts.length).length := List.length_filter_le _ _
  have e2 : (everyLot ts.length).length = (lotsRaw ts.length).length := (List.mergeSort_perm _ _).length_eq
  have e3 := (herd_fold (List.range ts.length) [[]] 0 (fun x hx => by rw [List.mem_singleton.mp hx]; exact Nat.le_refl _)).1
  have e4 : (lotsRaw ts.length).length = 1 * 2 ^ ts.length := by
    have := e3
    rw [List.length_range] at this
    exact this
  have e5 : 2 ^ ts.length ≤ 2 ^ 6 := Nat.pow_le_pow_right (by decide) h.w.fewT
  omega
theorem rt_last {pl : List Nat} {ts : List (Nat × Nat)} {b : Nat} (h : Rt pl ts b) {p : List Int} (hp : p ∈ staysOf pl ts b) : lastB pl ts p b = true := by
  have S := h.stay hp
  rw [last_iff h.web h.w.pos h.hb S.len (rich_of h.web.nd S.len fun v hv _ => (S.num _ (h_mem S.len hv)).1), bare_self h.web.nd S.len S.bank]
  exact decide_eq_true hp
theorem rt_lastSet {pl : List Nat} {ts : List (Nat × Nat)} {b : Nat} (h : Rt pl ts b) {p : List Int} (hp : p ∈ staysOf pl ts b) (x : Int) : lastB pl ts (p.set (pl.idxOf b) x) b = true := by
  have S := h.stay hp
  have hl : (p.set (pl.idxOf b) x).length = pl.length := by rw [List.length_set]; exact S.len
  rw [last_iff h.web h.w.pos h.hb hl (rich_of h.web.nd hl fun v hv hne => by rw [set_h h.web.nd h.hb S.len x hv, if_neg hne]; exact (S.num _ (h_mem S.len hv)).1), set_bare h.web.nd h.hb S.len, bare_self h.web.nd S.len S.bank]
  exact decide_eq_true hp
theorem set_num {p : List Int} {k : Nat} {x : Int} (h : ∀ y ∈ p, 0 ≤ y ∧ y ≤ 6) (hx : -10 ≤ x ∧ x ≤ 10) : ∀ y ∈ p.set k x, -10 ≤ y ∧ y ≤ 10 := fun y hy => by
  rcases List.mem_or_eq_of_mem_set hy with z | z
  · have := h y z
    omega
  · rw [z]
    exact hx
theorem level_same {pl : List Nat} {ts : List (Nat × Nat)} {b : Nat} (h : Rt pl ts b) {p : List Int} (hp : p ∈ staysOf pl ts b) (x : Int) : levelL pl ts (p.set (pl.idxOf b) x) b = levelL pl ts p b := by
  unfold levelL
  rw [set_bare h.web.nd h.hb (h.stay hp).len]
theorem level_sum {pl : List Nat} {ts : List (Nat × Nat)} {b : Nat} (h : Rt pl ts b) {p : List Int} (hp : p ∈ staysOf pl ts b) : p.sum + (tiesAt ts b : Int) - (ts.length : Int) = levelL pl ts p b := by
  have S := h.stay hp
  unfold levelL
  rw [bare_self h.web.nd S.len S.bank]
/-- one lasting heap's turn -/
theorem lev_body {g : Gm} (F : Fs g) {a q : Addr} {pl : List Nat} {ts : List (Nat × Nat)} {b : Nat} (h : Rt pl ts b) {p : List Int} (hp : p ∈ staysOf pl ts b) {M : Hp} {ds : List PyData} {o10 : Option Sl} {K : Kont} (hw : WellIn M a) (hq : q ≠ a) (hm : M q = some (mL ds)) (hz : ds.length ≤ 100)
    (nx : ∀ o M', WellIn M' a → M' q = some (mL (ds ++ [.int (levelL pl ts p b)])) → K.nx (rightR a pl ts b (some (.raw (.ref q))) (some (.dat (tI p))) o none none none none) M') :
    BDr g b (rightR a pl ts b (some (.raw (.ref q))) (some (.dat (tI p))) o10 none none none none) M (Wr.stFor (rightS 5)) K := by
  have S := h.stay hp
  have hk := (plAt_idx h.hb).1
  have f4 := h.w.few
  have f6 := h.w.fewT
  refine bd_setE 10 (ev_catTE (ev_catTE (EM.to (em_slT (ds := p.map .int) (em_var 9) om_none (om_some (em_var 7))) ⟨_, rfl, ev_tupV (av_cons (ev_subE (ev_call (fn_dip F) (am_two (em_var 0) em_int) ⟨a, 9, rfl, by decide, by decide, hw, fun d hd M1 hM1 => ⟨d, rfl, EM.to em_int ⟨4, rfl, av_nil ⟨[.int ((d : Int) - 4)], rfl, by simp, _, rfl, ?_, _, rfl, EM.to (em_slT (ds := p.map .int) (em_var 9) (om_some (em_add (em_var 7) em_int)) om_none) ⟨_, rfl, ?_, ?_⟩⟩⟩⟩⟩)))⟩)))
  · rw [cut_map, List.length_map]
    have : (Wr.cutD p none (some ((pl.idxOf b : Nat) : Int))).length ≤ p.length := by unfold Wr.cutD; rw [List.length_take, List.length_drop]; omega
    have := S.len
    simp
    omega
  · rw [List.length_append, cut_map, cut_map, List.length_map, List.length_map]
    have : (Wr.cutD p none (some ((pl.idxOf b : Nat) : Int))).length ≤ p.length := by unfold Wr.cutD; rw [List.length_take, List.length_drop]; omega
    have : (Wr.cutD p (some (((pl.idxOf b : Nat) : Int) + 1)) none).length ≤ p.length := by unfold Wr.cutD; rw [List.length_take, List.length_drop]; omega
    have := S.len
    simp
    omega
  · have e : PyData.tuple (Wr.cutD (p.map PyData.int) none (some ((pl.idxOf b : Nat) : Int)) ++ [.int ((d : Int) - 4)] ++ Wr.cutD (p.map PyData.int) (some (((pl.idxOf b : Nat) : Int) + 1)) none) = tI (p.set (pl.idxOf b) ((d : Int) - 4)) := by
      rw [cut_map, cut_map, ← cut_set (by rw [S.len]; exact hk) ((d : Int) - 4)]
      unfold tI
      rw [List.map_append, List.map_append]
      rfl
    rw [e]
    have hw1 := hM1.at_
    have hm1 : M1 q = some (mL ds) := by rw [wl_ne hM1 hq]; exact hm
    have okM : OkH pl (p.set (pl.idxOf b) ((d : Int) - 4)) := okH_of (by rw [List.length_set]; exact S.len) (set_num S.num (by omega))
    have okP : OkH pl p := okH_of S.len fun x hx => by have := S.num x hx; omega
    refine bd_do (ev_append (q := q) (em_var 8) hm1 (EM.to (em_sub (em_add (em_sumT (em_var 9)) (ev_call (fn_lat F) (am_two (em_var 2) (em_var 5)) ⟨ts, b, rfl, by omega, only_self⟩)) (em_lenL (em_var 2))) ⟨_, ds, rfl, rfl, hm1, by omega, ?_⟩))
    rw [List.length_map, level_sum h hp]
    have hm2 : (upd M1 q (mL (ds ++ [.int (levelL pl ts p b)]))) q = some (mL (ds ++ [.int (levelL pl ts p b)])) := upd_same
    refine bd_pass (TM.is (tm_neD (em_lst [.int (levelL pl ts p b), .int (levelL pl ts p b)] (am_two (ev_call (fn_level F) (am_cons (em_var 3) (am_two (em_var 9) (em_var 5))) ⟨pl, ts, p, b, rfl, h.w, h.one, okP, h.hb, rt_last h hp, only_self⟩) (ev_callKw (fnk_level F) (km_cons (em_var 5) (km_cons (em_var 10) (km_cons (em_var 3) km_nil))) ⟨pl, ts, p.set (pl.idxOf b) ((d : Int) - 4), b, rfl, h.w, h.one, okM, h.hb, rt_lastSet h hp _, by rw [level_same h hp]; exact only_self⟩)))
      (EM.is (y := .dat (.list [.int (levelL pl ts p b), .int (levelL pl ts p b)])) (em_rep (n := 2) (em_lst [.int (levelL pl ts p b)] (am_one (em_ixM (em_var 8) (em_neg em_int) hm2 ?_ rfl))) em_int (by simp) (by decide)) rfl) (shaped_lI [_, _]) (shaped_lI [_, _]) (SeqAt.eqv_refl _ ?_)) rfl) (bd_nil (nx _ _ (wl_upd hw1 hq) hm2))
    · exact atI_last (by simp)
    · exact SeqAt.canLay_of_shaped (shaped_lI [_, _])
end Wk
end
section
set_option maxRecDepth 100000
set_option maxHeartbeats 1000000
/-! The last def: its heaps with any number at the bank. -/
namespace Wk
open PySem L2 Wr PyProof.Rows
theorem tm_neT {c : Cs} {ρ : List (Option Sl)} {M M1 M2 : Hp} {a b : Expr} {pos : Pos} {i j : Str} (ha : EM c ρ M a (.dat (.str i)) M1) (hb : EM c ρ M1 b (.dat (.str j)) M2) : TM c ρ M (.Compare a [.NotEq] [b] pos) (!decide (i = j)) M2 := tm_cmp (fun _ _ => op_ne) ha hb rd_neS (nomark _)
def stIf (b : List Stmt) (i : Nat) : Stmt := b.getD i (.Pass ⟨0, 0, 0, 0⟩)
abbrev rightTest : Expr := stTest (stIf (Wr.stFor (rightS 8)) 6)
/-- a name read, its value being known to the last sign -/
theorem varH {X : Cx} {pins : List (Addr × Obj)} {s : Shared} {σ : L2.St} {H : Hp} {nm hs : Str} {pos : Pos} (I : Inv X pins σ H s) (h : Hm X nm hs s) (hl : X.env.kindOf nm = some .local) (hd : (nm == ("__debug__" : Str)) = false) : wpAny (model X.prog X.w) X.A (eval (.Name nm pos) X.env) (fun u s' => s' = s ∧ ∃ t, u = .str hs t ∧ 1 ≤ t ∧ t < s.toks) X.xe s := by
  obtain ⟨m, t, e1, e2, e3, e4⟩ := h.ex
  exact wpAny_Name (wpAny_loadName_local I.ok.kind hl e1 e2 ⟨rfl, t, rfl, e3, e4⟩) hd
theorem low_test {g : Gm} (F : Fs g) {X : Cx} (G : Good (rightC g) X) {pins : List (Addr × Obj)} {σ : L2.St} {I M Fr : Hp} {s : Shared} {a : Addr} {pl : List Nat} {ts : List (Nat × Nat)} {b : Nat} (h : Rt pl ts b) {ns : List Int} {so : Bool} {o8 o9 o10 o11 o12 : Option Sl} (hn : ns.length = pl.length) (h0 : 0 ≤ minL ns → ∀ k, k < pl.length → plAt pl k ≠ b → 0 ≤ piAt ns k) (hso : 0 ≤ minL ns → so = lowB pl ts ns b)
    (en : En g.C I σ (rightR a pl ts b o8 o9 o10 o11 o12 (some (.dat (.bool so))) (some (.dat (tI ns))))) (di : Ds I M Fr) (Iv : Inv X pins σ (J3 I M Fr) s) (J : Jk X pins) (hm : Hm X "_law_home" (sOf [b]) s) :
    wpAny (model X.prog X.w) X.A (isTrue rightTest X.env (eval rightTest X.env)) (fun t s' => t = false ∧ Hm X "_law_home" (sOf [b]) s' ∧ ∃ I2, Same I I2 ∧ Ds I2 M Fr ∧ Inv X pins σ (J3 I2 M Fr) s') X.xe s := by
  have f4 := h.w.few
  have f6 := h.w.fewT
  have p1 := h.w.pos
  refine isTrue_and (thn ((tm_ge (em_minT (ns := ns) (em_var 14) (by omega)) em_int : TM (rightC g) _ M _ (decide (0 ≤ minL ns)) M) X G σ I Fr en di (fun t H => t = decide (0 ≤ minL ns) ∧ ∃ I2, H = J3 I2 M Fr ∧ Same I I2 ∧ Ds I2 M Fr) (fun I2 s2 d2 => ⟨rfl, I2, rfl, s2, d2⟩) pins s Iv J) fun c1 s1 q => ?_)
  obtain ⟨⟨H1, I1, e1, I2, e2, s2, d2⟩, k1⟩ := q
  subst e1 e2
  by_cases hmin : 0 ≤ minL ns
  · rw [decide_eq_true hmin]
    rw [if_pos rfl]
    have hso' := hso hmin
    have hm1 := hm.kp k1
    have en2 := en.mono s2
    obtain ⟨f, fd, Fu, hmg⟩ := F.law_is_low
    have h3 := Fu.kp
    rw [← G.mg] at hmg
    rw [← G.K] at h3
    obtain ⟨g1, g2⟩ := G.gl (show glB (defScope (topS 77)) "_law_is_low" = true by decide +kernel)
    have nm : ∀ (i : Nat) (x : Str) (dd : Sl) (pos : Pos), chkV N_right (defScope (topS 77)) i x = true → (rightR a pl ts b o8 o9 o10 o11 o12 (some (.dat (.bool so))) (some (.dat (tI ns))))[i]? = some (some dd) → wpAny (model X.prog X.w) X.A (eval (.Name x pos) X.env) (fun u s2 => s2 = s1 ∧ ∃ v, RelV v u ∧ Is g.C I2 v dd) X.xe s1 := fun i x dd pos h q => by
      unfold chkV at h
      simp only [Bool.and_eq_true, decide_eq_true_eq, Bool.not_eq_true'] at h
      obtain ⟨⟨⟨h1, h2⟩, h3⟩, h4⟩ := h
      obtain ⟨v, e1, i1⟩ := en2.at_ i dd q
      exact thn (var0 I1 (by rw [G.N]; exact h1) (by rw [G.sc]; exact vis_of h2) e1 h3 h4) fun u s2 ⟨a1, a2⟩ => ⟨a1, v, a2, i1⟩
    have kl : X.env.kindOf ("_law_home" : Str) = some .local := by
      show X.env.scope.names.lookup _ = _
      rw [G.sc]
      show (defScope (topS 77)).names.lookup ("_law_home" : Str) = some .local
      decide +kernel
    refine isTrue_and (wpAny_isTrue_Compare1 (thn (nm 13 _ _ _ (by decide +kernel) rfl) fun vso s3 q => ?_))
    obtain ⟨rfl, v, rv, iv⟩ := q
    rw [is_bl iv] at rv
    cases rv
    refine wpAny_Call_Name_kw (ld_glob I1 g1 hmg (PySem.W.callWith_K (h₀ := X.base) I1.ok.mod.kin h3 (Calls.spliced_cons (thn (nm 1 _ _ _ (by decide +kernel) rfl) fun u0 s4 q => ?_)) rfl rfl) g2)
    obtain ⟨rfl, v0, r0, i0⟩ := q
    refine Calls.spliced_cons (thn (nm 2 _ _ _ (by decide +kernel) rfl) fun u1 s4 q => ?_)
    obtain ⟨rfl, v1, r1, i1⟩ := q
    refine Calls.spliced_cons (thn (nm 14 _ _ _ (by decide +kernel) rfl) fun u2 s4 q => ?_)
    obtain ⟨rfl, v2, r2, i2⟩ := q
    refine Calls.spliced_cons (thn (varH I1 hm1 kl (by decide +kernel)) fun u3 s4 q => ?_)
    obtain ⟨rfl, t, rfl, t1, t2⟩ := q
    refine Calls.spliced_nil ?_
    have ii : Iss g.C I2 [v0, v1, v2, .str (sOf [b])] [.dat (S pl), .dat (joinsD ts), .dat (tI ns), .dat (S [b])] := .cons i0 (.cons i1 (.cons i2 (.cons (.str _) .nil)))
    refine ⟨I1.kIn, ?_⟩
    refine thn (kp_val I1 J (low_call F Fu (k := 7) (GV.of G) (by decide) I1 d2 (by omega) (by omega) hn (h0 hmin) ii r0 r1 r2 t1 t2) (fun j Y => wpAny_mono (low_call F Fu (k := 7) (GV.of G).jk (by decide) Y d2 (by omega) (by omega) hn (h0 hmin) ii r0 r1 r2 t1 t2) (fun u s' ⟨I3, _, J3', _⟩ => ⟨_, _, J3'⟩) fun _ _ _ => trivial)) fun u s4 q => ?_
    obtain ⟨⟨I3, rfl, J3', s3', d3⟩, k3⟩ := q
    refine thn (vl J3' J (Q := fun v H => v = .bl (!decide (so = lowB pl ts ns b)) ∧ H = J3 I3 M Fr) fun Y sm p' σ' I' => op_ne p' s4 σ' _ (.bl so) (.bl (lowB pl ts ns b)) _ _ _ I' rfl rfl ⟨rfl, ?_, rfl⟩) fun u s5 q => ?_
    · congr 1
      by_cases e : so = lowB pl ts ns b <;> simp [e]
    · obtain ⟨⟨v5, H5, J5, r5, e5, eH⟩, k5⟩ := q
      subst e5 eH
      cases r5
      refine wpAny_truthy_bool ?_
      rw [decide_eq_true hso']
      exact ⟨rfl, ((hm1.kp k3).kp k5), I3, s2.trans s3', d3, J5⟩
  · rw [decide_eq_false hmin]
    exact ⟨rfl, hm.kp k1, I2, s2, d2, I1⟩
end Wk
end
section
set_option maxRecDepth 100000
set_option maxHeartbeats 1000000
/-! The last def: one drawn heap. -/
namespace Wk
open PySem L2 Wr PyProof.Rows
theorem lack_range {pl : List Nat} {ts : List (Nat × Nat)} {ns : List Int} (h : ns.length = pl.length) : lackL pl ts ns = (List.range pl.length).map fun k => (tiesAt ts (plAt pl k) : Int) - 1 - piAt ns k := by
  unfold lackL
  apply List.ext_getElem?
  intro i
  rw [List.getElem?_map, List.getElem?_map]
  by_cases hi : i < pl.length
  · have h1 : (ns.zip pl)[i]? = some (piAt ns i, plAt pl i) := by
      refine List.getElem?_zip_eq_some.mpr ⟨?_, ?_⟩
      · unfold piAt; rw [List.getD_eq_getElem?_getD, List.getElem?_eq_getElem (by omega)]; rfl
      · unfold plAt; rw [List.getD_eq_getElem?_getD, List.getElem?_eq_getElem hi]; rfl
    rw [h1, List.getElem?_range hi]
    rfl
  · rw [List.getElem?_eq_none (by rw [List.length_zip]; omega), List.getElem?_eq_none (by rw [List.length_range]; omega)]
    rfl
theorem bd_low {g : Gm} (F : Fs g) {a : Addr} {pl : List Nat} {ts : List (Nat × Nat)} {b : Nat} (h : Rt pl ts b) {ns : List Int} {so : Bool} {M : Hp} {K : Kont} {o8 o9 o10 o11 o12 : Option Sl} {A rest : List Stmt} {pos : Pos} (hn : ns.length = pl.length) (h0 : 0 ≤ minL ns → ∀ k, k < pl.length → plAt pl k ≠ b → 0 ≤ piAt ns k) (hso : 0 ≤ minL ns → so = lowB pl ts ns b)
    (hk : BDr g b (rightR a pl ts b o8 o9 o10 o11 o12 (some (.dat (.bool so))) (some (.dat (tI ns)))) M rest K) : BDr g b (rightR a pl ts b o8 o9 o10 o11 o12 (some (.dat (.bool so))) (some (.dat (tI ns)))) M (.If rightTest A [] pos :: rest) K := bd_cons fun X G σ I Fr D en di kk pins s Iv J hm =>
  wpAny_If (thn (low_test F G h hn h0 hso en di Iv J hm) fun t s1 ⟨e, hm1, I2, s2, d2, I1⟩ => by
    subst e
    exact wpAny_execs_nil ⟨⟨σ, _, I1, kk.nx σ I2 _ M hk s2 (en.mono s2) d2⟩, hm1⟩)
theorem min_pi {pl : List Nat} {ns : List Int} (hn : ns.length = pl.length) (h1 : 1 ≤ pl.length) (h : 0 ≤ minL ns) {k : Nat} (hk : k < pl.length) : 0 ≤ piAt ns k := by
  have := (min_iff (by omega)).mp h (ns[k]'(by omega)) (List.getElem_mem _)
  unfold piAt
  rw [List.getD_eq_getElem?_getD, List.getElem?_eq_getElem (by omega : k < ns.length)]
  exact this
theorem pile_body {g : Gm} (F : Fs g) {a : Addr} {pl : List Nat} {ts : List (Nat × Nat)} {b : Nat} (h : Rt pl ts b) {M : Hp} {K : Kont} {o8 o9 o10 o11 o12 o13 o14 : Option Sl} (hw : WellIn M a)
    (nx : ∀ p9 p13 p14 M', WellIn M' a → K.nx (rightR a pl ts b o8 p9 o10 o11 o12 p13 p14) M') : BDr g b (rightR a pl ts b o8 o9 o10 o11 o12 o13 o14) M (Wr.stFor (rightS 8)) K := by
  have hk := (plAt_idx h.hb).1
  have f4 := h.w.few
  have f6 := h.w.fewT
  have p1 := h.w.pos
  refine bd_setE 9 (ev_newListE (ev_call (fn_pile F) (am_cons (em_var 0) (am_cons (em_var 4) (am_two em_int em_int))) ⟨a, pl.length, 0, 3, rfl, by omega, by omega, by omega, hw, fun ns hl hr M1 hM1 => ⟨_, rfl, flats_map (fun _ => rfl) ns, fun p hp => ?_⟩⟩))
  have hpa : p ≠ a := well_ne hM1.at_ hp
  have hm1 : (upd M1 p (mL (ns.map .int))) p = some (mL (ns.map .int)) := upd_same
  refine bd_setItem (q := p) (i := pl.idxOf b) (ev_subE (ev_call (fn_dip F) (am_two (em_var 0) em_int) ⟨a, 9, rfl, by decide, by decide, wl_upd hM1.at_ hpa, fun d hd M2 hM2 => ⟨d, rfl, EM.to em_int ⟨4, rfl, .int ((d : Int) - 4), ns.map .int, rfl, rfl, by rw [wl_ne hM2 hpa]; exact hm1, by rw [List.length_map]; omega, ?_⟩⟩⟩)) (fun M => em_var 9) (fun M => em_var 7)
  have hms : (ns.map PyData.int).set (pl.idxOf b) (.int ((d : Int) - 4)) = (ns.set (pl.idxOf b) ((d : Int) - 4)).map .int := by rw [List.map_set]
  rw [hms]
  have hmb : ∀ v ∈ ns.set (pl.idxOf b) ((d : Int) - 4), -10 ≤ v ∧ v ≤ 10 := fun v hv => by
    rcases List.mem_or_eq_of_mem_set hv with z | z
    · have := hr v z
      omega
    · omega
  have hlm : (ns.set (pl.idxOf b) ((d : Int) - 4)).length = pl.length := by rw [List.length_set]; exact hl
  have hrm : richB pl (ns.set (pl.idxOf b) ((d : Int) - 4)) b = true := rich_of h.web.nd hlm fun v hv hne => by
    rw [set_h h.web.nd h.hb hl _ hv, if_neg hne]
    exact (hr _ (h_mem hl hv)).1
  have hw3 : WellIn (upd M2 p (mL ((ns.set (pl.idxOf b) ((d : Int) - 4)).map .int))) a := wl_upd hM2.at_ hpa
  have hm3 : (upd M2 p (mL ((ns.set (pl.idxOf b) ((d : Int) - 4)).map .int))) p = some (mL ((ns.set (pl.idxOf b) ((d : Int) - 4)).map .int)) := upd_same
  generalize upd M2 p (mL ((ns.set (pl.idxOf b) ((d : Int) - 4)).map .int)) = M3 at hw3 hm3
  generalize ns.set (pl.idxOf b) ((d : Int) - 4) = ms at hmb hlm hrm hm3
  refine bd_set 9 (x := .dat (tI ms)) (em_tupleM (em_var 9) hm3 (flats_map (fun _ => rfl) ms)) ?_
  refine bd_set 13 (em_inLT (ns := bareL pl ms b) (nss := staysOf pl ts b) (ev_call (fn_lbare F) (am_cons (em_var 1) (am_two (em_var 9) (em_var 5))) ⟨pl, ms, b, _, rfl, .inl rfl, by omega, hlm, only_self⟩) (em_var 6)) ?_
  have hlast := last_iff h.web h.w.pos h.hb hlm hrm
  refine bd_pass (TM.is (tm_neT (em_repr (em_lst [.bool (decide (bareL pl ms b ∈ staysOf pl ts b)), .bool (decide (bareL pl ms b ∈ staysOf pl ts b))] (am_two (ev_call (fn_isLast F) (am_cons (em_var 3) (am_two (em_var 9) (em_var 5))) ⟨pl, ts, ms, b, rfl, h.w, h.one, okH_of hlm hmb, h.hb, hrm, by rw [hlast]; exact only_self⟩) (ev_callKw (fnk_isLast F) (km_cons (em_var 5) (km_cons (em_var 9) (km_cons (em_var 3) km_nil))) ⟨pl, ts, ms, b, rfl, h.w, h.one, okH_of hlm hmb, h.hb, hrm, by rw [hlast]; exact only_self⟩))) (shows_bools _ _))
    (em_repr (em_lst [.bool (decide (bareL pl ms b ∈ staysOf pl ts b)), .bool (decide (bareL pl ms b ∈ staysOf pl ts b))] (am_two (em_var 13) (em_var 13))) (shows_bools _ _))) (by simp)) ?_
  refine bd_set 14 (x := .dat (tI (mirL pl ts ms b))) (ev_call (fn_lbare F) (am_cons (em_var 1) (am_two (x := .dat (.list ((lackL pl ts ms).map .int))) (EM.is (em_lc1n (zs := List.range pl.length) (enc := fun i : Nat => .dat (.int (i : Int))) (r := fun k => .int ((tiesAt ts (plAt pl k) : Int) - 1 - piAt ms k)) 16 (src_r (em_var 4) (by omega)) (fun k hk => ?_) (by rw [List.length_range]; omega)) (by rw [lack_range hlm, List.map_map]; rfl)) (em_var 5))) ⟨pl, lackL pl ts ms, b, _, rfl, .inr rfl, by omega, by rw [lack_range hlm, List.length_map, List.length_range], only_self⟩) ?_
  · have hk' : k < pl.length := List.mem_range.mp hk
    exact Wr.em_sub (Wr.em_sub (Wr.ev_call (fn_lat F) (Wr.am_two (Wr.em_var 2) (Wr.em_ixS (Wr.em_var 1) (Wr.em_var 16) (pl_ix hk') (by omega))) ⟨ts, plAt pl k, rfl, by omega, only_self⟩) Wr.em_int) (Wr.em_ixT (ds := ms.map .int) (Wr.em_var 9) (Wr.em_var 16) (pi_ix (by omega)))
  · refine bd_low F h (mir_len pl ts ms b hlm) (fun q k hk _ => min_pi (mir_len pl ts ms b hlm) p1 q hk) (fun q => low_iff h.web h.w.pos h.hb hlm hrm q) (bd_nil (nx _ _ _ _ hw3))
end Wk
end
section
set_option maxRecDepth 100000
set_option maxHeartbeats 1000000
/-! The last def from its heaps on. -/
namespace Wk
open PySem L2 Wr PyProof.Rows
abbrev lastB_ (i : Nat) : List Stmt := (defBody (topS 77)).drop i
theorem del_well {M : Hp} {a q : Addr} (h : WellIn M a) (hq : q ≠ a) : WellIn (delM M q) a := by
  obtain ⟨x, y, w, e⟩ := h
  refine ⟨x, y, w, ?_⟩
  unfold delM
  rw [if_neg (Ne.symm hq)]
  exact e
theorem srtI_perm {l m : List Int} (h : l.Perm m) : srtI l = srtI m := by
  have tr : ∀ a b c : Int, decide (a ≤ b) = true → decide (b ≤ c) = true → decide (a ≤ c) = true := fun a b c h1 h2 => decide_eq_true (Int.le_trans (of_decide_eq_true h1) (of_decide_eq_true h2))
  have to : ∀ a b : Int, (decide (a ≤ b) || decide (b ≤ a)) = true := fun a b => by
    rcases Int.le_total a b with q | q <;> simp [q]
  have s1 := List.pairwise_mergeSort (le := fun a b : Int => decide (a ≤ b)) tr to l
  have s2 := List.pairwise_mergeSort (le := fun a b : Int => decide (a ≤ b)) tr to m
  refine List.Perm.eq_of_pairwise (le := fun a b : Int => decide (a ≤ b) = true) (fun a b _ _ h1 h2 => Int.le_antisymm (of_decide_eq_true h1) (of_decide_eq_true h2)) s1 s2 ?_
  exact (List.mergeSort_perm l _).trans (h.trans (List.mergeSort_perm m _).symm)
theorem right_tail {g : Gm} (F : Fs g) {a : Addr} {pl : List Nat} {ts : List (Nat × Nat)} {b : Nat} (h : Rt pl ts b) {M : Hp} {K : Kont} (hw : WellIn M a) (rt : ∀ M', K.rt (.dat (.bool true)) M') :
    BDr g b [some (.raw (.ref a)), some (.dat (S pl)), some (.dat (joinsD ts)), some (.web pl ts), some (.dat (.int pl.length)), some (.dat (S [b])), none, none, none, none, none, none, none, none, none, none, none] M (lastB_ 2) K := by
  have f4 := h.w.few
  have f6 := h.w.fewT
  have p1 := h.w.pos
  have hlet := h.w.let_
  have hsl := stays_len h
  refine bd_par2V 6 7 (av_cons (ev_call (fn_stays F) (am_cons (em_var 1) (am_two (em_var 2) (em_var 5))) ⟨pl, ts, b, rfl, f4, f6, fun c hc hne => h.deg hc hne, fun ns hns _ => h.again hns, av_cons (EM.to (em_index (em_var 1) (em_var 5) h.hb) (av_nil ⟨_, _, rfl, ?_⟩))⟩))
  have shw : ∀ p ∈ staysOf pl ts b, p.length ≤ 4 ∧ ∀ x ∈ p, 0 ≤ x ∧ x ≤ 6 := fun p hp => by
    have S := h.stay hp
    exact ⟨by rw [S.len]; exact f4, S.num⟩
  have sh := shows_heaps (l := staysOf pl ts b) shw (by omega)
  have hh := stays_heaps h.web p1 h.hb
  refine bd_pass (TM.is (tm_neT (em_repr (em_lst [.tuple ((staysOf pl ts b).map tI), .tuple ((staysOf pl ts b).map tI)] (am_two (ev_call (fn_heaps F) (am_two (em_var 3) (em_var 5)) ⟨pl, ts, b, rfl, h.w, h.one, h.hb, fun l hl => h.spans hl, by rw [← hh]; exact only_self⟩) (ev_callKw (fnk_heaps F) (km_cons (em_var 5) (km_cons (em_var 3) km_nil)) ⟨pl, ts, b, rfl, h.w, h.one, h.hb, fun l hl => h.spans hl, by rw [← hh]; exact only_self⟩))) sh)
    (em_repr (EM.is (y := .dat (.list [.tuple ((staysOf pl ts b).map tI), .tuple ((staysOf pl ts b).map tI)])) (em_rep (n := 2) (em_lst [.tuple ((staysOf pl ts b).map tI)] (am_one (em_tupleL (em_var 6)))) em_int (by simp) (by decide)) rfl) sh)) (by simp)) ?_
  refine bd_setE 8 (EV.imp ev_newL fun x M1 hx => ?_)
  obtain ⟨q, hq, rfl, rfl⟩ := hx
  have hqa : q ≠ a := well_ne hw hq
  refine bd_for (ds := (staysOf pl ts b).map fun p => .dat (tI p)) 9 (src_lT (em_var 6)) (fun i ρ' M' => WellIn M' a ∧ M' q = some (mL ((((staysOf pl ts b).take i).map fun p => levelL pl ts p b).map .int)) ∧ ∃ o9 o10, ρ' = rightR a pl ts b (some (.raw (.ref q))) o9 o10 none none none none) ⟨wl_upd hw hqa, upd_same, none, none, rfl⟩ (fun i d ρ' M' hd hJ => ?_) (fun ρ' M' hJ => ?_)
  · obtain ⟨hw', hm', o9, o10, rfl⟩ := hJ
    rw [List.getElem?_map] at hd
    cases eq : (staysOf pl ts b)[i]? with
    | none => rw [eq] at hd; cases hd
    | some p =>
      rw [eq] at hd
      have hd' := Option.some.inj hd
      subst hd'
      have hp : p ∈ staysOf pl ts b := List.mem_of_getElem? eq
      refine lev_body F h hp (o10 := o10) hw' hqa hm' (by rw [List.length_map, List.length_map, List.length_take]; omega) (fun o M2 hw2 hm2 => ⟨hw2, ?_, _, _, rfl⟩)
      rw [hm2, List.take_succ, eq, List.map_append, List.map_append]
      rfl
  · obtain ⟨hw', hm', o9, o10, rfl⟩ := hJ
    rw [List.length_map, List.take_length] at hm'
    refine bd_set 11 (ev_call (fn_ltrees F) (am_two (em_var 1) (em_var 2)) ⟨pl, ts, rfl, p1, by omega, by omega, fun c hc => by have := hlet c hc; omega, only_self⟩) ?_
    have tl : (lawTrees pl ts).length ≤ 64 := by rw [← stays_many h.web p1 h.hb]; exact hsl
    have hperm := levels_perm h.web p1 h.hb
    refine bd_pass (TM.is (tm_neD (em_sortI (em_frzL (em_var 8) hm' (flats_map (fun _ => rfl) _))) (em_sortI (ns := (lawTrees pl ts).map fun l => ((lateOf pl ts l).length : Int)) (EM.is (em_lc1n (zs := lawTrees pl ts) (enc := fun l => .dat (tN l)) (r := fun l => .int ((lateOf pl ts l).length : Int)) 15 (src_lT (em_var 11)) (fun l hl => ?_) (by omega)) (by rw [List.map_map]; rfl))) (shaped_lI _) (shaped_lI _) (by rw [eqv_lI])) ?_) ?_
    · have T := (mem_trees h.web p1).mp ((trees_perm h.web p1).mem_iff.mp hl)
      have := T.len
      exact Wr.EM.is (Wr.em_lenL (Wr.ev_call (fn_late F) (Wr.am_cons (Wr.em_var 1) (Wr.am_two (Wr.em_var 2) (Wr.em_var 15))) ⟨pl, ts, l, rfl, p1, by omega, by omega, fun c hc => by have := hlet c hc; omega, by omega, T.lt, only_self⟩)) (by unfold toI; rw [List.length_map, List.length_map])
    · rw [srtI_perm hperm, decide_eq_true rfl]
      rfl
    · refine bd_for (ds := (List.range 6).map fun i : Nat => Sl.dat (.int (i : Int))) 12 (src_r em_int (by decide)) (fun i ρ' M' => WellIn M' a ∧ ∃ o8 o9 o10 o12 o13 o14, ρ' = rightR a pl ts b o8 o9 o10 (some (.dat (.list ((lawTrees pl ts).map tN)))) o12 o13 o14) ⟨del_well hw' hqa, _, _, _, _, _, _, rfl⟩ (fun i d ρ' M' hd hJ => ?_) (fun ρ' M' hJ => ?_)
      · obtain ⟨hw2, o8, o9, o10, o12, o13, o14, rfl⟩ := hJ
        exact pile_body F h hw2 fun p9 p13 p14 M3 hw3 => ⟨hw3, _, _, _, _, _, _, rfl⟩
      · obtain ⟨hw2, o8, o9, o10, o12, o13, o14, rfl⟩ := hJ
        refine bd_ret (EM.to (em_eqI (em_lenL (em_var 6)) (em_lenL (em_var 11))) ?_)
        rw [List.length_map, List.length_map, stays_many h.web p1 h.hb, decide_eq_true rfl]
        exact rt _
end Wk
end
section
set_option maxRecDepth 100000
set_option maxHeartbeats 1000000
/-! The last def: its start. -/
namespace Wk
open PySem L2 Wr PyProof.Rows
section
variable {X : Cx} {nm hs : Str} {s s' : Shared} {pins : List (Addr × Obj)} {σ : L2.St} {H H' : Hp}
/-- the text's own store -/
theorem store_own {M : Model} {A : Around} {E : Value → Shared → Prop} {i : Nat} {t : Tok} {Q : Unit → Shared → Prop} (I : Inv X pins σ H s) (hN : X.N.Nodup) (hi : X.N[i]? = some nm) (hl : X.env.scope.names.lookup nm = some .local) (t1 : 1 ≤ t) (t2 : t < s.toks)
    (h : ∀ s', Inv X pins (σ.set i (some (.str hs))) H s' → Hm X nm hs s' → Q () s') : wpAny M A (storeName X.env nm (.str hs t)) Q E s := by
  have a : wpAny M A (storeName X.env nm (.str hs t)) (fun _ s' => Inv X pins (σ.set i (some (.str hs))) H s') E s := store_ok I hN hi (.inl hl) (show RelV (.str hs) (.str hs t) from ⟨t, rfl⟩) (fun s' J => J) (.inr hl)
  have b : wpAny M A (storeName X.env nm (.str hs t)) (fun _ s' => Hm X nm hs s') E s := by
    obtain ⟨m, e1, _⟩ := I.loc
    refine wpAny_storeName_local hl e1 (fun h' n' _ => ⟨_, t, n', ?_, t1, Nat.lt_succ_of_lt t2⟩) (by rw [I.ok.kind]; rfl)
    show (if nm = nm then some (Value.str hs t) else m nm) = _
    rw [if_pos rfl]
  exact wpAny_mono (any_both a b) (fun _ s' q => h s' q.1 q.2) fun _ _ q => q.1
/-- the frame that the call left lies among the pins -/
theorem own_pins {u : Value} (I : Inv X pins σ H s) (I2 : Inv X pins σ H' s') (ow : Own s s' H' u hs) : ∃ pins', Inv X pins' σ H' s' ∧ Jk X pins' := by
  obtain ⟨p, o, es, ep, h1, h2, h3, h4, h5⟩ := ow.jk
  refine ⟨pins ++ [(p, o)], I2.pins_of fun q hq => ?_, ⟨(p, o), List.mem_append_right _ (List.mem_singleton.mpr rfl), Nat.lt_of_lt_of_le I.lt h1, fun x c e => ?_, es, ep, h4, h5⟩⟩
  · rcases List.mem_append.mp hq with z | z
    · exact I2.pin q (List.mem_append_right _ z)
    · have e := List.mem_singleton.mp z
      subst e
      exact ⟨h2, h3, Nat.ne_of_gt (Nat.lt_of_lt_of_le I.lt h1), I.nofs h1, fun v e => by rw [h4] at e; cases e⟩
  · obtain ⟨v, q⟩ := I.cell x c e
    exact Nat.lt_of_lt_of_le q.lt h1
end
abbrev rho2 (a : Addr) (pl : List Nat) (ts : List (Nat × Nat)) : List (Option Sl) := [some (.raw (.ref a)), some (.dat (S pl)), some (.dat (joinsD ts)), none, none, none, none, none, none, none, none, none, none, none, none, none, none]
abbrev rho5 (a : Addr) (pl : List Nat) (ts : List (Nat × Nat)) (b : Nat) : List (Option Sl) := [some (.raw (.ref a)), some (.dat (S pl)), some (.dat (joinsD ts)), some (.web pl ts), some (.dat (.int pl.length)), some (.dat (S [b])), none, none, none, none, none, none, none, none, none, none, none]
/-- Web(..), len(..), one_of(..) -/
abbrev threeOf (s : Stmt) : List Expr := match s with
  | .Assign _ (.Tuple es _ _) _ => es
  | _ => []
abbrev threeP (s : Stmt) : Pos := match s with
  | .Assign _ (.Tuple _ _ p) _ => p
  | _ => ⟨0, 0, 0, 0⟩
theorem three_args {g : Gm} (F : Fs g) {X : Cx} (G : Good (rightC g) X) {σ : L2.St} {I M Fr : Hp} {s : Shared} {a : Addr} {pl : List Nat} {ts : List (Nat × Nat)} (ok : NetOk pl ts) (hw : WellIn M a) (en : En g.C I σ (rho2 a pl ts)) (di : Ds I M Fr) (Iv : Inv X [] σ (J3 I M Fr) s) :
    wpAny (model X.prog X.w) X.A (spliced (backTo (threeP (rightS 1)) (starEach (threeOf (rightS 1)) X.env))) (fun us s' => ∃ (b : Nat) (I2 M2 : Hp) (v1 : V) (u1 u2 u3 : Value) (pins : List (Addr × Obj)), us = [u1, u2, u3] ∧ b ∈ pl ∧ Inv X pins σ (J3 I2 M2 Fr) s' ∧ Jk X pins ∧ RelV v1 u1 ∧ Is g.C I2 v1 (.web pl ts) ∧ RelV (.int (pl.length : Nat)) u2 ∧ (∃ t, u3 = .str (sOf [b]) t ∧ 1 ≤ t ∧ t < s'.toks) ∧ Same I I2 ∧ Ds I2 M2 Fr ∧ WellIn M2 a) X.xe s := by
  have f4 := ok.ok.few
  obtain ⟨fI, Fi, Mk_⟩ := fn_init F
  refine Calls.spliced_cons (thn ((Wr.em_makeW Mk_ Fi ok.ok (Wr.em_var 1) (Wr.em_tupleL (Wr.em_var 2)) : Wr.EM (rightC g) (rho2 a pl ts) M _ (.web pl ts) M) X G σ I Fr en di (fun v H => ∃ I2, H = J3 I2 M Fr ∧ Same I I2 ∧ Ds I2 M Fr ∧ Is g.C I2 v (.web pl ts)) (fun v I2 x M' ⟨z1, z2⟩ s2 d2 i2 => by subst z1 z2; exact ⟨I2, rfl, s2, d2, i2⟩) [] s Iv) fun u1 s1 q => ?_)
  obtain ⟨v1, H1, J1, r1, I1, eH, s1', d1, i1⟩ := q
  subst eH
  refine Calls.spliced_cons (thn ((Wr.em_lenS (Wr.em_var 1) (by omega) : Wr.EM (rightC g) (rho2 a pl ts) M _ (.dat (.int (pl.length : Nat))) M) X G σ I1 Fr (en.mono s1') d1 (fun v H => v = .int (pl.length : Nat) ∧ ∃ I2, H = J3 I2 M Fr ∧ Same I1 I2 ∧ Ds I2 M Fr) (fun v I2 x M' ⟨z1, z2⟩ s2 d2 i2 => by subst z1 z2; exact ⟨is_int i2, I2, rfl, s2, d2⟩) [] s1 J1) fun u2 s2 q => ?_)
  obtain ⟨v2, H2, J2, r2, e2, I2, eH, s2', d2⟩ := q
  subst eH e2
  have en2 := en.mono (s1'.trans s2')
  obtain ⟨f, fd, Fu, hmg⟩ := F.law_one_of
  have h3 := Fu.kp
  rw [← G.mg] at hmg
  rw [← G.K] at h3
  obtain ⟨g1, g2⟩ := G.gl (show glB (defScope (topS 77)) "_law_one_of" = true by decide +kernel)
  have nm : ∀ (i : Nat) (x : Str) (dd : Sl) (pos : Pos), chkV N_right (defScope (topS 77)) i x = true → (rho2 a pl ts)[i]? = some (some dd) → wpAny (model X.prog X.w) X.A (eval (.Name x pos) X.env) (fun u s3 => s3 = s2 ∧ ∃ v, RelV v u ∧ Is g.C I2 v dd) X.xe s2 := fun i x dd pos h q => by
    unfold chkV at h
    simp only [Bool.and_eq_true, decide_eq_true_eq, Bool.not_eq_true'] at h
    obtain ⟨⟨⟨h1, h2⟩, h3⟩, h4⟩ := h
    obtain ⟨v, e1, i1⟩ := en2.at_ i dd q
    exact thn (var0 J2 (by rw [G.N]; exact h1) (by rw [G.sc]; exact vis_of h2) e1 h3 h4) fun u s2 ⟨a1, a2⟩ => ⟨a1, v, a2, i1⟩
  refine Calls.spliced_cons (wpAny_Call_Name_kw (ld_glob J2 g1 hmg (PySem.W.callWith_K (h₀ := X.base) J2.ok.mod.kin h3 (Calls.spliced_cons (thn (nm 0 _ _ _ (by decide +kernel) rfl) fun u4 s4 q => ?_)) rfl rfl) g2))
  obtain ⟨rfl, v4, r4, i4⟩ := q
  rw [is_raw i4] at r4
  cases r4
  refine Calls.spliced_cons (thn (nm 1 _ _ _ (by decide +kernel) rfl) fun u5 s4 q => ?_)
  obtain ⟨rfl, v5, r5, i5⟩ := q
  rw [is_str i5] at r5
  refine Calls.spliced_nil ⟨J2.kIn, ?_⟩
  refine thn (one_call F Fu G (by decide) J2 d2 hw ok.ok.pos (by omega) r5) fun u6 s6 q => ?_
  obtain ⟨b, hb, M', I3, hM, J6, s3', d3, ow⟩ := q
  obtain ⟨pins', J7, jk⟩ := own_pins J2 J6 ow
  exact Calls.spliced_nil ⟨b, I3, M', v1, u1, u2, u6, pins', rfl, hb, J7, jk, r1, i1.mono (s2'.trans s3'), r2, ow.own, (s1'.trans s2').trans s3', d3, hM.at_⟩
end Wk
end
section
set_option maxRecDepth 100000
set_option maxHeartbeats 1000000
/-! The last def, called. -/
namespace Wk
open PySem L2 Wr PyProof.Rows
theorem par3_own {g : Gm} {k : Nat} {N : List Str} {sc : Scope} {gd : Bool} {bl : Option Scope} {X : Cx} (G : Good ⟨g, k, N, sc, gd, bl⟩ X) {f1 f2 f3 : Str} {p1 p2 p3 pt pt2 pos : Pos} {kt k2} {a b e : Expr} {s : Shared} {E1 : List Value → Shared → Prop} {Q : Flow → Shared → Prop} (i j l : Nat)
    (hargs : wpAny (model X.prog X.w) X.A (spliced (backTo pt2 (starEach [a, b, e] X.env))) E1 X.xe s)
    (next : ∀ us s1, E1 us s1 → ∃ (hs : Str) (σ : L2.St) (pins : List (Addr × Obj)) (H : Hp) (v1 v2 : V) (u1 u2 : Value) (t : Tok), us = [u1, u2, .str hs t] ∧ Inv X pins σ H s1 ∧ RelV v1 u1 ∧ RelV v2 u2 ∧ 1 ≤ t ∧ t < s1.toks ∧ ∀ s', Inv X pins (((σ.set l (some (.str hs))).set j (some v2)).set i (some v1)) H s' → Hm X f3 hs s' → Q .next s')
    (hc : chkL N sc bl i f1 = true := by decide +kernel) (hc2 : chkL N sc bl j f2 = true := by decide +kernel) (hc3 : chkL N sc bl l f3 = true := by decide +kernel) (hl3 : locL sc f3 = true := by decide +kernel) (hn1 : f1 ≠ f3 := by decide) (hn2 : f2 ≠ f3 := by decide) (hd : X.A.handled = none)
    (hw : ∀ env : PySem.Env, env.scope = sc → swappedStores [.Tuple [.Name f1 p1, .Name f2 p2, .Name f3 p3] kt pt] (.Tuple [a, b, e] k2 pt2) env = pure (some [f1, f2, f3]) := by intro env h; cases env; cases h; rfl)
    (hsw : ∀ env : PySem.Env, env.scope = sc → swapsWithSole [.Tuple [.Name f1 p1, .Name f2 p2, .Name f3 p3] kt pt] (.Tuple [a, b, e] k2 pt2) pos.line env = pure false := by intro env h; cases env; cases h; rfl) :
    wpAny (model X.prog X.w) X.A (exec (.Assign [.Tuple [.Name f1 p1, .Name f2 p2, .Name f3 p3] kt pt] (.Tuple [a, b, e] k2 pt2) pos) X.env) Q X.xe s := by
  have L1 := G.loc hc
  have L2 := G.loc hc2
  have L3 := G.loc hc3
  rw [exec_Assign_arm]
  refine wpAny_bind (wpAny_standAt ?_)
  rw [hsw _ G.sc]
  refine wpAny_bind (wpAny_pure ?_)
  rw [if_neg (by decide)]
  refine wpAny_bind (Tuple_ (thn hargs fun us s1 q => ?_))
  obtain ⟨hs, σ, pins, H, v1, v2, u1, u2, t, rfl, I1, r1, r2, t1, t2, fin⟩ := next us s1 q
  refine wpAny_newObj_type ?_ (by show 3 ≤ sizeLine; decide)
  rw [hw _ G.sc]
  refine wpAny_bind (wpAny_pure ?_)
  refine (?_ : wpAny (model X.prog X.w) X.A (do rule "assign.swapped-stores"; let items ← unpackItems (.ref s1.heap.objs.size) 3 none; assignInOrder [fun v => bindName X.env f3 v, fun v => bindName X.env f2 v, fun v => bindName X.env f1 v] items.reverse; pure Flow.next) _ _ _)
  refine wpAny_bind (wpAny_rule (wpAny_bind (unpackItems_tuple (items := #[u1, u2, .str hs t]) hd (IsTup.new s1.heap _) fun h' hx' => ?_)))
  have kept : ∀ b o, s1.heap.get? b = some o → h'.get? b = some o := fun b o e => hx' b o (Nat.ne_of_lt (Heap.lt_size (Heap.get?_push_of_some _ e))) (Heap.get?_push_of_some _ e)
  have I3 := I1.kept (h' := h') (t' := s1.toks) kept
  refine (?_ : wpAny _ _ (assignInOrder [fun v => bindName X.env f3 v, fun v => bindName X.env f2 v, fun v => bindName X.env f1 v] [.str hs t, u2, u1] >>= fun _ => pure Flow.next) _ _ _)
  refine wpAny_bind (assignInOrder_cons (wpAny_bindName (store_own I3 L3.nd L3.hN (by rw [G.sc]; exact locL_of hl3) t1 t2 fun s4 I4 hm4 => ?_)))
  refine assignInOrder_cons (wpAny_bindName (store_h I4 hm4 L2.nd L2.hN L2.hx L2.hf hn2 r2 fun s5 I5 hm5 => ?_))
  exact assignInOrder_cons (wpAny_bindName (store_h I5 hm5 L1.nd L1.hN L1.hx L1.hf hn1 r1 fun s6 I6 hm6 => assignInOrder_nil (wpAny_pure (fin s6 I6 hm6))))
/-- the draws of the web -/
theorem right_net {g : Gm} (F : Fs g) {a : Addr} {M : Hp} (hw : WellIn M a) : Wr.SD (rightC g) [some (.raw (.ref a)), none, none, none, none, none, none, none, none, none, none, none, none, none, none, none, none] M (rightS 0) { nx := fun ρ' M' => ∃ pl ts, NetOk pl ts ∧ WellIn M' a ∧ ρ' = rho2 a pl ts, rt := fun _ _ => False } := by
  refine Wr.sd_asg (js := [1, 2]) (Wr.ev_callV (fn_net F) (Wr.av_cons (Wr.EM.to (Wr.em_var 0) (Wr.av_cons (Wr.ev_call (fn_one F) (Wr.am_two (Wr.em_var 0) (Wr.em_lst [.int 1, .int 2, .int 3, .int 3, .int 4, .int 4] (Wr.am_cons Wr.em_int (Wr.am_cons Wr.em_int (Wr.am_cons Wr.em_int (Wr.am_cons Wr.em_int (Wr.am_cons Wr.em_int (Wr.am_cons Wr.em_int Wr.am_nil)))))))) ⟨a, hw, .inl ⟨[1, 2, 3, 3, 4, 4], rfl, by decide, by decide, fun z hz M1 hM1 => ?_⟩⟩)))))
  obtain ⟨n, hn, rfl⟩ : ∃ n : Nat, (1 ≤ n ∧ n ≤ 4) ∧ z = (n : Int) := by
    have hz' : z = 1 ∨ z = 2 ∨ z = 3 ∨ z = 4 := by simpa using hz
    rcases hz' with rfl | rfl | rfl | rfl
    · exact ⟨1, by decide, rfl⟩
    · exact ⟨2, by decide, rfl⟩
    · exact ⟨3, by decide, rfl⟩
    · exact ⟨4, by decide, rfl⟩
  refine Wr.av_cons (Wr.EM.to Wr.em_int (Wr.av_nil ⟨a, n, rfl, hn.1, hn.2, hM1.at_, fun pl ts hl ok M2 hM2 => ⟨_, Wr.tg_two 1 2, pl, ts, ok, hM2.at_, rfl⟩⟩))
end Wk
end
section
set_option maxRecDepth 100000
set_option maxHeartbeats 1000000
/-! The last def, called: the end. -/
namespace Wk
open PySem L2 Wr PyProof.Rows
theorem right_call {g : Gm} (F : Fs g) {f : Addr} {fd : FuncData} (Fu : Fun g.K "_law_right" "_law_right" (topS 77) f fd) {k : Nat} {N : List Str} {sc : Scope} {gd : Bool} {bl : Option Scope} {X : Cx} (G : Good ⟨g, k, N, sc, gd, bl⟩ X) (hk : 8 ≤ k) (hg : X.A.guards = some []) {pins : List (Addr × Obj)} {σ : L2.St} {I M Fr : Hp} {s : Shared} {a : Addr}
    (Iv : Inv X pins σ (J3 I M Fr) s) (di : Ds I M Fr) (hw : WellIn M a) :
    wpAny (model X.prog X.w) X.A (call (.ref f) [.ref a]) (fun u s' => ∃ M' I2, u = .bool true ∧ Inv X pins σ (J3 I2 M' Fr) s' ∧ Same I I2 ∧ Ds I2 M' Fr) X.xe s := by
  have bd : BindsTo s fd ⟨[.ref a], []⟩ ((["_law_well_here"] : List Str).zip [.ref a]) := by
    obtain ⟨oc, od, kV, doc, pm, an, cdv, ct, osl, rfl, lk, hcd⟩ := Fu.ex
    exact .of_eq rfl
  have e0 := Iv.env0
  have rm : Room 8 X.A := G.room.mono hk
  rw [G.prog, G.w, G.K, G.mg, G.base] at e0
  rw [G.prog, G.w]
  refine wpAny_call (codeAny_mono (call_gen (R := fun r s' => ∃ u, r = .ok (.ret u) ∧ ∃ M' I2, u = .bool true ∧ (s'.os = s.os ∧ AllBare s'.gens ∧ Un (frs X.stack) [] (J3 I M Fr) (J3 I2 M' Fr) s.heap s'.heap ∧ HOk g.P g.w (J3 I2 M' Fr) s'.heap) ∧ Same I I2 ∧ Ds I2 M' Fr) (vs := [.ref a]) (us := [.ref a]) Fu sc_right rm.hd rm.depth e0 bd rfl (.cons rfl .nil) ?_) ?_)
  · intro cdv s1 J ta _ _
    generalize hX : (cxOf CX0 g.P g.w g.K g.mg g.base N_right "_law_right" (defScope (topS 77)) f cdv X.A X.stack s (J3 I M Fr) E0).nox = Y at J
    have GY : Good (rightC g) Y := by
      rw [← hX]
      exact ⟨rfl, rfl, rfl, rfl, rfl, rfl, rfl, rm.deeper _, rfl, fun _ _ => rfl, rfl, fun _ => hg⟩
    have eA : Y.A = X.A.deeper (envOfC "_law_right" (defScope (topS 77)) s.heap.objs.size f cdv) := by rw [← hX]; rfl
    have eE : Y.env = envOfC "_law_right" (defScope (topS 77)) s.heap.objs.size f cdv := by rw [← hX]; rfl
    have e1 : Y.s_0 = s := by rw [← hX]; rfl
    have e2 : Y.H_0 = J3 I M Fr := by rw [← hX]; rfl
    have e3 : Y.fs = frs X.stack := by rw [← hX]; rfl
    have e4 : Y.ex = [] := by rw [← hX]; rfl
    have eP : Y.prog = g.P := GY.prog
    have eW : Y.w = g.w := GY.w
    rw [← eA, ← eE, ← eP, ← eW]
    have en : En g.C I (L2.start N_right [.ref a]) [some (.raw (.ref a)), none, none, none, none, none, none, none, none, none, none, none, none, none, none, none, none] := en_start (N := N_right) (xs := [.raw (.ref a)]) (.cons rfl .nil)
    have hE : Y.xe = fun _ _ => False := GY.xe
    rw [← hE]
    refine wpAny_execs_cons (thn (right_net F hw Y GY _ I Fr { nx := fun σ H => ∃ I2 M2 pl ts, H = J3 I2 M2 Fr ∧ Same I I2 ∧ Ds I2 M2 Fr ∧ NetOk pl ts ∧ WellIn M2 a ∧ En g.C I2 σ (rho2 a pl ts), rt := fun _ _ => False } en di ⟨fun σ I2 ρ M2 ⟨pl, ts, ok, hw2, e⟩ s2 en2 d2 => by subst e; exact ⟨I2, M2, pl, ts, rfl, s2, d2, ok, hw2, en2⟩, (fun v I2 x M' k => k.elim), (fun σ I2 ρ M2 k => k.elim), fun σ I2 ρ M2 k => k.elim⟩ [] s1 J) fun fl s2 q => ?_)
    cases fl with
    | ret v => obtain ⟨_, _, _, _, _, z⟩ := q; exact z.elim
    | brk => obtain ⟨_, _, _, z⟩ := q; exact z.elim
    | cont => obtain ⟨_, _, _, z⟩ := q; exact z.elim
    | next =>
      obtain ⟨σ2, H2, J2, I2, M2, pl, ts, rfl, s2', d2, ok, hw2, en2⟩ := q
      refine wpAny_execs_cons (par3_own GY 3 4 5 (three_args F GY ok hw2 en2 d2 J2) (fun us s3 q => ?_) (hd := J2.ok.hd GY.calm))
      obtain ⟨b, I3, M3, v1, u1, u2, u3, pins3, rfl, hb, J3', jk, r1, i1, r2, ⟨t, rfl, t1, t2⟩, s3', d3, hw3⟩ := q
      refine ⟨sOf [b], σ2, pins3, _, v1, .int (pl.length : Nat), u1, u2, t, rfl, J3', r1, r2, t1, t2, fun s4 J4 hm4 => ?_⟩
      have en4 : En g.C I3 (((σ2.set 5 (some (.str (sOf [b])))).set 4 (some (.int (pl.length : Nat)))).set 3 (some v1)) (rho5 a pl ts b) := (((en2.mono s3').set (j := 5) (x := .dat (S [b])) (.str _)).set (j := 4) (x := .dat (.int (pl.length : Nat))) (.int _)).set (j := 3) (x := .web pl ts) i1
      refine thn (right_tail F (K := { nx := fun _ _ => False, rt := fun x M' => x = .dat (.bool true) }) ⟨ok, hb⟩ hw3 (fun M' => rfl) Y GY _ I3 Fr { nx := fun _ _ => False, rt := fun v H => ∃ M' I2, v = .bl true ∧ H = J3 I2 M' Fr ∧ Same I3 I2 ∧ Ds I2 M' Fr } en4 d3 ⟨(fun σ I2 ρ M2 k => k.elim), (fun v I5 x M' k s5 d5 i5 => by
        have k : x = .dat (.bool true) := k
        subst k
        exact ⟨M', I5, is_bl i5, rfl, s5, d5⟩), (fun σ I2 ρ M2 k => k.elim), fun σ I2 ρ M2 k => k.elim⟩ pins3 s4 J4 jk hm4) fun fl s5 q => ?_
      obtain ⟨q, _⟩ := q
      cases fl with
      | next => obtain ⟨_, _, _, z⟩ := q; exact z.elim
      | brk => obtain ⟨_, _, _, z⟩ := q; exact z.elim
      | cont => obtain ⟨_, _, _, z⟩ := q; exact z.elim
      | ret v =>
        obtain ⟨v5, σ5, H5, J5, r5, M5, I5, rfl, rfl, s5', d5⟩ := q
        cases r5
        rw [← e1, ← e2, ← e3]
        have hbb := J5.base
        rw [e4] at hbb
        exact ⟨_, rfl, M5, I5, rfl, ⟨J5.os, J5.bare, hbb, J5.hok⟩, (s2'.trans s3').trans s5', d5⟩
  · rintro r s' ⟨u, e, M', I2, hu, ⟨os, ba, un, ho⟩, s2, d2⟩
    subst e
    exact ⟨M', I2, hu, Iv.call' (ch := []) os un (by rw [G.prog, G.w]; exact ho) ba (fun b q => nomatch q), s2, d2⟩
end Wk
end
section
set_option maxRecDepth 100000
set_option maxHeartbeats 1000000
/-! The law's own def: the script is read where it lies. -/
namespace Wr
open PySem L2
/-- the script, in what changes or among the module's own -/
def Scr (g : Gm) (M : Hp) (a : Addr) (ns : List Int) : Prop := ∀ I F, Ds I M F → SqL g.K (J3 I M F) a (ns.map V.int)
theorem fv_ints (ns : List Int) : (ns.map PyData.int).map fV = ns.map V.int := by
  rw [List.map_map]
  rfl
section
variable {g : Gm} {k : Nat} {N : List Str} {sc : Scope} {gd : Bool} {bl : Option Scope} {c : Cs} {ρ : List (Option Sl)} {M M1 M2 : Hp} {a b e : Expr} {pos p : Pos} {q : Addr} {ns : List Int}
theorem em_lenR (ha : EM ⟨g, k, N, sc, gd, bl⟩ ρ M e (.raw (.ref q)) M1) (hm : Scr g M1 q ns) (hf : glB sc "len" = true := by decide +kernel) (hs : ∀ env : PySem.Env, starEach (e :: []) env = (false, eval e env) :: starEach [] env := by intro _; rfl) : EM ⟨g, k, N, sc, gd, bl⟩ ρ M (.Call (.Name "len" p) [e] [] pos) (.dat (.int ns.length)) M1 :=
  ev_callB (fun _ _ => call_len_seq) (am_one ha hs) (fun X G I F vs d i Q hQ => by
    obtain ⟨v, rfl, h⟩ := is1 i
    refine ⟨q, ns.map V.int, by rw [is_raw h], .inl (by rw [G.K]; exact hm I F d), ?_⟩
    rw [List.length_map]
    exact hQ.only (Same.refl I) d (.int _)) hf (hs := hs)
theorem em_ixR {i n : Int} (ha : EM c ρ M a (.raw (.ref q)) M1) (hb : EM c ρ M1 b (.dat (.int i)) M2) (hm : Scr c.g M2 q ns) (h : atI ns i = some n) (hs : PlainIx b := by exact fun _ _ => rfl) : EM c ρ M (.Subscript a b pos) (.dat (.int n)) M2 := by
  intro X G σ I F en di Q hQ
  refine wp_pe (pe_ix ix_list pe_wp pe_wp hs) (two (ta := wpE X a) G en di ha hb fun I2 v u s dd i1 i2 => ?_)
  refine ⟨q, ns.map V.int, i, .int n, is_raw i1, is_int i2, by rw [G.K]; exact hm I2 F dd, ?_, hQ.only s dd (.int _)⟩
  obtain ⟨j, e1, e2⟩ := atI_len h
  unfold atI
  rw [List.length_map, e2]
  show (ns.map V.int)[j]? = _
  rw [List.getElem?_map, e1]
  rfl
theorem em_slR {lo hi : Option Expr} {i j : Option Int} {p2 : Pos} (ha : EM c ρ M a (.raw (.ref q)) M) (hl : OM c ρ M lo i) (hh : OM c ρ M hi j) (hm : Scr c.g M q ns) : EM c ρ M (.Subscript a (.Slice lo hi none p2) pos) (.dat (.list (cutD (ns.map .int) i j))) M := fun X G σ I F en di Q hQ =>
  wp_pe (pe_slice sl_list pe_wp po_wp po_wp) (em_bind ha G en di fun v I1 s1 d1 i1 => hl X G σ I1 F (en.mono s1) d1 _ fun I2 s2 d2 => hh X G σ I2 F (en.mono (s1.trans s2)) d2 _ fun I3 s3 d3 => by
    have f1 : Dats I3 (ns.map V.int) (ns.map PyData.int) := by
      rw [← fv_ints]
      exact dats_flat (flats_map (fun _ => rfl) ns)
    exact ⟨q, ns.map V.int, is_raw i1, by rw [G.K]; exact hm I3 F d3, gives_lst (hQ.mono ((s1.trans s2).trans s3)) only_self d3 (dats_cut f1 _ _)⟩)
end
section
variable {g : Gm}
def T_wellR (g : Gm) : Spec := fun xs M R => ∃ (a : Addr) (ns : List Int) (k : Nat), xs = [.raw (.ref a), .dat (.int k)] ∧ k ≤ 3 ∧ ns.length ≤ 100000 ∧ Scr g M a ns ∧ ∀ p x y, M p = none → WellOk x y → R (.raw (.ref p)) (upd M p (wellO x y))
theorem fn_wellR (F : Fs g) : Fn g "_law_well" 1 (T_wellR g) :=
  fn_ok F.law_well sc_well (fun _ _ _ _ _ _ us hl => match us, hl with | [_, _], _ => rfl) fun xs M R h => by
    obtain ⟨a, ns, k, rfl, hk, hz, hm, hR⟩ := h
    refine ⟨rfl, ?_⟩
    refine bd_set 2 (x := .dat (.int (if k < ns.length then piAt ns k else 8101 * k + 2971))) (EM.is (em_if (t := decide (k < ns.length)) (TM.is (tm_lt (em_var 1) (em_lenR (em_var 0) hm)) nat_ltI) (fun e => em_ixR (n := piAt ns k) (em_var 0) (em_var 1) hm (atI_nat (by
      have h' : k < ns.length := of_decide_eq_true e
      unfold piAt
      rw [List.getD_eq_getElem?_getD, List.getElem?_eq_getElem h']
      rfl))) (fun _ => em_add (em_mul (.inl ⟨by decide, by decide⟩) em_int (em_var 1)) em_int)) (by
      by_cases e : k < ns.length <;> simp [e])) ?_
    generalize (if k < ns.length then piAt ns k else 8101 * (k : Int) + 2971) = cell
    refine bd_set 3 (x := .dat (.int (60013 + 7001 * k))) (em_add em_int (em_mul (.inl ⟨by decide, by decide⟩) em_int (em_var 1))) ?_
    refine bd_for (js := [4]) (ds := (ns.take 6 ++ [cell]).map fun i => Sl.dat (.int i)) (src_lT (EM.is (em_cat (em_slR (i := none) (j := some 6) (em_var 0) om_none (om_some em_int) hm) (em_lst [.int cell] (am_one (em_var 2)) (show 1 ≤ 1000 by decide)) (by
        rw [show (6 : Int) = ((6 : Nat) : Int) from rfl, cut_take, List.length_take, List.length_map]
        show min 6 ns.length + 1 ≤ 100000
        omega)) (by
        rw [show (6 : Int) = ((6 : Nat) : Int) from rfl, cut_take, List.map_append, ← List.map_take]
        rfl)))
      (fun i ρ' M' => M' = M ∧ ∃ st o, 0 ≤ st ∧ st < 2147483563 ∧ ρ' = [some (.raw (.ref a)), some (.dat (.int k)), some (.dat (.int cell)), some (.dat (.int st)), o]) ⟨rfl, _, none, by omega, by omega, rfl⟩ (fun i dd ρ' M' hdd hJ => ?_) (fun ρ' M' hJ => ?_)
    · obtain ⟨rfl, st, o, h0, h1, rfl⟩ := hJ
      rw [List.getElem?_map] at hdd
      cases eq : (ns.take 6 ++ [cell])[i]? with
      | none => rw [eq] at hdd; cases hdd
      | some each =>
        rw [eq] at hdd
        have hdd' := Option.some.inj hdd
        subst hdd'
        refine ⟨_, tg_name 4, ?_⟩
        refine bd_set 3 (em_mod (by decide) (em_intI (em_add (em_add (em_mul (i := st) (.inl ⟨by omega, by omega⟩) (em_var 3) em_int) (em_mod (by decide) (em_intI (em_var 4)) em_int)) em_int)) em_int) ?_
        exact bd_nil ⟨rfl, _, _, Int.emod_nonneg _ (by decide), Int.emod_lt_of_pos _ (by decide), rfl⟩
    · obtain ⟨rfl, st, o, h0, h1, rfl⟩ := hJ
      refine bd_ret (EV.imp (ev_newLst (ds := [.int (if decide (cell < 0) || decide (10 ^ 18 ≤ cell) then (if cell < 0 then -cell else cell) else 0), .int st]) (am_two (EM.is (em_if (t := decide (cell < 0) || decide (10 ^ 18 ≤ cell)) (tm_or (tm_lt (em_var 2) em_int) fun _ => tm_ge (em_var 2) (em_pow (i := 10) (j := 18) ⟨by decide, by decide, by decide⟩ em_int em_int)) (fun _ => em_abs (em_var 2)) (fun _ => em_int)) (by rw [if_int])) (em_var 3)) flats2 (show 2 ≤ 1000 by decide)) fun x M1 hx => ?_)
      obtain ⟨p, hp, rfl, rfl⟩ := hx
      refine hR p _ _ hp ⟨?_, h0, h1⟩
      split
      · split <;> omega
      · omega
end
/-! ### what changes, in other parts -/
def emp : Hp := fun _ => none
theorem j3_apart {I M F : Hp} {p : Addr} {w : HO} (hp : M p = none) : J3 I (upd M p w) F = J3 I (upd emp p w) (join M F) := by
  funext b
  show join I (join (upd M p w) F) b = join I (join (upd emp p w) (join M F)) b
  unfold join upd emp
  by_cases e : b = p
  · subst e
    simp
  · simp [e]
theorem ds_apart {I M F : Hp} {p : Addr} {w : HO} (hp : M p = none) (d : Ds I (upd M p w) F) : Ds I (upd emp p w) (join M F) := by
  refine ⟨fun b o h => ?_, fun b o h => ?_⟩
  · have := d.im b o h
    unfold join upd emp at *
    by_cases e : b = p
    · subst e
      simp at this
    · simpa [e] using this
  · have e : b = p := by
      unfold upd emp at h
      by_cases e : b = p
      · exact e
      · simp [e] at h
    subst e
    have := d.mf b w (by unfold upd; simp)
    unfold join
    rw [hp]
    exact this
theorem j3_back {I M N F : Hp} : J3 I N (join M F) = J3 (join I N) M F := by
  funext b
  show join I (join N (join M F)) b = join (join I N) (join M F) b
  unfold join
  cases I b <;> rfl
theorem ds_back {I M N F : Hp} (d : Ds I N (join M F)) (m : Dis M F) : Ds (join I N) M F := by
  refine ⟨fun b o h => ?_, m⟩
  cases e : I b with
  | some o' => exact (join_none (d.im b o' e)).2
  | none =>
    have h' : N b = some o := by
      unfold join at h
      rw [e] at h
      exact h
    exact d.mf b o h'
theorem same_back {I N : Hp} : Same I (join I N) := fun _ _ h => join_I h
theorem j3_emp {M : Hp} : J3 emp M emp = M := by
  funext b
  show join emp (join M emp) b = M b
  unfold join emp
  cases M b <;> rfl
theorem ds_emp {M : Hp} : Ds emp M emp := ⟨(fun b o h => by cases h), fun b o h => rfl⟩
end Wr
end
section
set_option maxRecDepth 100000
set_option maxHeartbeats 1000000
/-! The law's own def. -/
namespace Wr
open PySem L2 PyProof.Rows
theorem em_right {g : Gm} (Fs_ : Fs g) {k : Nat} {N : List Str} {sc : Scope} {bl : Option Scope} {ρ : List (Option Sl)} {M : Hp} {p p1 p2 p3 p4 pos : Pos} {x1 x2 : Str} (hk : 8 ≤ k)
    (h : EV ⟨g, k, N, sc, true, bl⟩ ρ M (.Call (.Name "_law_well" p1) [.Name x1 p2, .Name x2 p3] [] p4) fun x M' => ∃ q w, M q = none ∧ WellIn (upd emp q w) q ∧ x = .raw (.ref q) ∧ M' = upd M q w) (hf : glB sc "_law_right" = true := by decide +kernel) :
    EM ⟨g, k, N, sc, true, bl⟩ ρ M (.Call (.Name "_law_right" p) [.Call (.Name "_law_well" p1) [.Name x1 p2, .Name x2 p3] [] p4] [] pos) (.dat (.bool true)) M := fun X G σ I Fr en di Q hQ pins s Iv => by
  obtain ⟨f, fd, Fu, hmg⟩ := Fs_.law_right
  have h3 := Fu.kp
  rw [← G.mg] at hmg
  rw [← G.K] at h3
  obtain ⟨g1, g2⟩ := G.gl hf
  refine wpAny_Call_Name_kw (ld_glob Iv g1 hmg (PySem.W.callWith_K (h₀ := X.base) Iv.ok.mod.kin h3 (Calls.spliced_cons (thn (h X G σ I Fr en di (fun v H => ∃ q w I1, v = .ref q ∧ M q = none ∧ WellIn (upd emp q w) q ∧ H = J3 I1 (upd M q w) Fr ∧ Same I I1 ∧ Ds I1 (upd M q w) Fr) (fun v I1 x M' ⟨q, w, z1, z2, z3, z4⟩ s1 d1 i1 => by subst z3 z4; exact ⟨q, w, I1, is_raw i1, z1, z2, rfl, s1, d1⟩) pins s Iv) fun u s1 q => ?_)) rfl rfl) g2)
  obtain ⟨v, H1, J1, r1, q, w, I1, rfl, hq, hw, rfl, s1', d1⟩ := q
  cases r1
  refine Calls.spliced_nil ⟨J1.kIn, ?_⟩
  have d1' := ds_apart hq d1
  rw [j3_apart hq] at J1
  refine thn (Wk.right_call Fs_ Fu G hk (G.gd rfl) J1 d1' hw) fun u s2 z => ?_
  obtain ⟨M', I2, rfl, J2, s2', d2⟩ := z
  rw [j3_back] at J2
  exact ⟨.bl true, _, J2, rfl, hQ (.bl true) (join I2 M') (.dat (.bool true)) M ⟨rfl, rfl⟩ ((s1'.trans s2').trans same_back) (ds_back d2 di.mf) (.bl _)⟩
abbrev N_law : List Str := ["_law_script", "_law_k"]
theorem sc_lawdef : FnScope N_law ["_law_script"] (defScope (topS 78)) := ⟨rfl, rfl, rfl, by decide +kernel, rfl, by decide +kernel, by decide +kernel⟩
abbrev lawC (g : Gm) : Cs := ⟨g, 8, N_law, defScope (topS 78), true, none⟩
theorem bd_law {g : Gm} (F : Fs g) {a : Addr} {M : Hp} {ns : List Int} (hm : Scr g M a ns) (hl : ns.length ≤ 63) : BD (lawC g) [some (.raw (.ref a)), none] M (defBody (topS 78)) { nx := fun _ _ => False, rt := fun x _ => x = .dat (.bool true) } := by
  have hall : ((List.range (max 2 (min ns.length 3))).map fun _ : Nat => true).all id = true := by
    rw [List.all_eq_true]
    intro x hx
    obtain ⟨_, _, rfl⟩ := List.mem_map.mp hx
    rfl
  refine bd_ret (EM.to (em_all (bs := (List.range (max 2 (min ns.length 3))).map fun _ : Nat => true) (EM.is (em_lc1n (zs := List.range (max 2 (min ns.length 3))) (enc := fun i : Nat => .dat (.int (i : Int))) (r := fun _ => .bool true) 1 (src_r (EM.is (em_max2 em_int (em_min2 (em_lenR (em_var 0) hm) em_int)) ?_) (by omega)) (fun k hk => ?_) (by rw [List.length_range]; omega)) (by rw [List.map_map]; rfl))) (by rw [hall]))
  · congr 2
    omega
  · have hk' : k < max 2 (min ns.length 3) := List.mem_range.mp hk
    refine em_right F (by decide) (ev_call (fn_wellR F) (am_two (em_var 0) (em_var 1)) ⟨a, ns, k, rfl, by omega, by omega, hm, fun p x y hp hw => ⟨p, _, hp, ⟨x, y, hw, ?_⟩, rfl, rfl⟩⟩)
    exact upd_same
end Wr
end
section
set_option maxRecDepth 100000
set_option maxHeartbeats 1000000
/-! The end: what the head wants. -/
namespace Wk
open PySem L2 Wr PyProof.Rows
theorem kit_self (K : PySem.W.Frag) (C : Addr) : PySem.W.kitOne K (.ref C) (.ref C) = some true := by
  unfold PySem.W.kitOne
  rw [if_pos]
  simp
theorem law_mine {g : Gm} (F : Fs g) {fa : Addr} {fd : FuncData} (Fu : Fun g.K "law" "law" (topS 78) fa fd) {s : Shared} {M0 : Hp} {a : Addr} {ns : List Int} (hl : ns.length ≤ 63) (e0 : Env0 g.P g.w g.K g.mg g.base callerA [] s M0) (hm : Scr g M0 a ns) :
    codeAny (model g.P g.w) callerA (.call (.ref fa) ⟨[.ref a], []⟩) (fun r s' => r = .ok (.ret (.bool true)) ∧ ∃ H', s'.os = s.os ∧ AllBare s'.gens ∧ Un (frs []) [] M0 H' s.heap s'.heap ∧ HOk g.P g.w H' s'.heap) s := by
  have bd : BindsTo s fd ⟨[.ref a], []⟩ ((["_law_script"] : List Str).zip [.ref a]) := by
    obtain ⟨oc, od, kV, doc, pm, an, cdv, ct, osl, rfl, lk, hcd⟩ := Fu.ex
    exact .of_eq rfl
  have rm : Room 9 callerA := ⟨rfl, by decide, by decide⟩
  refine call_gen (vs := [.ref a]) (us := [.ref a]) Fu sc_lawdef rm.hd rm.depth e0 bd rfl (.cons rfl .nil) ?_
  intro cdv s1 J ta _ _
  generalize hX : (cxOf CX0 g.P g.w g.K g.mg g.base N_law "law" (defScope (topS 78)) fa cdv callerA [] s M0 E0).nox = Y at J
  have GY : Good (lawC g) Y := by
    rw [← hX]
    exact ⟨rfl, rfl, rfl, rfl, rfl, rfl, rfl, rm.deeper _, rfl, fun _ _ => rfl, rfl, fun _ => rfl⟩
  have eA : Y.A = callerA.deeper (envOfC "law" (defScope (topS 78)) s.heap.objs.size fa cdv) := by rw [← hX]; rfl
  have eE : Y.env = envOfC "law" (defScope (topS 78)) s.heap.objs.size fa cdv := by rw [← hX]; rfl
  have e1 : Y.s_0 = s := by rw [← hX]; rfl
  have e2 : Y.H_0 = M0 := by rw [← hX]; rfl
  have e3 : Y.fs = frs [] := by rw [← hX]; rfl
  have e4 : Y.ex = [] := by rw [← hX]; rfl
  have eP : Y.prog = g.P := GY.prog
  have eW : Y.w = g.w := GY.w
  rw [← eA, ← eE, ← eP, ← eW]
  have en : En g.C emp (L2.start N_law [.ref a]) [some (.raw (.ref a)), none] := en_start (N := N_law) (xs := [.raw (.ref a)]) (.cons rfl .nil)
  have hE : Y.xe = fun _ _ => False := GY.xe
  rw [← hE]
  have J' : Inv Y [] (L2.start N_law [.ref a]) (J3 emp M0 emp) s1 := by rw [j3_emp]; exact J
  refine thn (bd_law F hm hl Y GY _ emp emp { nx := fun _ _ => False, rt := fun v _ => v = .bl true } en ds_emp ⟨(fun σ I2 ρ M2 k => k.elim), (fun v I5 x M' k s5 d5 i5 => by
    have k : x = .dat (.bool true) := k
    subst k
    exact is_bl i5), (fun σ I2 ρ M2 k => k.elim), fun σ I2 ρ M2 k => k.elim⟩ [] s1 J') fun fl s5 q => ?_
  cases fl with
  | next => obtain ⟨_, _, _, z⟩ := q; exact z.elim
  | brk => obtain ⟨_, _, _, z⟩ := q; exact z.elim
  | cont => obtain ⟨_, _, _, z⟩ := q; exact z.elim
  | ret v =>
    obtain ⟨v5, σ5, H5, J5, r5, rfl⟩ := q
    cases r5
    rw [← e1, ← e2, ← e3]
    have hbb := J5.base
    rw [e4] at hbb
    exact ⟨rfl, H5, J5.os, J5.bare, hbb, J5.hok⟩
/-- nothing but the script is followed -/
structure Sole (H : Hp) (a : Addr) (o : Obj) (ns : List Int) : Prop where
  at_ : H = emp ∨ H = upd emp a (.frz o (.lst (ns.map V.int)))
theorem Sole.off {H : Hp} {a b : Addr} {o : Obj} {ns : List Int} (h : Sole H a o ns) (hb : b ≠ a) : H b = none := by
  rcases h.at_ with rfl | rfl
  · rfl
  · rw [upd_ne hb]
    rfl
theorem law_at {l : PySem.W.OpenLaw} {w : World} {K : PySem.W.Frag} {mg mb : Str → Option Value} {fa a : Addr} {fd : FuncData} {s : Shared} {vs : List Value} {ns : List Int} (KX : K.In s.heap) (hns : s.heap.Ns mainGlobals mg) (hb : s.heap.Ns builtinsNs mb) (hbb : ∀ x : Str, x ≠ "__name__" → mb x = bootBuiltins x) (hlim : s.heap.NoLimit) (hg : s.gens = #[])
    (ho : s.heap.get? a = some { cls := .type "list", data := .seq vs.toArray }) (hl : ns.length ≤ 63) (Fu : Fun K "law" "law" (topS 78) fa fd) (gm : ∀ base : Heap, ∃ g : Gm, g.P = l.prog ∧ g.w = w ∧ g.K = K ∧ g.mg = mg ∧ g.base = base ∧ Fs g)
    {H : Hp} (so : Sole H a { cls := .type "list", data := .seq vs.toArray } ns) (hok : HOk l.prog w H s.heap) (hK : H a ≠ none → K.lookup a = none) (hm : ∀ g : Gm, g.K = K → Scr g H a ns) :
    codeAny (model l.prog w) callerA (.call (.ref fa) ⟨[.ref a], []⟩) (fun r s' => r = .ok (.ret (.bool true)) ∧ OldK s.heap s'.heap ∧ s'.os = s.os ∧ AllBare s'.gens) s := by
  have hA : ∀ {b : Addr}, H b ≠ none → b = a := fun {b} h => Classical.byContradiction fun z => h (so.off z)
  have up : ∀ {b : Addr} {o : Obj}, s.heap.get? b = some o → H b = none → (hidT s.heap H).get? b = some o := fun e n => hidT_get e n
  have dic : ∀ {b : Addr} {m : Str → Option Value}, s.heap.Ns b m → (hidT s.heap H).Ns b m := fun {b m} ⟨o, es, ep, e, d, r⟩ => ⟨o, es, ep, up e (Classical.byContradiction fun z => by
    have e' := hA z
    subst e'
    rw [ho] at e
    cases e
    cases d), d, r⟩
  have KB : K.In (hidT s.heap H) := fun b o e => up (KX b o e) (Classical.byContradiction fun z => by
    have e' := hA z
    subst e'
    rw [hK z] at e
    cases e)
  have md : Mod K mg (hidT s.heap H) := ⟨KB, dic hns, ⟨mb, dic hb, hbb⟩, let ⟨mc, h1, h2⟩ := hlim; ⟨mc, dic h1, h2⟩⟩
  obtain ⟨g, eP, eW, eK, eM, eB, F⟩ := gm (hidT s.heap H)
  have e0 : Env0 g.P g.w g.K g.mg g.base callerA [] s H := by
    rw [eP, eW, eK, eM, eB]
    exact ⟨rfl, md, fun b o e => of_hidT e, Nat.le_of_eq (hidT_size _ _), trivial, (fun b z => by cases z), hok, .of_eq hg⟩
  have Fu' : Fun g.K "law" "law" (topS 78) fa fd := by rw [eK]; exact Fu
  have run := law_mine F Fu' hl e0 (hm g eK)
  rw [eP, eW] at run
  refine codeAny_mono run fun r s' z => ?_
  obtain ⟨rfl, H', os, ba, un, ho'⟩ := z
  refine ⟨rfl, OldK.of_keep fun b o e => ?_, os, ba⟩
  by_cases q : H b = none
  · exact un.keep b o e q (fun z => by cases z) (by simp)
  · have e' := hA q
    subst e'
    rcases so.at_ with z | z
    · rw [z] at q
      exact absurd rfl q
    · have hz : H b = some (.frz { cls := .type "list", data := .seq vs.toArray } (.lst (ns.map V.int))) := by rw [z]; exact upd_same
      have z2 := un.frzs b _ _ hz
      obtain ⟨x1, _⟩ := ho' b _ z2
      rw [ho] at e
      cases e
      exact x1
theorem walk_mine {l : PySem.W.OpenLaw} {q : Program} {loose : List Str} {XP : (Str → Option Value) → Heap → Prop} {YP : World → Heap → Prop} {d : DefRec} {K : Params → PySem.W.Frag} (hn : l.most = some 63) (hdf : d.params.defaults = [])
    (hY : ∀ (w : World) (h : Heap), YP w h → (K w.params).In h)
    (F : ∀ (w : World) (mg : Str → Option Value) (fa : Addr) (h : Heap), (K w.params).In h → h.Ns mainGlobals mg → mg d.name = some (.ref fa) →
      ∃ fd : FuncData, Fun (K w.params) "law" "law" (topS 78) fa fd ∧ ∀ base : Heap, ∃ g : Gm, g.P = l.prog ∧ g.w = w ∧ g.K = K w.params ∧ g.mg = mg ∧ g.base = base ∧ Fs g) :
    PySem.W.WalkO q loose XP YP l.row.toRowW d [] (fun f vs => PySem.call f vs) := by
  refine Att.attach_call hn hdf fun w s0 s mg mb fa o pm cd doc a vs ns G Y _ _ _ hmg ho hi hl hg => ?_
  have KX := hY w _ Y
  obtain ⟨fd, Fu, gm⟩ := F w mg fa _ KX G.T.g hmg
  have rv := vals_ints hi
  have lv := hi.length
  have big : ns.length ≤ sizeLine := Nat.le_trans hl (by decide)
  cases hk : (K w.params).lookup a with
  | some o =>
    have e := KX a o hk
    rw [ho] at e
    cases e
    exact law_at KX G.T.g G.T.b G.T.builtins G.T.nolimit hg ho hl Fu gm (H := emp) ⟨.inl rfl⟩ (fun b u z => by cases z) (fun z => absurd rfl z) fun g eK I Fr dd => by
      rw [eK]
      exact .inr ⟨_, vs.toArray, _, hk, rfl, rfl, rfl, by rw [List.size_toArray, lv]; exact big, by simpa using rv⟩
  | none =>
    refine law_at KX G.T.g G.T.b G.T.builtins G.T.nolimit hg ho hl Fu gm (H := upd emp a (.frz { cls := .type "list", data := .seq vs.toArray } (.lst (ns.map V.int)))) ⟨.inr rfl⟩ (fun b u z => ?_) (fun _ => hk) fun g eK I Fr dd => .inl (.inr ⟨_, j3_M dd upd_same⟩)
    by_cases hb : b = a
    · subst hb
      rw [upd_same] at z
      cases z
      exact ⟨ho, by rw [List.length_map]; exact big, vs, _, rv, ho⟩
    · rw [upd_ne hb] at z
      cases z
end Wk
end
section
set_option maxRecDepth 100000
set_option maxHeartbeats 1000000
/-! What the top has written, joined. -/
namespace Wk
open PySem L2 Wr PyProof.Rows
theorem all_mk {P : Program} {w : World} {K : PySem.W.Frag} {h : Heap} {mg : Str → Option Value} {fa C f0 f1 f2 f3 f4 f5 f6 f7 f8 f9 f10 f11 f12 f13 f14 f15 f16 f17 f18 f19 f20 f21 f22 f23 f24 f25 f26 f27 f28 f29 f30 f31 f32 f33 f34 f35 f36 f37 f38 f39 f40 f41 f42 f43 f44 f45 f46 f47 f48 f49 f50 f51 f52 f53 f54 f55 f56 f57 : Addr} (X : K.In h) (G : h.Ns mainGlobals mg) (hfa : mg "law" = some (.ref fa))
    {od0 an0 od1 an1 od2 an2 od3 an3 od4 an4 od5 an5 od6 an6 od7 an7 od8 an8 od9 an9 od10 an10 od11 an11 od12 an12 od13 an13 od14 an14 od15 an15 od16 an16 od17 an17 od18 an18 od19 an19 od20 an20 od21 an21 od22 an22 od23 an23 od24 an24 od25 an25 od26 an26 od27 an27 od28 an28 od29 an29 od30 an30 od31 an31 od32 an32 od33 an33 od34 an34 od35 an35 od36 an36 od37 an37 od38 an38 od39 an39 od40 an40 od41 an41 od42 an42 od43 an43 od44 an44 od45 an45 od46 an46 od47 an47 od48 an48 od49 an49 od50 an50 od51 an51 od52 an52 od53 an53 od54 an54 od55 an55 od56 an56 od57 an57 : Option Addr} {sl0 sl1 sl2 sl3 sl4 sl5 sl6 sl7 sl8 sl9 sl10 sl11 sl12 sl13 sl14 sl15 sl16 sl17 sl18 sl19 sl20 sl21 sl22 sl23 sl24 sl25 sl26 sl27 sl28 sl29 sl30 sl31 sl32 sl33 sl34 sl35 sl36 sl37 sl38 sl39 sl40 sl41 sl42 sl43 sl44 sl45 sl46 sl47 sl48 sl49 sl50 sl51 sl52 sl53 sl54 sl55 sl56 sl57 : Array (Option Value)} {oc0 kV0 dc0 pm0 cd0 ct0 oc1 kV1 dc1 pm1 cd1 ct1 oc2 kV2 dc2 pm2 cd2 ct2 oc3 kV3 dc3 pm3 cd3 ct3 oc4 kV4 dc4 pm4 cd4 ct4 oc5 kV5 dc5 pm5 cd5 ct5 oc6 kV6 dc6 pm6 cd6 ct6 oc7 kV7 dc7 pm7 cd7 ct7 oc8 kV8 dc8 pm8 cd8 ct8 oc9 kV9 dc9 pm9 cd9 ct9 oc10 kV10 dc10 pm10 cd10 ct10 oc11 kV11 dc11 pm11 cd11 ct11 oc12 kV12 dc12 pm12 cd12 ct12 oc13 kV13 dc13 pm13 cd13 ct13 oc14 kV14 dc14 pm14 cd14 ct14 oc15 kV15 dc15 pm15 cd15 ct15 oc16 kV16 dc16 pm16 cd16 ct16 oc17 kV17 dc17 pm17 cd17 ct17 oc18 kV18 dc18 pm18 cd18 ct18 oc19 kV19 dc19 pm19 cd19 ct19 oc20 kV20 dc20 pm20 cd20 ct20 oc21 kV21 dc21 pm21 cd21 ct21 oc22 kV22 dc22 pm22 cd22 ct22 oc23 kV23 dc23 pm23 cd23 ct23 oc24 kV24 dc24 pm24 cd24 ct24 oc25 kV25 dc25 pm25 cd25 ct25 oc26 kV26 dc26 pm26 cd26 ct26 oc27 kV27 dc27 pm27 cd27 ct27 oc28 kV28 dc28 pm28 cd28 ct28 oc29 kV29 dc29 pm29 cd29 ct29 oc30 kV30 dc30 pm30 cd30 ct30 oc31 kV31 dc31 pm31 cd31 ct31 oc32 kV32 dc32 pm32 cd32 ct32 oc33 kV33 dc33 pm33 cd33 ct33 oc34 kV34 dc34 pm34 cd34 ct34 oc35 kV35 dc35 pm35 cd35 ct35 oc36 kV36 dc36 pm36 cd36 ct36 oc37 kV37 dc37 pm37 cd37 ct37 oc38 kV38 dc38 pm38 cd38 ct38 oc39 kV39 dc39 pm39 cd39 ct39 oc40 kV40 dc40 pm40 cd40 ct40 oc41 kV41 dc41 pm41 cd41 ct41 oc42 kV42 dc42 pm42 cd42 ct42 oc43 kV43 dc43 pm43 cd43 ct43 oc44 kV44 dc44 pm44 cd44 ct44 oc45 kV45 dc45 pm45 cd45 ct45 oc46 kV46 dc46 pm46 cd46 ct46 oc47 kV47 dc47 pm47 cd47 ct47 oc48 kV48 dc48 pm48 cd48 ct48 oc49 kV49 dc49 pm49 cd49 ct49 oc50 kV50 dc50 pm50 cd50 ct50 oc51 kV51 dc51 pm51 cd51 ct51 oc52 kV52 dc52 pm52 cd52 ct52 oc53 kV53 dc53 pm53 cd53 ct53 oc54 kV54 dc54 pm54 cd54 ct54 oc55 kV55 dc55 pm55 cd55 ct55 oc56 kV56 dc56 pm56 cd56 ct56 oc57 kV57 dc57 pm57 cd57 ct57 : Value} {tP tT tH tL : Tok}
    (a0 : PySem.W.nsIn K mainGlobals "is_integer" = some (some (.ref f0))) (l0 : K.lookup f0 = some ⟨oc0, od0, .func (PySem.W.fnOf "is_integer" "is_integer" (defArgs (topS 16)) (defBody (topS 16)) (defScope (topS 16)) .none kV0 dc0 pm0 an0 cd0 ct0), sl0⟩) (c0 : PySem.W.codeIn K cd0 "is_integer" = true) (k0 : PySem.W.keepIn K (.ref f0) = true)
    (a1 : PySem.W.nsIn K mainGlobals "is_between" = some (some (.ref f1))) (l1 : K.lookup f1 = some ⟨oc1, od1, .func (PySem.W.fnOf "is_between" "is_between" (defArgs (topS 17)) (defBody (topS 17)) (defScope (topS 17)) .none kV1 dc1 pm1 an1 cd1 ct1), sl1⟩) (c1 : PySem.W.codeIn K cd1 "is_between" = true) (k1 : PySem.W.keepIn K (.ref f1) = true)
    (a2 : PySem.W.nsIn K mainGlobals "are_letters" = some (some (.ref f2))) (l2 : K.lookup f2 = some ⟨oc2, od2, .func (PySem.W.fnOf "are_letters" "are_letters" (defArgs (topS 20)) (defBody (topS 20)) (defScope (topS 20)) .none kV2 dc2 pm2 an2 cd2 ct2), sl2⟩) (c2 : PySem.W.codeIn K cd2 "are_letters" = true) (k2 : PySem.W.keepIn K (.ref f2) = true)
    (a3 : PySem.W.nsIn K mainGlobals "are_places" = some (some (.ref f3))) (l3 : K.lookup f3 = some ⟨oc3, od3, .func (PySem.W.fnOf "are_places" "are_places" (defArgs (topS 21)) (defBody (topS 21)) (defScope (topS 21)) .none kV3 dc3 pm3 an3 cd3 ct3), sl3⟩) (c3 : PySem.W.codeIn K cd3 "are_places" = true) (k3 : PySem.W.keepIn K (.ref f3) = true)
    (a4 : PySem.W.nsIn K mainGlobals "is_tie" = some (some (.ref f4))) (l4 : K.lookup f4 = some ⟨oc4, od4, .func (PySem.W.fnOf "is_tie" "is_tie" (defArgs (topS 22)) (defBody (topS 22)) (defScope (topS 22)) .none kV4 dc4 pm4 an4 cd4 ct4), sl4⟩) (c4 : PySem.W.codeIn K cd4 "is_tie" = true) (k4 : PySem.W.keepIn K (.ref f4) = true)
    (a5 : PySem.W.nsIn K mainGlobals "wrong_tie" = some (some (.ref f5))) (l5 : K.lookup f5 = some ⟨oc5, od5, .func (PySem.W.fnOf "wrong_tie" "wrong_tie" (defArgs (topS 23)) (defBody (topS 23)) (defScope (topS 23)) .none kV5 dc5 pm5 an5 cd5 ct5), sl5⟩) (c5 : PySem.W.codeIn K cd5 "wrong_tie" = true) (k5 : PySem.W.keepIn K (.ref f5) = true)
    (a6 : PySem.W.nsIn K mainGlobals "check_web" = some (some (.ref f6))) (l6 : K.lookup f6 = some ⟨oc6, od6, .func (PySem.W.fnOf "check_web" "check_web" (defArgs (topS 25)) (defBody (topS 25)) (defScope (topS 25)) .none kV6 dc6 pm6 an6 cd6 ct6), sl6⟩) (c6 : PySem.W.codeIn K cd6 "check_web" = true) (k6 : PySem.W.keepIn K (.ref f6) = true)
    (a7 : PySem.W.nsIn K mainGlobals "is_place" = some (some (.ref f7))) (l7 : K.lookup f7 = some ⟨oc7, od7, .func (PySem.W.fnOf "is_place" "is_place" (defArgs (topS 26)) (defBody (topS 26)) (defScope (topS 26)) .none kV7 dc7 pm7 an7 cd7 ct7), sl7⟩) (c7 : PySem.W.codeIn K cd7 "is_place" = true) (k7 : PySem.W.keepIn K (.ref f7) = true)
    (a8 : PySem.W.nsIn K mainGlobals "check_place" = some (some (.ref f8))) (l8 : K.lookup f8 = some ⟨oc8, od8, .func (PySem.W.fnOf "check_place" "check_place" (defArgs (topS 27)) (defBody (topS 27)) (defScope (topS 27)) .none kV8 dc8 pm8 an8 cd8 ct8), sl8⟩) (c8 : PySem.W.codeIn K cd8 "check_place" = true) (k8 : PySem.W.keepIn K (.ref f8) = true)
    (a9 : PySem.W.nsIn K mainGlobals "herds_of" = some (some (.ref f9))) (l9 : K.lookup f9 = some ⟨oc9, od9, .func (PySem.W.fnOf "herds_of" "herds_of" (defArgs (topS 28)) (defBody (topS 28)) (defScope (topS 28)) .none kV9 dc9 pm9 an9 cd9 ct9), sl9⟩) (c9 : PySem.W.codeIn K cd9 "herds_of" = true) (k9 : PySem.W.keepIn K (.ref f9) = true)
    (a10 : PySem.W.nsIn K mainGlobals "is_one" = some (some (.ref f10))) (l10 : K.lookup f10 = some ⟨oc10, od10, .func (PySem.W.fnOf "is_one" "is_one" (defArgs (topS 29)) (defBody (topS 29)) (defScope (topS 29)) .none kV10 dc10 pm10 an10 cd10 ct10), sl10⟩) (c10 : PySem.W.codeIn K cd10 "is_one" = true) (k10 : PySem.W.keepIn K (.ref f10) = true)
    (a11 : PySem.W.nsIn K mainGlobals "every_tie" = some (some (.ref f11))) (l11 : K.lookup f11 = some ⟨oc11, od11, .func (PySem.W.fnOf "every_tie" "every_tie" (defArgs (topS 31)) (defBody (topS 31)) (defScope (topS 31)) .none kV11 dc11 pm11 an11 cd11 ct11), sl11⟩) (c11 : PySem.W.codeIn K cd11 "every_tie" = true) (k11 : PySem.W.keepIn K (.ref f11) = true)
    (a12 : PySem.W.nsIn K mainGlobals "ties_of" = some (some (.ref f12))) (l12 : K.lookup f12 = some ⟨oc12, od12, .func (PySem.W.fnOf "ties_of" "ties_of" (defArgs (topS 32)) (defBody (topS 32)) (defScope (topS 32)) .none kV12 dc12 pm12 an12 cd12 ct12), sl12⟩) (c12 : PySem.W.codeIn K cd12 "ties_of" = true) (k12 : PySem.W.keepIn K (.ref f12) = true)
    (a13 : PySem.W.nsIn K mainGlobals "pieces_of" = some (some (.ref f13))) (l13 : K.lookup f13 = some ⟨oc13, od13, .func (PySem.W.fnOf "pieces_of" "pieces_of" (defArgs (topS 33)) (defBody (topS 33)) (defScope (topS 33)) .none kV13 dc13 pm13 an13 cd13 ct13), sl13⟩) (c13 : PySem.W.codeIn K cd13 "pieces_of" = true) (k13 : PySem.W.keepIn K (.ref f13) = true)
    (a14 : PySem.W.nsIn K mainGlobals "rank_of" = some (some (.ref f14))) (l14 : K.lookup f14 = some ⟨oc14, od14, .func (PySem.W.fnOf "rank_of" "rank_of" (defArgs (topS 34)) (defBody (topS 34)) (defScope (topS 34)) .none kV14 dc14 pm14 an14 cd14 ct14), sl14⟩) (c14 : PySem.W.codeIn K cd14 "rank_of" = true) (k14 : PySem.W.keepIn K (.ref f14) = true)
    (a15 : PySem.W.nsIn K mainGlobals "spare_of" = some (some (.ref f15))) (l15 : K.lookup f15 = some ⟨oc15, od15, .func (PySem.W.fnOf "spare_of" "spare_of" (defArgs (topS 35)) (defBody (topS 35)) (defScope (topS 35)) .none kV15 dc15 pm15 an15 cd15 ct15), sl15⟩) (c15 : PySem.W.codeIn K cd15 "spare_of" = true) (k15 : PySem.W.keepIn K (.ref f15) = true)
    (a16 : PySem.W.nsIn K mainGlobals "is_free_lot" = some (some (.ref f16))) (l16 : K.lookup f16 = some ⟨oc16, od16, .func (PySem.W.fnOf "is_free_lot" "is_free_lot" (defArgs (topS 36)) (defBody (topS 36)) (defScope (topS 36)) .none kV16 dc16 pm16 an16 cd16 ct16), sl16⟩) (c16 : PySem.W.codeIn K cd16 "is_free_lot" = true) (k16 : PySem.W.keepIn K (.ref f16) = true)
    (a17 : PySem.W.nsIn K mainGlobals "every_lot" = some (some (.ref f17))) (l17 : K.lookup f17 = some ⟨oc17, od17, .func (PySem.W.fnOf "every_lot" "every_lot" (defArgs (topS 37)) (defBody (topS 37)) (defScope (topS 37)) .none kV17 dc17 pm17 an17 cd17 ct17), sl17⟩) (c17 : PySem.W.codeIn K cd17 "every_lot" = true) (k17 : PySem.W.keepIn K (.ref f17) = true)
    (a18 : PySem.W.nsIn K mainGlobals "every_tree" = some (some (.ref f18))) (l18 : K.lookup f18 = some ⟨oc18, od18, .func (PySem.W.fnOf "every_tree" "every_tree" (defArgs (topS 38)) (defBody (topS 38)) (defScope (topS 38)) .none kV18 dc18 pm18 an18 cd18 ct18), sl18⟩) (c18 : PySem.W.codeIn K cd18 "every_tree" = true) (k18 : PySem.W.keepIn K (.ref f18) = true)
    (a19 : PySem.W.nsIn K mainGlobals "check_heap" = some (some (.ref f19))) (l19 : K.lookup f19 = some ⟨oc19, od19, .func (PySem.W.fnOf "check_heap" "check_heap" (defArgs (topS 40)) (defBody (topS 40)) (defScope (topS 40)) .none kV19 dc19 pm19 an19 cd19 ct19), sl19⟩) (c19 : PySem.W.codeIn K cd19 "check_heap" = true) (k19 : PySem.W.keepIn K (.ref f19) = true)
    (a20 : PySem.W.nsIn K mainGlobals "check_heaped" = some (some (.ref f20))) (l20 : K.lookup f20 = some ⟨oc20, od20, .func (PySem.W.fnOf "check_heaped" "check_heaped" (defArgs (topS 41)) (defBody (topS 41)) (defScope (topS 41)) .none kV20 dc20 pm20 an20 cd20 ct20), sl20⟩) (c20 : PySem.W.codeIn K cd20 "check_heaped" = true) (k20 : PySem.W.keepIn K (.ref f20) = true)
    (a21 : PySem.W.nsIn K mainGlobals "ties_at" = some (some (.ref f21))) (l21 : K.lookup f21 = some ⟨oc21, od21, .func (PySem.W.fnOf "ties_at" "ties_at" (defArgs (topS 42)) (defBody (topS 42)) (defScope (topS 42)) .none kV21 dc21 pm21 an21 cd21 ct21), sl21⟩) (c21 : PySem.W.codeIn K cd21 "ties_at" = true) (k21 : PySem.W.keepIn K (.ref f21) = true)
    (a22 : PySem.W.nsIn K mainGlobals "burnt" = some (some (.ref f22))) (l22 : K.lookup f22 = some ⟨oc22, od22, .func (PySem.W.fnOf "burnt" "burnt" (defArgs (topS 43)) (defBody (topS 43)) (defScope (topS 43)) .none kV22 dc22 pm22 an22 cd22 ct22), sl22⟩) (c22 : PySem.W.codeIn K cd22 "burnt" = true) (k22 : PySem.W.keepIn K (.ref f22) = true)
    (a23 : PySem.W.nsIn K mainGlobals "check_both" = some (some (.ref f23))) (l23 : K.lookup f23 = some ⟨oc23, od23, .func (PySem.W.fnOf "check_both" "check_both" (defArgs (topS 44)) (defBody (topS 44)) (defScope (topS 44)) .none kV23 dc23 pm23 an23 cd23 ct23), sl23⟩) (c23 : PySem.W.codeIn K cd23 "check_both" = true) (k23 : PySem.W.keepIn K (.ref f23) = true)
    (a24 : PySem.W.nsIn K mainGlobals "is_rich" = some (some (.ref f24))) (l24 : K.lookup f24 = some ⟨oc24, od24, .func (PySem.W.fnOf "is_rich" "is_rich" (defArgs (topS 45)) (defBody (topS 45)) (defScope (topS 45)) .none kV24 dc24 pm24 an24 cd24 ct24), sl24⟩) (c24 : PySem.W.codeIn K cd24 "is_rich" = true) (k24 : PySem.W.keepIn K (.ref f24) = true)
    (a25 : PySem.W.nsIn K mainGlobals "check_rich" = some (some (.ref f25))) (l25 : K.lookup f25 = some ⟨oc25, od25, .func (PySem.W.fnOf "check_rich" "check_rich" (defArgs (topS 46)) (defBody (topS 46)) (defScope (topS 46)) .none kV25 dc25 pm25 an25 cd25 ct25), sl25⟩) (c25 : PySem.W.codeIn K cd25 "check_rich" = true) (k25 : PySem.W.keepIn K (.ref f25) = true)
    (a26 : PySem.W.nsIn K mainGlobals "lit_by" = some (some (.ref f26))) (l26 : K.lookup f26 = some ⟨oc26, od26, .func (PySem.W.fnOf "lit_by" "lit_by" (defArgs (topS 47)) (defBody (topS 47)) (defScope (topS 47)) .none kV26 dc26 pm26 an26 cd26 ct26), sl26⟩) (c26 : PySem.W.codeIn K cd26 "lit_by" = true) (k26 : PySem.W.keepIn K (.ref f26) = true)
    (a27 : PySem.W.nsIn K mainGlobals "bare" = some (some (.ref f27))) (l27 : K.lookup f27 = some ⟨oc27, od27, .func (PySem.W.fnOf "bare" "bare" (defArgs (topS 49)) (defBody (topS 49)) (defScope (topS 49)) .none kV27 dc27 pm27 an27 cd27 ct27), sl27⟩) (c27 : PySem.W.codeIn K cd27 "bare" = true) (k27 : PySem.W.keepIn K (.ref f27) = true)
    (a28 : PySem.W.nsIn K mainGlobals "mirrored" = some (some (.ref f28))) (l28 : K.lookup f28 = some ⟨oc28, od28, .func (PySem.W.fnOf "mirrored" "mirrored" (defArgs (topS 50)) (defBody (topS 50)) (defScope (topS 50)) .none kV28 dc28 pm28 an28 cd28 ct28), sl28⟩) (c28 : PySem.W.codeIn K cd28 "mirrored" = true) (k28 : PySem.W.keepIn K (.ref f28) = true)
    (a29 : PySem.W.nsIn K mainGlobals "does_last" = some (some (.ref f29))) (l29 : K.lookup f29 = some ⟨oc29, od29, .func (PySem.W.fnOf "does_last" "does_last" (defArgs (topS 51)) (defBody (topS 51)) (defScope (topS 51)) .none kV29 dc29 pm29 an29 cd29 ct29), sl29⟩) (c29 : PySem.W.codeIn K cd29 "does_last" = true) (k29 : PySem.W.keepIn K (.ref f29) = true)
    (a30 : PySem.W.nsIn K mainGlobals "is_lasting" = some (some (.ref f30))) (l30 : K.lookup f30 = some ⟨oc30, od30, .func (PySem.W.fnOf "is_lasting" "is_lasting" (defArgs (topS 52)) (defBody (topS 52)) (defScope (topS 52)) .none kV30 dc30 pm30 an30 cd30 ct30), sl30⟩) (c30 : PySem.W.codeIn K cd30 "is_lasting" = true) (k30 : PySem.W.keepIn K (.ref f30) = true)
    (a31 : PySem.W.nsIn K mainGlobals "check_bank" = some (some (.ref f31))) (l31 : K.lookup f31 = some ⟨oc31, od31, .func (PySem.W.fnOf "check_bank" "check_bank" (defArgs (topS 53)) (defBody (topS 53)) (defScope (topS 53)) .none kV31 dc31 pm31 an31 cd31 ct31), sl31⟩) (c31 : PySem.W.codeIn K cd31 "check_bank" = true) (k31 : PySem.W.keepIn K (.ref f31) = true)
    (a32 : PySem.W.nsIn K mainGlobals "lasting_heaps" = some (some (.ref f32))) (l32 : K.lookup f32 = some ⟨oc32, od32, .func (PySem.W.fnOf "lasting_heaps" "lasting_heaps" (defArgs (topS 54)) (defBody (topS 54)) (defScope (topS 54)) .none kV32 dc32 pm32 an32 cd32 ct32), sl32⟩) (c32 : PySem.W.codeIn K cd32 "lasting_heaps" = true) (k32 : PySem.W.keepIn K (.ref f32) = true)
    (a33 : PySem.W.nsIn K mainGlobals "check_lasting" = some (some (.ref f33))) (l33 : K.lookup f33 = some ⟨oc33, od33, .func (PySem.W.fnOf "check_lasting" "check_lasting" (defArgs (topS 55)) (defBody (topS 55)) (defScope (topS 55)) .none kV33 dc33 pm33 an33 cd33 ct33), sl33⟩) (c33 : PySem.W.codeIn K cd33 "check_lasting" = true) (k33 : PySem.W.keepIn K (.ref f33) = true)
    (a34 : PySem.W.nsIn K mainGlobals "level_of" = some (some (.ref f34))) (l34 : K.lookup f34 = some ⟨oc34, od34, .func (PySem.W.fnOf "level_of" "level_of" (defArgs (topS 56)) (defBody (topS 56)) (defScope (topS 56)) .none kV34 dc34 pm34 an34 cd34 ct34), sl34⟩) (c34 : PySem.W.codeIn K cd34 "level_of" = true) (k34 : PySem.W.keepIn K (.ref f34) = true)
    (a35 : PySem.W.nsIn K mainGlobals "level" = some (some (.ref f35))) (l35 : K.lookup f35 = some ⟨oc35, od35, .func (PySem.W.fnOf "level" "level" (defArgs (topS 57)) (defBody (topS 57)) (defScope (topS 57)) .none kV35 dc35 pm35 an35 cd35 ct35), sl35⟩) (c35 : PySem.W.codeIn K cd35 "level" = true) (k35 : PySem.W.keepIn K (.ref f35) = true)
    (a36 : PySem.W.nsIn K mainGlobals "_law_well" = some (some (.ref f36))) (l36 : K.lookup f36 = some ⟨oc36, od36, .func (PySem.W.fnOf "_law_well" "_law_well" (defArgs (topS 59)) (defBody (topS 59)) (defScope (topS 59)) .none kV36 dc36 pm36 an36 cd36 ct36), sl36⟩) (c36 : PySem.W.codeIn K cd36 "_law_well" = true) (k36 : PySem.W.keepIn K (.ref f36) = true)
    (a37 : PySem.W.nsIn K mainGlobals "_law_dip" = some (some (.ref f37))) (l37 : K.lookup f37 = some ⟨oc37, od37, .func (PySem.W.fnOf "_law_dip" "_law_dip" (defArgs (topS 60)) (defBody (topS 60)) (defScope (topS 60)) .none kV37 dc37 pm37 an37 cd37 ct37), sl37⟩) (c37 : PySem.W.codeIn K cd37 "_law_dip" = true) (k37 : PySem.W.keepIn K (.ref f37) = true)
    (a38 : PySem.W.nsIn K mainGlobals "_law_one_of" = some (some (.ref f38))) (l38 : K.lookup f38 = some ⟨oc38, od38, .func (PySem.W.fnOf "_law_one_of" "_law_one_of" (defArgs (topS 61)) (defBody (topS 61)) (defScope (topS 61)) .none kV38 dc38 pm38 an38 cd38 ct38), sl38⟩) (c38 : PySem.W.codeIn K cd38 "_law_one_of" = true) (k38 : PySem.W.keepIn K (.ref f38) = true)
    (a39 : PySem.W.nsIn K mainGlobals "_law_mixed" = some (some (.ref f39))) (l39 : K.lookup f39 = some ⟨oc39, od39, .func (PySem.W.fnOf "_law_mixed" "_law_mixed" (defArgs (topS 62)) (defBody (topS 62)) (defScope (topS 62)) .none kV39 dc39 pm39 an39 cd39 ct39), sl39⟩) (c39 : PySem.W.codeIn K cd39 "_law_mixed" = true) (k39 : PySem.W.keepIn K (.ref f39) = true)
    (a40 : PySem.W.nsIn K mainGlobals "_law_net" = some (some (.ref f40))) (l40 : K.lookup f40 = some ⟨oc40, od40, .func (PySem.W.fnOf "_law_net" "_law_net" (defArgs (topS 63)) (defBody (topS 63)) (defScope (topS 63)) .none kV40 dc40 pm40 an40 cd40 ct40), sl40⟩) (c40 : PySem.W.codeIn K cd40 "_law_net" = true) (k40 : PySem.W.keepIn K (.ref f40) = true)
    (a41 : PySem.W.nsIn K mainGlobals "_law_at" = some (some (.ref f41))) (l41 : K.lookup f41 = some ⟨oc41, od41, .func (PySem.W.fnOf "_law_at" "_law_at" (defArgs (topS 64)) (defBody (topS 64)) (defScope (topS 64)) .none kV41 dc41 pm41 an41 cd41 ct41), sl41⟩) (c41 : PySem.W.codeIn K cd41 "_law_at" = true) (k41 : PySem.W.keepIn K (.ref f41) = true)
    (a42 : PySem.W.nsIn K mainGlobals "_law_shared" = some (some (.ref f42))) (l42 : K.lookup f42 = some ⟨oc42, od42, .func (PySem.W.fnOf "_law_shared" "_law_shared" (defArgs (topS 65)) (defBody (topS 65)) (defScope (topS 65)) .none kV42 dc42 pm42 an42 cd42 ct42), sl42⟩) (c42 : PySem.W.codeIn K cd42 "_law_shared" = true) (k42 : PySem.W.keepIn K (.ref f42) = true)
    (a43 : PySem.W.nsIn K mainGlobals "_law_given" = some (some (.ref f43))) (l43 : K.lookup f43 = some ⟨oc43, od43, .func (PySem.W.fnOf "_law_given" "_law_given" (defArgs (topS 66)) (defBody (topS 66)) (defScope (topS 66)) .none kV43 dc43 pm43 an43 cd43 ct43), sl43⟩) (c43 : PySem.W.codeIn K cd43 "_law_given" = true) (k43 : PySem.W.keepIn K (.ref f43) = true)
    (a44 : PySem.W.nsIn K mainGlobals "_law_herds" = some (some (.ref f44))) (l44 : K.lookup f44 = some ⟨oc44, od44, .func (PySem.W.fnOf "_law_herds" "_law_herds" (defArgs (topS 67)) (defBody (topS 67)) (defScope (topS 67)) .none kV44 dc44 pm44 an44 cd44 ct44), sl44⟩) (c44 : PySem.W.codeIn K cd44 "_law_herds" = true) (k44 : PySem.W.keepIn K (.ref f44) = true)
    (a45 : PySem.W.nsIn K mainGlobals "_law_is_low" = some (some (.ref f45))) (l45 : K.lookup f45 = some ⟨oc45, od45, .func (PySem.W.fnOf "_law_is_low" "_law_is_low" (defArgs (topS 68)) (defBody (topS 68)) (defScope (topS 68)) .none kV45 dc45 pm45 an45 cd45 ct45), sl45⟩) (c45 : PySem.W.codeIn K cd45 "_law_is_low" = true) (k45 : PySem.W.keepIn K (.ref f45) = true)
    (a46 : PySem.W.nsIn K mainGlobals "_law_settled" = some (some (.ref f46))) (l46 : K.lookup f46 = some ⟨oc46, od46, .func (PySem.W.fnOf "_law_settled" "_law_settled" (defArgs (topS 69)) (defBody (topS 69)) (defScope (topS 69)) .none kV46 dc46 pm46 an46 cd46 ct46), sl46⟩) (c46 : PySem.W.codeIn K cd46 "_law_settled" = true) (k46 : PySem.W.keepIn K (.ref f46) = true)
    (a47 : PySem.W.nsIn K mainGlobals "_law_bare" = some (some (.ref f47))) (l47 : K.lookup f47 = some ⟨oc47, od47, .func (PySem.W.fnOf "_law_bare" "_law_bare" (defArgs (topS 70)) (defBody (topS 70)) (defScope (topS 70)) .none kV47 dc47 pm47 an47 cd47 ct47), sl47⟩) (c47 : PySem.W.codeIn K cd47 "_law_bare" = true) (k47 : PySem.W.keepIn K (.ref f47) = true)
    (a48 : PySem.W.nsIn K mainGlobals "_law_lasts" = some (some (.ref f48))) (l48 : K.lookup f48 = some ⟨oc48, od48, .func (PySem.W.fnOf "_law_lasts" "_law_lasts" (defArgs (topS 71)) (defBody (topS 71)) (defScope (topS 71)) .none kV48 dc48 pm48 an48 cd48 ct48), sl48⟩) (c48 : PySem.W.codeIn K cd48 "_law_lasts" = true) (k48 : PySem.W.keepIn K (.ref f48) = true)
    (a49 : PySem.W.nsIn K mainGlobals "_law_stays" = some (some (.ref f49))) (l49 : K.lookup f49 = some ⟨oc49, od49, .func (PySem.W.fnOf "_law_stays" "_law_stays" (defArgs (topS 72)) (defBody (topS 72)) (defScope (topS 72)) .none kV49 dc49 pm49 an49 cd49 ct49), sl49⟩) (c49 : PySem.W.codeIn K cd49 "_law_stays" = true) (k49 : PySem.W.keepIn K (.ref f49) = true)
    (a50 : PySem.W.nsIn K mainGlobals "_law_pile" = some (some (.ref f50))) (l50 : K.lookup f50 = some ⟨oc50, od50, .func (PySem.W.fnOf "_law_pile" "_law_pile" (defArgs (topS 73)) (defBody (topS 73)) (defScope (topS 73)) .none kV50 dc50 pm50 an50 cd50 ct50), sl50⟩) (c50 : PySem.W.codeIn K cd50 "_law_pile" = true) (k50 : PySem.W.keepIn K (.ref f50) = true)
    (a51 : PySem.W.nsIn K mainGlobals "_law_joined" = some (some (.ref f51))) (l51 : K.lookup f51 = some ⟨oc51, od51, .func (PySem.W.fnOf "_law_joined" "_law_joined" (defArgs (topS 74)) (defBody (topS 74)) (defScope (topS 74)) .none kV51 dc51 pm51 an51 cd51 ct51), sl51⟩) (c51 : PySem.W.codeIn K cd51 "_law_joined" = true) (k51 : PySem.W.keepIn K (.ref f51) = true)
    (a52 : PySem.W.nsIn K mainGlobals "_law_trees" = some (some (.ref f52))) (l52 : K.lookup f52 = some ⟨oc52, od52, .func (PySem.W.fnOf "_law_trees" "_law_trees" (defArgs (topS 75)) (defBody (topS 75)) (defScope (topS 75)) .none kV52 dc52 pm52 an52 cd52 ct52), sl52⟩) (c52 : PySem.W.codeIn K cd52 "_law_trees" = true) (k52 : PySem.W.keepIn K (.ref f52) = true)
    (a53 : PySem.W.nsIn K mainGlobals "_law_late" = some (some (.ref f53))) (l53 : K.lookup f53 = some ⟨oc53, od53, .func (PySem.W.fnOf "_law_late" "_law_late" (defArgs (topS 76)) (defBody (topS 76)) (defScope (topS 76)) .none kV53 dc53 pm53 an53 cd53 ct53), sl53⟩) (c53 : PySem.W.codeIn K cd53 "_law_late" = true) (k53 : PySem.W.keepIn K (.ref f53) = true)
    (a54 : PySem.W.nsIn K mainGlobals "_law_right" = some (some (.ref f54))) (l54 : K.lookup f54 = some ⟨oc54, od54, .func (PySem.W.fnOf "_law_right" "_law_right" (defArgs (topS 77)) (defBody (topS 77)) (defScope (topS 77)) .none kV54 dc54 pm54 an54 cd54 ct54), sl54⟩) (c54 : PySem.W.codeIn K cd54 "_law_right" = true) (k54 : PySem.W.keepIn K (.ref f54) = true)
    (a55 : PySem.W.nsIn K mainGlobals "law" = some (some (.ref f55))) (l55 : K.lookup f55 = some ⟨oc55, od55, .func (PySem.W.fnOf "law" "law" (defArgs (topS 78)) (defBody (topS 78)) (defScope (topS 78)) .none kV55 dc55 pm55 an55 cd55 ct55), sl55⟩) (c55 : PySem.W.codeIn K cd55 "law" = true) (k55 : PySem.W.keepIn K (.ref f55) = true)
    (a56 : PySem.W.findIn K (.ref C) "__init__" = some (some (.ref f56))) (i56 : PySem.W.isFn K (.ref f56) = true) (l56 : K.lookup f56 = some ⟨oc56, od56, .func (PySem.W.fnOf "__init__" "Web.__init__" (defArgs (webS 0)) (defBody (webS 0)) (defScope (webS 0)) .none kV56 dc56 pm56 an56 cd56 ct56), sl56⟩) (c56 : PySem.W.codeIn K cd56 "Web.__init__" = true) (k56 : PySem.W.keepIn K (.ref f56) = true)
    (a57 : PySem.W.findIn K (.ref C) "__len__" = some (some (.ref f57))) (i57 : PySem.W.isFn K (.ref f57) = true) (l57 : K.lookup f57 = some ⟨oc57, od57, .func (PySem.W.fnOf "__len__" "Web.__len__" (defArgs (webS 2)) (defBody (webS 2)) (defScope (webS 2)) .none kV57 dc57 pm57 an57 cd57 ct57), sl57⟩) (c57 : PySem.W.codeIn K cd57 "Web.__len__" = true) (k57 : PySem.W.keepIn K (.ref f57) = true)
    (aC : PySem.W.nsIn K mainGlobals "Web" = some (some (.ref C))) (pg : PySem.W.plainGet K C Str.empty = true) (hd : PySem.W.hasDictIn K C = true) (po : PySem.W.plainOver K C = true) (sa : PySem.W.findIn K (.ref C) "__setattr__" = some (some (.builtin "object.__setattr__"))) (mk : PySem.W.makesIn K C = true) (kc : PySem.W.keepIn K (.ref C) = true)
    (ha : PySem.W.findIn K (.ref C) "__class__" = some (some (.builtin "object.__class__"))) (hn : PySem.W.specialIn K (.builtin "object.__class__") "__get__" = some (some (.builtin "getset_descriptor.__get__"))) (htk : PySem.W.takesIn K (.builtin "object.__class__") = some true) (hm : PySem.W.mroIn K C (.type "object") = some true)
    (nP : PySem.W.findIn K (.ref C) "places" = some none) (nT : PySem.W.findIn K (.ref C) "ties" = some none)
    (mP : PySem.W.nsIn K mainGlobals "MOST_PLACES" = some (some (.int 7 tP))) (mT : PySem.W.nsIn K mainGlobals "MOST_TIES" = some (some (.int 11 tT))) (mH : PySem.W.nsIn K mainGlobals "MOST_HEAP" = some (some (.int 1000000 tH))) (mL : PySem.W.nsIn K mainGlobals "LETTERS" = some (some (.str "abcdefgh" tL)))
    (z_isinstance : PySem.W.nsIn K mainGlobals "isinstance" = some none)
    (z_len : PySem.W.nsIn K mainGlobals "len" = some none)
    (z_all : PySem.W.nsIn K mainGlobals "all" = some none)
    (z_any : PySem.W.nsIn K mainGlobals "any" = some none)
    (z_list : PySem.W.nsIn K mainGlobals "list" = some none)
    (z_sorted : PySem.W.nsIn K mainGlobals "sorted" = some none)
    (z_tuple : PySem.W.nsIn K mainGlobals "tuple" = some none)
    (z_range : PySem.W.nsIn K mainGlobals "range" = some none)
    (z_enumerate : PySem.W.nsIn K mainGlobals "enumerate" = some none)
    (z_zip : PySem.W.nsIn K mainGlobals "zip" = some none)
    (z_dict : PySem.W.nsIn K mainGlobals "dict" = some none)
    (z_min : PySem.W.nsIn K mainGlobals "min" = some none)
    (z_max : PySem.W.nsIn K mainGlobals "max" = some none)
    (z_sum : PySem.W.nsIn K mainGlobals "sum" = some none)
    (z_int : PySem.W.nsIn K mainGlobals "int" = some none)
    (z_str : PySem.W.nsIn K mainGlobals "str" = some none)
    (z_bool : PySem.W.nsIn K mainGlobals "bool" = some none)
    (z_abs : PySem.W.nsIn K mainGlobals "abs" = some none)
    (z_divmod : PySem.W.nsIn K mainGlobals "divmod" = some none)
    (z_repr : PySem.W.nsIn K mainGlobals "repr" = some none) :
    ∃ fd : FuncData, Fun K "law" "law" (topS 78) fa fd ∧ ∀ base : Heap, ∃ g : Gm, g.P = P ∧ g.w = w ∧ g.K = K ∧ g.mg = mg ∧ g.base = base ∧ Fs g := by
  have e := hfa.symm.trans (PySem.W.mg_of X G a55)
  cases e
  have F0 := fun_mk (st := topS 16) l0 c0 k0
  have F1 := fun_mk (st := topS 17) l1 c1 k1
  have F2 := fun_mk (st := topS 20) l2 c2 k2
  have F3 := fun_mk (st := topS 21) l3 c3 k3
  have F4 := fun_mk (st := topS 22) l4 c4 k4
  have F5 := fun_mk (st := topS 23) l5 c5 k5
  have F6 := fun_mk (st := topS 25) l6 c6 k6
  have F7 := fun_mk (st := topS 26) l7 c7 k7
  have F8 := fun_mk (st := topS 27) l8 c8 k8
  have F9 := fun_mk (st := topS 28) l9 c9 k9
  have F10 := fun_mk (st := topS 29) l10 c10 k10
  have F11 := fun_mk (st := topS 31) l11 c11 k11
  have F12 := fun_mk (st := topS 32) l12 c12 k12
  have F13 := fun_mk (st := topS 33) l13 c13 k13
  have F14 := fun_mk (st := topS 34) l14 c14 k14
  have F15 := fun_mk (st := topS 35) l15 c15 k15
  have F16 := fun_mk (st := topS 36) l16 c16 k16
  have F17 := fun_mk (st := topS 37) l17 c17 k17
  have F18 := fun_mk (st := topS 38) l18 c18 k18
  have F19 := fun_mk (st := topS 40) l19 c19 k19
  have F20 := fun_mk (st := topS 41) l20 c20 k20
  have F21 := fun_mk (st := topS 42) l21 c21 k21
  have F22 := fun_mk (st := topS 43) l22 c22 k22
  have F23 := fun_mk (st := topS 44) l23 c23 k23
  have F24 := fun_mk (st := topS 45) l24 c24 k24
  have F25 := fun_mk (st := topS 46) l25 c25 k25
  have F26 := fun_mk (st := topS 47) l26 c26 k26
  have F27 := fun_mk (st := topS 49) l27 c27 k27
  have F28 := fun_mk (st := topS 50) l28 c28 k28
  have F29 := fun_mk (st := topS 51) l29 c29 k29
  have F30 := fun_mk (st := topS 52) l30 c30 k30
  have F31 := fun_mk (st := topS 53) l31 c31 k31
  have F32 := fun_mk (st := topS 54) l32 c32 k32
  have F33 := fun_mk (st := topS 55) l33 c33 k33
  have F34 := fun_mk (st := topS 56) l34 c34 k34
  have F35 := fun_mk (st := topS 57) l35 c35 k35
  have F36 := fun_mk (st := topS 59) l36 c36 k36
  have F37 := fun_mk (st := topS 60) l37 c37 k37
  have F38 := fun_mk (st := topS 61) l38 c38 k38
  have F39 := fun_mk (st := topS 62) l39 c39 k39
  have F40 := fun_mk (st := topS 63) l40 c40 k40
  have F41 := fun_mk (st := topS 64) l41 c41 k41
  have F42 := fun_mk (st := topS 65) l42 c42 k42
  have F43 := fun_mk (st := topS 66) l43 c43 k43
  have F44 := fun_mk (st := topS 67) l44 c44 k44
  have F45 := fun_mk (st := topS 68) l45 c45 k45
  have F46 := fun_mk (st := topS 69) l46 c46 k46
  have F47 := fun_mk (st := topS 70) l47 c47 k47
  have F48 := fun_mk (st := topS 71) l48 c48 k48
  have F49 := fun_mk (st := topS 72) l49 c49 k49
  have F50 := fun_mk (st := topS 73) l50 c50 k50
  have F51 := fun_mk (st := topS 74) l51 c51 k51
  have F52 := fun_mk (st := topS 75) l52 c52 k52
  have F53 := fun_mk (st := topS 76) l53 c53 k53
  have F54 := fun_mk (st := topS 77) l54 c54 k54
  have F55 := fun_mk (st := topS 78) l55 c55 k55
  have F56 := fun_mk (st := webS 0) l56 c56 k56
  have F57 := fun_mk (st := webS 2) l57 c57 k57
  have blt : ∀ x ∈ bltNames, mg x = none := by
    intro x hx
    simp only [bltNames, List.mem_cons, List.not_mem_nil, or_false] at hx
    rcases hx with rfl | rfl | rfl | rfl | rfl | rfl | rfl | rfl | rfl | rfl | rfl | rfl | rfl | rfl | rfl | rfl | rfl | rfl | rfl | rfl
    · exact PySem.W.mg_none_of X G z_isinstance
    · exact PySem.W.mg_none_of X G z_len
    · exact PySem.W.mg_none_of X G z_all
    · exact PySem.W.mg_none_of X G z_any
    · exact PySem.W.mg_none_of X G z_list
    · exact PySem.W.mg_none_of X G z_sorted
    · exact PySem.W.mg_none_of X G z_tuple
    · exact PySem.W.mg_none_of X G z_range
    · exact PySem.W.mg_none_of X G z_enumerate
    · exact PySem.W.mg_none_of X G z_zip
    · exact PySem.W.mg_none_of X G z_dict
    · exact PySem.W.mg_none_of X G z_min
    · exact PySem.W.mg_none_of X G z_max
    · exact PySem.W.mg_none_of X G z_sum
    · exact PySem.W.mg_none_of X G z_int
    · exact PySem.W.mg_none_of X G z_str
    · exact PySem.W.mg_none_of X G z_bool
    · exact PySem.W.mg_none_of X G z_abs
    · exact PySem.W.mg_none_of X G z_divmod
    · exact PySem.W.mg_none_of X G z_repr
  refine ⟨_, F55, fun base => ⟨⟨P, w, K, mg, base, C, f57, blt, ⟨⟨pg, hd, po, sa⟩, ha, hn, htk, hm, kit_self K C⟩, nP, nT, PySem.W.mg_of X G aC, ⟨_, PySem.W.mg_of X G mP⟩, ⟨_, PySem.W.mg_of X G mT⟩, ⟨_, PySem.W.mg_of X G mH⟩, ⟨_, PySem.W.mg_of X G mL⟩, a57, i57⟩, rfl, rfl, rfl, rfl, rfl, ?_⟩⟩
  exact ⟨⟨_, _, F0, PySem.W.mg_of X G a0⟩, ⟨_, _, F1, PySem.W.mg_of X G a1⟩, ⟨_, _, F2, PySem.W.mg_of X G a2⟩, ⟨_, _, F3, PySem.W.mg_of X G a3⟩, ⟨_, _, F4, PySem.W.mg_of X G a4⟩, ⟨_, _, F5, PySem.W.mg_of X G a5⟩, ⟨_, _, F56, ⟨mk, a56, i56, kc⟩⟩, ⟨_, F57⟩, ⟨_, _, F6, PySem.W.mg_of X G a6⟩, ⟨_, _, F7, PySem.W.mg_of X G a7⟩, ⟨_, _, F8, PySem.W.mg_of X G a8⟩, ⟨_, _, F9, PySem.W.mg_of X G a9⟩, ⟨_, _, F10, PySem.W.mg_of X G a10⟩, ⟨_, _, F11, PySem.W.mg_of X G a11⟩, ⟨_, _, F12, PySem.W.mg_of X G a12⟩, ⟨_, _, F13, PySem.W.mg_of X G a13⟩, ⟨_, _, F14, PySem.W.mg_of X G a14⟩, ⟨_, _, F15, PySem.W.mg_of X G a15⟩, ⟨_, _, F16, PySem.W.mg_of X G a16⟩, ⟨_, _, F17, PySem.W.mg_of X G a17⟩, ⟨_, _, F18, PySem.W.mg_of X G a18⟩, ⟨_, _, F19, PySem.W.mg_of X G a19⟩, ⟨_, _, F20, PySem.W.mg_of X G a20⟩, ⟨_, _, F21, PySem.W.mg_of X G a21⟩, ⟨_, _, F22, PySem.W.mg_of X G a22⟩, ⟨_, _, F23, PySem.W.mg_of X G a23⟩, ⟨_, _, F24, PySem.W.mg_of X G a24⟩, ⟨_, _, F25, PySem.W.mg_of X G a25⟩, ⟨_, _, F26, PySem.W.mg_of X G a26⟩, ⟨_, _, F27, PySem.W.mg_of X G a27⟩, ⟨_, _, F28, PySem.W.mg_of X G a28⟩, ⟨_, _, F29, PySem.W.mg_of X G a29⟩, ⟨_, _, F30, PySem.W.mg_of X G a30⟩, ⟨_, _, F31, PySem.W.mg_of X G a31⟩, ⟨_, _, F32, PySem.W.mg_of X G a32⟩, ⟨_, _, F33, PySem.W.mg_of X G a33⟩, ⟨_, _, F34, PySem.W.mg_of X G a34⟩, ⟨_, _, F35, PySem.W.mg_of X G a35⟩, ⟨_, _, F36, PySem.W.mg_of X G a36⟩, ⟨_, _, F37, PySem.W.mg_of X G a37⟩, ⟨_, _, F38, PySem.W.mg_of X G a38⟩, ⟨_, _, F39, PySem.W.mg_of X G a39⟩, ⟨_, _, F40, PySem.W.mg_of X G a40⟩, ⟨_, _, F41, PySem.W.mg_of X G a41⟩, ⟨_, _, F42, PySem.W.mg_of X G a42⟩, ⟨_, _, F43, PySem.W.mg_of X G a43⟩, ⟨_, _, F44, PySem.W.mg_of X G a44⟩, ⟨_, _, F45, PySem.W.mg_of X G a45⟩, ⟨_, _, F46, PySem.W.mg_of X G a46⟩, ⟨_, _, F47, PySem.W.mg_of X G a47⟩, ⟨_, _, F48, PySem.W.mg_of X G a48⟩, ⟨_, _, F49, PySem.W.mg_of X G a49⟩, ⟨_, _, F50, PySem.W.mg_of X G a50⟩, ⟨_, _, F51, PySem.W.mg_of X G a51⟩, ⟨_, _, F52, PySem.W.mg_of X G a52⟩, ⟨_, _, F53, PySem.W.mg_of X G a53⟩, ⟨_, _, F54, PySem.W.mg_of X G a54⟩⟩
end Wk
end
open PySem PySem.W PyProof.Rows
set_option maxRecDepth 100000 in
set_option maxHeartbeats 0 in
theorem PySem.Challenge.cw_webreckon_k40_whole_lasting_heaps_holds : PySem.Challenge.rw_webreckon_k40_whole_lasting_heaps.Holds := by
  w_on; o_law; k_head; (case hw => w_witness2)
  k_fill
  refine Wk.walk_mine (l := PySem.Challenge.rw_webreckon_k40_whole_lasting_heaps) rfl rfl (fun w h Y => PySem.W.kIn_of Y) ?F
  case F =>
    intro w mg fa h KX G hmg
    refine' Wk.all_mk KX G hmg ?a0 ?l0 ?c0 ?k0 ?a1 ?l1 ?c1 ?k1 ?a2 ?l2 ?c2 ?k2 ?a3 ?l3 ?c3 ?k3 ?a4 ?l4 ?c4 ?k4 ?a5 ?l5 ?c5 ?k5 ?a6 ?l6 ?c6 ?k6 ?a7 ?l7 ?c7 ?k7 ?a8 ?l8 ?c8 ?k8 ?a9 ?l9 ?c9 ?k9 ?a10 ?l10 ?c10 ?k10 ?a11 ?l11 ?c11 ?k11 ?a12 ?l12 ?c12 ?k12 ?a13 ?l13 ?c13 ?k13 ?a14 ?l14 ?c14 ?k14 ?a15 ?l15 ?c15 ?k15 ?a16 ?l16 ?c16 ?k16 ?a17 ?l17 ?c17 ?k17 ?a18 ?l18 ?c18 ?k18 ?a19 ?l19 ?c19 ?k19 ?a20 ?l20 ?c20 ?k20 ?a21 ?l21 ?c21 ?k21 ?a22 ?l22 ?c22 ?k22 ?a23 ?l23 ?c23 ?k23 ?a24 ?l24 ?c24 ?k24 ?a25 ?l25 ?c25 ?k25 ?a26 ?l26 ?c26 ?k26 ?a27 ?l27 ?c27 ?k27 ?a28 ?l28 ?c28 ?k28 ?a29 ?l29 ?c29 ?k29 ?a30 ?l30 ?c30 ?k30 ?a31 ?l31 ?c31 ?k31 ?a32 ?l32 ?c32 ?k32 ?a33 ?l33 ?c33 ?k33 ?a34 ?l34 ?c34 ?k34 ?a35 ?l35 ?c35 ?k35 ?a36 ?l36 ?c36 ?k36 ?a37 ?l37 ?c37 ?k37 ?a38 ?l38 ?c38 ?k38 ?a39 ?l39 ?c39 ?k39 ?a40 ?l40 ?c40 ?k40 ?a41 ?l41 ?c41 ?k41 ?a42 ?l42 ?c42 ?k42 ?a43 ?l43 ?c43 ?k43 ?a44 ?l44 ?c44 ?k44 ?a45 ?l45 ?c45 ?k45 ?a46 ?l46 ?c46 ?k46 ?a47 ?l47 ?c47 ?k47 ?a48 ?l48 ?c48 ?k48 ?a49 ?l49 ?c49 ?k49 ?a50 ?l50 ?c50 ?k50 ?a51 ?l51 ?c51 ?k51 ?a52 ?l52 ?c52 ?k52 ?a53 ?l53 ?c53 ?k53 ?a54 ?l54 ?c54 ?k54 ?a55 ?l55 ?c55 ?k55 ?a56 ?i56 ?l56 ?c56 ?k56 ?a57 ?i57 ?l57 ?c57 ?k57 ?aC ?pg ?hd ?po ?sa ?mk ?kc ?ha ?hn ?htk ?hm ?nP ?nT ?mP ?mT ?mH ?mL ?z_isinstance ?z_len ?z_all ?z_any ?z_list ?z_sorted ?z_tuple ?z_range ?z_enumerate ?z_zip ?z_dict ?z_min ?z_max ?z_sum ?z_int ?z_str ?z_bool ?z_abs ?z_divmod ?z_repr
    (case aC => k_is); (case a0 => k_is); (case l0 => k_is); (case c0 => k_is); (case k0 => k_is); (case a1 => k_is)
    (case l1 => k_is); (case c1 => k_is); (case k1 => k_is); (case a2 => k_is); (case l2 => k_is); (case c2 => k_is)
    (case k2 => k_is); (case a3 => k_is); (case l3 => k_is); (case c3 => k_is); (case k3 => k_is); (case a4 => k_is)
    (case l4 => k_is); (case c4 => k_is); (case k4 => k_is); (case a5 => k_is); (case l5 => k_is); (case c5 => k_is)
    (case k5 => k_is); (case a6 => k_is); (case l6 => k_is); (case c6 => k_is); (case k6 => k_is); (case a7 => k_is)
    (case l7 => k_is); (case c7 => k_is); (case k7 => k_is); (case a8 => k_is); (case l8 => k_is); (case c8 => k_is)
    (case k8 => k_is); (case a9 => k_is); (case l9 => k_is); (case c9 => k_is); (case k9 => k_is); (case a10 => k_is)
    (case l10 => k_is); (case c10 => k_is); (case k10 => k_is); (case a11 => k_is); (case l11 => k_is); (case c11 => k_is)
    (case k11 => k_is); (case a12 => k_is); (case l12 => k_is); (case c12 => k_is); (case k12 => k_is); (case a13 => k_is)
    (case l13 => k_is); (case c13 => k_is); (case k13 => k_is); (case a14 => k_is); (case l14 => k_is); (case c14 => k_is)
    (case k14 => k_is); (case a15 => k_is); (case l15 => k_is); (case c15 => k_is); (case k15 => k_is); (case a16 => k_is)
    (case l16 => k_is); (case c16 => k_is); (case k16 => k_is); (case a17 => k_is); (case l17 => k_is); (case c17 => k_is)
    (case k17 => k_is); (case a18 => k_is); (case l18 => k_is); (case c18 => k_is); (case k18 => k_is); (case a19 => k_is)
    (case l19 => k_is); (case c19 => k_is); (case k19 => k_is); (case a20 => k_is); (case l20 => k_is); (case c20 => k_is)
    (case k20 => k_is); (case a21 => k_is); (case l21 => k_is); (case c21 => k_is); (case k21 => k_is); (case a22 => k_is)
    (case l22 => k_is); (case c22 => k_is); (case k22 => k_is); (case a23 => k_is); (case l23 => k_is); (case c23 => k_is)
    (case k23 => k_is); (case a24 => k_is); (case l24 => k_is); (case c24 => k_is); (case k24 => k_is); (case a25 => k_is)
    (case l25 => k_is); (case c25 => k_is); (case k25 => k_is); (case a26 => k_is); (case l26 => k_is); (case c26 => k_is)
    (case k26 => k_is); (case a27 => k_is); (case l27 => k_is); (case c27 => k_is); (case k27 => k_is); (case a28 => k_is)
    (case l28 => k_is); (case c28 => k_is); (case k28 => k_is); (case a29 => k_is); (case l29 => k_is); (case c29 => k_is)
    (case k29 => k_is); (case a30 => k_is); (case l30 => k_is); (case c30 => k_is); (case k30 => k_is); (case a31 => k_is)
    (case l31 => k_is); (case c31 => k_is); (case k31 => k_is); (case a32 => k_is); (case l32 => k_is); (case c32 => k_is)
    (case k32 => k_is); (case a33 => k_is); (case l33 => k_is); (case c33 => k_is); (case k33 => k_is); (case a34 => k_is)
    (case l34 => k_is); (case c34 => k_is); (case k34 => k_is); (case a35 => k_is); (case l35 => k_is); (case c35 => k_is)
    (case k35 => k_is); (case a36 => k_is); (case l36 => k_is); (case c36 => k_is); (case k36 => k_is); (case a37 => k_is)
    (case l37 => k_is); (case c37 => k_is); (case k37 => k_is); (case a38 => k_is); (case l38 => k_is); (case c38 => k_is)
    (case k38 => k_is); (case a39 => k_is); (case l39 => k_is); (case c39 => k_is); (case k39 => k_is); (case a40 => k_is)
    (case l40 => k_is); (case c40 => k_is); (case k40 => k_is); (case a41 => k_is); (case l41 => k_is); (case c41 => k_is)
    (case k41 => k_is); (case a42 => k_is); (case l42 => k_is); (case c42 => k_is); (case k42 => k_is); (case a43 => k_is)
    (case l43 => k_is); (case c43 => k_is); (case k43 => k_is); (case a44 => k_is); (case l44 => k_is); (case c44 => k_is)
    (case k44 => k_is); (case a45 => k_is); (case l45 => k_is); (case c45 => k_is); (case k45 => k_is); (case a46 => k_is)
    (case l46 => k_is); (case c46 => k_is); (case k46 => k_is); (case a47 => k_is); (case l47 => k_is); (case c47 => k_is)
    (case k47 => k_is); (case a48 => k_is); (case l48 => k_is); (case c48 => k_is); (case k48 => k_is); (case a49 => k_is)
    (case l49 => k_is); (case c49 => k_is); (case k49 => k_is); (case a50 => k_is); (case l50 => k_is); (case c50 => k_is)
    (case k50 => k_is); (case a51 => k_is); (case l51 => k_is); (case c51 => k_is); (case k51 => k_is); (case a52 => k_is)
    (case l52 => k_is); (case c52 => k_is); (case k52 => k_is); (case a53 => k_is); (case l53 => k_is); (case c53 => k_is)
    (case k53 => k_is); (case a54 => k_is); (case l54 => k_is); (case c54 => k_is); (case k54 => k_is); (case a55 => k_is)
    (case l55 => k_is); (case c55 => k_is); (case k55 => k_is); (case a56 => k_is); (case i56 => k_is); (case l56 => k_is)
    (case c56 => k_is); (case k56 => k_is); (case a57 => k_is); (case i57 => k_is); (case l57 => k_is); (case c57 => k_is)
    (case k57 => k_is); (case pg => k_is); (case hd => k_is); (case po => k_is); (case sa => k_is); (case mk => k_is)
    (case kc => k_is); (case ha => k_is); (case hn => k_is); (case htk => k_is); (case hm => k_is); (case nP => k_is)
    (case nT => k_is); (case mP => k_is); (case mT => k_is); (case mH => k_is); (case mL => k_is); (case z_isinstance => k_is)
    (case z_len => k_is); (case z_all => k_is); (case z_any => k_is); (case z_list => k_is); (case z_sorted => k_is); (case z_tuple => k_is)
    (case z_range => k_is); (case z_enumerate => k_is); (case z_zip => k_is); (case z_dict => k_is); (case z_min => k_is); (case z_max => k_is)
    (case z_sum => k_is); (case z_int => k_is); (case z_str => k_is); (case z_bool => k_is); (case z_abs => k_is); (case z_divmod => k_is)
    (case z_repr => k_is)
