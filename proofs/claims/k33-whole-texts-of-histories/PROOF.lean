import PyProof.Rows.All
import Wide.All
import OpenK.AllK
import Wide.FinOn
import HandS.ForMost
import HandS.ForExc
import HandS.IsInst
import HandS.Star
import HandS.RaiseMore
import HandS.TupAny
import HandS.TupMul
import HandS.Walk
import PyProof.ReprRoads
import KE.IntTextLaws
import KE.GoesEnum
import PySem.Challenge.RW_fewqueues_k33_whole_texts_of_histories
set_option Elab.async false
set_option linter.all false
set_option maxRecDepth 100000
set_option maxHeartbeats 2000000
/-! A layer over HandS: what an expression evaluates to, told over deep data. -/
namespace FQ
open PySem L2 PySem.Spec PyProof.Rows

/-! ### 1. Wishes, straight at the text -/
section
variable (X : Cx)
def WE (e : Expr) : TE := fun σ H Q => ∀ (pins : List (Addr × Obj)) (s : Shared), Inv X pins σ H s → wpAny (model X.prog X.w) X.A (eval e X.env) (EP X pins σ Q) X.xe s
def WT (e : Expr) : TT := fun σ H Q => ∀ (pins : List (Addr × Obj)) (s : Shared), Inv X pins σ H s → wpAny (model X.prog X.w) X.A (isTrue e X.env (eval e X.env)) (TP X pins σ Q) X.xe s
def WW (e : Expr) : TT := fun σ H Q => ∀ (whole : Sem Value) (pins : List (Addr × Obj)) (s : Shared), Inv X pins σ H s → wpAny (model X.prog X.w) X.A (isTrue e X.env whole) (TP X pins σ Q) X.xe s
def WA (es : List Expr) : TA := fun σ H Q => ∀ (pos : Pos) (pins : List (Addr × Obj)) (s : Shared), Inv X pins σ H s → wpAny (model X.prog X.w) X.A (spliced (backTo pos (starEach es X.env))) (AP X pins σ Q) X.xe s
def WS (st : Stmt) : TS := fun D σ H => ∀ (pins : List (Addr × Obj)) (s : Shared), Inv X pins σ H s → wpAny (model X.prog X.w) X.A (exec st X.env) (SP X pins D) X.xe s
def WB (sts : List Stmt) : TS := fun D σ H => ∀ (pins : List (Addr × Obj)) (s : Shared), Inv X pins σ H s → wpAny (model X.prog X.w) X.A (execs sts X.env) (SP X pins D) X.xe s
def WG (tg : Expr) : TG := fun v σ H Q => ∀ (pins : List (Addr × Obj)) (s : Shared) (u : Value), Inv X pins σ H s → RelV v u →
  wpAny (model X.prog X.w) X.A (assign tg X.env u) (fun _ s' => ∃ σ' H', Inv X pins σ' H' s' ∧ Q σ' H') X.xe s
end
section
variable {X : Cx} {e : Expr} {es : List Expr} {st : Stmt} {sts : List Stmt} {tg : Expr} {σ : L2.St} {H : Hp}
theorem pe_w : PE X e (WE X e) := ⟨fun pins s _ _ _ I h => h pins s I⟩
theorem pt_w : PT X e (WT X e) := ⟨fun pins s _ _ _ I h => h pins s I⟩
theorem pw_w : PW X e (WW X e) := ⟨fun whole pins s _ _ _ I h => h whole pins s I⟩
theorem pa_w : PA X es (WA X es) := ⟨fun pos pins s _ _ _ I h => h pos pins s I⟩
theorem ps_w : PS X st (WS X st) := ⟨fun pins s _ _ _ I h => h pins s I⟩
theorem pb_w : PSs X sts (WB X sts) := ⟨fun pins s _ _ _ I h => h pins s I⟩
theorem pg_w : PG X tg (WG X tg) := ⟨fun pins s _ _ _ u _ I r h => h pins s u I r⟩
theorem we {t : TE} {Q : VK} (h : PE X e t) (q : t σ H Q) : WE X e σ H Q := fun pins s I => h.run pins s σ H Q I q
theorem wt {t : TT} {Q : Bool → Hp → Prop} (h : PT X e t) (q : t σ H Q) : WT X e σ H Q := fun pins s I => h.run pins s σ H Q I q
theorem ww {t : TT} {Q : Bool → Hp → Prop} (h : PW X e t) (q : t σ H Q) : WW X e σ H Q := fun whole pins s I => h.run whole pins s σ H Q I q
theorem wa {t : TA} {Q : List V → Hp → Prop} (h : PA X es t) (q : t σ H Q) : WA X es σ H Q := fun pos pins s I => h.run pos pins s σ H Q I q
theorem ws {t : TS} {D : Ends} (h : PS X st t) (q : t D σ H) : WS X st D σ H := fun pins s I => h.run pins s σ H D I q
theorem wb {t : TS} {D : Ends} (h : PSs X sts t) (q : t D σ H) : WB X sts D σ H := fun pins s I => h.run pins s σ H D I q
theorem wg {t : TG} {v : V} {Q : L2.St → Hp → Prop} (h : PG X tg t) (q : t v σ H Q) : WG X tg v σ H Q := fun pins s u I r => h.run pins s σ H v u Q I r q
end

/-! ### 2. Deep data: what may be read and is never changed; raw v: v itself (an object that may change) -/
inductive D where
  | non | bl (b : Bool) | int (i : Int) | str (x : Str) | tup (ds : List D) | lst (ds : List D) | fro (ds : List D) | ins (C : Addr) (ns : List Str) (ds : List D) | dic (ks : List Key) (ds : List D) | raw (v : V)
mutual
/-- v stands for d in G -/
inductive Rp (K : PySem.W.Frag) (G : Hp) : V → D → Prop
  | non : Rp K G .non .non
  | bl (b : Bool) : Rp K G (.bl b) (.bl b)
  | int (i : Int) : Rp K G (.int i) (.int i)
  | str (x : Str) : Rp K G (.str x) (.str x)
  | lst {a : Addr} {xs : List V} {ds : List D} : G a = some (.lst xs) → RpL K G xs ds → Rp K G (.ref a) (.lst ds)
  | fro {a : Addr} {xs : List V} {ds : List D} : SqL K G a xs → RpL K G xs ds → Rp K G (.ref a) (.fro ds)
  | tup {a : Addr} {xs : List V} {ds : List D} : SqT K G a xs → RpL K G xs ds → Rp K G (.ref a) (.tup ds)
  | ins {a C dx : Addr} {ns : List Str} {xs : List V} {ds : List D} : G a = some (.ins C dx (ns.zip xs)) → ns.length = xs.length → RpL K G xs ds → Rp K G (.ref a) (.ins C ns ds)
  | dic {a : Addr} {ks : List Key} {xs : List V} {ds : List D} : G a = some (.dK (ks.zip xs)) → ks.length = xs.length → RpL K G xs ds → Rp K G (.ref a) (.dic ks ds)
  | raw (v : V) : Rp K G v (.raw v)
inductive RpL (K : PySem.W.Frag) (G : Hp) : List V → List D → Prop
  | nil : RpL K G [] []
  | cons {v : V} {vs : List V} {d : D} {ds : List D} : Rp K G v d → RpL K G vs ds → RpL K G (v :: vs) (d :: ds)
end
theorem Same.sqT {K : PySem.W.Frag} {H H' : Hp} {a : Addr} {xs : List V} (e : Same H H') (h : SqT K H a xs) : SqT K H' a xs := by
  rcases h with (h | ⟨o, h⟩) | h
  · exact .inl (.inl (e _ _ h))
  · exact .inl (.inr ⟨o, e _ _ h⟩)
  · exact .inr h
section
variable {K : PySem.W.Frag} {G G' : Hp}
mutual
theorem Rp.up (e : Same G G') : ∀ (d : D) (v : V), Rp K G v d → Rp K G' v d
  | .non, _, .non => .non
  | .bl _, _, .bl b => .bl b
  | .int _, _, .int i => .int i
  | .str _, _, .str x => .str x
  | .lst ds, _, .lst h r => .lst (e _ _ h) (RpL.up e ds _ r)
  | .fro ds, _, .fro h r => .fro (e.seq h) (RpL.up e ds _ r)
  | .tup ds, _, .tup h r => .tup (Same.sqT e h) (RpL.up e ds _ r)
  | .ins _ _ ds, _, .ins h l r => .ins (e _ _ h) l (RpL.up e ds _ r)
  | .dic _ ds, _, .dic h l r => .dic (e _ _ h) l (RpL.up e ds _ r)
  | .raw _, _, .raw v => .raw v
theorem RpL.up (e : Same G G') : ∀ (ds : List D) (vs : List V), RpL K G vs ds → RpL K G' vs ds
  | [], _, .nil => .nil
  | d :: ds, _, .cons h r => .cons (Rp.up e d _ h) (RpL.up e ds _ r)
end
theorem Rp.mono {v : V} {d : D} (h : Rp K G v d) (e : Same G G') : Rp K G' v d := Rp.up e d v h
theorem RpL.mono {vs : List V} {ds : List D} (h : RpL K G vs ds) (e : Same G G') : RpL K G' vs ds := RpL.up e ds vs h
theorem RpL.length : ∀ {vs : List V} {ds : List D}, RpL K G vs ds → vs.length = ds.length
  | _, _, .nil => rfl
  | _, _, .cons _ r => congrArg (· + 1) r.length
theorem RpL.get : ∀ {vs : List V} {ds : List D} {i : Nat} {d : D}, RpL K G vs ds → ds[i]? = some d → ∃ v, vs[i]? = some v ∧ Rp K G v d
  | _, _, 0, _, .cons h _, e => by
    have e' := Option.some.inj e
    subst e'
    exact ⟨_, rfl, h⟩
  | _, _, i + 1, _, .cons _ r, e => RpL.get (i := i) r e
theorem RpL.get' : ∀ {vs : List V} {ds : List D} {i : Nat} {v : V}, RpL K G vs ds → vs[i]? = some v → ∃ d, ds[i]? = some d ∧ Rp K G v d
  | _, _, 0, _, .cons h _, e => by
    have e' := Option.some.inj e
    subst e'
    exact ⟨_, rfl, h⟩
  | _, _, i + 1, _, .cons _ r, e => RpL.get' (i := i) r e
theorem RpL.append : ∀ {vs ws : List V} {ds es : List D}, RpL K G vs ds → RpL K G ws es → RpL K G (vs ++ ws) (ds ++ es)
  | _, _, _, _, .nil, q => q
  | _, _, _, _, .cons h r, q => .cons h (r.append q)
theorem RpL.one {v : V} {d : D} (h : Rp K G v d) : RpL K G [v] [d] := .cons h .nil
theorem RpL.take : ∀ {vs : List V} {ds : List D} (n : Nat), RpL K G vs ds → RpL K G (vs.take n) (ds.take n)
  | _, _, 0, _ => .nil
  | _, _, _ + 1, .nil => .nil
  | _, _, n + 1, .cons h r => .cons h (r.take n)
theorem RpL.drop : ∀ {vs : List V} {ds : List D} (n : Nat), RpL K G vs ds → RpL K G (vs.drop n) (ds.drop n)
  | _, _, 0, r => r
  | _, _, _ + 1, .nil => .nil
  | _, _, n + 1, .cons _ r => r.drop n
theorem RpL.set : ∀ {vs : List V} {ds : List D} {v : V} {d : D} (n : Nat), Rp K G v d → RpL K G vs ds → RpL K G (vs.set n v) (ds.set n d)
  | _, _, _, _, _, _, .nil => .nil
  | _, _, _, _, 0, h, .cons _ r => .cons h r
  | _, _, _, _, n + 1, h, .cons q r => .cons q (r.set n h)
theorem RpL.reverse : ∀ {vs : List V} {ds : List D}, RpL K G vs ds → RpL K G vs.reverse ds.reverse
  | _, _, .nil => .nil
  | _, _, .cons h r => by
    rw [List.reverse_cons, List.reverse_cons]
    exact r.reverse.append (.one h)
theorem RpL.rep {vs : List V} {ds : List D} (h : RpL K G vs ds) : ∀ k : Nat, RpL K G (List.replicate k vs).flatten (List.replicate k ds).flatten
  | 0 => .nil
  | k + 1 => by
    rw [List.replicate_succ, List.replicate_succ, List.flatten_cons, List.flatten_cons]
    exact h.append (h.rep k)
theorem RpL.ints : ∀ {ns : List Int} {vs : List V}, RpL K G vs (ns.map D.int) → vs = ns.map V.int
  | [], _, .nil => rfl
  | _ :: _, _, .cons h r => by
    cases h
    rw [RpL.ints r]
    rfl
theorem RpL.strs : ∀ {ns : List Str} {vs : List V}, RpL K G vs (ns.map D.str) → vs = ns.map V.str
  | [], _, .nil => rfl
  | _ :: _, _, .cons h r => by
    cases h
    rw [RpL.strs r]
    rfl
theorem RpL.bools : ∀ {ns : List Bool} {vs : List V}, RpL K G vs (ns.map D.bl) → vs = ns.map V.bl
  | [], _, .nil => rfl
  | _ :: _, _, .cons h r => by
    cases h
    rw [RpL.bools r]
    rfl
theorem RpL.of_ints : ∀ ns : List Int, RpL K G (ns.map V.int) (ns.map D.int)
  | [] => .nil
  | n :: ns => .cons (.int n) (RpL.of_ints ns)
theorem RpL.of_strs : ∀ ns : List Str, RpL K G (ns.map V.str) (ns.map D.str)
  | [] => .nil
  | n :: ns => .cons (.str n) (RpL.of_strs ns)
theorem RpL.of_bools : ∀ ns : List Bool, RpL K G (ns.map V.bl) (ns.map D.bl)
  | [] => .nil
  | n :: ns => .cons (.bl n) (RpL.of_bools ns)
end
/-! data as the library tells it (for ==, repr) -/
mutual
def D.py : D → PyData
  | .non => .none
  | .bl b => .bool b
  | .int i => .int i
  | .str x => .str x
  | .tup ds => .tuple (pyL ds)
  | .lst ds => .list (pyL ds)
  | .fro ds => .list (pyL ds)
  | .ins _ _ _ => .none
  | .dic _ _ => .none
  | .raw _ => .none
def pyL : List D → List PyData
  | [] => []
  | d :: ds => d.py :: pyL ds
end
mutual
/-- no instance, no raw thing within -/
def D.flat : D → Bool
  | .tup ds => flatL ds
  | .lst ds => flatL ds
  | .fro ds => flatL ds
  | .ins _ _ _ => false
  | .dic _ _ => false
  | .raw _ => false
  | .non => true
  | .bl _ => true
  | .int _ => true
  | .str _ => true
def flatL : List D → Bool
  | [] => true
  | d :: ds => d.flat && flatL ds
end
theorem flatL_all : ∀ ds : List D, flatL ds = ds.all D.flat
  | [] => rfl
  | d :: ds => by rw [flatL, flatL_all ds, List.all_cons]
theorem pyL_map : ∀ ds : List D, pyL ds = ds.map D.py
  | [] => rfl
  | d :: ds => by rw [pyL, pyL_map ds, List.map_cons]
section
variable {K : PySem.W.Frag} {G : Hp}
mutual
theorem Rp.toDp : ∀ (d : D) (v : V), d.flat = true → Rp K G v d → Dp K G v d.py
  | .non, _, _, .non => .non
  | .bl _, _, _, .bl b => .bl b
  | .int _, _, _, .int i => .int i
  | .str _, _, _, .str x => .str x
  | .lst ds, _, f, .lst h r => .lst (SqL.of h) (RpL.toDp ds _ f r)
  | .fro ds, _, f, .fro h r => .lst h (RpL.toDp ds _ f r)
  | .tup ds, _, f, .tup h r => .tup h (RpL.toDp ds _ f r)
  | .ins _ _ _, _, f, _ => Bool.noConfusion f
  | .dic _ _, _, f, _ => Bool.noConfusion f
  | .raw _, _, f, _ => Bool.noConfusion f
theorem RpL.toDp : ∀ (ds : List D) (vs : List V), flatL ds = true → RpL K G vs ds → DpAll K G vs (pyL ds)
  | [], _, _, .nil => .nil
  | d :: ds, _, f, .cons h r => by
    have f' : (d.flat && flatL ds) = true := f
    rw [Bool.and_eq_true] at f'
    exact .cons (Rp.toDp d _ f'.1 h) (RpL.toDp ds _ f'.2 r)
end
end

/-! ### 3. What changes: a map from addresses -/
inductive MO where
  | lst (ds : List D) | ins (C : Addr) (ns : List Str) (ds : List D) | dK (ks : List Key) (ds : List D) | dT (ks : List (List Key)) (ds : List D)
abbrev Mem := Addr → Option MO
def mu0 : Mem := fun _ => none
def Mem.put (μ : Mem) (a : Addr) (o : MO) : Mem := fun b => if b = a then some o else μ b
def Mem.del (μ : Mem) (a : Addr) : Mem := fun b => if b = a then none else μ b
theorem Mem.put_same {μ : Mem} {a : Addr} {o : MO} : μ.put a o a = some o := if_pos rfl
theorem Mem.put_ne {μ : Mem} {a b : Addr} {o : MO} (h : b ≠ a) : μ.put a o b = μ b := if_neg h
theorem Mem.put_put {μ : Mem} {a : Addr} {o u : MO} : (μ.put a o).put a u = μ.put a u := by
  funext b
  by_cases h : b = a
  · subst h
    rw [put_same, put_same]
  · rw [put_ne h, put_ne h, put_ne h]
theorem Mem.del_put {μ : Mem} {a : Addr} {o : MO} (h : μ a = none) : (μ.put a o).del a = μ := by
  funext b
  unfold Mem.del
  by_cases q : b = a
  · subst q
    rw [if_pos rfl, h]
  · rw [if_neg q, put_ne q]
theorem Mem.put_comm {μ : Mem} {a b : Addr} {o u : MO} (h : a ≠ b) : (μ.put a o).put b u = (μ.put b u).put a o := by
  funext c
  by_cases h1 : c = a
  · subst h1
    rw [put_ne h, put_same, put_same]
  · rw [put_ne (b := c) h1]
    by_cases h2 : c = b
    · subst h2
      rw [put_same, put_same]
    · rw [put_ne h2, put_ne h2, put_ne h1]
def RM (K : PySem.W.Frag) (H G : Hp) (a : Addr) : MO → Prop
  | .lst ds => ∃ xs, H a = some (.lst xs) ∧ RpL K G xs ds
  | .ins C ns ds => ∃ dx xs, H a = some (.ins C dx (ns.zip xs)) ∧ ns.length = xs.length ∧ RpL K G xs ds
  | .dK ks ds => ∃ xs, H a = some (.dK (ks.zip xs)) ∧ ks.length = xs.length ∧ RpL K G xs ds
  | .dT ks ds => ∃ xs, H a = some (.dT (ks.zip xs)) ∧ ks.length = xs.length ∧ RpL K G xs ds
def Sub (G H : Hp) : Prop := ∀ a o, G a = some o → H a = some o
def Mm (K : PySem.W.Frag) (H G : Hp) (μ : Mem) : Prop := ∀ a o, μ a = some o → G a = none ∧ RM K H G a o
abbrev Rho := List (Option D)
/-- the slots hold data -/
def Sto (K : PySem.W.Frag) (G : Hp) (σ : L2.St) (ρ : Rho) : Prop := σ.length = ρ.length ∧ ∀ (i : Nat) d, ρ[i]? = some (some d) → ∃ v, σ[i]? = some (some v) ∧ Rp K G v d
structure At (K : PySem.W.Frag) (H G : Hp) (σ : L2.St) (ρ : Rho) (μ : Mem) : Prop where
  sub : Sub G H
  mem : Mm K H G μ
  sto : Sto K G σ ρ
/-- what a piece of text may do to the heap: only μ's objects change -/
structure Step (μ : Mem) (H G : Hp) (μ' : Mem) (H' G' : Hp) : Prop where
  same : ∀ a o, H a = some o → μ a = none → H' a = some o
  up : Same G G'
  new : ∀ a o, H a = some o → G a = none → μ a = none → G' a = none
  dom : ∀ a, μ a = none → H a ≠ none → μ' a = none
theorem Step.refl {μ : Mem} {H G : Hp} : Step μ H G μ H G := ⟨fun _ _ e _ => e, fun _ _ e => e, fun _ _ _ e _ => e, fun _ e _ => e⟩
theorem Step.trans {μ μ1 μ2 : Mem} {H G H1 G1 H2 G2 : Hp} (a : Step μ H G μ1 H1 G1) (b : Step μ1 H1 G1 μ2 H2 G2) : Step μ H G μ2 H2 G2 where
  same := fun x o e m => b.same x o (a.same x o e m) (a.dom x m (by rw [e]; simp))
  up := fun x o e => b.up x o (a.up x o e)
  new := fun x o e g m => b.new x o (a.same x o e m) (a.new x o e g m) (a.dom x m (by rw [e]; simp))
  dom := fun x m n => by
    cases e : H x with
    | none => exact absurd e n
    | some o => exact b.dom x (a.dom x m n) (by rw [a.same x o e m]; simp)
section
variable {K : PySem.W.Frag} {H G H' G' : Hp} {σ : L2.St} {ρ : Rho} {μ μ' : Mem} {a : Addr}
theorem Sto.mono (h : Sto K G σ ρ) (e : Same G G') : Sto K G' σ ρ := ⟨h.1, fun i d q => let ⟨v, a, b⟩ := h.2 i d q; ⟨v, a, b.mono e⟩⟩
theorem At.go (h : At K H G σ ρ μ) (s : Step μ H G μ' H' G') (sub : Sub G' H') (m : Mm K H' G' μ') : At K H' G' σ ρ μ' := ⟨sub, m, h.sto.mono s.up⟩
theorem Sto.set (h : Sto K G σ ρ) {i : Nat} {v : V} {d : D} (r : Rp K G v d) : Sto K G (σ.set i (some v)) (ρ.set i (some d)) := by
  refine ⟨by rw [List.length_set, List.length_set]; exact h.1, fun j e q => ?_⟩
  by_cases c : i = j
  · subst c
    rw [List.getElem?_set] at q
    by_cases l : i < ρ.length
    · rw [if_pos rfl, if_pos l] at q
      cases q
      exact ⟨v, by rw [List.getElem?_set, if_pos rfl, if_pos (by rw [h.1]; exact l)], r⟩
    · rw [if_pos rfl, if_neg l] at q
      cases q
  · rw [List.getElem?_set_ne c] at q
    obtain ⟨w, a, b⟩ := h.2 j e q
    exact ⟨w, by rw [List.getElem?_set_ne c]; exact a, b⟩
theorem RM.at {o : MO} (h : RM K H G a o) : ∃ u, H a = some u := by
  cases o with
  | lst ds => obtain ⟨xs, e, _⟩ := h; exact ⟨_, e⟩
  | ins C ns ds => obtain ⟨dx, xs, e, _⟩ := h; exact ⟨_, e⟩
  | dK ks ds => obtain ⟨xs, e, _⟩ := h; exact ⟨_, e⟩
  | dT ks ds => obtain ⟨xs, e, _⟩ := h; exact ⟨_, e⟩
theorem RM.keep {o : MO} (h : RM K H G a o) (e : H' a = H a) (u : Same G G') : RM K H' G' a o := by
  cases o with
  | lst ds => obtain ⟨xs, q, r⟩ := h; exact ⟨xs, e.trans q, r.mono u⟩
  | ins C ns ds => obtain ⟨dx, xs, q, l, r⟩ := h; exact ⟨dx, xs, e.trans q, l, r.mono u⟩
  | dK ks ds => obtain ⟨xs, q, l, r⟩ := h; exact ⟨xs, e.trans q, l, r.mono u⟩
  | dT ks ds => obtain ⟨xs, q, l, r⟩ := h; exact ⟨xs, e.trans q, l, r.mono u⟩
/-- a new thing that never changes -/
theorem sub_new {p : Addr} {o : HO} (s : Sub G H) : Sub (upd G p o) (upd H p o) := fun a u e => by
  by_cases q : a = p
  · subst q
    rw [upd_same] at e ⊢
    exact e
  · rw [upd_ne q] at e ⊢
    exact s _ _ e
theorem Sub.free {p : Addr} (s : Sub G H) (h : H p = none) : G p = none := by
  cases e : G p with
  | none => rfl
  | some o => rw [s _ _ e] at h; cases h
theorem same_new {p : Addr} {o : HO} (h : G p = none) : Same G (upd G p o) := fun a u e => by rw [upd_ne (ne_of_none e h)]; exact e
theorem Mm.free {p : Addr} (m : Mm K H G μ) (h : H p = none) : μ p = none := by
  cases e : μ p with
  | none => rfl
  | some o =>
    obtain ⟨u, q⟩ := (m _ _ e).2.at
    rw [q] at h; cases h
theorem step_new {p : Addr} {o u : HO} (h : H p = none) (g : G p = none) : Step μ H G μ (upd H p o) (upd G p u) :=
  ⟨fun a v e _ => by rw [upd_ne (ne_of_none e h)]; exact e, same_new g, fun a v e q _ => by rw [upd_ne (ne_of_none e h)]; exact q, fun _ e _ => e⟩
theorem mm_new {p : Addr} {o u : HO} (m : Mm K H G μ) (h : H p = none) (g : G p = none) : Mm K (upd H p o) (upd G p u) μ := fun a v e => by
  obtain ⟨q, r⟩ := m a v e
  obtain ⟨w, hw⟩ := r.at
  have n : a ≠ p := ne_of_none hw h
  exact ⟨by rw [upd_ne n]; exact q, r.keep (upd_ne n) (same_new g)⟩
/-- an object of ours changes (or is new) -/
theorem step_put {p : Addr} {o : HO} {u : MO} (h : μ p ≠ none ∨ H p = none) : Step μ H G (μ.put p u) (upd H p o) G := by
  have n : ∀ a, μ a = none → H a ≠ none → a ≠ p := fun a m q e => by
    subst e
    rcases h with h | h
    · exact h m
    · exact q h
  exact ⟨fun a v e m => by rw [upd_ne (n a m (by rw [e]; simp))]; exact e, fun _ _ e => e, fun _ _ _ q _ => q, fun a m q => by rw [Mem.put_ne (n a m q)]; exact m⟩
theorem sub_put {p : Addr} {o : HO} (s : Sub G H) (g : G p = none) : Sub G (upd H p o) := fun a u e => by rw [upd_ne (ne_of_none e g)]; exact s _ _ e
theorem mm_put {p : Addr} {o : HO} {u : MO} (m : Mm K H G μ) (g : G p = none) (r : RM K (upd H p o) G p u) : Mm K (upd H p o) G (μ.put p u) := fun a v e => by
  by_cases q : a = p
  · subst q
    rw [Mem.put_same] at e
    cases e
    exact ⟨g, r⟩
  · rw [Mem.put_ne q] at e
    obtain ⟨x, y⟩ := m a v e
    exact ⟨x, y.keep (upd_ne q) (fun _ _ z => z)⟩
/-- a list of ours is never changed from here on -/
theorem step_freeze {p : Addr} {o : HO} (hμ : μ p ≠ none) (hg : G p = none) : Step μ H G (μ.del p) H (upd G p o) := by
  have n : ∀ a, μ a = none → a ≠ p := fun a m e => hμ (e ▸ m)
  exact ⟨fun a v e m => e, same_new hg, fun a v e q m => by rw [upd_ne (n a m)]; exact q, fun a m q => by unfold Mem.del; rw [if_neg (n a m)]; exact m⟩
theorem sub_freeze {p : Addr} {o : HO} (s : Sub G H) (h : H p = some o) : Sub (upd G p o) H := fun a u e => by
  by_cases q : a = p
  · subst q
    rw [upd_same] at e
    cases e
    exact h
  · rw [upd_ne q] at e
    exact s _ _ e
theorem mm_freeze {p : Addr} {o : HO} (m : Mm K H G μ) (g : G p = none) : Mm K H (upd G p o) (μ.del p) := fun a v e => by
  unfold Mem.del at e
  by_cases q : a = p
  · rw [if_pos q] at e; cases e
  · rw [if_neg q] at e
    obtain ⟨x, y⟩ := m a v e
    exact ⟨by rw [upd_ne q]; exact x, y.keep rfl (same_new g)⟩
theorem Rp.sub {v : V} {d : D} (h : Rp K G v d) (s : Sub G H) : Rp K H v d := h.mono s
theorem RpL.sub {v : List V} {d : List D} (h : RpL K G v d) (s : Sub G H) : RpL K H v d := h.mono s
end
end FQ

set_option Elab.async false
set_option linter.all false
set_option maxRecDepth 100000
set_option maxHeartbeats 2000000
namespace FQ
open PySem L2 PySem.Spec PyProof.Rows

/-! ### 4. What an expression leads to -/
/-- what is wanted behind a piece: a datum and the objects that change -/
abbrev Aft := D → Mem → Prop
def Fin (K : PySem.W.Frag) (μ : Mem) (H G : Hp) (Φ : Aft) (Q : VK) : Prop := ∀ v H' G' d μ', Φ d μ' → Step μ H G μ' H' G' → Sub G' H' → Mm K H' G' μ' → Rp K G' v d → Q v H'
def FinT (K : PySem.W.Frag) (μ : Mem) (H G : Hp) (Φ : Bool → Mem → Prop) (Q : Bool → Hp → Prop) : Prop := ∀ b H' G' μ', Φ b μ' → Step μ H G μ' H' G' → Sub G' H' → Mm K H' G' μ' → Q b H'
def FinA (K : PySem.W.Frag) (μ : Mem) (H G : Hp) (Φ : List D → Mem → Prop) (Q : List V → Hp → Prop) : Prop := ∀ vs H' G' ds μ', Φ ds μ' → Step μ H G μ' H' G' → Sub G' H' → Mm K H' G' μ' → RpL K G' vs ds → Q vs H'
def Ec (X : Cx) (e : Expr) (ρ : Rho) (μ : Mem) (Φ : Aft) : Prop := ∀ σ H G, At X.K H G σ ρ μ → ∀ Q : VK, Fin X.K μ H G Φ Q → WE X e σ H Q
def Tc (X : Cx) (e : Expr) (ρ : Rho) (μ : Mem) (Φ : Bool → Mem → Prop) : Prop := ∀ σ H G, At X.K H G σ ρ μ → ∀ Q, FinT X.K μ H G Φ Q → WT X e σ H Q
def Wc (X : Cx) (e : Expr) (ρ : Rho) (μ : Mem) (Φ : Bool → Mem → Prop) : Prop := ∀ σ H G, At X.K H G σ ρ μ → ∀ Q, FinT X.K μ H G Φ Q → WW X e σ H Q
def Ac (X : Cx) (es : List Expr) (ρ : Rho) (μ : Mem) (Φ : List D → Mem → Prop) : Prop := ∀ σ H G, At X.K H G σ ρ μ → ∀ Q, FinA X.K μ H G Φ Q → WA X es σ H Q
/-- plain ones: a value, nothing changes -/
def Ev (X : Cx) (e : Expr) (ρ : Rho) (μ : Mem) (d : D) : Prop := Ec X e ρ μ fun d' μ' => d' = d ∧ μ' = μ
def Tv (X : Cx) (e : Expr) (ρ : Rho) (μ : Mem) (b : Bool) : Prop := Tc X e ρ μ fun b' μ' => b' = b ∧ μ' = μ
def Wv (X : Cx) (e : Expr) (ρ : Rho) (μ : Mem) (b : Bool) : Prop := Wc X e ρ μ fun b' μ' => b' = b ∧ μ' = μ
def Av (X : Cx) (es : List Expr) (ρ : Rho) (μ : Mem) (ds : List D) : Prop := Ac X es ρ μ fun ds' μ' => ds' = ds ∧ μ' = μ
section
variable {K : PySem.W.Frag} {H G H1 G1 : Hp} {μ μ1 : Mem}
theorem Fin.from {Φ : Aft} {Q : VK} (f : Fin K μ H G Φ Q) (s : Step μ H G μ1 H1 G1) : Fin K μ1 H1 G1 Φ Q := fun v H' G' d μ' p t b m r => f v H' G' d μ' p (s.trans t) b m r
theorem FinT.from {Φ : Bool → Mem → Prop} {Q : Bool → Hp → Prop} (f : FinT K μ H G Φ Q) (s : Step μ H G μ1 H1 G1) : FinT K μ1 H1 G1 Φ Q := fun v H' G' μ' p t b m => f v H' G' μ' p (s.trans t) b m
theorem FinA.from {Φ : List D → Mem → Prop} {Q : List V → Hp → Prop} (f : FinA K μ H G Φ Q) (s : Step μ H G μ1 H1 G1) : FinA K μ1 H1 G1 Φ Q := fun v H' G' d μ' p t b m r => f v H' G' d μ' p (s.trans t) b m r
theorem Fin.now {Φ : Aft} {Q : VK} {v : V} {d : D} (f : Fin K μ H G Φ Q) (p : Φ d μ) (s : Sub G H) (m : Mm K H G μ) (r : Rp K G v d) : Q v H := f v H G d μ p .refl s m r
end
section
variable {X : Cx} {e : Expr} {es : List Expr} {ρ : Rho} {μ : Mem}
theorem Ec.mono {Φ Ψ : Aft} (h : Ec X e ρ μ Φ) (k : ∀ d μ', Φ d μ' → Ψ d μ') : Ec X e ρ μ Ψ := fun σ H G a Q f => h σ H G a Q fun v H' G' d μ' p => f v H' G' d μ' (k d μ' p)
theorem Tc.mono {Φ Ψ : Bool → Mem → Prop} (h : Tc X e ρ μ Φ) (k : ∀ d μ', Φ d μ' → Ψ d μ') : Tc X e ρ μ Ψ := fun σ H G a Q f => h σ H G a Q fun v H' G' μ' p => f v H' G' μ' (k v μ' p)
theorem Wc.mono {Φ Ψ : Bool → Mem → Prop} (h : Wc X e ρ μ Φ) (k : ∀ d μ', Φ d μ' → Ψ d μ') : Wc X e ρ μ Ψ := fun σ H G a Q f => h σ H G a Q fun v H' G' μ' p => f v H' G' μ' (k v μ' p)
theorem Ac.mono {Φ Ψ : List D → Mem → Prop} (h : Ac X es ρ μ Φ) (k : ∀ d μ', Φ d μ' → Ψ d μ') : Ac X es ρ μ Ψ := fun σ H G a Q f => h σ H G a Q fun v H' G' d μ' p => f v H' G' d μ' (k d μ' p)
theorem Ev.to {Φ : Aft} {d : D} (h : Ev X e ρ μ d) (q : Φ d μ) : Ec X e ρ μ Φ := Ec.mono h fun _ _ ⟨a, b⟩ => by rw [a, b]; exact q
theorem Tv.to {Φ : Bool → Mem → Prop} {d : Bool} (h : Tv X e ρ μ d) (q : Φ d μ) : Tc X e ρ μ Φ := Tc.mono h fun _ _ ⟨a, b⟩ => by rw [a, b]; exact q
theorem Wv.to {Φ : Bool → Mem → Prop} {d : Bool} (h : Wv X e ρ μ d) (q : Φ d μ) : Wc X e ρ μ Φ := Wc.mono h fun _ _ ⟨a, b⟩ => by rw [a, b]; exact q
theorem Av.to {Φ : List D → Mem → Prop} {d : List D} (h : Av X es ρ μ d) (q : Φ d μ) : Ac X es ρ μ Φ := Ac.mono h fun _ _ ⟨a, b⟩ => by rw [a, b]; exact q
theorem Ev.is {d d' : D} (h : Ev X e ρ μ d) (q : d = d') : Ev X e ρ μ d' := q ▸ h
theorem Tv.is {d d' : Bool} (h : Tv X e ρ μ d) (q : d = d') : Tv X e ρ μ d' := q ▸ h
theorem Av.is {d d' : List D} (h : Av X es ρ μ d) (q : d = d') : Av X es ρ μ d' := q ▸ h
end

/-! ### 5. Operations by values -/
section
variable (X : Cx)
/-- what holds at the operands -/
structure Now (K : PySem.W.Frag) (H G : Hp) (μ : Mem) : Prop where
  sub : Sub G H
  mem : Mm K H G μ
def OpX (f : Value → Value → Sem Value) (x y : D) (μ : Mem) (Φ : Aft) : Prop := OpR X f fun v u H Q => ∃ G, Now X.K H G μ ∧ Rp X.K G v x ∧ Rp X.K G u y ∧ Fin X.K μ H G Φ Q
def UnX (f : Value → Sem Value) (x : D) (μ : Mem) (Φ : Aft) : Prop := UnR X f fun v H Q => ∃ G, Now X.K H G μ ∧ Rp X.K G v x ∧ Fin X.K μ H G Φ Q
def CallX (f : Value) (ds : List D) (μ : Mem) (Φ : Aft) : Prop := CallR X f fun vs H Q => ∃ G, Now X.K H G μ ∧ RpL X.K G vs ds ∧ Fin X.K μ H G Φ Q
def IxX (x y : D) (μ : Mem) (Φ : Aft) : Prop := IxR X fun v u H Q => ∃ G, Now X.K H G μ ∧ Rp X.K G v x ∧ Rp X.K G u y ∧ Fin X.K μ H G Φ Q
def SlX (x : D) (lo hi : Option Int) (μ : Mem) (Φ : Aft) : Prop := SlR X fun v l h H Q => l = lo ∧ h = hi ∧ ∃ G, Now X.K H G μ ∧ Rp X.K G v x ∧ Fin X.K μ H G Φ Q
def MtX (id : String) (x : D) (ds : List D) (μ : Mem) (Φ : Aft) : Prop := MtR X id fun v vs H Q => ∃ G, Now X.K H G μ ∧ Rp X.K G v x ∧ RpL X.K G vs ds ∧ Fin X.K μ H G Φ Q
def TruX (x : D) (μ : Mem) (b : Bool) : Prop := ∀ H G v, Now X.K H G μ → Rp X.K G v x → TruV X.K v H b
abbrev Is (z : D) (μ : Mem) : Aft := fun d μ' => d = z ∧ μ' = μ
def OpD (f : Value → Value → Sem Value) (x y z : D) : Prop := ∀ μ, OpX X f x y μ (Is z μ)
def UnD (f : Value → Sem Value) (x z : D) : Prop := ∀ μ, UnX X f x μ (Is z μ)
def CallD (f : Value) (ds : List D) (z : D) : Prop := ∀ μ, CallX X f ds μ (Is z μ)
def IxD (x y z : D) : Prop := ∀ μ, IxX X x y μ (Is z μ)
def SlD (x : D) (lo hi : Option Int) (z : D) : Prop := ∀ μ, SlX X x lo hi μ (Is z μ)
def MtD (id : String) (x : D) (ds : List D) (z : D) : Prop := ∀ μ, MtX X id x ds μ (Is z μ)
end
section
variable {X : Cx} {f : Value → Value → Sem Value} {g : Value → Sem Value} {c : Value} {id : String}
theorem OpR.imp {r r' : R2} (h : OpR X f r) (k : ∀ v u H Q, r' v u H Q → r v u H Q) : OpR X f r' := fun pins s σ H x y v u Q I a b q => h pins s σ H x y v u Q I a b (k _ _ _ _ q)
theorem UnR.imp {r r' : V → Hp → VK → Prop} (h : UnR X g r) (k : ∀ v H Q, r' v H Q → r v H Q) : UnR X g r' := fun pins s σ H x v Q I a q => h pins s σ H x v Q I a (k _ _ _ q)
theorem CallR.imp {r r' : List V → Hp → VK → Prop} (h : CallR X c r) (k : ∀ v H Q, r' v H Q → r v H Q) : CallR X c r' := fun pins s σ H x v Q I a q => h pins s σ H x v Q I a (k _ _ _ q)
theorem IxR.imp {r r' : R2} (h : IxR X r) (k : ∀ v u H Q, r' v u H Q → r v u H Q) : IxR X r' := fun a b pins s σ H x y v u Q I p q w => h a b pins s σ H x y v u Q I p q (k _ _ _ _ w)
theorem SlR.imp {r r' : V → Option Int → Option Int → Hp → VK → Prop} (h : SlR X r) (k : ∀ v l u H Q, r' v l u H Q → r v l u H Q) : SlR X r' := fun pins s σ H x v vl vu lo hi sl Q I a b c d q => h pins s σ H x v vl vu lo hi sl Q I a b c d (k _ _ _ _ _ q)
theorem MtR.imp {r r' : V → List V → Hp → VK → Prop} (h : MtR X id r) (k : ∀ v vs H Q, r' v vs H Q → r v vs H Q) : MtR X id r' := fun pins s σ H x xs v us Q I a b q => h pins s σ H x xs v us Q I a b (k _ _ _ _ q)
end

/-! ### 6. Ends: a scalar, a new tuple, a new list -/
section
variable {K : PySem.W.Frag} {H G : Hp} {μ : Mem} {Q : VK} {z : D}
theorem Fin.is (f : Fin K μ H G (Is z μ) Q) (n : Now K H G μ) {v : V} (r : Rp K G v z) : Q v H := f.now ⟨rfl, rfl⟩ n.sub n.mem r
theorem Fin.tup {ds : List D} (f : Fin K μ H G (Is (.tup ds) μ) Q) (n : Now K H G μ) {xs : List V} (r : RpL K G xs ds) {p : Addr} (h : H p = none) : Q (.ref p) (upd H p (.tup xs)) := by
  have g := n.sub.free h
  exact f _ _ (upd G p (.tup xs)) _ _ ⟨rfl, rfl⟩ (step_new h g) (sub_new n.sub) (mm_new n.mem h g) (.tup (.inl (.inl upd_same)) (r.mono (same_new g)))
theorem Fin.lst {ds : List D} (f : Fin K μ H G (Is (.lst ds) μ) Q) (n : Now K H G μ) {xs : List V} (r : RpL K G xs ds) {p : Addr} (h : H p = none) : Q (.ref p) (upd H p (.lst xs)) := by
  have g := n.sub.free h
  exact f _ _ (upd G p (.lst xs)) _ _ ⟨rfl, rfl⟩ (step_new h g) (sub_new n.sub) (mm_new n.mem h g) (.lst upd_same (r.mono (same_new g)))
/-- a new list that is ours to change -/
theorem Fin.own {Φ : Aft} {ds : List D} (f : Fin K μ H G Φ Q) (n : Now K H G μ) {xs : List V} (r : RpL K G xs ds) {p : Addr} (h : H p = none) (q : Φ (.raw (.ref p)) (μ.put p (.lst ds))) : Q (.ref p) (upd H p (.lst xs)) := by
  have g := n.sub.free h
  exact f _ _ G _ _ q (step_put (.inr h)) (sub_put n.sub g) (mm_put n.mem g ⟨xs, upd_same, r⟩) (.raw _)
end
end FQ

set_option Elab.async false
set_option linter.all false
set_option maxRecDepth 100000
set_option maxHeartbeats 2000000
namespace FQ
open PySem L2 PySem.Spec PyProof.Rows

/-! ### 7. The operations that are met -/
/-- the value of a scalar -/
def D.sv : D → V
  | .bl b => .bl b
  | .int i => .int i
  | .str x => .str x
  | .raw v => v
  | _ => .non
def D.sc : D → Bool
  | .non => true
  | .bl _ => true
  | .int _ => true
  | .str _ => true
  | _ => false
theorem Rp.sv {K : PySem.W.Frag} {G : Hp} {v : V} {d : D} (r : Rp K G v d) (h : d.sc = true) : v = d.sv := by
  cases r <;> first | rfl | exact Bool.noConfusion h
theorem Rp.of_sc {K : PySem.W.Frag} {G : Hp} : ∀ {d : D}, d.sc = true → Rp K G d.sv d
  | .non, _ => .non
  | .bl b, _ => .bl b
  | .int i, _ => .int i
  | .str x, _ => .str x
  | .raw _, h => Bool.noConfusion h
  | .tup _, h => Bool.noConfusion h
  | .lst _, h => Bool.noConfusion h
  | .fro _, h => Bool.noConfusion h
  | .ins _ _ _, h => Bool.noConfusion h
  | .dic _ _, h => Bool.noConfusion h
theorem sv_flat {d : D} (h : d.sc = true) : flatV d.sv = true := by
  cases d <;> first | rfl | exact Bool.noConfusion h
theorem RpL.svs {K : PySem.W.Frag} {G : Hp} : ∀ {vs : List V} {ds : List D}, RpL K G vs ds → ds.all D.sc = true → vs = ds.map D.sv
  | _, _, .nil, _ => rfl
  | _, _, .cons h r, q => by
    rw [List.all_cons, Bool.and_eq_true] at q
    rw [List.map_cons, h.sv q.1, r.svs q.2]
theorem svs_flat : ∀ {ds : List D}, ds.all D.sc = true → (ds.map D.sv).all flatV = true
  | [], _ => rfl
  | d :: ds, q => by
    rw [List.all_cons, Bool.and_eq_true] at q
    rw [List.map_cons, List.all_cons, sv_flat q.1, svs_flat q.2]
    rfl
def D.isNon : D → Bool
  | .non => true
  | .raw v => decide (v = .non)
  | _ => false
theorem Rp.isNon {K : PySem.W.Frag} {G : Hp} {v : V} {d : D} (r : Rp K G v d) : decide (v = .non) = d.isNon := by
  cases r <;> first | rfl | exact decide_eq_false (by simp)
section
variable {X : Cx} {f : Value → Value → Sem Value} {i j : Int} {x y z : D} {a b : Str}
theorem opd_of {C : Int → Int → Prop} {g : Int → Int → V} (h : OpR X f (rI C g)) (c : C i j) (r : ∀ G, Rp X.K G (g i j) z) : OpD X f (.int i) (.int j) z := fun μ =>
  OpR.imp h fun v u H Q ⟨G, n, rv, ru, f⟩ => by
    cases rv
    cases ru
    exact ⟨i, j, rfl, rfl, c, f.is n (r G)⟩
theorem opd_of0 {g : Int → Int → V} (h : OpR X f (rI0 g)) (r : ∀ G, Rp X.K G (g i j) z) : OpD X f (.int i) (.int j) z := fun μ =>
  OpR.imp h fun v u H Q ⟨G, n, rv, ru, f⟩ => by
    cases rv
    cases ru
    exact ⟨i, j, rfl, rfl, f.is n (r G)⟩
theorem opd_addI : OpD X (binaryOp .Add) (.int i) (.int j) (.int (i + j)) := opd_of0 op_add fun _ => .int _
theorem opd_subI : OpD X (binaryOp .Sub) (.int i) (.int j) (.int (i - j)) := opd_of0 op_sub fun _ => .int _
theorem opd_mulI (c : CMul i j) : OpD X (binaryOp .Mult) (.int i) (.int j) (.int (i * j)) := opd_of op_mul c fun _ => .int _
theorem opd_fdiv (c : CDiv i j) : OpD X (binaryOp .FloorDiv) (.int i) (.int j) (.int (i / j)) := opd_of op_fdiv c fun _ => .int _
theorem opd_mod (c : 0 < j) : OpD X (binaryOp .Mod) (.int i) (.int j) (.int (i % j)) := opd_of op_mod c fun _ => .int _
theorem opd_pow (c : CPow i j) : OpD X (binaryOp .Pow) (.int i) (.int j) (.int (i ^ j.toNat)) := opd_of op_pow c fun _ => .int _
theorem opd_lt : OpD X (compareOp .Lt) (.int i) (.int j) (.bl (decide (i < j))) := opd_of0 op_lt fun _ => .bl _
theorem opd_le : OpD X (compareOp .LtE) (.int i) (.int j) (.bl (decide (i ≤ j))) := opd_of0 op_le fun _ => .bl _
theorem opd_gt : OpD X (compareOp .Gt) (.int i) (.int j) (.bl (decide (j < i))) := opd_of0 op_gt fun _ => .bl _
theorem opd_ge : OpD X (compareOp .GtE) (.int i) (.int j) (.bl (decide (j ≤ i))) := opd_of0 op_ge fun _ => .bl _
theorem opd_eqI : OpD X (compareOp .Eq) (.int i) (.int j) (.bl (decide (i = j))) := fun μ => OpR.imp op_eq fun v u H Q ⟨G, n, rv, ru, f⟩ => by
  cases rv
  cases ru
  refine ⟨rfl, f.is n ?_⟩
  have e : decide (V.int i = V.int j) = decide (i = j) := by simp
  rw [e]
  exact .bl _
theorem opd_neI : OpD X (compareOp .NotEq) (.int i) (.int j) (.bl (!decide (i = j))) := fun μ => OpR.imp op_ne fun v u H Q ⟨G, n, rv, ru, f⟩ => by
  cases rv
  cases ru
  refine ⟨rfl, f.is n ?_⟩
  have e : decide (V.int i = V.int j) = decide (i = j) := by simp
  rw [e]
  exact .bl _
theorem opd_eqS : OpD X (compareOp .Eq) (.str a) (.str b) (.bl (decide (a = b))) := fun μ => OpR.imp op_eq fun v u H Q ⟨G, n, rv, ru, f⟩ => by
  cases rv
  cases ru
  refine ⟨rfl, f.is n ?_⟩
  have e : decide (V.str a = V.str b) = decide (a = b) := by simp
  rw [e]
  exact .bl _
theorem opd_neS : OpD X (compareOp .NotEq) (.str a) (.str b) (.bl (!decide (a = b))) := fun μ => OpR.imp op_ne fun v u H Q ⟨G, n, rv, ru, f⟩ => by
  cases rv
  cases ru
  refine ⟨rfl, f.is n ?_⟩
  have e : decide (V.str a = V.str b) = decide (a = b) := by simp
  rw [e]
  exact .bl _
/-- == of data -/
theorem opd_eqD (hu : X.A.units + 64 < cLine) (fx : x.flat = true) (fy : y.flat = true) (sx : SeqAt.shaped x.py = true) (sy : SeqAt.shaped y.py = true) : OpD X (compareOp .Eq) x y (.bl (PyData.eqv x.py y.py)) := fun μ =>
  OpR.imp (op_eqD hu) fun v u H Q ⟨G, n, rv, ru, f⟩ => ⟨x.py, y.py, Rp.toDp _ _ fx (rv.sub n.sub), Rp.toDp _ _ fy (ru.sub n.sub), sx, sy, f.is n (.bl _)⟩
theorem opd_neD (hu : X.A.units + 64 < cLine) (fx : x.flat = true) (fy : y.flat = true) (sx : SeqAt.shaped x.py = true) (sy : SeqAt.shaped y.py = true) : OpD X (compareOp .NotEq) x y (.bl (!PyData.eqv x.py y.py)) := fun μ =>
  OpR.imp (op_neD hu) fun v u H Q ⟨G, n, rv, ru, f⟩ => ⟨x.py, y.py, Rp.toDp _ _ fx (rv.sub n.sub), Rp.toDp _ _ fy (ru.sub n.sub), sx, sy, f.is n (.bl _)⟩
theorem opd_isN : OpD X (compareOp .Is) x .non (.bl x.isNon) := fun μ => OpR.imp op_isN fun v u H Q ⟨G, n, rv, ru, f⟩ => by
  cases ru
  refine ⟨rfl, f.is n ?_⟩
  rw [rv.isNon]
  exact .bl _
theorem opd_notN : OpD X (compareOp .IsNot) x .non (.bl (!x.isNon)) := fun μ => OpR.imp op_notN fun v u H Q ⟨G, n, rv, ru, f⟩ => by
  cases ru
  refine ⟨rfl, f.is n ?_⟩
  rw [rv.isNon]
  exact .bl _
theorem opd_addS (h : a.length + b.length ≤ sizeLine) : OpD X (binaryOp .Add) (.str a) (.str b) (.str (a ++ b)) := fun μ => OpR.imp op_add_str fun v u H Q ⟨G, n, rv, ru, f⟩ => by
  cases rv
  cases ru
  exact ⟨_, _, rfl, rfl, h, f.is n (.str _)⟩
theorem opd_catT {ds es : List D} (h : ds.length + es.length ≤ sizeLine) : OpD X (binaryOp .Add) (.tup ds) (.tup es) (.tup (ds ++ es)) := fun μ => OpR.imp op_catA fun v u H Q ⟨G, n, rv, ru, f⟩ => by
  cases rv with
  | tup h1 r1 =>
    cases ru with
    | tup h2 r2 =>
      refine ⟨_, _, _, _, rfl, rfl, Same.sqT n.sub h1, Same.sqT n.sub h2, by rw [r1.length, r2.length]; exact h, fun e => ?_, fun _ e => ?_, fun _ _ p hp => ?_⟩
      · subst e
        cases r1
        exact f.is n (.tup h2 r2)
      · subst e
        cases r2
        rw [List.append_nil] at f
        exact f.is n (.tup h1 r1)
      · exact f.tup n (r1.append r2) hp
theorem opd_catL {ds es : List D} (h : ds.length + es.length ≤ sizeLine) : OpD X (binaryOp .Add) (.lst ds) (.lst es) (.lst (ds ++ es)) := fun μ => OpR.imp op_cat fun v u H Q ⟨G, n, rv, ru, f⟩ => by
  cases rv with
  | lst h1 r1 =>
    cases ru with
    | lst h2 r2 => exact ⟨_, _, _, _, rfl, rfl, n.sub _ _ h1, n.sub _ _ h2, by rw [r1.length, r2.length]; exact h, fun p hp => f.lst n (r1.append r2) hp⟩
/-- the left one a list of ours: the sum is a new list, never changed -/
theorem opx_catM {l : Addr} {ds es : List D} {μ : Mem} (m : μ l = some (.lst ds)) (h : ds.length + es.length ≤ sizeLine) : OpX X (binaryOp .Add) (.raw (.ref l)) (.lst es) μ (Is (.lst (ds ++ es)) μ) := OpR.imp op_cat fun v u H Q ⟨G, n, rv, ru, f⟩ => by
  cases rv
  obtain ⟨_, xs, e, r1⟩ := n.mem _ _ m
  cases ru with
  | lst h2 r2 => exact ⟨_, _, _, _, rfl, rfl, e, n.sub _ _ h2, by rw [r1.length, r2.length]; exact h, fun p hp => f.lst n (r1.append r2) hp⟩
theorem opd_repT {ds : List D} (h0 : ds ≠ []) (h1 : 2 ≤ i) (h2 : i ≤ 1000) (h3 : ds.length ≤ 1000) : OpD X (binaryOp .Mult) (.tup ds) (.int i) (.tup (List.replicate i.toNat ds).flatten) := fun μ => OpR.imp op_repT fun v u H Q ⟨G, n, rv, ru, f⟩ => by
  cases ru
  cases rv with
  | tup hx rx =>
    exact ⟨_, _, _, rfl, rfl, Same.sqT n.sub hx, fun e => h0 (by subst e; cases rx; rfl), h1, h2, by rw [rx.length]; exact h3, fun p hp => f.tup n (rx.rep _) hp⟩
theorem opd_repL {ds : List D} (h1 : 0 ≤ i) (h2 : i ≤ 1000) (h3 : ds.length ≤ 1000) : OpD X (binaryOp .Mult) (.lst ds) (.int i) (.lst (List.replicate i.toNat ds).flatten) := fun μ => OpR.imp op_rep fun v u H Q ⟨G, n, rv, ru, f⟩ => by
  cases ru
  cases rv with
  | lst hx rx =>
    refine ⟨_, _, _, rfl, rfl, n.sub _ _ hx, by omega, by omega, ?_, fun p hp => f.lst n (rx.rep _) hp⟩
    rw [rx.length]
    have a1 : i.toNat ≤ 1000 := by omega
    have a2 := Nat.mul_le_mul h3 a1
    exact Nat.le_trans a2 (by decide)
/-- x in (a, b, ..), scalars all -/
def inS (x : D) (ds : List D) : Bool := inV x.sv (ds.map D.sv)
theorem opd_inT {ds : List D} (hx : x.sc = true) (hd : ds.all D.sc = true) : OpD X (compareOp .In) x (.tup ds) (.bl (inS x ds)) := fun μ => OpR.imp op_in_seq fun v u H Q ⟨G, n, rv, ru, f⟩ => by
  cases ru with
  | tup h r =>
    have e := r.svs hd
    subst e
    rw [rv.sv hx]
    exact ⟨_, _, rfl, .inr (Same.sqT n.sub h), sv_flat hx, svs_flat hd, f.is n (.bl _)⟩
theorem opd_inL {ds : List D} (hx : x.sc = true) (hd : ds.all D.sc = true) : OpD X (compareOp .In) x (.lst ds) (.bl (inS x ds)) := fun μ => OpR.imp op_in_seq fun v u H Q ⟨G, n, rv, ru, f⟩ => by
  cases ru with
  | lst h r =>
    have e := r.svs hd
    subst e
    rw [rv.sv hx]
    exact ⟨_, _, rfl, .inl (SqL.of (n.sub _ _ h)), sv_flat hx, svs_flat hd, f.is n (.bl _)⟩
theorem opd_ninT {ds : List D} (hx : x.sc = true) (hd : ds.all D.sc = true) : OpD X (compareOp .NotIn) x (.tup ds) (.bl (!inS x ds)) := fun μ => OpR.imp op_notIn_seq fun v u H Q ⟨G, n, rv, ru, f⟩ => by
  cases ru with
  | tup h r =>
    have e := r.svs hd
    subst e
    rw [rv.sv hx]
    exact ⟨_, _, rfl, .inr (Same.sqT n.sub h), sv_flat hx, svs_flat hd, f.is n (.bl _)⟩
theorem opd_ninL {ds : List D} (hx : x.sc = true) (hd : ds.all D.sc = true) : OpD X (compareOp .NotIn) x (.lst ds) (.bl (!inS x ds)) := fun μ => OpR.imp op_notIn_seq fun v u H Q ⟨G, n, rv, ru, f⟩ => by
  cases ru with
  | lst h r =>
    have e := r.svs hd
    subst e
    rw [rv.sv hx]
    exact ⟨_, _, rfl, .inl (SqL.of (n.sub _ _ h)), sv_flat hx, svs_flat hd, f.is n (.bl _)⟩
theorem opd_inC {c : Nat} : OpD X (compareOp .In) (.str ⟨#[c]⟩) (.str a) (.bl (decide (c ∈ a.cps.toList))) := fun μ => OpR.imp op_in_sign fun v u H Q ⟨G, n, rv, ru, f⟩ => by
  cases rv
  cases ru
  exact ⟨c, a, rfl, rfl, f.is n (.bl _)⟩
end
section
variable {X : Cx} {i : Int} {x z : D} {a b : Str}
theorem und_neg : UnD X (unaryOp .USub) (.int i) (.int (-i)) := fun μ => UnR.imp un_neg fun v H Q ⟨G, n, rv, f⟩ => by
  cases rv
  exact ⟨i, rfl, f.is n (.int _)⟩
/-! subscripts -/
theorem RpL.atI {K : PySem.W.Frag} {G : Hp} {vs : List V} {ds : List D} {d : D} (r : RpL K G vs ds) (h : L2.atI ds i = some d) : ∃ v, L2.atI vs i = some v ∧ Rp K G v d := by
  unfold L2.atI at h ⊢
  rw [r.length]
  cases e : ixN ds.length i with
  | none => rw [e] at h; cases h
  | some k =>
    rw [e] at h
    obtain ⟨v, a, b⟩ := r.get (i := k) (d := d) h
    exact ⟨v, a, b⟩
theorem ixd_tup {ds : List D} {d : D} (h : atI ds i = some d) : IxD X (.tup ds) (.int i) d := fun μ => IxR.imp ix_tup fun v u H Q ⟨G, n, rv, ru, f⟩ => by
  cases ru
  cases rv with
  | tup hx r =>
    obtain ⟨v, e, q⟩ := r.atI h
    exact ⟨_, _, _, _, rfl, rfl, Same.sqT n.sub hx, e, f.is n q⟩
theorem ixd_lst {ds : List D} {d : D} (h : atI ds i = some d) : IxD X (.lst ds) (.int i) d := fun μ => IxR.imp ix_list fun v u H Q ⟨G, n, rv, ru, f⟩ => by
  cases ru
  cases rv with
  | lst hx r =>
    obtain ⟨v, e, q⟩ := r.atI h
    exact ⟨_, _, _, _, rfl, rfl, SqL.of (n.sub _ _ hx), e, f.is n q⟩
theorem ixd_fro {ds : List D} {d : D} (h : atI ds i = some d) : IxD X (.fro ds) (.int i) d := fun μ => IxR.imp ix_list fun v u H Q ⟨G, n, rv, ru, f⟩ => by
  cases ru
  cases rv with
  | fro hx r =>
    obtain ⟨v, e, q⟩ := r.atI h
    exact ⟨_, _, _, _, rfl, rfl, (show Same G H from n.sub).seq hx, e, f.is n q⟩
theorem ixx_own {l : Addr} {ds : List D} {d : D} {μ : Mem} (m : μ l = some (.lst ds)) (h : atI ds i = some d) : IxX X (.raw (.ref l)) (.int i) μ (Is d μ) := IxR.imp ix_list fun v u H Q ⟨G, n, rv, ru, f⟩ => by
  cases ru
  cases rv
  obtain ⟨_, xs, e, r⟩ := n.mem _ _ m
  obtain ⟨v, e2, q⟩ := r.atI h
  exact ⟨_, _, _, _, rfl, rfl, SqL.of e, e2, f.is n q⟩
theorem ixd_str {c : Nat} (hz : a.length ≤ sizeLine) (h : atI a.cps.toList i = some c) : IxD X (.str a) (.int i) (.str ⟨#[c]⟩) := fun μ => IxR.imp ix_str fun v u H Q ⟨G, n, rv, ru, f⟩ => by
  cases ru
  cases rv
  exact ⟨_, _, _, rfl, rfl, hz, h, f.is n (.str _)⟩
/-! slices -/
def cutD (ds : List D) (lo hi : Option Int) : List D := (ds.drop (HT.sIx ds.length 0 lo)).take (HT.sIx ds.length ds.length hi - HT.sIx ds.length 0 lo)
theorem RpL.cut {K : PySem.W.Frag} {G : Hp} {vs : List V} {ds : List D} (r : RpL K G vs ds) (lo hi : Option Int) : RpL K G (cutV vs lo hi) (cutD ds lo hi) := by
  unfold cutV cutD
  rw [r.length]
  exact (r.drop _).take _
theorem sld_lst {ds : List D} {lo hi : Option Int} : SlD X (.lst ds) lo hi (.lst (cutD ds lo hi)) := fun μ => SlR.imp sl_list fun v l u H Q ⟨el, eh, G, n, rv, f⟩ => by
  subst el
  subst eh
  cases rv with
  | lst hx r => exact ⟨_, _, rfl, SqL.of (n.sub _ _ hx), fun p hp => f.lst n (r.cut _ _) hp⟩
theorem cutD_whole {ds : List D} {lo hi : Option Int} (h : HT.sIx ds.length 0 lo = 0 ∧ HT.sIx ds.length ds.length hi = ds.length) : cutD ds lo hi = ds := by
  unfold cutD
  rw [h.1, h.2, List.drop_zero, Nat.sub_zero, List.take_length]
theorem sld_tup {ds : List D} {lo hi : Option Int} : SlD X (.tup ds) lo hi (.tup (cutD ds lo hi)) := fun μ => SlR.imp sl_tupA fun v l u H Q ⟨el, eh, G, n, rv, f⟩ => by
  subst el
  subst eh
  cases rv with
  | tup hx r =>
    refine ⟨_, _, rfl, Same.sqT n.sub hx, fun w => ?_, fun _ p hp => f.tup n (r.cut _ _) hp⟩
    rw [r.length] at w
    rw [cutD_whole w] at f
    exact f.is n (.tup hx r)
end
/-! calls of built-ins -/
section
variable {X : Cx} {i j : Int} {x z : D} {a b : Str} {ds : List D}
theorem cd_str_int (h : i.natAbs.log2 < 1920) : CallD X (.type "str") [.int i] (.str (toString i)) := fun μ => CallR.imp call_str_int fun v H Q ⟨G, n, r, f⟩ => by
  cases r with
  | cons h1 h2 =>
    cases h1
    cases h2
    exact ⟨i, rfl, h, f.is n (.str _)⟩
theorem cd_str_str : CallD X (.type "str") [.str a] (.str a) := fun μ => CallR.imp SkE.call_str_str fun v H Q ⟨G, n, r, f⟩ => by
  cases r with
  | cons h1 h2 =>
    cases h1
    cases h2
    exact ⟨a, rfl, f.is n (.str _)⟩
theorem cd_int_int : CallD X (.type "int") [.int i] (.int i) := fun μ => CallR.imp call_int1 fun v H Q ⟨G, n, r, f⟩ => by
  cases r with
  | cons h1 h2 =>
    cases h1
    cases h2
    exact .inl ⟨i, rfl, f.is n (.int _)⟩
theorem cd_int_str (h : PySem.intText? a = some i) (hl : a.length ≤ 640) : CallD X (.type "int") [.str a] (.int i) := fun μ => CallR.imp call_int_str fun v H Q ⟨G, n, r, f⟩ => by
  cases r with
  | cons h1 h2 =>
    cases h1
    cases h2
    exact ⟨a, i, rfl, h, hl, f.is n (.int _)⟩
theorem cd_len_lst : CallD X (.builtin "len") [.lst ds] (.int ds.length) := fun μ => CallR.imp call_len fun v H Q ⟨G, n, r, f⟩ => by
  cases r with
  | cons h1 h2 =>
    cases h2
    cases h1 with
    | lst hx r => exact ⟨_, _, rfl, .inl ⟨_, SqL.of (n.sub _ _ hx), rfl⟩, f.is n (by rw [r.length]; exact .int _)⟩
theorem cd_len_fro : CallD X (.builtin "len") [.fro ds] (.int ds.length) := fun μ => CallR.imp call_len fun v H Q ⟨G, n, r, f⟩ => by
  cases r with
  | cons h1 h2 =>
    cases h2
    cases h1 with
    | fro hx r => exact ⟨_, _, rfl, .inl ⟨_, (show Same G H from n.sub).seq hx, rfl⟩, f.is n (by rw [r.length]; exact .int _)⟩
theorem cd_len_tup : CallD X (.builtin "len") [.tup ds] (.int ds.length) := fun μ => CallR.imp call_len fun v H Q ⟨G, n, r, f⟩ => by
  cases r with
  | cons h1 h2 =>
    cases h2
    cases h1 with
    | tup hx r => exact ⟨_, _, rfl, .inr ⟨_, Same.sqT n.sub hx, rfl⟩, f.is n (by rw [r.length]; exact .int _)⟩
theorem cd_len_str (h : a.length ≤ sizeLine) : CallD X (.builtin "len") [.str a] (.int a.length) := fun μ => CallR.imp call_len fun v H Q ⟨G, n, r, f⟩ => by
  cases r with
  | cons h1 h2 =>
    cases h2
    cases h1
    exact ⟨_, _, rfl, ⟨h, rfl⟩, f.is n (.int _)⟩
theorem cx_len_own {l : Addr} {μ : Mem} (m : μ l = some (.lst ds)) : CallX X (.builtin "len") [.raw (.ref l)] μ (Is (.int ds.length) μ) := CallR.imp call_len fun v H Q ⟨G, n, r, f⟩ => by
  cases r with
  | cons h1 h2 =>
    cases h2
    cases h1
    obtain ⟨_, xs, e, r⟩ := n.mem _ _ m
    exact ⟨_, _, rfl, .inl ⟨_, SqL.of e, rfl⟩, f.is n (by rw [r.length]; exact .int _)⟩
theorem cd_max2 (hc : X.calm = true) : CallD X (.builtin "max") [.int i, .int j] (.int (if j > i then j else i)) := fun μ => CallR.imp (call_max2 hc) fun v H Q ⟨G, n, r, f⟩ => by
  cases r with
  | cons h1 h2 =>
    cases h1
    cases h2 with
    | cons h3 h4 =>
      cases h3
      cases h4
      exact ⟨_, _, rfl, f.is n (.int _)⟩
theorem cd_min2 (hc : X.calm = true) : CallD X (.builtin "min") [.int i, .int j] (.int (if j < i then j else i)) := fun μ => CallR.imp (call_min2 hc) fun v H Q ⟨G, n, r, f⟩ => by
  cases r with
  | cons h1 h2 =>
    cases h1
    cases h2 with
    | cons h3 h4 =>
      cases h3
      cases h4
      exact ⟨_, _, rfl, f.is n (.int _)⟩
theorem cd_all {bs : List Bool} (hc : X.calm = true) : CallD X (.builtin "all") [.lst (bs.map D.bl)] (.bl (bs.all id)) := fun μ => CallR.imp (cr_all hc) fun v H Q ⟨G, n, r, f⟩ => by
  cases r with
  | cons h1 h2 =>
    cases h2
    cases h1 with
    | lst hx r =>
      have e := r.bools
      subst e
      exact ⟨_, bs, rfl, SqL.of (n.sub _ _ hx), f.is n (.bl _)⟩
theorem cd_any {bs : List Bool} (hc : X.calm = true) : CallD X (.builtin "any") [.lst (bs.map D.bl)] (.bl (bs.any id)) := fun μ => CallR.imp (cr_any hc) fun v H Q ⟨G, n, r, f⟩ => by
  cases r with
  | cons h1 h2 =>
    cases h2
    cases h1 with
    | lst hx r =>
      have e := r.bools
      subst e
      exact ⟨_, bs, rfl, SqL.of (n.sub _ _ hx), f.is n (.bl _)⟩
theorem cd_sum {ns : List Int} (hc : X.calm = true) : CallD X (.builtin "sum") [.lst (ns.map D.int)] (.int ns.sum) := fun μ => CallR.imp (cr_sum hc) fun v H Q ⟨G, n, r, f⟩ => by
  cases r with
  | cons h1 h2 =>
    cases h2
    cases h1 with
    | lst hx r =>
      have e := r.ints
      subst e
      exact ⟨_, ns, rfl, SqL.of (n.sub _ _ hx), f.is n (.int _)⟩
theorem cd_tuple_lst : CallD X (.type "tuple") [.lst ds] (.tup ds) := fun μ => CallR.imp call_tuple_of fun v H Q ⟨G, n, r, f⟩ => by
  cases r with
  | cons h1 h2 =>
    cases h2
    cases h1 with
    | lst hx r => exact ⟨_, _, rfl, .inl ⟨SqL.of (n.sub _ _ hx), fun l hl => f.tup n r hl⟩⟩
theorem cd_tuple_tup : CallD X (.type "tuple") [.tup ds] (.tup ds) := fun μ => CallR.imp call_tuple_of fun v H Q ⟨G, n, r, f⟩ => by
  cases r with
  | cons h1 h2 =>
    cases h2
    cases h1 with
    | tup hx r => exact ⟨_, _, rfl, .inr ⟨Same.sqT n.sub hx, f.is n (.tup hx r)⟩⟩
theorem cx_tuple_own {l : Addr} {μ : Mem} (m : μ l = some (.lst ds)) : CallX X (.type "tuple") [.raw (.ref l)] μ (Is (.tup ds) μ) := CallR.imp call_tuple_of fun v H Q ⟨G, n, r, f⟩ => by
  cases r with
  | cons h1 h2 =>
    cases h2
    cases h1
    obtain ⟨_, xs, e, r⟩ := n.mem _ _ m
    exact ⟨_, _, rfl, .inl ⟨SqL.of e, fun l hl => f.tup n r hl⟩⟩
theorem cd_list_lst : CallD X (.type "list") [.lst ds] (.lst ds) := fun μ => CallR.imp call_list_of fun v H Q ⟨G, n, r, f⟩ => by
  cases r with
  | cons h1 h2 =>
    cases h2
    cases h1 with
    | lst hx r => exact ⟨_, _, rfl, .inl (SqL.of (n.sub _ _ hx)), fun l hl => f.lst n r hl⟩
theorem cd_list_fro : CallD X (.type "list") [.fro ds] (.lst ds) := fun μ => CallR.imp call_list_of fun v H Q ⟨G, n, r, f⟩ => by
  cases r with
  | cons h1 h2 =>
    cases h2
    cases h1 with
    | fro hx r => exact ⟨_, _, rfl, .inl ((show Same G H from n.sub).seq hx), fun l hl => f.lst n r hl⟩
theorem cd_list_tup : CallD X (.type "list") [.tup ds] (.lst ds) := fun μ => CallR.imp call_list_of fun v H Q ⟨G, n, r, f⟩ => by
  cases r with
  | cons h1 h2 =>
    cases h2
    cases h1 with
    | tup hx r => exact ⟨_, _, rfl, .inr (Same.sqT n.sub hx), fun l hl => f.lst n r hl⟩
/-- the type of a datum -/
def D.ty : D → Option String
  | .non => some "NoneType"
  | .bl _ => some "bool"
  | .int _ => some "int"
  | .str _ => some "str"
  | .tup _ => some "tuple"
  | .lst _ => some "list"
  | _ => none
theorem Rp.tyX {K : PySem.W.Frag} {G H : Hp} {v : V} {d : D} {T : String} (s : Sub G H) (r : Rp K G v d) (h : d.ty = some T) : TyX K H v (.type T) := by
  cases r with
  | non => cases h; exact .base .non
  | bl b => cases h; exact .base (.bl b)
  | int i => cases h; exact .base (.int i)
  | str x => cases h; exact .base (.str x)
  | lst hx r => cases h; exact .base (.lst (s _ _ hx))
  | tup hx r =>
    cases h
    rcases hx with (hx | ⟨o, hx⟩) | ⟨o, its, n, hk, hc, _⟩
    · exact .base (.tup (s _ _ hx))
    · exact .fTuple (s _ _ hx)
    · exact .kTuple hk hc
  | fro _ _ => cases h
  | ins _ _ _ => cases h
  | dic _ _ _ => cases h
  | raw _ => cases h
theorem cd_isi {T U : String} {k : Bool} (h : x.ty = some T) (hk : kitB T U = some k) : CallD X (.builtin "isinstance") [x, .raw (.ty U)] (.bl k) := fun μ => CallR.imp call_isi fun v H Q ⟨G, n, r, f⟩ => by
  cases r with
  | cons h1 h2 =>
    cases h2 with
    | cons h3 h4 =>
      cases h3
      cases h4
      exact ⟨_, _, _, _, _, rfl, .ty U, h1.tyX n.sub h, kit_ty hk, f.is n (.bl _)⟩
/-! methods of built-in types -/
theorem md_split (hb : (b.length == 0) = false) (ha : a.length + 2 ≤ sizeLine) : MtD X "str.split" (.str a) [.str b] (.lst ((Txt.split a b).map D.str)) := fun μ => MtR.imp mt_split fun v vs H Q ⟨G, n, rv, r, f⟩ => by
  cases rv
  cases r with
  | cons h1 h2 =>
    cases h1
    cases h2
    exact ⟨_, _, rfl, rfl, hb, ha, fun p hp => f.lst n (RpL.of_strs _) hp⟩
theorem md_joinL {ys : List Str} (h : (ys.map (·.length)).sum + ys.length * a.length ≤ 16777216) : MtD X "str.join" (.str a) [.lst (ys.map D.str)] (.str (Txt.join a ys)) := fun μ => MtR.imp mt_join fun v vs H Q ⟨G, n, rv, r, f⟩ => by
  cases rv
  cases r with
  | cons h1 h2 =>
    cases h2
    cases h1 with
    | lst hx r =>
      have e := r.strs
      subst e
      exact ⟨_, _, ys, rfl, rfl, .inl (SqL.of (n.sub _ _ hx)), h, f.is n (.str _)⟩
theorem mx_append {l : Addr} {μ : Mem} {d : D} (m : μ l = some (.lst ds)) (h : ds.length < sizeLine) : MtX X "list.append" (.raw (.ref l)) [d] μ (fun z μ' => z = .non ∧ μ' = μ.put l (.lst (ds ++ [d]))) := MtR.imp mt_append fun v vs H Q ⟨G, n, rv, r, f⟩ => by
  cases rv
  cases r with
  | cons h1 h2 =>
    cases h2
    obtain ⟨g, xs, e, r⟩ := n.mem _ _ m
    exact ⟨_, _, _, rfl, rfl, e, by rw [r.length]; exact h, f _ _ G _ _ ⟨rfl, rfl⟩ (step_put (.inl (by rw [m]; simp))) (sub_put n.sub g) (mm_put n.mem g ⟨_, upd_same, r.append (.one h1)⟩) .non⟩
theorem mx_extend {l : Addr} {μ : Mem} {es : List D} (m : μ l = some (.lst ds)) (h : ds.length + es.length ≤ sizeLine) : MtX X "list.extend" (.raw (.ref l)) [.lst es] μ (fun z μ' => z = .non ∧ μ' = μ.put l (.lst (ds ++ es))) := MtR.imp mt_extend fun v vs H Q ⟨G, n, rv, r, f⟩ => by
  cases rv
  cases r with
  | cons h1 h2 =>
    cases h2
    cases h1 with
    | lst hb rb =>
      obtain ⟨g, xs, e, r⟩ := n.mem _ _ m
      exact ⟨_, _, _, _, rfl, rfl, e, n.sub _ _ hb, by rw [r.length, rb.length]; exact h, f _ _ G _ _ ⟨rfl, rfl⟩ (step_put (.inl (by rw [m]; simp))) (sub_put n.sub g) (mm_put n.mem g ⟨_, upd_same, r.append rb⟩) .non⟩
theorem RpL.dropLast {K : PySem.W.Frag} {G : Hp} {vs : List V} {ds : List D} (r : RpL K G vs ds) : RpL K G vs.dropLast ds.dropLast := by
  rw [List.dropLast_eq_take, List.dropLast_eq_take, r.length]
  exact r.take _
theorem mx_pop {l : Addr} {μ : Mem} {d : D} (m : μ l = some (.lst (ds ++ [d]))) : MtX X "list.pop" (.raw (.ref l)) [] μ (fun z μ' => z = d ∧ μ' = μ.put l (.lst ds)) := MtR.imp mt_pop fun v vs H Q ⟨G, n, rv, r, f⟩ => by
  cases rv
  cases r
  obtain ⟨g, xs, e, r⟩ := n.mem _ _ m
  have q : (ds ++ [d])[xs.length - 1]? = some d := by
    rw [r.length, List.length_append, List.length_singleton, Nat.add_sub_cancel, List.getElem?_append_right (Nat.le_refl _), Nat.sub_self]
    rfl
  obtain ⟨y, hy, ry⟩ := r.get q
  have r2 := r.dropLast
  rw [List.dropLast_concat] at r2
  exact ⟨_, _, _, rfl, rfl, e, hy, f _ _ G _ _ ⟨rfl, rfl⟩ (step_put (.inl (by rw [m]; simp))) (sub_put n.sub g) (mm_put n.mem g ⟨_, upd_same, r2⟩) ry⟩
end
end FQ

set_option Elab.async false
set_option linter.all false
set_option maxRecDepth 100000
set_option maxHeartbeats 2000000
namespace FQ
open PySem L2 PySem.Spec PyProof.Rows

/-! ### 8. Expressions -/
/-- a name that means nothing else to the machine -/
abbrev PlainN (n : Str) : Prop := (n == ("__debug__" : Str)) = false ∧ (n == ("__classdict__" : Str)) = false ∧ n ≠ "__name__"
section
variable {X : Cx} {e a b c : Expr} {es : List Expr} {ρ : Rho} {μ : Mem} {pos p : Pos} {Φ : Aft} {x y z d : D}
theorem ev_var {n : Str} (i : Nat) (hρ : ρ[i]? = some (some d)) (hN : X.N[i]? = some n) (hv : Vis X.env.scope n) (hp : PlainN n) : Ev X (.Name n pos) ρ μ d := fun σ H G h Q f => by
  obtain ⟨v, e, r⟩ := h.sto.2 i d hρ
  exact we (pe_var hN hv hp.1 hp.2.1) ⟨v, e, f.is ⟨h.sub, h.mem⟩ r⟩
theorem ev_c {v : V} (h : PE X e (tC v)) (r : ∀ G, Rp X.K G v d) : Ev X e ρ μ d := fun σ H G q Q f => we h (f.is ⟨q.sub, q.mem⟩ (r G))
theorem ev_int {i j} : Ev X (.Constant (.int i) j pos) ρ μ (.int i) := ev_c pe_int fun _ => .int _
theorem ev_bl {i j} : Ev X (.Constant (.bool i) j pos) ρ μ (.bl i) := ev_c pe_bl fun _ => .bl _
theorem ev_non {j} : Ev X (.Constant .none j pos) ρ μ .non := ev_c pe_non fun _ => .non
theorem ev_str {i j} : Ev X (.Constant (.str i) j pos) ρ μ (.str i) := ev_c pe_str fun _ => .str _
theorem ev_glob {n : Str} {v : V} {u : Value} (hm : X.mg n = some u) (r : RelV v u) (q : ∀ G, Rp X.K G v d) (hg : Gl X n) (hp : PlainN n) : Ev X (.Name n pos) ρ μ d := ev_c (pe_glob hg hm r hp.1) q
theorem ev_ty {n : Str} {T : String} (hm : X.mg n = none) (hv : bootBuiltins n = some (.type T)) (hg : Gl X n) (hp : PlainN n) : Ev X (.Name n pos) ρ μ (.raw (.ty T)) :=
  ev_c (pe_bltn (v := .ty T) hg hm hv rfl hp.2.2 hp.1) fun _ => .raw _
/-! operators -/
theorem Ec.bin {r : R2} (hp : PE X e (tOp r (WE X a) (WE X b))) {Ψ : D → D → Mem → Prop}
    (hr : ∀ x y μ2 H G v u Q, Ψ x y μ2 → Now X.K H G μ2 → Rp X.K G v x → Rp X.K G u y → Fin X.K μ2 H G Φ Q → r v u H Q)
    (h : Ec X a ρ μ fun x μ1 => Ec X b ρ μ1 fun y μ2 => Ψ x y μ2) : Ec X e ρ μ Φ := fun σ H G q Q f => by
  refine we hp (h σ H G q _ fun v H1 G1 x μ1 p1 s1 b1 m1 r1 => ?_)
  have q1 := q.go s1 b1 m1
  refine p1 σ H1 G1 q1 _ fun u H2 G2 y μ2 p2 s2 b2 m2 r2 => ?_
  exact hr x y μ2 H2 G2 v u Q p2 ⟨b2, m2⟩ (r1.mono s2.up) r2 ((f.from s1).from s2)
theorem ec_bin {op : Operator} (h : Ec X a ρ μ fun x μ1 => Ec X b ρ μ1 fun y μ2 => OpX X (binaryOp op) x y μ2 Φ) : Ec X (.BinOp a op b pos) ρ μ Φ := fun σ H G q Q f => by
  have key : PE X (.BinOp a op b pos) (fun σ H Q => WE X a σ H fun v H1 => WE X b σ H1 fun u H2 => ∃ x y μ2 G, OpX X (binaryOp op) x y μ2 Φ ∧ Now X.K H2 G μ2 ∧ Rp X.K G v x ∧ Rp X.K G u y ∧ Fin X.K μ2 H2 G Φ Q) :=
    pe_op (r := fun v u H2 Q => ∃ x y μ2 G, OpX X (binaryOp op) x y μ2 Φ ∧ Now X.K H2 G μ2 ∧ Rp X.K G v x ∧ Rp X.K G u y ∧ Fin X.K μ2 H2 G Φ Q) (fun pins s σ H v u v' u' Q I rv ru ⟨x, y, μ2, G, o, n, r1, r2, f⟩ => o pins s σ H v u v' u' Q I rv ru ⟨G, n, r1, r2, f⟩) pe_w pe_w
  refine we key (h σ H G q _ fun v H1 G1 x μ1 p1 s1 b1 m1 r1 => ?_)
  refine p1 σ H1 G1 (q.go s1 b1 m1) _ fun u H2 G2 y μ2 p2 s2 b2 m2 r2 => ?_
  exact ⟨x, y, μ2, G2, p2, ⟨b2, m2⟩, r1.mono s2.up, r2, (f.from s1).from s2⟩
theorem ev_bin {op : Operator} (ha : Ev X a ρ μ x) (hb : Ev X b ρ μ y) (ho : OpD X (binaryOp op) x y z) : Ev X (.BinOp a op b pos) ρ μ z := ec_bin (ha.to (hb.to (ho μ)))
theorem ec_un {op : UnaryOp} (h : Ec X a ρ μ fun x μ1 => UnX X (unaryOp op) x μ1 Φ) : Ec X (.UnaryOp op a pos) ρ μ Φ := fun σ H G q Q f => by
  have key : PE X (.UnaryOp op a pos) (fun σ H Q => WE X a σ H fun v H1 => ∃ x μ2 G, UnX X (unaryOp op) x μ2 Φ ∧ Now X.K H1 G μ2 ∧ Rp X.K G v x ∧ Fin X.K μ2 H1 G Φ Q) :=
    pe_un (r := fun v H1 Q => ∃ x μ2 G, UnX X (unaryOp op) x μ2 Φ ∧ Now X.K H1 G μ2 ∧ Rp X.K G v x ∧ Fin X.K μ2 H1 G Φ Q) (fun pins s σ H v v' Q I rv ⟨x, μ2, G, o, n, r1, f⟩ => o pins s σ H v v' Q I rv ⟨G, n, r1, f⟩) pe_w
  exact we key (h σ H G q _ fun v H1 G1 x μ1 p1 s1 b1 m1 r1 => ⟨x, μ1, G1, p1, ⟨b1, m1⟩, r1, f.from s1⟩)
theorem ev_un {op : UnaryOp} (ha : Ev X a ρ μ x) (ho : UnD X (unaryOp op) x z) : Ev X (.UnaryOp op a pos) ρ μ z := ec_un (ha.to (ho μ))
theorem ec_cmp {op : CmpOp} (h : Ec X a ρ μ fun x μ1 => Ec X b ρ μ1 fun y μ2 => OpX X (compareOp op) x y μ2 Φ) (hm : behindInMarks op b = false) : Ec X (.Compare a [op] [b] pos) ρ μ Φ := fun σ H G q Q f => by
  have key : PE X (.Compare a [op] [b] pos) (fun σ H Q => WE X a σ H fun v H1 => WE X b σ H1 fun u H2 => ∃ x y μ2 G, OpX X (compareOp op) x y μ2 Φ ∧ Now X.K H2 G μ2 ∧ Rp X.K G v x ∧ Rp X.K G u y ∧ Fin X.K μ2 H2 G Φ Q) :=
    pe_cmpR (r := fun v u H2 Q => ∃ x y μ2 G, OpX X (compareOp op) x y μ2 Φ ∧ Now X.K H2 G μ2 ∧ Rp X.K G v x ∧ Rp X.K G u y ∧ Fin X.K μ2 H2 G Φ Q) (fun pins s σ H v u v' u' Q I rv ru ⟨x, y, μ2, G, o, n, r1, r2, f⟩ => o pins s σ H v u v' u' Q I rv ru ⟨G, n, r1, r2, f⟩) pe_w pe_w hm
  refine we key (h σ H G q _ fun v H1 G1 x μ1 p1 s1 b1 m1 r1 => ?_)
  refine p1 σ H1 G1 (q.go s1 b1 m1) _ fun u H2 G2 y μ2 p2 s2 b2 m2 r2 => ?_
  exact ⟨x, y, μ2, G2, p2, ⟨b2, m2⟩, r1.mono s2.up, r2, (f.from s1).from s2⟩
theorem ev_cmp {op : CmpOp} (ha : Ev X a ρ μ x) (hb : Ev X b ρ μ y) (ho : OpD X (compareOp op) x y z) (hm : behindInMarks op b = false) : Ev X (.Compare a [op] [b] pos) ρ μ z := ec_cmp (ha.to (hb.to (ho μ))) hm
/-- a op b op' c -/
theorem ev_chain {op op' : CmpOp} {k l : Bool} (ha : Ev X a ρ μ x) (hb : Ev X b ρ μ y) (hc : Ev X c ρ μ z) (ho : OpD X (compareOp op) x y (.bl k)) (ho' : OpD X (compareOp op') y z (.bl l)) (hm : lastMarks [op, op'] [b, c] = false := by with_unfolding_all rfl) :
    Ev X (.Compare a [op, op'] [b, c] pos) ρ μ (.bl (k && l)) := fun σ H G q Q f => by
  refine we (pe_chain (ho μ) (ho' μ) pe_w pe_w pe_w hm) (ha σ H G q _ fun v H1 G1 x1 μ1 ⟨e1, e2⟩ s1 b1 m1 r1 => ?_)
  subst e1
  subst e2
  have q1 := q.go s1 b1 m1
  refine hb σ H1 G1 q1 _ fun u H2 G2 y1 μ2 ⟨e1, e2⟩ s2 b2 m2 r2 => ?_
  subst e1
  subst e2
  have q2 := q1.go s2 b2 m2
  refine ⟨G2, ⟨b2, m2⟩, r1.mono s2.up, r2, fun w H3 G3 d3 μ3 ⟨e1, e2⟩ s3 b3 m3 r3 => ?_⟩
  subst e1
  subst e2
  cases r3
  have q3 := q2.go s3 b3 m3
  refine ⟨k, rfl, ?_⟩
  have f3 := ((f.from s1).from s2).from s3
  cases k with
  | false => exact f3.is ⟨b3, m3⟩ (.bl _)
  | true =>
    refine hc σ H3 G3 q3 _ fun w H4 G4 d4 μ4 ⟨e1, e2⟩ s4 b4 m4 r4 => ?_
    subst e1
    subst e2
    exact ⟨G4, ⟨b4, m4⟩, (r2.mono s3.up).mono s4.up, r4, f3.from s4⟩
/-! tests -/
def PlainTest (X : Cx) (e : Expr) : Prop := ∀ whole, isTrue e X.env whole = (do let v ← whole; standAt e.pos; holding [v] (truthy v))
theorem tc_val {Ψ : Bool → Mem → Prop} (h : Ec X e ρ μ fun x μ1 => ∃ k, TruX X x μ1 k ∧ Ψ k μ1) (he : PlainTest X e) : Tc X e ρ μ Ψ := fun σ H G q Q f =>
  wt (pt_truth pe_w he) (h σ H G q _ fun v H1 G1 x μ1 ⟨k, t, p⟩ s1 b1 m1 r1 => ⟨k, t H1 G1 v ⟨b1, m1⟩ r1, f k H1 G1 μ1 p s1 b1 m1⟩)
theorem tru_bl {k : Bool} : TruX X (.bl k) μ k := fun H G v n r => by
  cases r
  exact rfl
theorem tv_val {k : Bool} (h : Ev X e ρ μ (.bl k)) (he : PlainTest X e) : Tv X e ρ μ k := tc_val (h.to ⟨k, tru_bl, rfl, rfl⟩) he
theorem tc_w {Ψ : Bool → Mem → Prop} (h : Wc X e ρ μ Ψ) : Tc X e ρ μ Ψ := fun σ H G q Q f => wt pw_w.pt (h σ H G q Q f)
theorem tv_w {k : Bool} (h : Wv X e ρ μ k) : Tv X e ρ μ k := tc_w h
theorem wc_and1 {Ψ : Bool → Mem → Prop} (h : Tc X a ρ μ Ψ) : Wc X (.BoolOp .And [a] pos) ρ μ Ψ := fun σ H G q Q f => ww (pw_and1 pt_w) (h σ H G q Q f)
theorem wc_or1 {Ψ : Bool → Mem → Prop} (h : Tc X a ρ μ Ψ) : Wc X (.BoolOp .Or [a] pos) ρ μ Ψ := fun σ H G q Q f => ww (pw_or1 pt_w) (h σ H G q Q f)
theorem wv_and1 {k : Bool} (h : Tv X a ρ μ k) : Wv X (.BoolOp .And [a] pos) ρ μ k := wc_and1 h
theorem wv_or1 {k : Bool} (h : Tv X a ρ μ k) : Wv X (.BoolOp .Or [a] pos) ρ μ k := wc_or1 h
theorem wc_and {Ψ : Bool → Mem → Prop} (h : Tc X a ρ μ fun k μ1 => if k = true then Wc X (.BoolOp .And (b :: es) pos) ρ μ1 Ψ else Ψ false μ1) : Wc X (.BoolOp .And (a :: b :: es) pos) ρ μ Ψ := fun σ H G q Q f =>
  ww (pw_and pt_w pw_w) (h σ H G q _ fun k H1 G1 μ1 p s1 b1 m1 => by
    have q1 := q.go s1 b1 m1
    cases k with
    | true => exact p σ H1 G1 q1 Q (f.from s1)
    | false => exact f false H1 G1 μ1 p s1 b1 m1)
theorem wc_or {Ψ : Bool → Mem → Prop} (h : Tc X a ρ μ fun k μ1 => if k = true then Ψ true μ1 else Wc X (.BoolOp .Or (b :: es) pos) ρ μ1 Ψ) : Wc X (.BoolOp .Or (a :: b :: es) pos) ρ μ Ψ := fun σ H G q Q f =>
  ww (pw_or pt_w pw_w) (h σ H G q _ fun k H1 G1 μ1 p s1 b1 m1 => by
    have q1 := q.go s1 b1 m1
    cases k with
    | false => exact p σ H1 G1 q1 Q (f.from s1)
    | true => exact f true H1 G1 μ1 p s1 b1 m1)
theorem wv_and {k l : Bool} (h : Tv X a ρ μ k) (h2 : k = true → Wv X (.BoolOp .And (b :: es) pos) ρ μ l) : Wv X (.BoolOp .And (a :: b :: es) pos) ρ μ (k && l) := wc_and (h.to (by
  cases k with
  | true => exact h2 rfl
  | false => exact ⟨rfl, rfl⟩))
theorem wv_or {k l : Bool} (h : Tv X a ρ μ k) (h2 : k = false → Wv X (.BoolOp .Or (b :: es) pos) ρ μ l) : Wv X (.BoolOp .Or (a :: b :: es) pos) ρ μ (k || l) := wc_or (h.to (by
  cases k with
  | false => exact h2 rfl
  | true => exact ⟨rfl, rfl⟩))
theorem tc_not {Ψ : Bool → Mem → Prop} (h : Tc X a ρ μ fun k μ1 => Ψ (!k) μ1) : Tc X (.UnaryOp .Not a pos) ρ μ Ψ := fun σ H G q Q f =>
  wt (pt_not pt_w) (h σ H G q _ fun k H1 G1 μ1 p s1 b1 m1 => f _ H1 G1 μ1 p s1 b1 m1)
theorem tv_not {k : Bool} (h : Tv X a ρ μ k) : Tv X (.UnaryOp .Not a pos) ρ μ (!k) := tc_not (h.to ⟨rfl, rfl⟩)
/-! and, or, not as values -/
theorem ev_one {op} (h : Ev X a ρ μ x) : Ev X (.BoolOp op [a] pos) ρ μ x := fun σ H G q Q f => we (pe_one pe_w) (h σ H G q Q f)
theorem ec_and (h : Ec X a ρ μ fun x μ1 => ∃ k, x = .bl k ∧ if k = true then Ec X (.BoolOp .And (b :: es) pos) ρ μ1 Φ else Φ (.bl false) μ1) : Ec X (.BoolOp .And (a :: b :: es) pos) ρ μ Φ := fun σ H G q Q f =>
  we (pe_and pe_w pe_w) (h σ H G q _ fun v H1 G1 x μ1 ⟨k, e, p⟩ s1 b1 m1 r1 => by
    subst e
    cases r1
    refine ⟨k, rfl, ?_⟩
    have q1 := q.go s1 b1 m1
    cases k with
    | true => exact p σ H1 G1 q1 Q (f.from s1)
    | false => exact f _ H1 G1 _ μ1 p s1 b1 m1 (.bl _))
theorem ec_or (h : Ec X a ρ μ fun x μ1 => ∃ k, x = .bl k ∧ if k = true then Φ (.bl true) μ1 else Ec X (.BoolOp .Or (b :: es) pos) ρ μ1 Φ) : Ec X (.BoolOp .Or (a :: b :: es) pos) ρ μ Φ := fun σ H G q Q f =>
  we (pe_or pe_w pe_w) (h σ H G q _ fun v H1 G1 x μ1 ⟨k, e, p⟩ s1 b1 m1 r1 => by
    subst e
    cases r1
    refine ⟨k, rfl, ?_⟩
    have q1 := q.go s1 b1 m1
    cases k with
    | false => exact p σ H1 G1 q1 Q (f.from s1)
    | true => exact f _ H1 G1 _ μ1 p s1 b1 m1 (.bl _))
theorem ev_and {k l : Bool} (h : Ev X a ρ μ (.bl k)) (h2 : k = true → Ev X (.BoolOp .And (b :: es) pos) ρ μ (.bl l)) : Ev X (.BoolOp .And (a :: b :: es) pos) ρ μ (.bl (k && l)) := ec_and (h.to ⟨k, rfl, by
  cases k with
  | true => exact h2 rfl
  | false => exact ⟨rfl, rfl⟩⟩)
theorem ev_or {k l : Bool} (h : Ev X a ρ μ (.bl k)) (h2 : k = false → Ev X (.BoolOp .Or (b :: es) pos) ρ μ (.bl l)) : Ev X (.BoolOp .Or (a :: b :: es) pos) ρ μ (.bl (k || l)) := ec_or (h.to ⟨k, rfl, by
  cases k with
  | false => exact h2 rfl
  | true => exact ⟨rfl, rfl⟩⟩)
theorem ev_not {k : Bool} (h : Ev X a ρ μ (.bl k)) : Ev X (.UnaryOp .Not a pos) ρ μ (.bl (!k)) := fun σ H G q Q f =>
  we (pe_not pe_w) (h σ H G q _ fun v H1 G1 x μ1 ⟨e, e2⟩ s1 b1 m1 r1 => by
    subst e
    subst e2
    cases r1
    exact ⟨k, rfl, (f.from s1).is ⟨b1, m1⟩ (.bl _)⟩)
/-! a if c else b -/
theorem ec_if (h : Tc X c ρ μ fun k μ1 => if k = true then Ec X a ρ μ1 Φ else Ec X b ρ μ1 Φ) : Ec X (.IfExp c a b pos) ρ μ Φ := fun σ H G q Q f =>
  we (pe_ifExp pt_w pe_w pe_w) (h σ H G q _ fun k H1 G1 μ1 p s1 b1 m1 => by
    have q1 := q.go s1 b1 m1
    cases k with
    | true => exact p σ H1 G1 q1 Q (f.from s1)
    | false => exact p σ H1 G1 q1 Q (f.from s1))
theorem ev_if {k : Bool} (h : Tv X c ρ μ k) (h1 : k = true → Ev X a ρ μ x) (h2 : k = false → Ev X b ρ μ y) : Ev X (.IfExp c a b pos) ρ μ (if k = true then x else y) := ec_if (h.to (by
  cases k with
  | true => exact h1 rfl
  | false => exact h2 rfl))
theorem ev_ifT (h : Tv X c ρ μ true) (h1 : Ev X a ρ μ x) : Ev X (.IfExp c a b pos) ρ μ x := ec_if (h.to h1)
theorem ev_ifF (h : Tv X c ρ μ false) (h1 : Ev X b ρ μ x) : Ev X (.IfExp c a b pos) ρ μ x := ec_if (h.to h1)
/-! argument lists, displays -/
theorem ac_nil {Ψ : List D → Mem → Prop} (h : Ψ [] μ) : Ac X [] ρ μ Ψ := fun σ H G q Q f => wa pa_nil (f [] H G [] μ h .refl q.sub q.mem .nil)
theorem ac_cons {Ψ : List D → Mem → Prop} (h : Ec X e ρ μ fun x μ1 => Ac X es ρ μ1 fun xs μ2 => Ψ (x :: xs) μ2) (hs : starEach (e :: es) X.env = (false, eval e X.env) :: starEach es X.env := by rfl) : Ac X (e :: es) ρ μ Ψ := fun σ H G q Q f =>
  wa (pa_cons pe_w pa_w hs) (h σ H G q _ fun v H1 G1 x μ1 p s1 b1 m1 r1 => p σ H1 G1 (q.go s1 b1 m1) _ fun vs H2 G2 ds μ2 p2 s2 b2 m2 r2 => f _ H2 G2 _ μ2 p2 (s1.trans s2) b2 m2 (.cons (r1.mono s2.up) r2))
theorem av_nil : Av X [] ρ μ [] := ac_nil ⟨rfl, rfl⟩
theorem av_cons {ds : List D} (h : Ev X e ρ μ x) (h2 : Av X es ρ μ ds) (hs : starEach (e :: es) X.env = (false, eval e X.env) :: starEach es X.env := by rfl) : Av X (e :: es) ρ μ (x :: ds) := ac_cons (h.to (h2.to ⟨rfl, rfl⟩)) hs
/-- *e -/
theorem av_star {xs ds : List D} (h : Ev X e ρ μ x) (hx : x = .tup xs ∨ x = .lst xs) (h2 : Av X es ρ μ ds) (hs : starEach (.Starred e p :: es) X.env = (true, eval e X.env) :: starEach es X.env := by rfl) : Av X (.Starred e p :: es) ρ μ (xs ++ ds) := fun σ H G q Q f =>
  wa (StX.pa_star pe_w pa_w hs) (h σ H G q _ fun v H1 G1 x1 μ1 ⟨e1, e2⟩ s1 b1 m1 r1 => by
    subst e1
    subst e2
    have q1 := q.go s1 b1 m1
    have go : ∀ vs, RpL X.K G1 vs xs → WA X es σ H1 (fun ys H2 => Q (vs ++ ys) H2) := fun vs rv => h2 σ H1 G1 q1 _ fun ws H2 G2 es' μ2 ⟨e1, e2⟩ s2 b2 m2 r2 => by
      subst e1
      subst e2
      exact f _ H2 G2 _ _ ⟨rfl, rfl⟩ (s1.trans s2) b2 m2 ((rv.mono s2.up).append r2)
    rcases hx with e | e
    · subst e
      cases r1 with
      | tup ht rt => exact ⟨_, _, rfl, .inl (Same.sqT b1 ht), go _ rt⟩
    · subst e
      cases r1 with
      | lst ht rt => exact ⟨_, _, rfl, .inr (SqL.of (b1 _ _ ht)), go _ rt⟩)
theorem ec_tup {x1} (h : Ac X es ρ μ fun ds μ1 => ds.length ≤ sizeLine ∧ Φ (.tup ds) μ1) : Ec X (.Tuple es x1 pos) ρ μ Φ := fun σ H G q Q f =>
  we (pe_tup pa_w) (h σ H G q _ fun vs H1 G1 ds μ1 ⟨l, p⟩ s1 b1 m1 r1 => ⟨by rw [r1.length]; exact l, fun p hp => by
    have g := b1.free hp
    exact f _ _ (upd G1 p (.tup vs)) _ _ (by assumption) (s1.trans (step_new hp g)) (sub_new b1) (mm_new m1 hp g) (.tup (.inl (.inl upd_same)) (r1.mono (same_new g)))⟩)
theorem ev_tup {x1} {ds : List D} (h : Av X es ρ μ ds) (hl : ds.length ≤ sizeLine) : Ev X (.Tuple es x1 pos) ρ μ (.tup ds) := ec_tup (h.to ⟨hl, rfl, rfl⟩)
theorem ec_lst (h : Ac X es ρ μ fun ds μ1 => ds.length ≤ sizeLine ∧ Φ (.lst ds) μ1) : Ec X (.List es pos) ρ μ Φ := fun σ H G q Q f =>
  we (pe_lst pa_w) (h σ H G q _ fun vs H1 G1 ds μ1 ⟨l, p⟩ s1 b1 m1 r1 => ⟨by rw [r1.length]; exact l, fun p hp => by
    have g := b1.free hp
    exact f _ _ (upd G1 p (.lst vs)) _ _ (by assumption) (s1.trans (step_new hp g)) (sub_new b1) (mm_new m1 hp g) (.lst upd_same (r1.mono (same_new g)))⟩)
theorem ev_lst {ds : List D} (h : Av X es ρ μ ds) (hl : ds.length ≤ sizeLine) : Ev X (.List es pos) ρ μ (.lst ds) := ec_lst (h.to ⟨hl, rfl, rfl⟩)
/-- a list display that is ours to change -/
theorem ec_own (h : Ac X es ρ μ fun ds μ1 => ds.length ≤ sizeLine ∧ ∀ p, μ1 p = none → Φ (.raw (.ref p)) (μ1.put p (.lst ds))) : Ec X (.List es pos) ρ μ Φ := fun σ H G q Q f =>
  we (pe_lst pa_w) (h σ H G q _ fun vs H1 G1 ds μ1 ⟨l, k⟩ s1 b1 m1 r1 => ⟨by rw [r1.length]; exact l, fun p hp => by
    have g := b1.free hp
    exact f _ _ G1 _ _ (k p (m1.free hp)) (s1.trans (step_put (.inr hp))) (sub_put b1 g) (mm_put m1 g ⟨vs, upd_same, r1⟩) (.raw _)⟩)
/-! subscripts -/
theorem ec_ix (h : Ec X a ρ μ fun x μ1 => Ec X b ρ μ1 fun y μ2 => IxX X x y μ2 Φ) (hs : PlainIx b) : Ec X (.Subscript a b pos) ρ μ Φ := fun σ H G q Q f => by
  have key : PE X (.Subscript a b pos) (fun σ H Q => WE X a σ H fun v H1 => WE X b σ H1 fun u H2 => ∃ x y μ2 G, IxX X x y μ2 Φ ∧ Now X.K H2 G μ2 ∧ Rp X.K G v x ∧ Rp X.K G u y ∧ Fin X.K μ2 H2 G Φ Q) :=
    pe_ix (r := fun v u H2 Q => ∃ x y μ2 G, IxX X x y μ2 Φ ∧ Now X.K H2 G μ2 ∧ Rp X.K G v x ∧ Rp X.K G u y ∧ Fin X.K μ2 H2 G Φ Q) (fun va sl pins s σ H v u v' u' Q I rv ru ⟨x, y, μ2, G, o, n, r1, r2, f⟩ => o va sl pins s σ H v u v' u' Q I rv ru ⟨G, n, r1, r2, f⟩) pe_w pe_w hs
  refine we key (h σ H G q _ fun v H1 G1 x μ1 p1 s1 b1 m1 r1 => ?_)
  refine p1 σ H1 G1 (q.go s1 b1 m1) _ fun u H2 G2 y μ2 p2 s2 b2 m2 r2 => ?_
  exact ⟨x, y, μ2, G2, p2, ⟨b2, m2⟩, r1.mono s2.up, r2, (f.from s1).from s2⟩
theorem ev_ix (ha : Ev X a ρ μ x) (hb : Ev X b ρ μ y) (ho : IxD X x y z) (hs : PlainIx b) : Ev X (.Subscript a b pos) ρ μ z := ec_ix (ha.to (hb.to (ho μ))) hs
/-- a slice's part -/
def Pv (X : Cx) (e : Option Expr) (ρ : Rho) (μ : Mem) (o : Option Int) : Prop := match e with
  | none => o = none
  | some e => ∃ i, Ev X e ρ μ (.int i) ∧ o = some i
theorem pv_none : Pv X none ρ μ none := rfl
theorem pv_some {i : Int} (h : Ev X e ρ μ (.int i)) : Pv X (some e) ρ μ (some i) := ⟨i, h, rfl⟩
def WO (X : Cx) (e : Option Expr) : TO := fun σ H Q => ∀ (pins : List (Addr × Obj)) (s : Shared), Inv X pins σ H s → wpAny (model X.prog X.w) X.A (evalPart e X.env) (fun u s' => ∃ o H', Inv X pins σ H' s' ∧ IsPart u o ∧ Q o H') X.xe s
theorem po_w {e : Option Expr} : PO X e (WO X e) := ⟨fun pins s _ _ _ I h => h pins s I⟩
theorem wo {e : Option Expr} {t : TO} {σ : L2.St} {H : Hp} {Q : Option Int → Hp → Prop} (h : PO X e t) (q : t σ H Q) : WO X e σ H Q := fun pins s I => h.run pins s σ H Q I q
theorem pv_run {e : Option Expr} {o : Option Int} {σ : L2.St} {H G : Hp} {Q : Option Int → Hp → Prop} (h : Pv X e ρ μ o) (q : At X.K H G σ ρ μ) (k : ∀ H' G', Step μ H G μ H' G' → Sub G' H' → Mm X.K H' G' μ → Q o H') : WO X e σ H Q := by
  cases e with
  | none =>
    have h' : o = none := h
    subst h'
    exact wo po_none (k H G .refl q.sub q.mem)
  | some e =>
    obtain ⟨i, hi, rfl⟩ := h
    exact wo (po_some pe_w) (hi σ H G q _ fun v H1 G1 x μ1 ⟨e1, e2⟩ s1 b1 m1 r1 => by
      subst e1
      subst e2
      cases r1
      exact ⟨i, rfl, k H1 G1 s1 b1 m1⟩)
theorem ev_slice {lo hi : Option Expr} {l u : Option Int} {p2 : Pos} (h : Ev X e ρ μ x) (hl : Pv X lo ρ μ l) (hu : Pv X hi ρ μ u) (ho : SlD X x l u z) : Ev X (.Subscript e (.Slice lo hi none p2) pos) ρ μ z := fun σ H G q Q f => by
  refine we (pe_slice (ho μ) pe_w po_w po_w) (h σ H G q _ fun v H1 G1 x μ1 ⟨e1, e2⟩ s1 b1 m1 r1 => ?_)
  subst e1
  subst e2
  have q1 := q.go s1 b1 m1
  refine pv_run hl q1 fun H2 G2 s2 b2 m2 => ?_
  have q2 := q1.go s2 b2 m2
  refine pv_run hu q2 fun H3 G3 s3 b3 m3 => ?_
  exact ⟨rfl, rfl, G3, ⟨b3, m3⟩, (r1.mono s2.up).mono s3.up, ((f.from s1).from s2).from s3⟩
/-! calls of built-ins -/
theorem ec_callB {n : Str} {id : String} (hm : X.mg n = none) (hv : bootBuiltins n = some (.builtin id)) (h : Ac X (e :: es) ρ μ fun ds μ1 => CallX X (.builtin id) ds μ1 Φ) (hg : Gl X n) (hp : PlainN n)
    (he : starEach (e :: es) X.env = (false, eval e X.env) :: starEach es X.env := by rfl) (hpl : (backTo pos (starEach es X.env)).any (·.1) = false := by rfl) : Ec X (.Call (.Name n p) (e :: es) [] pos) ρ μ Φ := fun σ H G q Q f => by
  have key : PE X (.Call (.Name n p) (e :: es) [] pos) (fun σ H Q => WA X (e :: es) σ H fun vs H1 => ∃ ds μ1 G, CallX X (.builtin id) ds μ1 Φ ∧ Now X.K H1 G μ1 ∧ RpL X.K G vs ds ∧ Fin X.K μ1 H1 G Φ Q) :=
    pe_callB (r := fun vs H1 Q => ∃ ds μ1 G, CallX X (.builtin id) ds μ1 Φ ∧ Now X.K H1 G μ1 ∧ RpL X.K G vs ds ∧ Fin X.K μ1 H1 G Φ Q) (fun pins s σ H vs us Q I rv ⟨ds, μ1, G, o, n, r, f⟩ => o pins s σ H vs us Q I rv ⟨G, n, r, f⟩) hg hm hv pa_w hp.2.2 hp.1 he hpl
  exact we key (h σ H G q _ fun vs H1 G1 ds μ1 p1 s1 b1 m1 r1 => ⟨ds, μ1, G1, p1, ⟨b1, m1⟩, r1, f.from s1⟩)
theorem ev_callB {n : Str} {id : String} {ds : List D} (hm : X.mg n = none) (hv : bootBuiltins n = some (.builtin id)) (h : Av X (e :: es) ρ μ ds) (ho : CallD X (.builtin id) ds z) (hg : Gl X n) (hp : PlainN n)
    (he : starEach (e :: es) X.env = (false, eval e X.env) :: starEach es X.env := by rfl) (hpl : (backTo pos (starEach es X.env)).any (·.1) = false := by rfl) : Ev X (.Call (.Name n p) (e :: es) [] pos) ρ μ z :=
  ec_callB hm hv (h.to (ho μ)) hg hp he hpl
theorem ec_callTy {n : Str} {T : String} (hm : X.mg n = none) (hv : bootBuiltins n = some (.type T)) (h : Ac X (e :: es) ρ μ fun ds μ1 => CallX X (.type T) ds μ1 Φ) (hg : Gl X n) (hp : PlainN n)
    (he : starEach (e :: es) X.env = (false, eval e X.env) :: starEach es X.env := by rfl) (hpl : (backTo pos (starEach es X.env)).any (·.1) = false := by rfl) : Ec X (.Call (.Name n p) (e :: es) [] pos) ρ μ Φ := fun σ H G q Q f => by
  have key : PE X (.Call (.Name n p) (e :: es) [] pos) (fun σ H Q => WA X (e :: es) σ H fun vs H1 => ∃ ds μ1 G, CallX X (.type T) ds μ1 Φ ∧ Now X.K H1 G μ1 ∧ RpL X.K G vs ds ∧ Fin X.K μ1 H1 G Φ Q) :=
    pe_callTy (r := fun vs H1 Q => ∃ ds μ1 G, CallX X (.type T) ds μ1 Φ ∧ Now X.K H1 G μ1 ∧ RpL X.K G vs ds ∧ Fin X.K μ1 H1 G Φ Q) (fun pins s σ H vs us Q I rv ⟨ds, μ1, G, o, n, r, f⟩ => o pins s σ H vs us Q I rv ⟨G, n, r, f⟩) hg hm hv pa_w hp.2.2 hp.1 he hpl
  exact we key (h σ H G q _ fun vs H1 G1 ds μ1 p1 s1 b1 m1 r1 => ⟨ds, μ1, G1, p1, ⟨b1, m1⟩, r1, f.from s1⟩)
theorem ev_callTy {n : Str} {T : String} {ds : List D} (hm : X.mg n = none) (hv : bootBuiltins n = some (.type T)) (h : Av X (e :: es) ρ μ ds) (ho : CallD X (.type T) ds z) (hg : Gl X n) (hp : PlainN n)
    (he : starEach (e :: es) X.env = (false, eval e X.env) :: starEach es X.env := by rfl) (hpl : (backTo pos (starEach es X.env)).any (·.1) = false := by rfl) : Ev X (.Call (.Name n p) (e :: es) [] pos) ρ μ z :=
  ec_callTy hm hv (h.to (ho μ)) hg hp he hpl
/-- a method of a built-in type -/
def TyD (X : Cx) (T : String) (x : D) (μ : Mem) : Prop := ∀ H G v, Now X.K H G μ → Rp X.K G v x → tyV X.K T v H
theorem tyd_str {s : Str} : TyD X "str" (.str s) μ := fun H G v n r => by
  cases r
  exact rfl
theorem tyd_lst {ds : List D} : TyD X "list" (.lst ds) μ := fun H G v n r => by
  cases r with
  | lst h r => exact .inl ⟨rfl, _, SqL.of (n.sub _ _ h)⟩
theorem tyd_own {l : Addr} {ds : List D} (m : μ l = some (.lst ds)) : TyD X "list" (.raw (.ref l)) μ := fun H G v n r => by
  cases r
  obtain ⟨_, xs, e, _⟩ := n.mem _ _ m
  exact .inl ⟨rfl, _, SqL.of e⟩
theorem ec_bm {o : Expr} {name : Str} {T id : String} {apos : Pos} (pa : PlainAttrs T) (slot : Slot T name id) (hty : typeOf (.builtin id) = pure (.type "method_descriptor"))
    (h : Ec X o ρ μ fun x μ1 => TyD X T x μ1 ∧ Ac X (e :: es) ρ μ1 fun ds μ2 => MtX X id x ds μ2 Φ)
    (hbase : attributeBase o name X.env (eval o X.env) = eval o X.env := by rfl)
    (hfew : ((backTo pos (starEach (e :: es) X.env)).all (fun x => !x.1) && (backToKw pos (keywordEach [] X.env)).all (fun x => x.1.isSome) && decide ((e :: es).length + ([] : List Keyword).length + (if ([] : List Keyword).isEmpty then 0 else 1) < 30)) = true := by rfl)
    (hline : (apos.endLine == pos.line) = true := by rfl) (hs : starEach (e :: es) X.env = (false, eval e X.env) :: starEach es X.env := by rfl) (hplain : (backTo pos (starEach es X.env)).any (·.1) = false := by rfl) :
    Ec X (.Call (.Attribute o name apos) (e :: es) [] pos) ρ μ Φ := fun σ H G q Q f => by
  have key : PE X (.Call (.Attribute o name apos) (e :: es) [] pos) (tBM X.K T (fun v vs H1 Q => ∃ x ds μ2 G, MtX X id x ds μ2 Φ ∧ Now X.K H1 G μ2 ∧ Rp X.K G v x ∧ RpL X.K G vs ds ∧ Fin X.K μ2 H1 G Φ Q) (WE X o) (WA X (e :: es))) :=
    pe_bm pa slot hty (fun pins s σ H v vs v' us Q I rv rvs ⟨x, ds, μ2, G, o, n, r, rs, f⟩ => o pins s σ H v vs v' us Q I rv rvs ⟨G, n, r, rs, f⟩) pe_w pa_w hbase hfew hline hs hplain
  refine we key (h σ H G q _ fun v H1 G1 x μ1 ⟨t1, p1⟩ s1 b1 m1 r1 => ⟨t1 H1 G1 v ⟨b1, m1⟩ r1, ?_⟩)
  refine p1 σ H1 G1 (q.go s1 b1 m1) _ fun vs H2 G2 ds μ2 p2 s2 b2 m2 r2 => ?_
  exact ⟨x, ds, μ2, G2, p2, ⟨b2, m2⟩, r1.mono s2.up, r2, (f.from s1).from s2⟩
theorem ec_bm0 {o : Expr} {name : Str} {T id : String} {apos : Pos} (pa : PlainAttrs T) (slot : Slot T name id) (hty : typeOf (.builtin id) = pure (.type "method_descriptor"))
    (h : Ec X o ρ μ fun x μ1 => TyD X T x μ1 ∧ MtX X id x [] μ1 Φ) (hbase : attributeBase o name X.env (eval o X.env) = eval o X.env := by rfl) (hline : (apos.endLine == pos.line) = true := by rfl) :
    Ec X (.Call (.Attribute o name apos) [] [] pos) ρ μ Φ := fun σ H G q Q f => by
  have key : PE X (.Call (.Attribute o name apos) [] [] pos) (tBM0 X.K T (fun v vs H1 Q => ∃ x ds μ2 G, MtX X id x ds μ2 Φ ∧ Now X.K H1 G μ2 ∧ Rp X.K G v x ∧ RpL X.K G vs ds ∧ Fin X.K μ2 H1 G Φ Q) (WE X o)) :=
    pe_bm0 pa slot hty (fun pins s σ H v vs v' us Q I rv rvs ⟨x, ds, μ2, G, o, n, r, rs, f⟩ => o pins s σ H v vs v' us Q I rv rvs ⟨G, n, r, rs, f⟩) pe_w hbase hline
  exact we key (h σ H G q _ fun v H1 G1 x μ1 ⟨t1, p1⟩ s1 b1 m1 r1 => ⟨t1 H1 G1 v ⟨b1, m1⟩ r1, x, [], μ1, G1, p1, ⟨b1, m1⟩, r1, .nil, f.from s1⟩)
theorem ev_bm {o : Expr} {name : Str} {T id : String} {apos : Pos} {ds : List D} (pa : PlainAttrs T) (slot : Slot T name id) (hty : typeOf (.builtin id) = pure (.type "method_descriptor"))
    (h : Ev X o ρ μ x) (ht : TyD X T x μ) (ha : Av X (e :: es) ρ μ ds) (hm : MtD X id x ds z)
    (hbase : attributeBase o name X.env (eval o X.env) = eval o X.env := by rfl)
    (hfew : ((backTo pos (starEach (e :: es) X.env)).all (fun x => !x.1) && (backToKw pos (keywordEach [] X.env)).all (fun x => x.1.isSome) && decide ((e :: es).length + ([] : List Keyword).length + (if ([] : List Keyword).isEmpty then 0 else 1) < 30)) = true := by rfl)
    (hline : (apos.endLine == pos.line) = true := by rfl) (hs : starEach (e :: es) X.env = (false, eval e X.env) :: starEach es X.env := by rfl) (hplain : (backTo pos (starEach es X.env)).any (·.1) = false := by rfl) :
    Ev X (.Call (.Attribute o name apos) (e :: es) [] pos) ρ μ z := ec_bm pa slot hty (h.to ⟨ht, ha.to (hm μ)⟩) hbase hfew hline hs hplain
end
end FQ

set_option Elab.async false
set_option linter.all false
set_option maxRecDepth 100000
set_option maxHeartbeats 2000000
namespace FQ
open PySem L2 PySem.Spec PyProof.Rows

/-! ### 9. Statements -/
structure AE where
  nx : Rho → Mem → Prop
  rt : Aft
  bk : Rho → Mem → Prop := fun _ _ => False
  ct : Rho → Mem → Prop := fun _ _ => False
structure AE.Ok (K : PySem.W.Frag) (μ : Mem) (H G : Hp) (D : AE) (E : Ends) : Prop where
  nx : ∀ σ' H' G' ρ' μ', D.nx ρ' μ' → Step μ H G μ' H' G' → At K H' G' σ' ρ' μ' → E.nx σ' H'
  rt : ∀ v H' G' d μ', D.rt d μ' → Step μ H G μ' H' G' → Sub G' H' → Mm K H' G' μ' → Rp K G' v d → E.rt v H'
  bk : ∀ σ' H' G' ρ' μ', D.bk ρ' μ' → Step μ H G μ' H' G' → At K H' G' σ' ρ' μ' → E.bk σ' H'
  ct : ∀ σ' H' G' ρ' μ', D.ct ρ' μ' → Step μ H G μ' H' G' → At K H' G' σ' ρ' μ' → E.ct σ' H'
def Sx (X : Cx) (st : Stmt) (ρ : Rho) (μ : Mem) (D : AE) : Prop := ∀ σ H G, At X.K H G σ ρ μ → ∀ E, AE.Ok X.K μ H G D E → WS X st E σ H
def Bx (X : Cx) (sts : List Stmt) (ρ : Rho) (μ : Mem) (D : AE) : Prop := ∀ σ H G, At X.K H G σ ρ μ → ∀ E, AE.Ok X.K μ H G D E → WB X sts E σ H
section
variable {K : PySem.W.Frag} {H G H1 G1 : Hp} {μ μ1 : Mem} {D : AE} {E : Ends}
theorem AE.Ok.from (o : AE.Ok K μ H G D E) (s : Step μ H G μ1 H1 G1) : AE.Ok K μ1 H1 G1 D E :=
  ⟨fun σ' H' G' ρ' μ' p t a => o.nx σ' H' G' ρ' μ' p (s.trans t) a, fun v H' G' d μ' p t b m r => o.rt v H' G' d μ' p (s.trans t) b m r,
   fun σ' H' G' ρ' μ' p t a => o.bk σ' H' G' ρ' μ' p (s.trans t) a, fun σ' H' G' ρ' μ' p t a => o.ct σ' H' G' ρ' μ' p (s.trans t) a⟩
end
section
variable {X : Cx} {st : Stmt} {rest body orelse : List Stmt} {e c tg iter : Expr} {ρ : Rho} {μ : Mem} {pos p : Pos} {D : AE}
theorem bx_nil (h : D.nx ρ μ) : Bx X [] ρ μ D := fun σ H G q E o => wb pss_nil (o.nx σ H G ρ μ h .refl q)
theorem bx_cons (h : Sx X st ρ μ { D with nx := fun ρ' μ' => Bx X rest ρ' μ' D }) : Bx X (st :: rest) ρ μ D := fun σ H G q E o =>
  wb (pss_cons ps_w pb_w) (h σ H G q _ ⟨fun σ' H' G' ρ' μ' p s a => p σ' H' G' a E (o.from s), o.rt, o.bk, o.ct⟩)
theorem bx_one (h : Sx X st ρ μ D) : Bx X [st] ρ μ D := fun σ H G q E o => wb (pss_one ps_w) (h σ H G q E o)
theorem Bx.mono {D' : AE} (h : Bx X rest ρ μ D) (nx : ∀ ρ μ, D.nx ρ μ → D'.nx ρ μ) (rt : ∀ d μ, D.rt d μ → D'.rt d μ) (bk : ∀ ρ μ, D.bk ρ μ → D'.bk ρ μ) (ct : ∀ ρ μ, D.ct ρ μ → D'.ct ρ μ) : Bx X rest ρ μ D' := fun σ H G q E o =>
  h σ H G q E ⟨fun σ' H' G' ρ' μ' p => o.nx σ' H' G' ρ' μ' (nx _ _ p), fun v H' G' d μ' p => o.rt v H' G' d μ' (rt _ _ p), fun σ' H' G' ρ' μ' p => o.bk σ' H' G' ρ' μ' (bk _ _ p), fun σ' H' G' ρ' μ' p => o.ct σ' H' G' ρ' μ' (ct _ _ p)⟩
theorem sx_ret (h : Ec X e ρ μ D.rt) : Sx X (.Return (some e) pos) ρ μ D := fun σ H G q E o =>
  ws (ps_ret pe_w) (h σ H G q _ fun v H1 G1 d μ1 p s b m r => o.rt v H1 G1 d μ1 p s b m r)
theorem sx_retN (h : D.rt .non μ) : Sx X (.Return none pos) ρ μ D := fun σ H G q E o => ws ps_retN (o.rt .non H G .non μ h .refl q.sub q.mem .non)
theorem sx_expr (h : Ec X e ρ μ fun _ μ1 => D.nx ρ μ1) (hs : swapsWith e none pos.line X.env = pure false := by rfl) : Sx X (.Expr e pos) ρ μ D := fun σ H G q E o =>
  ws (ps_expr pe_w hs) (h σ H G q _ fun v H1 G1 d μ1 p s b m r => o.nx σ H1 G1 ρ μ1 p s (q.go s b m))
theorem sx_pass (h : D.nx ρ μ) : Sx X (.Pass pos) ρ μ D := fun σ H G q E o => ws ps_pass (o.nx σ H G ρ μ h .refl q)
theorem sx_break (h : D.bk ρ μ) : Sx X (.Break pos) ρ μ D := fun σ H G q E o => ws ps_break (o.bk σ H G ρ μ h .refl q)
theorem sx_continue (h : D.ct ρ μ) : Sx X (.Continue pos) ρ μ D := fun σ H G q E o => ws ps_continue (o.ct σ H G ρ μ h .refl q)
/-- name = e -/
theorem sx_set {n : Str} {pos' : Pos} (i : Nat) (hi : X.N[i]? = some n) (h : Ec X e ρ μ fun d μ1 => D.nx (ρ.set i (some d)) μ1) (hN : X.N.Nodup) (hx : Loc X.env.scope n)
    (hf : X.fn n = true ∨ X.env.scope.names.lookup n = some .local) (hs : swapsWith e (some (.Name n pos')) pos.line X.env = pure false := by rfl) : Sx X (.Assign [.Name n pos'] e pos) ρ μ D := fun σ H G q E o =>
  ws (ps_set hN hi hx pe_w hs hf) (h σ H G q _ fun v H1 G1 d μ1 p s b m r => o.nx (σ.set i (some v)) H1 G1 _ μ1 p s ⟨b, m, (q.sto.mono s.up).set r⟩)
theorem sx_if (h : Tc X c ρ μ fun k μ1 => if k = true then Bx X body ρ μ1 D else Bx X orelse ρ μ1 D) : Sx X (.If c body orelse pos) ρ μ D := fun σ H G q E o =>
  ws (ps_if pt_w pb_w pb_w) (h σ H G q _ fun k H1 G1 μ1 p s b m => by
    have q1 := q.go s b m
    cases k with
    | true => exact p σ H1 G1 q1 E (o.from s)
    | false => exact p σ H1 G1 q1 E (o.from s))
/-! targets -/
def Gv (X : Cx) (tg : Expr) (d : FQ.D) (ρ ρ' : Rho) : Prop := ∀ σ H G v, Sub G H → Sto X.K G σ ρ → Rp X.K G v d → ∀ Q : L2.St → Hp → Prop, (∀ σ', Sto X.K G σ' ρ' → Q σ' H) → WG X tg v σ H Q
def GvL (X : Cx) (ts : List Expr) (ds : List FQ.D) (ρ ρ' : Rho) : Prop := ∀ σ H G vs, Sub G H → Sto X.K G σ ρ → RpL X.K G vs ds → ∀ Q : L2.St → Hp → Prop, (∀ σ', Sto X.K G σ' ρ' → Q σ' H) →
  ∀ (pins : List (Addr × Obj)) (s : Shared) (us : List Value), Inv X pins σ H s → Vals vs us → wpAny (model X.prog X.w) X.A (assignInOrder ((assignEach ts X.env).map (·.2)) us) (fun _ s' => ∃ σ' H', Inv X pins σ' H' s' ∧ Q σ' H') X.xe s
theorem gv_name {n : Str} {d : FQ.D} (i : Nat) (hi : X.N[i]? = some n) (hN : X.N.Nodup) (hx : Loc X.env.scope n) (hf : X.fn n = true ∨ X.env.scope.names.lookup n = some .local) : Gv X (.Name n pos) d ρ (ρ.set i (some d)) := fun σ H G v b st r Q k =>
  wg (pg_name hN hi hx hf) (k _ (st.set r))
theorem gvl_nil : GvL X [] [] ρ ρ := fun σ H G vs b st r Q k pins s us I rv => by
  cases r
  exact pgs_nil.run pins s σ H [] us Q I rv ⟨rfl, k σ st⟩
theorem gvl_cons {t : Expr} {ts : List Expr} {d : FQ.D} {ds : List FQ.D} {ρ1 ρ2 : Rho} (h : Gv X t d ρ ρ1) (h2 : GvL X ts ds ρ1 ρ2)
    (hs : (assignEach (t :: ts) X.env).map (·.2) = assign t X.env :: (assignEach ts X.env).map (·.2) := by rfl) : GvL X (t :: ts) (d :: ds) ρ ρ2 := fun σ H G vs b st r Q k pins s us I rv => by
  cases r with
  | cons rd rr =>
    rename_i v vs
    refine (pgs_cons (u := fun vs σ H Q => ∀ (pins : List (Addr × Obj)) (s : Shared) (us : List Value), Inv X pins σ H s → Vals vs us → wpAny (model X.prog X.w) X.A (assignInOrder ((assignEach ts X.env).map (·.2)) us) (fun _ s' => ∃ σ' H', Inv X pins σ' H' s' ∧ Q σ' H') X.xe s)
      pg_w ⟨fun pins s σ H vs us Q I r h => h pins s us I r⟩ hs).run pins s σ H (v :: vs) us Q I rv ⟨v, vs, rfl, ?_⟩
    exact h σ H G v b st rd _ fun σ' st' => h2 σ' H G vs b st' rr Q k
theorem gv_tup {ts : List Expr} {kk : Nat} {ds : List FQ.D} {ρ' : Rho} (h : GvL X ts ds ρ ρ') (hl : ds.length = ts.length) (hc : X.calm = true) (hn : (assignEach ts X.env).length = ts.length := by rfl) (hst : (assignEach ts X.env).findIdx? (·.1) = none := by rfl) :
    Gv X (.Tuple ts kk pos) (.tup ds) ρ ρ' := fun σ H G v b st r Q k => by
  cases r with
  | tup ht rt =>
    exact wg (pg_tup (t := fun vs σ H Q => ∀ (pins : List (Addr × Obj)) (s : Shared) (us : List Value), Inv X pins σ H s → Vals vs us → wpAny (model X.prog X.w) X.A (assignInOrder ((assignEach ts X.env).map (·.2)) us) (fun _ s' => ∃ σ' H', Inv X pins σ' H' s' ∧ Q σ' H') X.xe s)
      hc ⟨fun pins s σ H vs us Q I r h => h pins s us I r⟩ hn hst) ⟨_, _, rfl, Same.sqT b ht, by rw [rt.length]; exact hl, h σ H G _ b st rt Q k⟩
/-- target = e -/
theorem sx_asg (h : Ec X e ρ μ fun d μ1 => ∃ ρ', Gv X tg d ρ ρ' ∧ D.nx ρ' μ1) (hs : swapsWithSole [tg] e pos.line X.env = pure false := by rfl) (hw : swappedStores [tg] e X.env = pure none := by rfl)
    (h1 : (assignEach [tg] X.env).map (·.2) = [assign tg X.env] := by rfl) : Sx X (.Assign [tg] e pos) ρ μ D := fun σ H G q E o =>
  ws (ps_asg pe_w pg_w hs hw h1) (h σ H G q _ fun v H1 G1 d μ1 ⟨ρ', g, p⟩ s b m r => g σ H1 G1 v b (q.sto.mono s.up) r _ fun σ' st => o.nx σ' H1 G1 ρ' μ1 p s ⟨b, m, st⟩)
/-- a, b = x, y with local names -/
theorem sx_par {i j : Nat} {x y : Str} {a b : Expr} {px py pt : Pos} {kt k2 pt2} (hc : X.calm = true) (hN : X.N.Nodup) (hi : X.N[i]? = some x) (hj : X.N[j]? = some y) (hij : i ≠ j)
    (hx : X.env.scope.names.lookup x = some .local) (hy : X.env.scope.names.lookup y = some .local) (h : Ac X [a, b] ρ μ fun ds μ1 => ∃ d1 d2, ds = [d1, d2] ∧ D.nx ((ρ.set i (some d1)).set j (some d2)) μ1)
    (hw : swappedStores [.Tuple [.Name x px, .Name y py] kt pt] (.Tuple [a, b] k2 pt2) X.env = pure (some [x, y]))
    (hs : swapsWithSole [.Tuple [.Name x px, .Name y py] kt pt] (.Tuple [a, b] k2 pt2) pos.line X.env = pure false := by rfl) :
    Sx X (.Assign [.Tuple [.Name x px, .Name y py] kt pt] (.Tuple [a, b] k2 pt2) pos) ρ μ D := fun σ H G q E o =>
  ws (ps_par hc hN hi hj hij hx hy pa_w hw hs) (h σ H G q _ fun vs H1 G1 ds μ1 ⟨d1, d2, e, p⟩ s b m r => by
    subst e
    cases r with
    | cons r1 r2 =>
      cases r2 with
      | cons r2 r3 =>
        cases r3
        exact ⟨_, _, rfl, o.nx _ H1 G1 _ μ1 p s ⟨b, m, ((q.sto.mono s.up).set r1).set r2⟩⟩)
/-- a list of ours becomes data -/
theorem bx_freeze {sts : List Stmt} {a : Addr} {ds : List FQ.D} {i : Nat} (m : μ a = some (.lst ds)) (hi : ρ[i]? = some (some (.raw (.ref a)))) (h : Bx X sts (ρ.set i (some (.lst ds))) (μ.del a) D) : Bx X sts ρ μ D := fun σ H G q E o => by
  obtain ⟨g, xs, e, r⟩ := q.mem _ _ m
  have s : Step μ H G (μ.del a) H (upd G a (.lst xs)) := step_freeze (by rw [m]; simp) g
  have st : Sto X.K (upd G a (.lst xs)) σ ρ := q.sto.mono s.up
  refine h σ H (upd G a (.lst xs)) ⟨sub_freeze q.sub e, mm_freeze q.mem g, ?_⟩ E (o.from s)
  refine ⟨by rw [List.length_set]; exact st.1, fun j d hj => ?_⟩
  by_cases c : i = j
  · subst c
    rw [List.getElem?_set] at hj
    by_cases l : i < ρ.length
    · rw [if_pos rfl, if_pos l] at hj
      cases hj
      obtain ⟨v, hv, rv⟩ := st.2 i _ hi
      cases rv
      exact ⟨_, hv, .lst upd_same (r.mono s.up)⟩
    · rw [if_pos rfl, if_neg l] at hj
      cases hj
  · rw [List.getElem?_set_ne c] at hj
    exact st.2 j d hj

/-! ### 10. What is walked -/
structure WalkD (K : PySem.W.Frag) (G1 : Hp) (J : It) (ds : List FQ.D) : Prop where
  goes : ∀ i H G', i < ds.length → Same G1 G' → Sub G' H → J.go i H
  stops : ∀ H G', Same G1 G' → Sub G' H → J.stop ds.length H
  yields : ∀ i H x H' G' μ' d, ds[i]? = some d → Same G1 G' → Sub G' H → Mm K H G' μ' → J.yld i H x H' → ∃ G'', Step μ' H G' μ' H' G'' ∧ Sub G'' H' ∧ Mm K H' G'' μ' ∧ Rp K G'' x d
def Wk (X : Cx) (tg iter : Expr) (ρ : Rho) (μ : Mem) (ds : List FQ.D) : Prop := ∃ wi, PI X tg iter wi ∧ ∀ σ H G, At X.K H G σ ρ μ → ∀ R : It → Hp → Prop,
  (∀ J H1 G1, Step μ H G μ H1 G1 → Sub G1 H1 → Mm X.K H1 G1 μ → WalkD X.K G1 J ds → R J H1) → wi σ H R
theorem wk_lst {ds : List FQ.D} (h : Ev X iter ρ μ (.lst ds)) : Wk X tg iter ρ μ ds := ⟨_, pi_list pe_w, fun σ H G q R k => h σ H G q _ fun v H1 G1 d μ1 ⟨e1, e2⟩ s b m r => by
  subst e1
  subst e2
  cases r with
  | lst ht rt =>
    refine ⟨_, rfl, ⟨_, SqL.of (b _ _ ht)⟩, k _ H1 G1 s b m ⟨fun i H G' hi u c => ?_, fun H G' u c => ?_, fun i H x H' G' μ' d hd u c m' y => ?_⟩⟩
    · obtain ⟨v, hv, _⟩ := rt.get (i := i) (List.getElem?_eq_getElem hi)
      exact ⟨_, v, SqL.of (c _ _ (u _ _ ht)), hv⟩
    · exact ⟨_, SqL.of (c _ _ (u _ _ ht)), Nat.le_of_eq rt.length⟩
    · obtain ⟨e, y⟩ := y
      subst e
      have hx := y _ (SqL.of (c _ _ (u _ _ ht)))
      obtain ⟨d', hd', r'⟩ := rt.get' hx
      rw [hd] at hd'
      cases hd'
      exact ⟨G', .refl, c, m', r'.mono u⟩⟩
theorem wk_tup {ds : List FQ.D} (h : Ev X iter ρ μ (.tup ds)) : Wk X tg iter ρ μ ds := ⟨_, pi_tup pe_w, fun σ H G q R k => h σ H G q _ fun v H1 G1 d μ1 ⟨e1, e2⟩ s b m r => by
  subst e1
  subst e2
  cases r with
  | tup ht rt =>
    refine ⟨_, rfl, ⟨_, Same.sqT b ht⟩, k _ H1 G1 s b m ⟨fun i H G' hi u c => ?_, fun H G' u c => ?_, fun i H x H' G' μ' d hd u c m' y => ?_⟩⟩
    · obtain ⟨v, hv, _⟩ := rt.get (i := i) (List.getElem?_eq_getElem hi)
      exact ⟨_, v, Same.sqT c (Same.sqT u ht), hv⟩
    · exact ⟨_, Same.sqT c (Same.sqT u ht), Nat.le_of_eq rt.length⟩
    · obtain ⟨e, y⟩ := y
      subst e
      have hx := y _ (Same.sqT c (Same.sqT u ht))
      obtain ⟨d', hd', r'⟩ := rt.get' hx
      rw [hd] at hd'
      cases hd'
      exact ⟨G', .refl, c, m', r'.mono u⟩⟩
/-- a text, sign by sign -/
theorem wk_str {z : Str} (h : Ev X iter ρ μ (.str z)) : Wk X tg iter ρ μ (z.cps.toList.map fun c => .str ⟨#[c]⟩) := ⟨_, pi_str pe_w, fun σ H G q R k => h σ H G q _ fun v H1 G1 d μ1 ⟨e1, e2⟩ s b m r => by
  subst e1
  subst e2
  cases r
  have w := walk_str (z := z)
  refine ⟨_, rfl, k _ H1 G1 s b m ⟨fun i H G' hi u c => ?_, fun H G' u c => ?_, fun i H x H' G' μ' d hd u c m' y => ?_⟩⟩
  · rw [List.length_map, Array.length_toList] at hi
    exact w.goes i H hi trivial
  · rw [List.length_map, Array.length_toList]
    exact w.stops H trivial
  · have hi : i < z.cps.size := by
      have q := (List.getElem?_eq_some_iff.mp hd).1
      rw [List.length_map, Array.length_toList] at q
      exact q
    obtain ⟨e, cc, hcc, ex⟩ := w.yields i H x H' hi trivial y
    subst e
    rw [List.getElem?_map, Array.getElem?_toList, hcc] at hd
    have hd' := Option.some.inj hd
    subst hd'
    subst ex
    exact ⟨G', .refl, c, m', .str _⟩⟩
/-- range(n) -/
theorem wk_range1 {a : Expr} {n : Int} (hm : X.mg "range" = none) (h : Ev X a ρ μ (.int n)) (h0 : -(2 ^ 62) ≤ n) (h1 : n < 2 ^ 62) (hg : Gl X "range") (hs : starEach [a] X.env = [(false, eval a X.env)] := by rfl) :
    Wk X tg (.Call (.Name "range" p) [a] [] pos) ρ μ ((List.range n.toNat).map fun (i : Nat) => FQ.D.int (i : Int)) := ⟨_, pi_range1 hg hm (pa_cons pe_w pa_nil hs) hs, fun σ H G q R k => h σ H G q _ fun v H1 G1 d μ1 ⟨e1, e2⟩ s b m r => by
  subst e1
  subst e2
  cases r
  have w := walk_range (lo := 0) (n := n.toNat)
  refine ⟨n, rfl, h0, h1, k _ H1 G1 s b m ⟨fun i H G' hi u c => ?_, fun H G' u c => ?_, fun i H x H' G' μ' d hd u c m' y => ?_⟩⟩
  · rw [List.length_map, List.length_range] at hi
    exact w.goes i H hi trivial
  · rw [List.length_map, List.length_range]
    exact w.stops H trivial
  · have hi : i < n.toNat := by
      have q := (List.getElem?_eq_some_iff.mp hd).1
      rw [List.length_map, List.length_range] at q
      exact q
    obtain ⟨e, ex⟩ := w.yields i H x H' hi trivial y
    subst e
    rw [List.getElem?_map, List.getElem?_range hi] at hd
    have hd' := Option.some.inj hd
    subst hd'
    subst ex
    refine ⟨G', .refl, c, m', ?_⟩
    have e0 : (0 : Int) + (i : Int) = (i : Int) := Int.zero_add _
    show Rp X.K G' (V.int (0 + (i : Int))) (FQ.D.int (i : Int))
    rw [e0]
    exact .int _⟩
/-- range(m, n) -/
theorem wk_range2 {a c : Expr} {lo n : Int} (hm : X.mg "range" = none) (h : Ev X a ρ μ (.int lo)) (hc : Ev X c ρ μ (.int n)) (hb : -(2 ^ 62) ≤ lo ∧ lo < 2 ^ 62 ∧ -(2 ^ 62) ≤ n ∧ n < 2 ^ 62) (hg : Gl X "range")
    (hs : starEach [a, c] X.env = [(false, eval a X.env), (false, eval c X.env)] := by rfl) (hs2 : starEach [c] X.env = [(false, eval c X.env)] := by rfl)
    (hs3 : starEach [a, c] X.env = (false, eval a X.env) :: starEach [c] X.env := by rfl) :
    Wk X tg (.Call (.Name "range" p) [a, c] [] pos) ρ μ ((List.range (n - lo).toNat).map fun (i : Nat) => FQ.D.int (lo + (i : Int))) := ⟨_, pi_range2 hg hm (pa_cons pe_w (pa_cons pe_w pa_nil hs2) hs3) hs hs2, fun σ H G q R k => h σ H G q _ fun v H1 G1 d μ1 ⟨e1, e2⟩ s b m r => by
  subst e1
  subst e2
  cases r
  have q1 := q.go s b m
  refine hc σ H1 G1 q1 _ fun v H2 G2 d μ1 ⟨e1, e2⟩ s2 b2 m2 r2 => ?_
  subst e1
  subst e2
  cases r2
  have w := walk_range (lo := lo) (n := (n - lo).toNat)
  refine ⟨lo, n, rfl, hb, k _ H2 G2 (s.trans s2) b2 m2 ⟨fun i H G' hi u c => ?_, fun H G' u c => ?_, fun i H x H' G' μ' d hd u c m' y => ?_⟩⟩
  · rw [List.length_map, List.length_range] at hi
    exact w.goes i H hi trivial
  · rw [List.length_map, List.length_range]
    exact w.stops H trivial
  · have hi : i < (n - lo).toNat := by
      have q := (List.getElem?_eq_some_iff.mp hd).1
      rw [List.length_map, List.length_range] at q
      exact q
    obtain ⟨e, ex⟩ := w.yields i H x H' hi trivial y
    subst e
    rw [List.getElem?_map, List.getElem?_range hi] at hd
    have hd' := Option.some.inj hd
    subst hd'
    subst ex
    exact ⟨G', .refl, c, m', .int _⟩⟩
/-- for target in iter -/
theorem sx_for {ds : List FQ.D} (hw : Wk X tg iter ρ μ ds) (I : Nat → Rho → Mem → Prop) (h0 : I 0 ρ μ)
    (hs : ∀ i d ρ' μ', ds[i]? = some d → I i ρ' μ' → ∃ ρ'', Gv X tg d ρ' ρ'' ∧ Bx X body ρ'' μ' { nx := I (i + 1), ct := I (i + 1), bk := D.nx, rt := D.rt })
    (hd : ∀ ρ' μ', I ds.length ρ' μ' → D.nx ρ' μ') (hp : PassesOwn (model X.prog X.w) X.A X.env X.xe) (hc : X.calm = true) (hf : ∀ x, foldedSetIterable iter X.env x = pure x := by intro _; rfl) :
    Sx X (.For tg iter body [] pos) ρ μ D := fun σ H G q E o => by
  obtain ⟨wi, pi, hw⟩ := hw
  refine ws (ps_for hp hc pi pg_w pb_w hf) (hw σ H G q _ fun J H1 G1 s1 b1 m1 wd => ?_)
  have q1 := q.go s1 b1 m1
  have o1 := o.from s1
  refine ⟨fun i m σ' H' => i + m = ds.length ∧ ∃ G' ρ' μ', I i ρ' μ' ∧ Step μ H1 G1 μ' H' G' ∧ At X.K H' G' σ' ρ' μ', ⟨ds.length, by omega, G1, ρ, μ, h0, .refl, q1⟩, ?_⟩
  rintro i m σ' H' ⟨hm, G', ρ', μ', hi, s', q'⟩
  by_cases hl : i < ds.length
  · refine .inr ⟨wd.goes i H' G' hl s'.up q'.sub, fun σ2 H2 => ∃ G2 ρ2 μ2, I (i + 1) ρ2 μ2 ∧ Step μ H1 G1 μ2 H2 G2 ∧ At X.K H2 G2 σ2 ρ2 μ2, fun σ2 H2 z => ⟨m - 1, by omega, by omega, z⟩, fun x H2 y => ?_⟩
    have hd := List.getElem?_eq_getElem hl
    obtain ⟨G2, s2, b2, m2, r2⟩ := wd.yields i H' x H2 G' μ' _ hd s'.up q'.sub q'.mem y
    obtain ⟨ρ'', g, bd⟩ := hs i _ ρ' μ' hd hi
    have s3 := s'.trans s2
    refine g σ' H2 G2 x b2 (q'.sto.mono s2.up) r2 _ fun σ3 st3 => ?_
    refine bd σ3 H2 G2 ⟨b2, m2, st3⟩ _ ⟨fun σ4 H4 G4 ρ4 μ4 p s4 a4 => ⟨G4, ρ4, μ4, p, s3.trans s4, a4⟩, fun v H4 G4 d4 μ4 p s4 b4 m4 r4 => o1.rt v H4 G4 d4 μ4 p (s3.trans s4) b4 m4 r4, fun σ4 H4 G4 ρ4 μ4 p s4 a4 => o1.nx σ4 H4 G4 ρ4 μ4 p (s3.trans s4) a4, fun σ4 H4 G4 ρ4 μ4 p s4 a4 => ⟨G4, ρ4, μ4, p, s3.trans s4, a4⟩⟩
  · have e : i = ds.length := by omega
    subst e
    exact .inl ⟨wd.stops H' G' s'.up q'.sub, o1.nx σ' H' G' ρ' μ' (hd _ _ hi) s' q'⟩
/-- while test -/
theorem sx_while (I : Nat → Rho → Mem → Prop) (k : Nat) (h0 : I k ρ μ)
    (hs : ∀ m ρ' μ', I m ρ' μ' → Tc X c ρ' μ' fun b μ1 => if b = true then Bx X body ρ' μ1 { nx := fun ρ2 μ2 => ∃ m', m' < m ∧ I m' ρ2 μ2, ct := fun ρ2 μ2 => ∃ m', m' < m ∧ I m' ρ2 μ2, bk := D.nx, rt := D.rt } else D.nx ρ' μ1)
    (hp : PassesOwn (model X.prog X.w) X.A X.env X.xe) : Sx X (.While c body [] pos) ρ μ D := fun σ H G q E o => by
  refine ws (ps_while hp pt_w pb_w) ⟨fun m σ' H' => ∃ G' ρ' μ', I m ρ' μ' ∧ Step μ H G μ' H' G' ∧ At X.K H' G' σ' ρ' μ', ⟨k, G, ρ, μ, h0, .refl, q⟩, ?_⟩
  rintro m σ' H' ⟨G', ρ', μ', hi, s', q'⟩
  refine hs m ρ' μ' hi σ' H' G' q' _ fun b H1 G1 μ1 p s1 b1 m1 => ?_
  have q1 := q'.go s1 b1 m1
  have s2 := s'.trans s1
  cases b with
  | false => exact o.nx σ' H1 G1 ρ' μ1 p s2 q1
  | true =>
    refine ⟨fun σ2 H2 => ∃ G2 ρ2 μ2, (∃ m', m' < m ∧ I m' ρ2 μ2) ∧ Step μ H G μ2 H2 G2 ∧ At X.K H2 G2 σ2 ρ2 μ2, fun σ2 H2 ⟨G2, ρ2, μ2, ⟨m', l, i2⟩, s3, a3⟩ => ⟨m', l, G2, ρ2, μ2, i2, s3, a3⟩, ?_⟩
    refine p σ' H1 G1 q1 _ ⟨fun σ4 H4 G4 ρ4 μ4 p s4 a4 => ⟨G4, ρ4, μ4, p, s2.trans s4, a4⟩, fun v H4 G4 d4 μ4 p s4 b4 m4 r4 => o.rt v H4 G4 d4 μ4 p (s2.trans s4) b4 m4 r4, fun σ4 H4 G4 ρ4 μ4 p s4 a4 => o.nx σ4 H4 G4 ρ4 μ4 p (s2.trans s4) a4, fun σ4 H4 G4 ρ4 μ4 p s4 a4 => ⟨G4, ρ4, μ4, p, s2.trans s4, a4⟩⟩
end
end FQ

set_option Elab.async false
set_option linter.all false
set_option maxRecDepth 100000
set_option maxHeartbeats 2000000
namespace FQ
open PySem L2 PySem.Spec PyProof.Rows

/-! ### 11. List comprehensions -/
def wipeR (ρ : Rho) : List Nat → Rho
  | [] => ρ
  | v :: vs => (wipeR ρ vs).set v none
section
variable {K : PySem.W.Frag} {G : Hp}
theorem Sto.unset {σ : L2.St} {ρ : Rho} (h : Sto K G σ ρ) (i : Nat) : Sto K G (σ.set i none) (ρ.set i none) := by
  refine ⟨by rw [List.length_set, List.length_set]; exact h.1, fun j e q => ?_⟩
  by_cases c : i = j
  · subst c
    rw [List.getElem?_set] at q
    by_cases l : i < ρ.length
    · rw [if_pos rfl, if_pos l] at q
      cases q
    · rw [if_pos rfl, if_neg l] at q
      cases q
  · rw [List.getElem?_set_ne c] at q
    obtain ⟨w, a, b⟩ := h.2 j e q
    exact ⟨w, by rw [List.getElem?_set_ne c]; exact a, b⟩
theorem Sto.wipe {σ : L2.St} {ρ : Rho} (h : Sto K G σ ρ) : ∀ vs : List Nat, Sto K G (L2.wipe σ vs) (wipeR ρ vs)
  | [] => h
  | v :: vs => (Sto.wipe h vs).unset v
end
theorem wipe_set {σ : L2.St} {i : Nat} {x : Option V} : ∀ {vs : List Nat}, i ∈ vs → wipe (σ.set i x) vs = wipe σ vs
  | [], h => by cases h
  | v :: vs, h => by
    show (wipe (σ.set i x) vs).set v none = (wipe σ vs).set v none
    by_cases q : i ∈ vs
    · rw [wipe_set q]
    · have e : i = v := by
        rcases List.mem_cons.mp h with e | e
        · exact e
        · exact absurd e q
      subst e
      have comm : ∀ vs : List Nat, i ∉ vs → wipe (σ.set i x) vs = (wipe σ vs).set i x := by
        intro vs
        induction vs with
        | nil => intro _; rfl
        | cons w ws ih =>
          intro hn
          have n1 : i ≠ w := fun e => hn (e ▸ List.mem_cons_self)
          have n2 : i ∉ ws := fun e => hn (List.mem_cons_of_mem _ e)
          show (wipe (σ.set i x) ws).set w none = ((wipe σ ws).set w none).set i x
          rw [ih n2, List.set_comm _ _ n1]
      rw [comm vs q, List.set_set]
theorem wipe_wipe {σ : L2.St} : ∀ {vs ws : List Nat}, (∀ v ∈ vs, v ∈ ws) → wipe (wipe σ vs) ws = wipe σ ws
  | [], _, _ => rfl
  | v :: vs, ws, h => by
    show wipe ((wipe σ vs).set v none) ws = wipe σ ws
    rw [wipe_set (h v List.mem_cons_self)]
    exact wipe_wipe fun w hw => h w (List.mem_cons_of_mem _ hw)
section
variable {X : Cx} {e elt c tg iter : Expr} {ifs : List Expr} {ρ ρ' : Rho} {μ : Mem} {pos p : Pos} {scope : Scope} {Φ : Aft}
def WTs (X : Cx) (ifs : List Expr) : TT := fun σ H Q => ∀ (pins : List (Addr × Obj)) (s : Shared), Inv X pins σ H s →
  wpAny (model X.prog X.w) X.A (forIn ifs true fun c r => if r = true then do let ok ← isTrue c X.env (eval c X.env); pure (ForInStep.yield ok) else pure (ForInStep.yield r)) (TP X pins σ Q) X.xe s
theorem pts_w : PTs X ifs (WTs X ifs) := ⟨fun pins s _ _ _ I h => h pins s I⟩
theorem wts {t : TT} {σ : L2.St} {H : Hp} {Q : Bool → Hp → Prop} (h : PTs X ifs t) (q : t σ H Q) : WTs X ifs σ H Q := fun pins s I => h.run pins s σ H Q I q
def Tsc (X : Cx) (ifs : List Expr) (ρ : Rho) (μ : Mem) (Φ : Bool → Mem → Prop) : Prop := ∀ σ H G, At X.K H G σ ρ μ → ∀ Q, FinT X.K μ H G Φ Q → WTs X ifs σ H Q
theorem tsc_nil {Ψ : Bool → Mem → Prop} (h : Ψ true μ) : Tsc X [] ρ μ Ψ := fun σ H G q Q f => wts pts_nil (f true H G μ h .refl q.sub q.mem)
theorem tsc_one {Ψ : Bool → Mem → Prop} (h : Tc X c ρ μ Ψ) : Tsc X [c] ρ μ Ψ := fun σ H G q Q f => wts (pts_one pt_w) (h σ H G q Q f)
/-- a target whose names are the block's own -/
def Gw (X : Cx) (tg : Expr) (vs : List Nat) (d : D) (ρ ρ' : Rho) : Prop := ∀ σ H G v, Sub G H → Sto X.K G σ ρ → Rp X.K G v d → ∀ Q : L2.St → Hp → Prop, (∀ σ', Sto X.K G σ' ρ' → wipe σ' vs = wipe σ vs → Q σ' H) → WG X tg v σ H Q
def GwL (X : Cx) (ts : List Expr) (vs : List Nat) (ds : List D) (ρ ρ' : Rho) : Prop := ∀ σ H G ws, Sub G H → Sto X.K G σ ρ → RpL X.K G ws ds → ∀ Q : L2.St → Hp → Prop, (∀ σ', Sto X.K G σ' ρ' → wipe σ' vs = wipe σ vs → Q σ' H) →
  ∀ (pins : List (Addr × Obj)) (s : Shared) (us : List Value), Inv X pins σ H s → Vals ws us → wpAny (model X.prog X.w) X.A (assignInOrder ((assignEach ts X.env).map (·.2)) us) (fun _ s' => ∃ σ' H', Inv X pins σ' H' s' ∧ Q σ' H') X.xe s
theorem gw_name {n : Str} {d : D} {vs : List Nat} (i : Nat) (hi : X.N[i]? = some n) (hN : X.N.Nodup) (hx : Loc X.env.scope n) (hv : i ∈ vs) (hf : X.fn n = true ∨ X.env.scope.names.lookup n = some .local) : Gw X (.Name n pos) vs d ρ (ρ.set i (some d)) := fun σ H G v b st r Q k =>
  wg (pg_name hN hi hx hf) (k _ (st.set r) (wipe_set hv))
theorem gwl_nil {vs : List Nat} : GwL X [] vs [] ρ ρ := fun σ H G ws b st r Q k pins s us I rv => by
  cases r
  exact pgs_nil.run pins s σ H [] us Q I rv ⟨rfl, k σ st rfl⟩
theorem gwl_cons {t : Expr} {ts : List Expr} {d : D} {ds : List D} {ρ1 ρ2 : Rho} {vs : List Nat} (h : Gw X t vs d ρ ρ1) (h2 : GwL X ts vs ds ρ1 ρ2)
    (hs : (assignEach (t :: ts) X.env).map (·.2) = assign t X.env :: (assignEach ts X.env).map (·.2) := by rfl) : GwL X (t :: ts) vs (d :: ds) ρ ρ2 := fun σ H G ws b st r Q k pins s us I rv => by
  cases r with
  | cons rd rr =>
    rename_i v ws
    refine (pgs_cons (u := fun ws σ H Q => ∀ (pins : List (Addr × Obj)) (s : Shared) (us : List Value), Inv X pins σ H s → Vals ws us → wpAny (model X.prog X.w) X.A (assignInOrder ((assignEach ts X.env).map (·.2)) us) (fun _ s' => ∃ σ' H', Inv X pins σ' H' s' ∧ Q σ' H') X.xe s)
      pg_w ⟨fun pins s σ H vs us Q I r h => h pins s us I r⟩ hs).run pins s σ H (v :: ws) us Q I rv ⟨v, ws, rfl, ?_⟩
    exact h σ H G v b st rd _ fun σ' st' w' => h2 σ' H G ws b st' rr Q fun σ2 st2 w2 => k σ2 st2 (w2.trans w')
theorem gw_tup {ts : List Expr} {kk : Nat} {ds : List D} {vs : List Nat} (h : GwL X ts vs ds ρ ρ') (hl : ds.length = ts.length) (hc : X.calm = true) (hn : (assignEach ts X.env).length = ts.length := by rfl) (hst : (assignEach ts X.env).findIdx? (·.1) = none := by rfl) :
    Gw X (.Tuple ts kk pos) vs (.tup ds) ρ ρ' := fun σ H G v b st r Q k => by
  cases r with
  | tup ht rt =>
    exact wg (pg_tup (t := fun ws σ H Q => ∀ (pins : List (Addr × Obj)) (s : Shared) (us : List Value), Inv X pins σ H s → Vals ws us → wpAny (model X.prog X.w) X.A (assignInOrder ((assignEach ts X.env).map (·.2)) us) (fun _ s' => ∃ σ' H', Inv X pins σ' H' s' ∧ Q σ' H') X.xe s)
      hc ⟨fun pins s σ H ws us Q I r h => h pins s us I r⟩ hn hst) ⟨_, _, rfl, Same.sqT b ht, by rw [rt.length]; exact hl, h σ H G _ b st rt Q k⟩
/-- for every block of the comprehension -/
abbrev Blk (X : Cx) (scope : Scope) (s : Shared) (H : Hp) (C : Addr) (cl : List (Str × Addr)) (fp : List Addr) : Cx := X.blk s H scope (compEnvC scope cl C X.env) fp
def InB (X : Cx) (scope : Scope) (P : Cx → Prop) : Prop := ∀ (s : Shared) (H : Hp) (C : Addr) (cl : List (Str × Addr)) (fp : List Addr), P (Blk X scope s H C cl fp)
theorem lc_reads {ds : List D} {own : List (Str × Nat)} {wi : TI} {σ : L2.St} {H G : Hp} {Q : VK} (hw : ∀ σ H G, At X.K H G σ ρ μ → ∀ R : It → Hp → Prop, (∀ J H1 G1, Step μ H G μ H1 G1 → Sub G1 H1 → Mm X.K H1 G1 μ → WalkD X.K G1 J ds → R J H1) → wi σ H R) (hz : ds.length ≤ sizeLine)
    (I : Nat → List D → Mem → Prop) (h0 : I 0 [] μ)
    (hs : ∀ i d acc μ', ds[i]? = some d → I i acc μ' → acc.length ≤ i → ∃ ρ'', InB X scope (fun Y => Gw Y tg (own.map (·.2)) d (wipeR ρ (own.map (·.2))) ρ'') ∧
      InB X scope fun Y => Tsc Y ifs ρ'' μ' fun b μ1 => if b = true then InB X scope (fun Y => Ec Y elt ρ'' μ1 fun r μ2 => I (i + 1) (acc ++ [r]) μ2) else I (i + 1) acc μ1)
    (q : At X.K H G σ ρ μ) (f : ∀ v H' G' acc μ', I ds.length acc μ' → Step μ H G μ' H' G' → Sub G' H' → Mm X.K H' G' μ' → Rp X.K G' v (.lst acc) → Q v H') :
    tLc wi (fun v σ H Q => ∀ (s : Shared) (H0 : Hp) (C : Addr) (cl : List (Str × Addr)) (fp : List Addr), WG (Blk X scope s H0 C cl fp) tg v σ H Q) (fun σ H Q => ∀ (s : Shared) (H0 : Hp) (C : Addr) (cl : List (Str × Addr)) (fp : List Addr), WTs (Blk X scope s H0 C cl fp) ifs σ H Q)
      (fun σ H Q => ∀ (s : Shared) (H0 : Hp) (C : Addr) (cl : List (Str × Addr)) (fp : List Addr), WE (Blk X scope s H0 C cl fp) elt σ H Q) (own.map (·.2)) σ H Q := by
  refine hw σ H G q _ fun J H1 G1 s1 b1 m1 wd L hL => ?_
  have gL : G1 L = none := b1.free hL
  have mL : μ L = none := m1.free hL
  refine ⟨fun i m H' => i + m = ds.length ∧ ∃ G' acc xs μ', I i acc μ' ∧ acc.length ≤ i ∧ Step μ H1 G1 μ' H' G' ∧ Sub G' H' ∧ Mm X.K H' G' μ' ∧ H' L = some (.lst xs) ∧ RpL X.K G' xs acc ∧ μ' L = none ∧ G' L = none,
    ⟨ds.length, ?_⟩, ?_⟩
  · have st : Step μ H1 G1 μ (upd H1 L (.lst [])) G1 := ⟨fun a o e _ => by rw [upd_ne (ne_of_none e hL)]; exact e, fun _ _ e => e, fun _ _ _ e _ => e, fun _ e _ => e⟩
    refine ⟨Nat.zero_add _, G1, [], [], μ, h0, Nat.le_refl _, st, sub_put b1 gL, ?_, upd_same, .nil, mL, gL⟩
    intro a o e
    obtain ⟨x, y⟩ := m1 a o e
    have n : a ≠ L := fun q => by rw [q, mL] at e; cases e
    exact ⟨x, y.keep (upd_ne n) fun _ _ z => z⟩
  rintro i m H' ⟨hm, G', acc, xs, μ', hi, hl, s', b', m', eL, rL, nL, nG⟩
  have stw : Sto X.K G' (wipe σ (own.map (·.2))) (wipeR ρ (own.map (·.2))) := ((q.sto.mono s1.up).mono s'.up).wipe _
  by_cases hlt : i < ds.length
  · refine .inr ⟨wd.goes i H' G' hlt s'.up b', fun H2 => ∃ G2 acc2 xs2 μ2, I (i + 1) acc2 μ2 ∧ acc2.length ≤ i + 1 ∧ Step μ H1 G1 μ2 H2 G2 ∧ Sub G2 H2 ∧ Mm X.K H2 G2 μ2 ∧ H2 L = some (.lst xs2) ∧ RpL X.K G2 xs2 acc2 ∧ μ2 L = none ∧ G2 L = none,
      fun H2 z => ⟨m - 1, by omega, by omega, z⟩, fun x H2 y => ?_⟩
    have hd := List.getElem?_eq_getElem hlt
    obtain ⟨G2, s2, b2, m2, r2⟩ := wd.yields i H' x H2 G' μ' _ hd s'.up b' m' y
    obtain ⟨ρ'', gw, ts⟩ := hs i _ acc μ' hd hi hl
    have e2 : H2 L = some (.lst xs) := s2.same L _ eL nL
    have g2 : G2 L = none := s2.new L _ eL nG nL
    intro sA HA CA clA fpA
    refine gw sA HA CA clA fpA (wipe σ (own.map (·.2))) H2 G2 x b2 (stw.mono s2.up) r2 _ ?_
    intro σ3 st3 w3
    refine ⟨w3.trans (wipe_wipe fun v hv => hv), fun sB HB CB clB fpB => ?_⟩
    refine ts sB HB CB clB fpB σ3 H2 G2 ⟨b2, m2, st3⟩ _ fun b H3 G3 μ3 p3 s3 b3 m3 => ?_
    have e3 : H3 L = some (.lst xs) := s3.same L _ e2 nL
    have g3 : G3 L = none := s3.new L _ e2 g2 nL
    have n3 : μ3 L = none := s3.dom L nL (by rw [e2]; simp)
    have up3 : Same G' G3 := fun a o z => s3.up a o (s2.up a o z)
    cases b with
    | false => exact ⟨G3, acc, xs, μ3, p3, by omega, (s'.trans s2).trans s3, b3, m3, e3, rL.mono up3, n3, g3⟩
    | true =>
      intro sC HC CC clC fpC
      refine p3 sC HC CC clC fpC σ3 H3 G3 ⟨b3, m3, st3.mono s3.up⟩ _ fun v H4 G4 d μ4 p4 s4 b4 m4 r4 => ?_
      have e4 : H4 L = some (.lst xs) := s4.same L _ e3 n3
      have g4 : G4 L = none := s4.new L _ e3 g3 n3
      have n4 : μ4 L = none := s4.dom L n3 (by rw [e3]; simp)
      have s5 := ((s'.trans s2).trans s3).trans s4
      have nl : ∀ a, μ4 a ≠ none → a ≠ L := fun a h e => h (e ▸ n4)
      refine ⟨xs, e4, by rw [rL.length]; omega, G4, acc ++ [d], xs ++ [v], μ4, p4, by rw [List.length_append, List.length_singleton]; omega, ⟨fun a o e n => ?_, s5.up, s5.new, s5.dom⟩, sub_put b4 g4, ?_, upd_same, (rL.mono (fun a o z => s4.up a o (up3 a o z))).append (.one r4), n4, g4⟩
      · by_cases c : a = L
        · subst c
          rw [hL] at e
          cases e
        · rw [upd_ne c]
          exact s5.same a o e n
      · intro a o e
        obtain ⟨x, y⟩ := m4 a o e
        exact ⟨x, y.keep (upd_ne (nl a (by rw [e]; simp))) fun _ _ z => z⟩
  · have e : i = ds.length := by omega
    subst e
    refine .inl ⟨wd.stops H' G' s'.up b', ?_⟩
    have fr : Step μ' H' G' μ' H' (upd G' L (.lst xs)) → True := fun _ => trivial
    refine f (.ref L) H' (upd G' L (.lst xs)) acc μ' hi ?_ (sub_freeze b' eL) (fun a o e => ?_) (.lst upd_same (rL.mono (same_new nG)))
    · refine s1.trans ⟨s'.same, fun a o e => same_new nG a o (s'.up a o e), fun a o e g n => ?_, s'.dom⟩
      have c : a ≠ L := fun q => by rw [q, hL] at e; cases e
      rw [upd_ne c]
      exact s'.new a o e g n
    · obtain ⟨x, y⟩ := m' a o e
      have c : a ≠ L := fun q => by rw [q, nL] at e; cases e
      exact ⟨by rw [upd_ne c]; exact x, y.keep rfl (same_new nG)⟩
theorem ec_lc {ds : List D} {own : List (Str × Nat)} (hw : Wk X tg iter ρ μ ds) (hz : ds.length ≤ sizeLine) (I : Nat → List D → Mem → Prop) (h0 : I 0 [] μ)
    (hs : ∀ i d acc μ', ds[i]? = some d → I i acc μ' → acc.length ≤ i → ∃ ρ'', InB X scope (fun Y => Gw Y tg (own.map (·.2)) d (wipeR ρ (own.map (·.2))) ρ'') ∧
      InB X scope fun Y => Tsc Y ifs ρ'' μ' fun b μ1 => if b = true then InB X scope (fun Y => Ec Y elt ρ'' μ1 fun r μ2 => I (i + 1) (acc ++ [r]) μ2) else I (i + 1) acc μ1)
    (hd : ∀ acc μ', I ds.length acc μ' → Φ (.lst acc) μ') (ok : BlkOk X.N X.env.scope scope own) (hN : X.N.Nodup) (hc : X.calm = true) (hf : ∀ x, foldedSetIterable iter X.env x = pure x := by intro _; rfl) :
    Ec X (.ListComp elt [⟨tg, iter, ifs, 0⟩] scope pos) ρ μ Φ := fun σ H G q Q f => by
  obtain ⟨wi, pi, hw⟩ := hw
  exact we (pe_lc hc hN pi ok (fun s H C cl fp => ⟨fun pins s2 σ H v u Q I r h => h s _ C cl fp pins s2 u I r⟩) (fun s H C cl fp => ⟨fun pins s2 σ H Q I h => h s _ C cl fp pins s2 I⟩) (fun s H C cl fp => ⟨fun pins s2 σ H Q I h => h s _ C cl fp pins s2 I⟩) hf)
    (lc_reads hw hz I h0 hs q fun v H' G' acc μ' p s b m r => f v H' G' _ μ' (hd acc μ' p) s b m r)
/-- plain: every item gives a value -/
theorem ev_lc {ds : List D} {own : List (Str × Nat)} (g : D → D) (hw : Wk X tg iter ρ μ ds) (hz : ds.length ≤ sizeLine)
    (hs : ∀ d, d ∈ ds → ∃ ρ'', InB X scope (fun Y => Gw Y tg (own.map (·.2)) d (wipeR ρ (own.map (·.2))) ρ'') ∧ InB X scope fun Y => Ev Y elt ρ'' μ (g d))
    (ok : BlkOk X.N X.env.scope scope own) (hN : X.N.Nodup) (hc : X.calm = true) (hf : ∀ x, foldedSetIterable iter X.env x = pure x := by intro _; rfl) :
    Ev X (.ListComp elt [⟨tg, iter, [], 0⟩] scope pos) ρ μ (.lst (ds.map g)) := by
  refine ec_lc (own := own) hw hz (fun i acc μ' => acc = (ds.take i).map g ∧ μ' = μ) ⟨rfl, rfl⟩ (fun i d acc μ' hd ⟨e1, e2⟩ _ => ?_) (fun acc μ' ⟨e1, e2⟩ => ⟨by rw [e1, List.take_length], e2⟩) ok hN hc hf
  subst e1
  subst e2
  obtain ⟨ρ'', h1, h2⟩ := hs d (List.mem_of_getElem? hd)
  refine ⟨ρ'', h1, fun s H C cl fp => tsc_nil (fun s H C cl fp => (h2 s H C cl fp).to ⟨?_, rfl⟩)⟩
  rw [List.take_add_one, hd, List.map_append]
  rfl
/-- .. with a test -/
theorem ev_lcif {ds : List D} {own : List (Str × Nat)} (t : D → Bool) (g : D → D) (hw : Wk X tg iter ρ μ ds) (hz : ds.length ≤ sizeLine)
    (hs : ∀ d, d ∈ ds → ∃ ρ'', InB X scope (fun Y => Gw Y tg (own.map (·.2)) d (wipeR ρ (own.map (·.2))) ρ'') ∧ InB X scope (fun Y => Tv Y c ρ'' μ (t d)) ∧ (t d = true → InB X scope fun Y => Ev Y elt ρ'' μ (g d)))
    (ok : BlkOk X.N X.env.scope scope own) (hN : X.N.Nodup) (hc : X.calm = true) (hf : ∀ x, foldedSetIterable iter X.env x = pure x := by intro _; rfl) :
    Ev X (.ListComp elt [⟨tg, iter, [c], 0⟩] scope pos) ρ μ (.lst ((ds.filter t).map g)) := by
  refine ec_lc (own := own) hw hz (fun i acc μ' => acc = ((ds.take i).filter t).map g ∧ μ' = μ) ⟨rfl, rfl⟩ (fun i d acc μ' hd ⟨e1, e2⟩ _ => ?_) (fun acc μ' ⟨e1, e2⟩ => ⟨by rw [e1, List.take_length], e2⟩) ok hN hc hf
  subst e1
  subst e2
  obtain ⟨ρ'', h1, h2, h3⟩ := hs d (List.mem_of_getElem? hd)
  refine ⟨ρ'', h1, fun s H C cl fp => tsc_one ((h2 s H C cl fp).to ?_)⟩
  have st : (ds.take (i + 1)).filter t = (ds.take i).filter t ++ (if t d = true then [d] else []) := by
    rw [List.take_add_one, hd, List.filter_append]
    congr 1
    cases e : t d <;> simp [List.filter, e]
  cases e : t d with
  | false =>
    rw [e] at st
    refine ⟨?_, rfl⟩
    rw [st]
    simp
  | true =>
    rw [e] at st
    refine fun s H C cl fp => (h3 e s H C cl fp).to ⟨?_, rfl⟩
    rw [st, List.map_append]
    rfl
end
/-- y = [..] -/
theorem sx_setLc {X : Cx} {elt tg iter : Expr} {ifs : List Expr} {ρ : Rho} {μ : Mem} {pos spos py : Pos} {scope : Scope} {D : AE} {ds : List FQ.D} {own : List (Str × Nat)} {y : Str} (j : Nat) (hy : X.N[j]? = some y) (hw : Wk X tg iter ρ μ ds) (hz : ds.length ≤ sizeLine) (I : Nat → List FQ.D → Mem → Prop) (h0 : I 0 [] μ)
    (hs : ∀ i d acc μ', ds[i]? = some d → I i acc μ' → acc.length ≤ i → ∃ ρ'', InB X scope (fun Y => Gw Y tg (own.map (·.2)) d (wipeR ρ (own.map (·.2))) ρ'') ∧
      InB X scope fun Y => Tsc Y ifs ρ'' μ' fun b μ1 => if b = true then InB X scope (fun Y => Ec Y elt ρ'' μ1 fun r μ2 => I (i + 1) (acc ++ [r]) μ2) else I (i + 1) acc μ1)
    (hd : ∀ acc μ', I ds.length acc μ' → D.nx (ρ.set j (some (.lst acc))) μ') (ok : BlkOk X.N X.env.scope scope own) (hN : X.N.Nodup) (hc : X.calm = true) (hyl : X.env.scope.names.lookup y = some .local)
    (hsw : swapsWith (.ListComp elt [⟨tg, iter, ifs, 0⟩] scope pos) (some (.Name y py)) spos.line X.env = pure true) (hf : ∀ x, foldedSetIterable iter X.env x = pure x := by intro _; rfl) :
    Sx X (.Assign [.Name y py] (.ListComp elt [⟨tg, iter, ifs, 0⟩] scope pos) spos) ρ μ D := fun σ H G q E o => by
  obtain ⟨wi, pi, hw⟩ := hw
  exact ws (ps_setLc hc hN hy hyl hsw pi ok (fun s H C cl fp => ⟨fun pins s2 σ H v u Q I r h => h s _ C cl fp pins s2 u I r⟩) (fun s H C cl fp => ⟨fun pins s2 σ H Q I h => h s _ C cl fp pins s2 I⟩) (fun s H C cl fp => ⟨fun pins s2 σ H Q I h => h s _ C cl fp pins s2 I⟩) hf)
    (lc_reads hw hz I h0 hs q fun v H' G' acc μ' p s b m r => o.nx (σ.set j (some v)) H' G' _ μ' (hd acc μ' p) s ⟨b, m, (q.sto.mono s.up).set r⟩)
end FQ

set_option Elab.async false
set_option linter.all false
set_option maxRecDepth 100000
set_option maxHeartbeats 2000000
namespace FQ
open PySem L2 PySem.Spec PyProof.Rows

/-! ### 12. Tables as two rows -/
section
variable {κ : Type} [DecidableEq κ] {α β : Type}
def getN (ks : List κ) (ds : List α) (k : κ) : Option α := ((ks.zip ds).find? fun kv => decide (kv.1 = k)).map (·.2)
def putN (k : κ) : List κ → List κ
  | [] => [k]
  | g :: r => if g = k then g :: r else g :: putN k r
def putD (k : κ) (d : α) : List κ → List α → List α
  | g :: r, x :: xs => if g = k then d :: xs else x :: putD k d r xs
  | _, _ => [d]
theorem getN_cons {k g : κ} {ks : List κ} {d : α} {ds : List α} : getN (g :: ks) (d :: ds) k = if g = k then some d else getN ks ds k := by
  unfold getN
  rw [List.zip_cons_cons, List.find?_cons]
  by_cases h : g = k
  · rw [if_pos h]
    simp [h]
  · rw [if_neg h]
    simp [h]
theorem putN_len {k : κ} {d : α} : ∀ {ks : List κ} {ds : List α}, ks.length = ds.length → (putN k ks).length = (putD k d ks ds).length
  | [], [], _ => rfl
  | g :: r, x :: xs, h => by
    unfold putN putD
    by_cases e : g = k
    · rw [if_pos e, if_pos e]
      exact h
    · rw [if_neg e, if_neg e]
      exact congrArg (· + 1) (putN_len (Nat.succ.inj h))
  | [], _ :: _, h => by cases h
  | _ :: _, [], h => by cases h
theorem putN_le {k : κ} : ∀ {ks : List κ}, (putN k ks).length ≤ ks.length + 1
  | [] => Nat.le_refl _
  | g :: r => by
    unfold putN
    by_cases e : g = k
    · rw [if_pos e]
      exact Nat.le_succ _
    · rw [if_neg e]
      exact Nat.succ_le_succ putN_le
end
section
variable {κ : Type} [DecidableEq κ] {K : PySem.W.Frag} {G : Hp}
theorem getN_rel {ks : List κ} {k : κ} {d : D} : ∀ {xs : List V} {ds : List D}, RpL K G xs ds → ks.length = xs.length → getN ks ds k = some d → ∃ v, getN ks xs k = some v ∧ Rp K G v d := by
  induction ks with
  | nil => intro xs ds r l h; cases r <;> cases h
  | cons g r ih =>
    intro xs ds q l h
    cases q with
    | nil => cases l
    | cons q1 q2 =>
      rw [getN_cons] at h ⊢
      by_cases e : g = k
      · rw [if_pos e] at h ⊢
        cases h
        exact ⟨_, rfl, q1⟩
      · rw [if_neg e] at h ⊢
        exact ih q2 (Nat.succ.inj l) h
theorem getN_none {ks : List κ} {k : κ} : ∀ {xs : List V} {ds : List D}, RpL K G xs ds → ks.length = xs.length → getN ks ds k = none → getN ks xs k = none := by
  induction ks with
  | nil => intro xs ds r l h; cases r <;> rfl
  | cons g r ih =>
    intro xs ds q l h
    cases q with
    | nil => cases l
    | cons q1 q2 =>
      rw [getN_cons] at h ⊢
      by_cases e : g = k
      · rw [if_pos e] at h
        cases h
      · rw [if_neg e] at h ⊢
        exact ih q2 (Nat.succ.inj l) h
theorem putD_rel {k : κ} {v : V} {d : D} (h : Rp K G v d) : ∀ {ks : List κ} {xs : List V} {ds : List D}, RpL K G xs ds → RpL K G (putD k v ks xs) (putD k d ks ds)
  | [], _, _, _ => .one h
  | _ :: _, _, _, .nil => .one h
  | g :: r, _, _, .cons q1 q2 => by
    unfold putD
    by_cases e : g = k
    · rw [if_pos e, if_pos e]
      exact .cons h q2
    · rw [if_neg e, if_neg e]
      exact .cons q1 (putD_rel h q2)
end
theorem valV_get {κ : Type} [DecidableEq κ] (ks : List κ) (xs : List V) (k : κ) : valV (ks.zip xs) k = getN ks xs k := rfl
theorem look_get (f : Str) : ∀ (ns : List Str) (xs : List V), ns.length = xs.length → (ns.zip xs).lookup f = getN ns xs f
  | [], _, _ => rfl
  | _ :: _, [], h => by cases h
  | g :: r, x :: xs, h => by
    rw [getN_cons, List.zip_cons_cons, List.lookup_cons]
    by_cases e : g = f
    · rw [if_pos e]
      subst e
      simp
    · rw [if_neg e]
      have e' : (f == g) = false := by simpa using fun q => e q.symm
      rw [e']
      exact look_get f r xs (Nat.succ.inj h)
theorem putF_zip (f : Str) (v : V) : ∀ (ns : List Str) (xs : List V), ns.length = xs.length → L2.putF f v (ns.zip xs) = (putN f ns).zip (putD f v ns xs)
  | [], [], _ => rfl
  | [], _ :: _, h => by cases h
  | _ :: _, [], h => by cases h
  | g :: r, x :: xs, h => by
    rw [List.zip_cons_cons]
    unfold L2.putF putN putD
    by_cases e : g = f
    · rw [if_pos e, if_pos e, if_pos e]
      rfl
    · rw [if_neg e, if_neg e, if_neg e, putF_zip f v r xs (Nat.succ.inj h)]
      rfl
theorem putK_zip {κ : Type} [DecidableEq κ] (k : κ) (v : V) : ∀ (ks : List κ) (xs : List V), ks.Nodup → ks.length = xs.length → putK (ks.zip xs) k v = (putN k ks).zip (putD k v ks xs)
  | [], [], _, _ => rfl
  | [], _ :: _, _, h => by cases h
  | _ :: _, [], _, h => by cases h
  | g :: r, x :: xs, nd, h => by
    have ih := putK_zip k v r xs (List.nodup_cons.mp nd).2 (Nat.succ.inj h)
    unfold putK at ih ⊢
    rw [List.zip_cons_cons, List.any_cons, List.map_cons]
    unfold putN putD
    by_cases e : g = k
    · subst e
      have key : ∀ kv ∈ r.zip xs, (if kv.1 = g then (kv.1, v) else kv) = kv := fun kv hkv => by
        have hm : kv.1 ∈ r := (List.of_mem_zip hkv).1
        have n : ¬ kv.1 = g := fun q => (List.nodup_cons.mp nd).1 (q ▸ hm)
        rw [if_neg n]
      rw [if_pos rfl, if_pos rfl]
      simp only [decide_true, Bool.true_or, if_true]
      rw [List.map_congr_left key, List.map_id'']
      · rfl
      · intro _; rfl
    · rw [if_neg e, if_neg e, decide_eq_false e, Bool.false_or]
      by_cases c : ((r.zip xs).any fun kv => decide (kv.1 = k)) = true
      · rw [if_pos c] at ih ⊢
        rw [ih]
        rw [if_neg e]
        rfl
      · rw [if_neg c] at ih ⊢
        rw [if_neg e, List.zip_cons_cons, ← ih]
        rfl
theorem putN_in {κ : Type} [DecidableEq κ] {k : κ} : ∀ {ks : List κ}, k ∈ ks → putN k ks = ks
  | [], h => by cases h
  | g :: r, h => by
    unfold putN
    by_cases e : g = k
    · rw [if_pos e]
    · rw [if_neg e, putN_in ((List.mem_cons.mp h).resolve_left fun q => e q.symm)]
theorem putN_out {κ : Type} [DecidableEq κ] {k : κ} : ∀ {ks : List κ}, k ∉ ks → putN k ks = ks ++ [k]
  | [], _ => rfl
  | g :: r, h => by
    unfold putN
    have n : ¬ g = k := fun e => h (e ▸ List.mem_cons_self)
    rw [if_neg n, putN_out fun q => h (List.mem_cons_of_mem _ q)]
    rfl

/-! ### 13. Fields -/
section
variable {X : Cx} {e o value : Expr} {ρ : Rho} {μ : Mem} {pos pos' p : Pos} {f : Str} {x d : D} {Φ : Aft} {D' : AE}
def FldD (X : Cx) (f : Str) (x : D) (μ : Mem) (d : D) : Prop := ∀ H G v, Now X.K H G μ → Rp X.K G v x → ∃ a C dx fs w, v = .ref a ∧ H a = some (.ins C dx fs) ∧ Cls X.K C ∧ NoAttr X.K C f ∧ fs.lookup f = some w ∧ Rp X.K G w d
theorem fld_own {a C : Addr} {ns : List Str} {ds : List D} (m : μ a = some (.ins C ns ds)) (c : Cls X.K C) (n : NoAttr X.K C f) (h : getN ns ds f = some d) : FldD X f (.raw (.ref a)) μ d := fun H G v q r => by
  cases r
  obtain ⟨_, dx, xs, e, l, r⟩ := q.mem _ _ m
  obtain ⟨w, hw, rw'⟩ := getN_rel r l h
  exact ⟨_, _, _, _, w, rfl, e, c, n, by rw [look_get f _ _ l]; exact hw, rw'⟩
theorem fld_ins {C : Addr} {ns : List Str} {ds : List D} (c : Cls X.K C) (n : NoAttr X.K C f) (h : getN ns ds f = some d) : FldD X f (.ins C ns ds) μ d := fun H G v q r => by
  cases r with
  | ins e l r =>
    obtain ⟨w, hw, rw'⟩ := getN_rel r l h
    exact ⟨_, _, _, _, w, rfl, q.sub _ _ e, c, n, by rw [look_get f _ _ l]; exact hw, rw'⟩
theorem ec_fld (h : Ec X e ρ μ fun x μ1 => ∃ d, FldD X f x μ1 d ∧ Φ d μ1) (hb : attributeBase e f X.env (eval e X.env) = eval e X.env := by rfl) : Ec X (.Attribute e f pos) ρ μ Φ := fun σ H G q Q k =>
  we (pe_fld pe_w hb) (h σ H G q _ fun v H1 G1 x μ1 ⟨d, fd, p⟩ s b m r => by
    obtain ⟨a, C, dx, fs, w, e1, e2, c, n, l, r2⟩ := fd H1 G1 v ⟨b, m⟩ r
    exact ⟨a, C, dx, fs, w, e1, e2, c, n, l, k w H1 G1 d μ1 p s b m r2⟩)
theorem ev_fld (h : Ev X e ρ μ x) (fd : FldD X f x μ d) (hb : attributeBase e f X.env (eval e X.env) = eval e X.env := by rfl) : Ev X (.Attribute e f pos) ρ μ d := ec_fld (h.to ⟨d, fd, rfl, rfl⟩) hb
/-- o.f = value -/
theorem sx_fld (h : Ec X value ρ μ fun d μ1 => Ec X o ρ μ1 fun x μ2 => ∃ a C ns ds, x = .raw (.ref a) ∧ μ2 a = some (.ins C ns ds) ∧ Cls X.K C ∧ NoAttr X.K C f ∧ ns.length < 1000 ∧ D'.nx ρ (μ2.put a (.ins C (putN f ns) (putD f d ns ds))))
    (hs : swapsWith value (some (.Attribute o f pos')) pos.line X.env = pure false := by rfl) : Sx X (.Assign [.Attribute o f pos'] value pos) ρ μ D' := fun σ H G q E k => by
  refine ws (ps_fld pe_w pe_w hs) (h σ H G q _ fun y H1 G1 d μ1 p1 s1 b1 m1 r1 => ?_)
  refine p1 σ H1 G1 (q.go s1 b1 m1) _ fun v H2 G2 x μ2 p2 s2 b2 m2 r2 => ?_
  obtain ⟨a, C, ns, ds, e, m, c, n, l, nx⟩ := p2
  subst e
  cases r2
  obtain ⟨g, dx, xs, e, l2, r⟩ := m2 _ _ m
  refine ⟨_, _, _, _, rfl, e, c, n, by rw [List.length_zip, ← l2, Nat.min_self]; exact l, ?_⟩
  have st : Step μ H G (μ2.put a (.ins C (putN f ns) (putD f d ns ds))) (upd H2 a (.ins C dx (L2.putF f y (ns.zip xs)))) G2 := (s1.trans s2).trans (step_put (.inl (by rw [m]; simp)))
  refine k.nx σ _ G2 ρ _ nx st ⟨sub_put b2 g, mm_put m2 g ⟨dx, putD f y ns xs, ?_, putN_len l2, putD_rel (r1.mono s2.up) r⟩, (q.sto.mono s1.up).mono s2.up⟩
  rw [upd_same, putF_zip f y ns xs l2]
end

/-! ### 14. Dicts with keys that are ints and texts -/
section
variable {X : Cx} {e o i value : Expr} {ρ : Rho} {μ : Mem} {pos pos' p : Pos} {x y d : D} {Φ : Aft} {D' : AE}
def keyD : Key → D
  | .inl i => .int i
  | .inr s => .str s
theorem Rp.key {K : PySem.W.Frag} {G : Hp} {v : V} {k : Key} (r : Rp K G v (keyD k)) : v = kV k := by
  cases k with
  | inl i => cases r; rfl
  | inr s => cases r; rfl
/-- what d holds at k -/
def DicD (X : Cx) (x y : D) (μ : Mem) (o : Option D) : Prop := ∀ H G v u, Now X.K H G μ → Rp X.K G v x → Rp X.K G u y → ∃ a r, v = .ref a ∧ DGet H a u r ∧ IsD H a ∧ (match o, r with
  | some d, some w => Rp X.K G w d
  | none, none => True
  | _, _ => False)
theorem dic_own {a : Addr} {ks : List Key} {ds : List D} {k : Key} (m : μ a = some (.dK ks ds)) : DicD X (.raw (.ref a)) (keyD k) μ (getN ks ds k) := fun H G v u n r ru => by
  cases r
  have e := ru.key
  subst e
  obtain ⟨_, xs, e, l, r⟩ := n.mem _ _ m
  refine ⟨a, _, rfl, DGet.k e, .inl ⟨_, .inl e⟩, ?_⟩
  rw [valV_get]
  cases c : getN ks ds k with
  | some d =>
    obtain ⟨w, hw, rw'⟩ := getN_rel r l c
    rw [hw]
    exact rw'
  | none =>
    rw [getN_none r l c]
    trivial
theorem dic_dic {ks : List Key} {ds : List D} {k : Key} : DicD X (.dic ks ds) (keyD k) μ (getN ks ds k) := fun H G v u n r ru => by
  cases r with
  | dic h l r =>
    have e := ru.key
    subst e
    refine ⟨_, _, rfl, DGet.k (n.sub _ _ h), .inl ⟨_, .inl (n.sub _ _ h)⟩, ?_⟩
    rw [valV_get]
    cases c : getN ks ds k with
    | some d =>
      obtain ⟨w, hw, rw'⟩ := getN_rel r l c
      rw [hw]
      exact rw'
    | none =>
      rw [getN_none r l c]
      trivial
theorem ec_dget (hu : X.A.units + 1 < cLine) (h : Ec X o ρ μ fun x μ1 => Ec X i ρ μ1 fun y μ2 => ∃ d, DicD X x y μ2 (some d) ∧ Φ d μ2) (hs : NoSl i) : Ec X (.Subscript o i pos) ρ μ Φ := fun σ H G q Q f => by
  refine we (pe_dget hu pe_w pe_w hs) (h σ H G q _ fun v H1 G1 x μ1 p1 s1 b1 m1 r1 => ?_)
  refine p1 σ H1 G1 (q.go s1 b1 m1) _ fun u H2 G2 y μ2 ⟨d, g, p⟩ s2 b2 m2 r2 => ?_
  obtain ⟨a, r, e, dg, _, rr⟩ := g H2 G2 v u ⟨b2, m2⟩ (r1.mono s2.up) r2
  cases r with
  | none => exact rr.elim
  | some w => exact ⟨a, w, e, dg, f w H2 G2 d μ2 p (s1.trans s2) b2 m2 rr⟩
theorem ev_dget (hu : X.A.units + 1 < cLine) (h : Ev X o ρ μ x) (h2 : Ev X i ρ μ y) (g : DicD X x y μ (some d)) (hs : NoSl i) : Ev X (.Subscript o i pos) ρ μ d := ec_dget hu (h.to (h2.to ⟨d, g, rfl, rfl⟩)) hs
/-- k in d -/
theorem ec_din (hu : X.A.units + 1 < cLine) (h : Ec X i ρ μ fun y μ1 => Ec X o ρ μ1 fun x μ2 => ∃ r, DicD X x y μ2 r ∧ Φ (.bl r.isSome) μ2) (hm : behindInMarks .In o = false) : Ec X (.Compare i [.In] [o] pos) ρ μ Φ := fun σ H G q Q f => by
  refine we (pe_cmp (pc_din hu pe_w pe_w) hm) (h σ H G q _ fun u H1 G1 y μ1 p1 s1 b1 m1 r1 => ?_)
  refine p1 σ H1 G1 (q.go s1 b1 m1) _ fun v H2 G2 x μ2 ⟨r, g, p⟩ s2 b2 m2 r2 => ?_
  obtain ⟨a, w, e, dg, _, rr⟩ := g H2 G2 v u ⟨b2, m2⟩ r2 (r1.mono s2.up)
  refine ⟨a, w, e, dg, ?_⟩
  have es : w.isSome = r.isSome := by
    cases r <;> cases w <;> first | rfl | exact rr.elim
  rw [es]
  exact f _ H2 G2 _ μ2 p (s1.trans s2) b2 m2 (.bl _)
theorem ec_dnin (hu : X.A.units + 1 < cLine) (h : Ec X i ρ μ fun y μ1 => Ec X o ρ μ1 fun x μ2 => ∃ r, DicD X x y μ2 r ∧ Φ (.bl (!r.isSome)) μ2) (hm : behindInMarks .NotIn o = false) : Ec X (.Compare i [.NotIn] [o] pos) ρ μ Φ := fun σ H G q Q f => by
  refine we (pe_cmp (pc_dnotin hu pe_w pe_w) hm) (h σ H G q _ fun u H1 G1 y μ1 p1 s1 b1 m1 r1 => ?_)
  refine p1 σ H1 G1 (q.go s1 b1 m1) _ fun v H2 G2 x μ2 ⟨r, g, p⟩ s2 b2 m2 r2 => ?_
  obtain ⟨a, w, e, dg, _, rr⟩ := g H2 G2 v u ⟨b2, m2⟩ r2 (r1.mono s2.up)
  refine ⟨a, w, e, dg, ?_⟩
  have es : w.isSome = r.isSome := by
    cases r <;> cases w <;> first | rfl | exact rr.elim
  rw [es]
  exact f _ H2 G2 _ μ2 p (s1.trans s2) b2 m2 (.bl _)
/-- d[k] = value -/
theorem sx_dput (hu : X.A.units + 1 < cLine) (h : Ec X value ρ μ fun d μ1 => Ec X o ρ μ1 fun x μ2 => Ec X i ρ μ2 fun y μ3 => ∃ a ks ds k, x = .raw (.ref a) ∧ y = keyD k ∧ μ3 a = some (.dK ks ds) ∧ ks.Nodup ∧ ks.length < sizeLine ∧ D'.nx ρ (μ3.put a (.dK (putN k ks) (putD k d ks ds))))
    (hs : swapsWith value (some (.Subscript o i pos')) pos.line X.env = pure false := by rfl) : Sx X (.Assign [.Subscript o i pos'] value pos) ρ μ D' := fun σ H G q E k => by
  refine ws (ps_dput hu pe_w pe_w pe_w hs) (h σ H G q _ fun w H1 G1 d μ1 p1 s1 b1 m1 r1 => ?_)
  have q1 := q.go s1 b1 m1
  refine p1 σ H1 G1 q1 _ fun v H2 G2 x μ2 p2 s2 b2 m2 r2 => ?_
  refine p2 σ H2 G2 (q1.go s2 b2 m2) _ fun u H3 G3 y μ3 p3 s3 b3 m3 r3 => ?_
  obtain ⟨a, ks, ds, key, e, ey, m, nd, l, nx⟩ := p3
  subst e
  subst ey
  cases r2
  have eu := r3.key
  subst eu
  obtain ⟨g, xs, e, l2, r⟩ := m3 _ _ m
  refine ⟨a, _, rfl, DPut.k e (by rw [List.length_zip, ← l2, Nat.min_self]; exact l), ?_⟩
  have st : Step μ H G (μ3.put a (.dK (putN key ks) (putD key d ks ds))) (upd H3 a (.dK (putK (ks.zip xs) key w))) G3 := ((s1.trans s2).trans s3).trans (step_put (.inl (by rw [m]; simp)))
  refine k.nx σ _ G3 ρ _ nx st ⟨sub_put b3 g, mm_put m3 g ⟨putD key w ks xs, ?_, putN_len l2, putD_rel ((r1.mono s2.up).mono s3.up) r⟩, ((q.sto.mono s1.up).mono s2.up).mono s3.up⟩
  rw [upd_same, putK_zip key w ks xs nd l2]
/-- {}, ours to change -/
theorem ec_dnew (h : ∀ p, μ p = none → Φ (.raw (.ref p)) (μ.put p (.dK [] []))) : Ec X (.Dict [] [] pos) ρ μ Φ := fun σ H G q Q f =>
  we pe_dnewK fun p hp => f _ _ G _ _ (h p (q.mem.free hp)) (step_put (.inr hp)) (sub_put q.sub (q.sub.free hp)) (mm_put q.mem (q.sub.free hp) ⟨[], upd_same, rfl, .nil⟩) (.raw _)
/-- o[i] = value, a list of ours -/
theorem sx_lput (h : Ec X value ρ μ fun d μ1 => Ec X o ρ μ1 fun x μ2 => Ec X i ρ μ2 fun y μ3 => ∃ a ds k j, x = .raw (.ref a) ∧ y = .int k ∧ μ3 a = some (.lst ds) ∧ ixN ds.length k = some j ∧ D'.nx ρ (μ3.put a (.lst (ds.set j d))))
    (ha : ∀ v, assign (.Subscript o i pos') X.env v = (do
      let ov ← holding [v] (eval o X.env)
      let iv ← holding [v, ov] (eval i X.env)
      standAt pos'
      holding [v, ov, iv] (setItem ov iv v)
      release [v, ov, iv] []) := by intro _; rfl)
    (hs : swapsWithSole [.Subscript o i pos'] value pos.line X.env = pure false := by rfl) (hw : swappedStores [.Subscript o i pos'] value X.env = pure none := by rfl)
    (h1 : (assignEach [.Subscript o i pos'] X.env).map (·.2) = [assign (.Subscript o i pos') X.env] := by rfl) : Sx X (.Assign [.Subscript o i pos'] value pos) ρ μ D' := fun σ H G q E k => by
  refine ws (ps_asg pe_w (pg_sub pe_w pe_w set_list ha) hs hw h1) (h σ H G q _ fun w H1 G1 d μ1 p1 s1 b1 m1 r1 => ?_)
  have q1 := q.go s1 b1 m1
  refine p1 σ H1 G1 q1 _ fun v H2 G2 x μ2 p2 s2 b2 m2 r2 => ?_
  refine p2 σ H2 G2 (q1.go s2 b2 m2) _ fun u H3 G3 y μ3 p3 s3 b3 m3 r3 => ?_
  obtain ⟨a, ds, kk, j, e, ey, m, hj, nx⟩ := p3
  subst e
  subst ey
  cases r2
  cases r3
  obtain ⟨g, xs, e, r⟩ := m3 _ _ m
  refine ⟨a, xs, kk, j, rfl, rfl, e, by rw [r.length]; exact hj, ?_⟩
  have st : Step μ H G (μ3.put a (.lst (ds.set j d))) (upd H3 a (.lst (xs.set j w))) G3 := ((s1.trans s2).trans s3).trans (step_put (.inl (by rw [m]; simp)))
  exact k.nx σ _ G3 ρ _ nx st ⟨sub_put b3 g, mm_put m3 g ⟨_, upd_same, r.set j ((r1.mono s2.up).mono s3.up)⟩, ((q.sto.mono s1.up).mono s2.up).mono s3.up⟩
end
end FQ

set_option Elab.async false
set_option linter.all false
set_option maxRecDepth 100000
set_option maxHeartbeats 2000000
namespace FQ
open PySem L2 PySem.Spec PyProof.Rows

/-! ### 15. Defs and their contracts -/
/-- what is claimed of a call: the arguments, what changes, what is wanted behind -/
abbrev Ct := List D → Mem → Aft → Prop
def Pr (K : PySem.W.Frag) (T : Ct) : Sp := fun vs H Q _ => ∃ G ds μ Φ, Sub G H ∧ RpL K G vs ds ∧ Mm K H G μ ∧ T ds μ Φ ∧ Fin K μ H G Φ Q
/-- nothing changes; R: which value comes of which arguments -/
def Pure (R : List D → D → Prop) : Ct := fun ds μ Φ => ∃ r, R ds r ∧ Φ r μ
def SubM (ν μ : Mem) : Prop := ∀ a o, ν a = some o → μ a = some o
theorem subM_put {μ : Mem} {a : Addr} {o : MO} (h : μ a = none) : SubM μ (μ.put a o) := fun b u e => by
  rw [Mem.put_ne (fun q => by rw [q, h] at e; cases e)]
  exact e
theorem SubM.refl {μ : Mem} : SubM μ μ := fun _ _ e => e
theorem SubM.trans {μ ν κ : Mem} (h : SubM μ ν) (k : SubM ν κ) : SubM μ κ := fun a o e => k a o (h a o e)
section
variable {K : PySem.W.Frag} {H G H' G' : Hp} {μ μ1 ν : Mem}
theorem Mm.drop (m : Mm K H G μ) (s : SubM ν μ) : Mm K H G ν := fun a o e => m a o (s a o e)
theorem Step.drop (t : Step μ H G μ1 H' G') (s : SubM ν μ1) : Step μ H G ν H' G' := ⟨t.same, t.up, t.new, fun a m n => by
  cases e : ν a with
  | none => rfl
  | some o =>
    have q := t.dom a m n
    rw [s a o e] at q
    cases q⟩
theorem Step.take (s : SubM ν μ) : Step μ H G ν H G := Step.refl.drop s
end
section
variable {X : Cx} {e : Expr} {es : List Expr} {ρ : Rho} {μ ν : Mem} {Φ : Aft} {D' : AE} {sts : List Stmt}
theorem ec_drop (h : Ec X e ρ μ fun d μ1 => ∃ μ2, SubM μ2 μ1 ∧ Φ d μ2) : Ec X e ρ μ Φ := fun σ H G q Q f => h σ H G q Q fun v H1 G1 d μ1 ⟨μ2, s, p⟩ t b m r => f v H1 G1 d μ2 p (t.drop s) b (m.drop s) r
theorem bx_drop (s : SubM ν μ) (h : Bx X sts ρ ν D') : Bx X sts ρ μ D' := fun σ H G q E o => h σ H G ⟨q.sub, q.mem.drop s, q.sto⟩ E (o.from (.take s))
/-- forgetting slots -/
theorem Sto.less {K : PySem.W.Frag} {G : Hp} {σ : L2.St} {ρ' : Rho} (h : Sto K G σ ρ) (l : ρ'.length = ρ.length) (k : ∀ (i : Nat) d, ρ'[i]? = some (some d) → ρ[i]? = some (some d)) : Sto K G σ ρ' := ⟨h.1.trans l.symm, fun i d e => h.2 i d (k i d e)⟩
theorem bx_less {ρ' : Rho} (l : ρ'.length = ρ.length) (k : ∀ (i : Nat) d, ρ'[i]? = some (some d) → ρ[i]? = some (some d)) (h : Bx X sts ρ' μ D') : Bx X sts ρ μ D' := fun σ H G q E o => h σ H G ⟨q.sub, q.mem, q.sto.less l k⟩ E o
end
/-- a def of the module -/
structure DefAt (P : Program) (w : World) (K : PySem.W.Frag) (mg : Str → Option Value) (base : Heap) (x : Str) (ps : List Str) (k : Nat) (T : Ct) : Prop where
  ex : ∃ (f : Addr) (fd : FuncData), FnOk P w K mg base CX0 k f fd ps (Pr K T) ∧ mg x = some (.ref f) ∧ PySem.W.keepIn K (.ref f) = true ∧ Binds K fd ps []
/-- a method of the class at C -/
structure MethAt (P : Program) (w : World) (K : PySem.W.Frag) (mg : Str → Option Value) (base : Heap) (C : Addr) (m : Str) (ps : List Str) (k : Nat) (T : Ct) : Prop where
  cl : Cls K C
  ex : ∃ (f : Addr) (fd : FuncData), FnOk P w K mg base CX0 k f fd ps (Pr K T) ∧ Meth K C m f ∧ Binds K fd ps []
/-- a class that is made by its __init__ -/
structure MakeAt (P : Program) (w : World) (K : PySem.W.Frag) (mg : Str → Option Value) (base : Heap) (x : Str) (C : Addr) (ps : List Str) (k : Nat) (T : Ct) : Prop where
  ex : ∃ (f : Addr) (fd : FuncData), FnOk P w K mg base CX0 k f fd ps (Pr K T) ∧ Mk K C f ∧ mg x = some (.ref C) ∧ Binds K fd ps []
section
variable {X : Cx} {e o : Expr} {es : List Expr} {ρ : Rho} {μ : Mem} {Φ : Aft} {x m : Str} {p pos apos : Pos} {ps : List Str} {k : Nat} {T : Ct} {C : Addr}
theorem ec_call (F : DefAt X.prog X.w X.K X.mg X.base x ps k T) (hr : Room k X.A) (h : Ac X (e :: es) ρ μ fun ds μ1 => T ds μ1 Φ) (hg : Gl X x) (hp : PlainN x)
    (he : starEach (e :: es) X.env = (false, eval e X.env) :: starEach es X.env := by rfl) (hpl : (backTo pos (starEach es X.env)).any (·.1) = false := by rfl) : Ec X (.Call (.Name x p) (e :: es) [] pos) ρ μ Φ := fun σ H G q Q f => by
  obtain ⟨fa, fd, F, mg, kp, b⟩ := F.ex
  refine we (pe_call F hr hg mg kp b .nil pass0 pa_w hp.1 he hpl) (h σ H G q _ fun vs H1 G1 ds μ1 t s1 b1 m1 r1 => ?_)
  rw [List.append_nil]
  exact ⟨G1, ds, μ1, Φ, b1, r1, m1, t, f.from s1⟩
theorem ec_call0 (F : DefAt X.prog X.w X.K X.mg X.base x ps k T) (hr : Room k X.A) (h : T [] μ Φ) (hg : Gl X x) (hp : PlainN x) : Ec X (.Call (.Name x p) [] [] pos) ρ μ Φ := fun σ H G q Q f => by
  obtain ⟨fa, fd, F, mg, kp, b⟩ := F.ex
  exact we (pe_call0 F hr hg mg kp b .nil pass0 hp.1) ⟨G, [], μ, Φ, q.sub, .nil, q.mem, h, f⟩
theorem ev_call {R : List D → D → Prop} {ds : List D} {r : D} (F : DefAt X.prog X.w X.K X.mg X.base x ps k (Pure R)) (hr : Room k X.A) (h : Av X (e :: es) ρ μ ds) (hR : R ds r) (hg : Gl X x) (hp : PlainN x)
    (he : starEach (e :: es) X.env = (false, eval e X.env) :: starEach es X.env := by rfl) (hpl : (backTo pos (starEach es X.env)).any (·.1) = false := by rfl) : Ev X (.Call (.Name x p) (e :: es) [] pos) ρ μ r :=
  ec_call F hr (h.to ⟨r, hR, rfl, rfl⟩) hg hp he hpl
/-- an instance of C without a field m -/
def InsD (X : Cx) (C : Addr) (m : Str) (x : D) (μ : Mem) : Prop := ∀ H G v, Now X.K H G μ → Rp X.K G v x → ∃ a dx fs, v = .ref a ∧ H a = some (.ins C dx fs) ∧ fs.lookup m = none
theorem look_none {f : Str} : ∀ {ns : List Str} {xs : List V}, f ∉ ns → (ns.zip xs).lookup f = none
  | [], _, _ => rfl
  | _ :: _, [], _ => rfl
  | g :: r, x :: xs, h => by
    rw [List.zip_cons_cons, List.lookup_cons]
    have e' : (f == g) = false := by simpa using fun q : f = g => h (q ▸ List.mem_cons_self)
    rw [e']
    exact look_none fun q => h (List.mem_cons_of_mem _ q)
theorem ins_own {a : Addr} {ns : List Str} {ds : List D} (h : μ a = some (.ins C ns ds)) (n : m ∉ ns) : InsD X C m (.raw (.ref a)) μ := fun H G v q r => by
  cases r
  obtain ⟨_, dx, xs, e, _, _⟩ := q.mem _ _ h
  exact ⟨_, _, _, rfl, e, look_none n⟩
theorem ins_ins {ns : List Str} {ds : List D} (n : m ∉ ns) : InsD X C m (.ins C ns ds) μ := fun H G v q r => by
  cases r with
  | ins e l r => exact ⟨_, _, _, rfl, q.sub _ _ e, look_none n⟩
theorem ec_meth {pl : Sem Bool} (F : MethAt X.prog X.w X.K X.mg X.base C m ps k T) (hr : Room k X.A) (h : Ec X o ρ μ fun x μ1 => InsD X C m x μ1 ∧ Ac X (e :: es) ρ μ1 fun ds μ2 => T (x :: ds) μ2 Φ)
    (hst : starEach (e :: es) X.env = (false, eval e X.env) :: starEach es X.env := by rfl) (hpl : (backTo pos (starEach es X.env)).any (·.1) = false := by rfl)
    (ht : eval (.Call (.Attribute o m apos) (e :: es) [] pos) X.env = (do
      let ov ← eval o X.env
      standAt apos.atName
      let (f, first) ← holding [ov] (getMethod ov m pl)
      callWith pos f first (backTo pos (starEach (e :: es) X.env)) (backToKw pos (keywordEach [] X.env))) := by rfl) : Ec X (.Call (.Attribute o m apos) (e :: es) [] pos) ρ μ Φ := fun σ H G q Q f => by
  obtain ⟨fa, fd, F', mt, b⟩ := F.ex
  refine we (pe_meth (pl := pl) pe_w F.cl mt F' hr b .nil pass0 pa_w hst hpl ht) (h σ H G q _ fun v H1 G1 x μ1 ⟨i, p⟩ s1 b1 m1 r1 => ?_)
  obtain ⟨a, dx, fs, e1, e2, e3⟩ := i H1 G1 v ⟨b1, m1⟩ r1
  refine ⟨a, dx, fs, e1, e2, e3, ?_⟩
  refine p σ H1 G1 (q.go s1 b1 m1) _ fun vs H2 G2 ds μ2 t s2 b2 m2 r2 => ?_
  rw [List.append_nil]
  exact ⟨G2, _, μ2, Φ, b2, .cons (r1.mono s2.up) r2, m2, t, (f.from s1).from s2⟩
theorem ec_meth0 {pl : Sem Bool} (F : MethAt X.prog X.w X.K X.mg X.base C m ps k T) (hr : Room k X.A) (h : Ec X o ρ μ fun x μ1 => InsD X C m x μ1 ∧ T [x] μ1 Φ)
    (ht : eval (.Call (.Attribute o m apos) [] [] pos) X.env = (do
      let ov ← eval o X.env
      standAt apos.atName
      let (f, first) ← holding [ov] (getMethod ov m pl)
      callWith pos f first (backTo pos (starEach [] X.env)) (backToKw pos (keywordEach [] X.env))) := by rfl) : Ec X (.Call (.Attribute o m apos) [] [] pos) ρ μ Φ := fun σ H G q Q f => by
  obtain ⟨fa, fd, F', mt, b⟩ := F.ex
  refine we (pe_meth0 (pl := pl) pe_w F.cl mt F' hr b .nil pass0 ht) (h σ H G q _ fun v H1 G1 x μ1 ⟨i, p⟩ s1 b1 m1 r1 => ?_)
  obtain ⟨a, dx, fs, e1, e2, e3⟩ := i H1 G1 v ⟨b1, m1⟩ r1
  exact ⟨a, dx, fs, e1, e2, e3, ⟨G1, _, μ1, Φ, b1, .one r1, m1, p, f.from s1⟩⟩
theorem made_at {K : PySem.W.Frag} {H G : Hp} {a dx : Addr} {Q : VK} (b : Sub G H) (mm : Mm K H G μ) (ha : H a = none) (hdx : H dx = none) (ne : dx ≠ a) (f : Fin K μ H G Φ Q) {vs : List V} {ds : List D} (r : RpL K G vs ds)
    (t : T (.raw (.ref a) :: ds) (μ.put a (.ins C [] [])) (fun d μ' => d = .non ∧ Φ (.raw (.ref a)) μ')) : Pr K T (.ref a :: vs) (upd (upd H dx (.own a)) a (.ins C dx [])) (fun v H2 => v = .non ∧ Q (.ref a) H2) E0 := by
  have ga := b.free ha
  have gd := b.free hdx
  have st : Step μ H G (μ.put a (.ins C [] [])) (upd (upd H dx (.own a)) a (.ins C dx [])) G :=
    ⟨fun c u e _ => by rw [upd_ne (ne_of_none e ha), upd_ne (ne_of_none e hdx)]; exact e, fun _ _ e => e, fun _ _ _ g _ => g, fun c m n => by
      have nc : c ≠ a := fun q => n (by rw [q]; exact ha)
      rw [Mem.put_ne nc]
      exact m⟩
  refine ⟨G, _, _, _, fun c u e => ?_, .cons (.raw _) r, fun c u e => ?_, t, fun v H' G' d μ' ⟨e, p⟩ s' b' m' r' => ?_⟩
  · rw [upd_ne (ne_of_none e ga), upd_ne (ne_of_none e gd)]
    exact b _ _ e
  · by_cases q : c = a
    · subst q
      rw [Mem.put_same] at e
      cases e
      exact ⟨ga, dx, [], by rw [upd_same]; rfl, rfl, .nil⟩
    · rw [Mem.put_ne q] at e
      obtain ⟨x, y⟩ := mm c u e
      obtain ⟨z, hz⟩ := y.at
      exact ⟨x, y.keep (by rw [upd_ne q, upd_ne (ne_of_none hz hdx)]) fun _ _ w => w⟩
  · subst e
    cases r'
    exact ⟨rfl, f (.ref a) H' G' _ μ' p (st.trans s') b' m' (.raw _)⟩
theorem ec_make (F : MakeAt X.prog X.w X.K X.mg X.base x C ps k T) (hr : Room (k + 1) X.A) (h : Ac X (e :: es) ρ μ fun ds μ1 => ∀ a, μ1 a = none → T (.raw (.ref a) :: ds) (μ1.put a (.ins C [] [])) (fun d μ' => d = .non ∧ Φ (.raw (.ref a)) μ'))
    (hg : Gl X x) (hp : PlainN x) (he : starEach (e :: es) X.env = (false, eval e X.env) :: starEach es X.env := by rfl) (hpl : (backTo pos (starEach es X.env)).any (·.1) = false := by rfl) :
    Ec X (.Call (.Name x p) (e :: es) [] pos) ρ μ Φ := fun σ H G q Q f => by
  obtain ⟨fa, fd, F', mk, mg, b⟩ := F.ex
  refine we (pe_make mk F' hr hg mg b .nil pass0 pa_w hp.1 he hpl) (h σ H G q _ fun vs H1 G1 ds μ1 t s1 b1 m1 r1 a dx ha hdx ne => ?_)
  rw [List.append_nil]
  exact made_at b1 m1 ha hdx ne (f.from s1) r1 (t a (m1.free ha))
theorem ec_make0 (F : MakeAt X.prog X.w X.K X.mg X.base x C ps k T) (hr : Room (k + 1) X.A) (h : ∀ a, μ a = none → T [.raw (.ref a)] (μ.put a (.ins C [] [])) (fun d μ' => d = .non ∧ Φ (.raw (.ref a)) μ'))
    (hg : Gl X x) (hp : PlainN x) : Ec X (.Call (.Name x p) [] [] pos) ρ μ Φ := fun σ H G q Q f => by
  obtain ⟨fa, fd, F', mk, mg, b⟩ := F.ex
  refine we (pe_make0 mk F' hr hg mg b .nil pass0 hp.1) fun a dx ha hdx ne => ?_
  exact made_at q.sub q.mem ha hdx ne f .nil (h a (q.mem.free ha))
end
/-! bodies -/
def startR (N : List Str) (ds : List D) : Rho := ds.map some ++ List.replicate (N.length - ds.length) none
theorem sto_start {K : PySem.W.Frag} {G : Hp} {N : List Str} {vs : List V} {ds : List D} (r : RpL K G vs ds) : Sto K G (L2.start N vs) (startR N ds) := by
  unfold L2.start startR
  refine ⟨by simp [r.length], fun i d h => ?_⟩
  by_cases l : i < ds.length
  · rw [List.getElem?_append_left (by rw [List.length_map]; exact l), List.getElem?_map] at h
    cases e : ds[i]? with
    | none => rw [e] at h; cases h
    | some d' =>
      rw [e] at h
      have h' : d' = d := Option.some.inj (Option.some.inj h)
      subst h'
      obtain ⟨v, hv, rv⟩ := r.get e
      have l2 : i < vs.length := by rw [r.length]; exact l
      exact ⟨v, by rw [List.getElem?_append_left (by rw [List.length_map]; exact l2), List.getElem?_map, hv]; rfl, rv⟩
  · rw [List.getElem?_append_right (by rw [List.length_map]; omega)] at h
    rw [List.getElem?_replicate] at h
    split at h <;> cases h
abbrev BdCx (P : Program) (w : World) (K : PySem.W.Frag) (mg : Str → Option Value) (base : Heap) (N : List Str) (qual : Str) (st : Stmt) (f : Addr) (cdv : Value) (A : Around) (outer : List Env) (s : Shared) (H : Hp) (E : XK) : Cx :=
  (cxOf CX0 P w K mg base N qual (defScope st) f cdv A outer s H E).nox
theorem fun_ok {P : Program} {w : World} {K : PySem.W.Frag} {mg : Str → Option Value} {base : Heap} {x qual : Str} {st : Stmt} {f : Addr} {fd : FuncData} {N ps : List Str} {k : Nat} {T : Ct} (F : Fun K x qual st f fd) (S : FnScope N ps (defScope st))
    (hl : ∀ ds μ Φ, T ds μ Φ → ds.length = ps.length)
    (body : ∀ (cdv : Value) (A : Around) (outer : List Env) (s : Shared) (H : Hp) (E : XK), Room k (A.deeper (envOfC qual (defScope st) s.heap.objs.size f cdv)) → ∀ ds μ Φ, T ds μ Φ →
      Bx (BdCx P w K mg base N qual st f cdv A outer s H E) (defBody st) (startR N ds) μ { nx := fun _ μ' => Φ .non μ', rt := Φ }) : FnOk P w K mg base CX0 (k + 1) f fd ps (Pr K T) := by
  refine F.ok S (fun vs H Q E ⟨G, ds, μ, Φ, _, r, _, t, _⟩ => by rw [r.length]; exact hl ds μ Φ t) (fun cdv A outer s H vs Q E hr h => ?_)
  obtain ⟨G, ds, μ, Φ, b, r, m, t, f⟩ := h
  refine ⟨_, pb_w, ?_⟩
  exact body cdv A outer s H E hr ds μ Φ t (L2.start N vs) H G ⟨b, m, sto_start r⟩ _
    ⟨fun σ' H' G' ρ' μ' p s a => f _ H' G' _ μ' p s a.sub a.mem .non, fun v H' G' d μ' p s b m r => f v H' G' d μ' p s b m r, fun _ _ _ _ _ p => p.elim, fun _ _ _ _ _ p => p.elim⟩
theorem def_of {P : Program} {w : World} {K : PySem.W.Frag} {mg : Str → Option Value} {base : Heap} {x qual : Str} {st : Stmt} {f : Addr} {fd : FuncData} {ps : List Str} {k : Nat} {T : Ct} (F : Fun K x qual st f fd) (G : FnOk P w K mg base CX0 k f fd ps (Pr K T)) (m : mg x = some (.ref f)) (b : Binds K fd ps []) :
    DefAt P w K mg base x ps k T := ⟨f, fd, G, m, F.kp, b⟩
end FQ

set_option Elab.async false
set_option linter.all false
set_option maxRecDepth 100000
set_option maxHeartbeats 2000000
namespace FQ
open PySem L2 PySem.Spec PyProof.Rows

/-! ### 16. repr: it asks that no repr is under way around; defs told under that -/
abbrev Calm (A : Around) : Prop := A.guards = some []
structure FnG (P : Program) (w : World) (K : PySem.W.Frag) (mg : Str → Option Value) (base : Heap) (k : Nat) (f : Addr) (fd : FuncData) (ps : List Str) (sp : Sp) : Prop where
  len : ∀ vs H Q E, sp vs H Q E → vs.length = ps.length
  run : ∀ (A : Around) (outer : List Env) (s : Shared) (H : Hp) (args : Args) (us : List Value) (vs : List V) (Q : VK) (E : XK), Calm A → Room k A → Env0 P w K mg base A outer s H → BindsTo s fd args (ps.zip us) → Vals vs us → sp vs H Q E →
    codeAny (model P w) A (.call (.ref f) args) (CR CX0 outer P w H s Q E) s
theorem FnG.of {P : Program} {w : World} {K : PySem.W.Frag} {mg : Str → Option Value} {base : Heap} {k : Nat} {f : Addr} {fd : FuncData} {ps : List Str} {sp : Sp} (F : FnOk P w K mg base CX0 k f fd ps sp) : FnG P w K mg base k f fd ps sp :=
  ⟨F.len, fun A outer s H args us vs Q E _ hr e0 hb r h => F.run A outer s H args us vs Q E hr e0 hb r h⟩
section
variable {P : Program} {w : World} {K : PySem.W.Frag} {mg : Str → Option Value} {base : Heap}
/-- a def by its body, where no repr is under way -/
theorem funG {x qual : Str} {st : Stmt} {f : Addr} {fd : FuncData} {N ps : List Str} {k : Nat} {T : Ct} (F : Fun K x qual st f fd) (S : FnScope N ps (defScope st))
    (hl : ∀ ds μ Φ, T ds μ Φ → ds.length = ps.length)
    (body : ∀ (cdv : Value) (A : Around) (outer : List Env) (s : Shared) (H : Hp) (E : XK), Calm (BdCx P w K mg base N qual st f cdv A outer s H E).A → Room k (A.deeper (envOfC qual (defScope st) s.heap.objs.size f cdv)) → ∀ ds μ Φ, T ds μ Φ →
      Bx (BdCx P w K mg base N qual st f cdv A outer s H E) (defBody st) (startR N ds) μ { nx := fun _ μ' => Φ .non μ', rt := Φ }) : FnG P w K mg base (k + 1) f fd ps (Pr K T) := by
  obtain ⟨oc, od, kV, doc, pm, an, cdv, ct, osl, rfl, lk, hcd⟩ := F.ex
  have len : ∀ vs H Q E, Pr K T vs H Q E → vs.length = ps.length := fun vs H Q E ⟨G, ds, μ, Φ, _, r, _, t, _⟩ => by
    rw [r.length]
    exact hl ds μ Φ t
  refine ⟨len, fun A outer s H args us vs Q E hc hr e0 hb r hsp => ?_⟩
  -- the room of memory, the def's own object as it stands
  have stays : ∀ b o, base.get? b = some o → s.heap.get? b = some o := fun b o e => (e0.bs b o e).1
  have kin : K.In s.heap := e0.mod.kin.keeps stays
  have nl : s.heap.NoLimit := e0.mod.nolimit.keeps stays
  have kinds : ∀ y ∈ ps.zip us, (defScope st).names.lookup y.1 = some .local ∨ ((defScope st).names.lookup y.1 = some .cell ∧ ((cellsFrom (s.heap.objs.size + 1) (defScope st).names []).lookup y.1).isSome = true) := by
    rintro ⟨n, v⟩ hy
    rcases S.par n (List.of_mem_zip hy).1 with q | q
    · exact .inl q
    · exact .inr ⟨q, PySem.W.cellsFrom_some _ _ _ (.inl q)⟩
  refine codeAny_call_function hr.depth (kin _ _ lk) rfl S.co S.gen rfl (PySem.W.codeRec_of kin hcd) (hb _ _ _ _ (wpAny_newFunctionEnv_cells S.kind kinds fun env he s1 x => ?_))
  subst he
  refine ⟨nl.keeps x.toInCall.keep, codeAny_func ?_⟩
  have hl' := len _ _ _ _ hsp
  obtain ⟨G, ds, μ, Φ, b, rd, m, t, fin⟩ := hsp
  have I := inv_start (CX := CX0) (E := E) S hr.hd e0 hl' r x
  have bd := body cdv A outer s H E hc (hr.deeper _) ds μ Φ t (L2.start N vs) H G ⟨b, m, sto_start rd⟩ { nx := fun _ H' => Q .non H', rt := Q }
    ⟨fun σ' H' G' ρ' μ' p s a => fin _ H' G' _ μ' p s a.sub a.mem .non, fun v H' G' d μ' p s b m r => fin v H' G' d μ' p s b m r, fun _ _ _ _ _ p => p.elim, fun _ _ _ _ _ p => p.elim⟩
  refine wpAny_mono ((pb_w.nox.run [] s1 (L2.start N vs) H _ I bd)) (fun fl s' hs => ?_) fun e s' hs => hs
  have ends : ∀ {σ' : L2.St} {H' : Hp} {v : V} {u : Value}, Inv (cxOf CX0 P w K mg base N qual (defScope st) f cdv A outer s H E) [] σ' H' s' → RelV v u → Q v H' → CE outer P w H s Q u s' := fun J rv q => ⟨_, _, J.os, J.bare, J.base, J.hok, rv, q⟩
  cases fl with
  | ret u =>
    obtain ⟨v, σ', H', J, rv, q⟩ := hs
    exact ends J rv q
  | next =>
    obtain ⟨σ', H', J, q⟩ := hs
    exact ends (v := V.non) (u := Value.none) J rfl q
  | brk =>
    obtain ⟨_, _, _, q⟩ := hs
    exact q.elim
  | cont =>
    obtain ⟨_, _, _, q⟩ := hs
    exact q.elim
end
structure DefG (P : Program) (w : World) (K : PySem.W.Frag) (mg : Str → Option Value) (base : Heap) (x : Str) (ps : List Str) (k : Nat) (T : Ct) : Prop where
  ex : ∃ (f : Addr) (fd : FuncData), FnG P w K mg base k f fd ps (Pr K T) ∧ mg x = some (.ref f) ∧ PySem.W.keepIn K (.ref f) = true ∧ Binds K fd ps []
section
variable {X : Cx} {e : Expr} {es : List Expr} {ρ : Rho} {μ : Mem} {Φ : Aft} {x : Str} {p pos : Pos} {ps : List Str} {k : Nat} {T : Ct}
theorem ec_callG (F : DefG X.prog X.w X.K X.mg X.base x ps k T) (hc : Calm X.A) (hr : Room k X.A) (h : Ac X (e :: es) ρ μ fun ds μ1 => T ds μ1 Φ) (hg : Gl X x) (hp : PlainN x)
    (he : starEach (e :: es) X.env = (false, eval e X.env) :: starEach es X.env := by rfl) (hpl : (backTo pos (starEach es X.env)).any (·.1) = false := by rfl) : Ec X (.Call (.Name x p) (e :: es) [] pos) ρ μ Φ := fun σ H G q Q f => by
  obtain ⟨fa, fd, F, mg, kp, b⟩ := F.ex
  intro pins s I
  refine wpAny_Call_Name_kw (ld_glob I hg mg ?_ hp.1)
  refine PySem.W.callWith_K (h₀ := X.base) I.ok.mod.kin kp (thn (h σ H G q _ (fun vs H1 G1 ds μ1 t s1 b1 m1 r1 => (⟨G1, ds, μ1, Φ, b1, r1, m1, t, f.from s1⟩ : Pr X.K T vs H1 Q E0)) pos pins s I) fun us s1 ⟨vs, H1, I1, r, t⟩ => ⟨I1.kIn, ?_⟩) he hpl
  have hl : (us ++ []).length = ps.length := by
    rw [List.append_nil, ← r.length]
    exact F.len vs H1 Q E0 t
  have hb := b s1 us I1.kIn hl
  rw [List.append_nil] at hb
  refine wpAny_call (codeAny_mono (F.run X.A X.stack s1 H1 ⟨us, []⟩ us vs Q E0 hc hr I1.env0 hb r t) fun r s' hq => ?_)
  cases r with
  | error e => exact hq.elim
  | ok fl =>
    cases fl with
    | ret u => exact I1.after hq
    | next => exact hq.elim
    | brk => exact hq.elim
    | cont => exact hq.elim
/-- repr(x) of data -/
theorem cd_repr {d : D} (hc : Calm X.A) (hu : X.A.units + 64 < cLine) (fl : d.flat = true) (sh : d.py.showable = true) (hd : d.py.hasDict = false) (dp : d.py.depth ≤ 62) (sz : d.py.shown.length ≤ sizeLine) (hr : ∃ ds, d = .tup ds ∨ d = .lst ds) : CallD X (.builtin "repr") [d] (.str d.py.shown) := fun μ pins s σ H vs us Q I rv ⟨G, n, r, f⟩ => by
  cases r with
  | cons h1 h2 =>
    cases h2
    obtain ⟨u, rfl, ru⟩ := Vals.one rv
    have dpH := Rp.toDp _ _ fl (h1.sub n.sub)
    obtain ⟨as, rd⟩ := Dp.reads I _ _ _ dpH ru
    obtain ⟨a, rfl⟩ : ∃ a, u = .ref a := by
      obtain ⟨ds, e | e⟩ := hr
      · subst e
        cases h1
        exact ⟨_, ru⟩
      · subst e
        cases h1
        exact ⟨_, ru⟩
    refine repr_of_reads' rd sh (fun e => by rw [hd] at e; cases e) hc (by omega) (fun _ _ e => e) (fun h' u tk hk => ?_) sz
    exact ⟨.str d.py.shown, H, I.kept hk, ⟨u, rfl⟩, f.is n (.str _)⟩
end
end FQ

set_option Elab.async false
set_option linter.all false
set_option maxRecDepth 100000
set_option maxHeartbeats 2000000
namespace FQ
open PySem L2 PySem.Spec PyProof.Rows

/-! ### 17. The law's own call -/
/-- all that the abstract heap tells is the script, frozen -/
def Lone (a : Addr) (H : Hp) : Prop := ∀ b, H b = none ∨ (b = a ∧ ∃ o xs, H b = some (.frz o (.lst xs)))
theorem law_run {P : Program} {w : World} {K : PySem.W.Frag} {mg mb : Str → Option Value} {k : Nat} {fa a : Addr} {fd : FuncData} {x : Str} {T : Ct} {s : Shared} {vs : List Value} {ns : List Int}
    (kin : K.In s.heap) (hg : s.heap.Ns mainGlobals mg) (hb : s.heap.Ns builtinsNs mb) (hbb : ∀ x : Str, x ≠ "__name__" → mb x = bootBuiltins x) (hl : s.heap.NoLimit) (hgen : s.gens = #[])
    (ha : s.heap.get? a = some { cls := .type "list", data := .seq vs.toArray }) (hi : IntsAre vs ns) (hz : ns.length ≤ sizeLine) (hr : Room k callerA)
    (F : ∀ base : Heap, K.In base → base.Ns mainGlobals mg → FnG P w K mg base k fa fd [x] (Pr K T)) (bind : ∀ (s : Shared) (u : Value), BindsTo s fd ⟨[u], []⟩ [(x, u)])
    (ht : T [.fro (ns.map D.int)] mu0 (fun d _ => d = .bl true)) :
    codeAny (model P w) callerA (.call (.ref fa) ⟨[.ref a], []⟩) (fun r s' => r = .ok (.ret (.bool true)) ∧ OldK s.heap s'.heap ∧ s'.os = s.os ∧ AllBare s'.gens) s := by
  have rv : Vals (ns.map V.int) vs := vals_of_ints hi
  have go : ∀ H : Hp, Lone a H → SqL K H a (ns.map V.int) → HOk P w H s.heap → (H a ≠ none → K.lookup a = none) →
      codeAny (model P w) callerA (.call (.ref fa) ⟨[.ref a], []⟩) (fun r s' => r = .ok (.ret (.bool true)) ∧ OldK s.heap s'.heap ∧ s'.os = s.os ∧ AllBare s'.gens) s := by
    intro H lone sq hok hk
    have only : ∀ b, H b ≠ none → b = a := fun b n => by
      rcases lone b with e | ⟨e, _⟩
      · exact absurd e n
      · exact e
    -- a dict of the heap is not the script
    have notA : ∀ {b : Addr} {o : Obj} {es : Array DictEntry} {ep : Nat}, s.heap.get? b = some o → o.data = .dict es ep → H b = none := fun {b o es ep} e d => by
      cases q : H b with
      | none => rfl
      | some u =>
        have e' := only b (by rw [q]; simp)
        rw [e', ha] at e
        cases e
        cases d
    have names : ∀ {b : Addr} {m : Str → Option Value}, s.heap.Ns b m → (hidT s.heap H).Ns b m := fun ⟨o, es, ep, e, d, r⟩ => ⟨o, es, ep, hidT_get e (notA e d), d, r⟩
    have kinB : K.In (hidT s.heap H) := fun b o e => hidT_get (kin b o e) (by
      cases q : H b with
      | none => rfl
      | some u =>
        have e' := only b (by rw [q]; simp)
        subst e'
        rw [hk (by rw [q]; simp)] at e
        cases e)
    have md : Mod K mg (hidT s.heap H) := ⟨kinB, names hg, ⟨mb, names hb, hbb⟩, by
      obtain ⟨mc, h1, h2⟩ := hl
      exact ⟨mc, names h1, h2⟩⟩
    have e0 : Env0 P w K mg (hidT s.heap H) callerA [] s H :=
      { frames := rfl, mod := md, bs := fun b o e => of_hidT e, bsz := Nat.le_of_eq (hidT_size _ _), funs := trivial, frf := (fun b hb => by cases hb), hok := hok, bare := .of_eq hgen }
    have pr : Pr K T [.ref a] H (fun v _ => v = .bl true) E0 := ⟨H, _, mu0, _, fun _ _ e => e, .one (.fro sq (RpL.of_ints ns)), fun _ _ e => (by cases e), ht, fun v H' G' d μ' p _ _ _ r => by
      subst p
      cases r
      rfl⟩
    refine codeAny_mono ((F _ kinB (names hg)).run callerA [] s H ⟨[.ref a], []⟩ [.ref a] [.ref a] _ _ rfl hr e0 (bind s (.ref a)) (.cons rfl .nil) pr) fun r s' h => ?_
    cases r with
    | error e => exact h.elim
    | ok fl =>
      cases fl with
      | next => exact h.elim
      | brk => exact h.elim
      | cont => exact h.elim
      | ret u =>
        obtain ⟨v, H', os, bare, un, hok', r', q⟩ := h
        have q' : v = .bl true := q
        subst q'
        have e : u = Value.bool true := r'
        subst e
        refine ⟨rfl, OldK.of_keep fun b o e => ?_, os, bare⟩
        rcases lone b with z | ⟨_, ob, xs, z⟩
        · exact un.keep b o e z (fun q => by cases q) (fun q => by cases q)
        · obtain ⟨e1, _⟩ := hok b _ z
          obtain ⟨e2, _⟩ := hok' b _ (un.frzs b ob _ z)
          rw [e] at e1
          cases e1
          exact e2
  have len := hi.length
  cases hk : K.lookup a with
  | some o =>
    have e := kin a o hk
    rw [ha] at e
    cases e
    have sq : SqL K (fun _ => none) a (ns.map V.int) := .inr ⟨_, vs.toArray, _, hk, rfl, rfl, rfl, by rw [List.size_toArray, len]; exact hz, by simpa using rv⟩
    exact go (fun _ => none) (fun _ => .inl rfl) sq (fun b u e => by cases e) fun n => absurd rfl n
  | none =>
    let ob : Obj := { cls := .type "list", data := .seq vs.toArray }
    let H : Hp := upd (fun _ => none) a (.frz ob (.lst (ns.map V.int)))
    have at_a : H a = some (.frz ob (.lst (ns.map V.int))) := upd_same
    have off : ∀ b, b ≠ a → H b = none := fun b n => upd_ne n
    refine go H (fun b => ?_) (.inl (.inr ⟨ob, at_a⟩)) (fun b u e => ?_) fun _ => hk
    · by_cases q : b = a
      · subst q
        exact .inr ⟨rfl, _, _, at_a⟩
      · exact .inl (off b q)
    · by_cases q : b = a
      · subst q
        rw [at_a] at e
        cases e
        exact ⟨ha, by rw [List.length_map]; exact hz, vs, _, rv, ha⟩
      · rw [off b q] at e
        cases e
open PySem.W in
/-- THE END: what k_head leaves, from the law's contract -/
theorem walkG {l : PySem.W.OpenLaw} {k : Nat} {q : Program} {loose : List Str} {XP : (Str → Option Value) → Heap → Prop} {YP : World → Heap → Prop} {d : DefRec} {K : Params → PySem.W.Frag} {x : Str} {T : World → Ct}
    (hn : l.most = some 63) (hdf : d.params.defaults = []) (hr : Room k callerA) (hY : ∀ (w : World) (h : Heap), YP w h → (K w.params).In h)
    (F : ∀ (w : World) (mg : Str → Option Value) (fa : Addr) (h : Heap), (K w.params).In h → h.Ns mainGlobals mg → mg d.name = some (.ref fa) →
      ∃ fd : FuncData, (∀ (s : Shared) (u : Value), BindsTo s fd ⟨[u], []⟩ [(x, u)]) ∧ ∀ base : Heap, (K w.params).In base → base.Ns mainGlobals mg → FnG l.prog w (K w.params) mg base k fa fd [x] (Pr (K w.params) (T w)))
    (ht : ∀ (w : World) (ns : List Int), ns.length ≤ 63 → T w [.fro (ns.map FQ.D.int)] mu0 (fun d _ => d = .bl true)) : PySem.W.WalkO q loose XP YP l.row.toRowW d [] (fun f vs => PySem.call f vs) := by
  refine Att.attach_call hn hdf fun w s0 s mg mb fa o pm cd doc a vs ns G Y ho hd hcd hmg hobj hints hlen hg => ?_
  have kin := hY w _ Y
  obtain ⟨fd, hb, hF⟩ := F w mg fa _ kin G.T.g hmg
  exact law_run kin G.T.g G.T.b G.T.builtins G.T.nolimit hg hobj hints (Nat.le_trans hlen (by decide)) hr hF hb (ht w ns hlen)
end FQ

set_option Elab.async false
set_option linter.all false
set_option maxRecDepth 100000
set_option maxHeartbeats 2000000
namespace FQ
open PySem L2 PySem.Spec PyProof.Rows
theorem bb_isinstance : bootBuiltins "isinstance" = some (.builtin "isinstance") := by decide +kernel
theorem bb_len : bootBuiltins "len" = some (.builtin "len") := by decide +kernel
theorem bb_all : bootBuiltins "all" = some (.builtin "all") := by decide +kernel
theorem bb_any : bootBuiltins "any" = some (.builtin "any") := by decide +kernel
theorem bb_min : bootBuiltins "min" = some (.builtin "min") := by decide +kernel
theorem bb_max : bootBuiltins "max" = some (.builtin "max") := by decide +kernel
theorem bb_repr : bootBuiltins "repr" = some (.builtin "repr") := by decide +kernel
theorem bb_sorted : bootBuiltins "sorted" = some (.builtin "sorted") := by decide +kernel
theorem bb_sum : bootBuiltins "sum" = some (.builtin "sum") := by decide +kernel
theorem bb_int : bootBuiltins "int" = some (.type "int") := by decide +kernel
theorem bb_bool : bootBuiltins "bool" = some (.type "bool") := by decide +kernel
theorem bb_str : bootBuiltins "str" = some (.type "str") := by decide +kernel
theorem bb_tuple : bootBuiltins "tuple" = some (.type "tuple") := by decide +kernel
theorem bb_list : bootBuiltins "list" = some (.type "list") := by decide +kernel
theorem kit_int_int : kitB "int" "int" = some true := by decide +kernel
theorem kit_int_bool : kitB "int" "bool" = some false := by decide +kernel
theorem kit_tuple_tuple : kitB "tuple" "tuple" = some true := by decide +kernel
theorem kit_str_str : kitB "str" "str" = some true := by decide +kernel
end FQ

set_option Elab.async false
set_option linter.all false
set_option maxRecDepth 100000
set_option maxHeartbeats 2000000
namespace FQ
open PySem L2 PySem.Spec PyProof.Rows
open TL (tl numL)

/-! ### 18. Numbers as texts -/
def numT (i : Int) : Str := Str.ofString (toString i)
theorem tl_numT (i : Int) : tl (numT i) = if i < 0 then 45 :: numL i.natAbs else numL i.natAbs := by
  cases i with
  | ofNat n => 
    rw [if_neg (by simp)]
    exact TL.tl_num n
  | negSucc m =>
    rw [if_pos (Int.negSucc_lt_zero m)]
    have e : toString (Int.negSucc m) = "-" ++ Nat.repr (m + 1) := rfl
    unfold numT
    rw [e, TL.tl_ofString, String.toList_append, List.map_append, Nat.toList_repr]
    rfl
theorem numL_head0 : ∀ n : Nat, ∀ r, numL n = 48 :: r → n = 0 := by
  intro n
  induction n using Nat.strongRecOn with
  | ind n ih =>
    intro r h
    by_cases c : n < 10
    · rw [TL.numL_lt c] at h
      have h' := (List.cons.inj h).1
      omega
    · rw [TL.numL_step (by omega)] at h
      cases e : numL (n / 10) with
      | nil => exact absurd e (TL.numL_ne _)
      | cons x xs =>
        rw [e, List.cons_append] at h
        have h' := (List.cons.inj h).1
        subst h'
        have := ih (n / 10) (by omega) xs e
        omega
theorem numL_pos (n : Nat) : 1 ≤ (numL n).length := by
  cases e : numL n with
  | nil => exact absurd e (TL.numL_ne n)
  | cons x xs => simp
theorem len_numT {i : Int} {k : Nat} (hk : 0 < k) (h : i.natAbs < 10 ^ k) : (numT i).length ≤ k + 1 := by
  rw [TL.len_tl, tl_numT]
  have := TL.numL_len hk h
  split
  · rw [List.length_cons]; omega
  · omega
theorem numT_free {i : Int} {s : Nat} (h : s < 45 ∨ 57 < s) : s ∉ tl (numT i) := by
  rw [tl_numT]
  have := TL.numL_free (n := i.natAbs) (s := s) (by omega)
  split
  · intro q
    rcases List.mem_cons.mp q with e | e
    · omega
    · exact this e
  · exact this
theorem int_numT {i : Int} (h : i.natAbs < 10 ^ 31) : intText? (numT i) = some i := by
  have hl := len_numT (i := i) (k := 31) (by decide) h
  have e := tl_numT i
  by_cases c : i < 0
  · rw [if_pos c] at e
    have z := intText_neg (x := numT i) (cs := numL i.natAbs) e (TL.numL_digits _) (TL.numL_ne _) (by omega)
    rw [z]
    have v := TL.numL_val i.natAbs
    have v' : PySem.NumText.digitsVal (numL i.natAbs) = i.natAbs := v
    rw [v']
    congr 1
    omega
  · rw [if_neg c] at e
    have z := intText_digits (x := numT i) (by rw [show (numT i).cps.toList = _ from e]; exact TL.numL_digits _) (by rw [show (numT i).cps.toList = _ from e]; exact TL.numL_ne _) (by omega)
    rw [z, show (numT i).cps.toList = _ from e]
    have v' : PySem.NumText.digitsVal (numL i.natAbs) = i.natAbs := TL.numL_val i.natAbs
    rw [v']
    congr 1
    omega
theorem numT_inj {i j : Int} (hi : i.natAbs < 10 ^ 31) (hj : j.natAbs < 10 ^ 31) (h : numT i = numT j) : i = j := by
  have a := int_numT hi
  have b := int_numT hj
  rw [h, b] at a
  exact (Option.some.inj a).symm
/-- the figures of a number's text -/
def figT (i : Int) : Str := ⟨(numL i.natAbs).toArray⟩
theorem tl_figT (i : Int) : tl (figT i) = numL i.natAbs := TL.tl_mk _
theorem tl_cut (z : Str) (lo hi : Option Int) : tl (cutS z lo hi) = ((tl z).drop (HT.sIx z.length 0 lo)).take (HT.sIx z.length z.length hi - HT.sIx z.length 0 lo) := TL.tl_mk _
theorem sIx1 {n d : Nat} : HT.sIx n d (some 1) = min 1 n := by
  have := HT.sIx_nat n d 1
  exact this
theorem cut_first (i : Int) : tl (cutS (numT i) none (some 1)) = if i < 0 then [45] else (numL i.natAbs).take 1 := by
  rw [tl_cut, sIx1, HT.sIx_none, List.drop_zero, Nat.sub_zero, TL.len_tl, tl_numT]
  split
  · simp
  · rw [Nat.min_eq_left (numL_pos _)]
theorem cut_rest {i : Int} (h : i < 0) : cutS (numT i) (some 1) none = figT i := by
  apply TL.ext_tl
  rw [tl_cut, sIx1, HT.sIx_none, TL.len_tl, tl_numT, if_pos h, tl_figT]
  simp
theorem minus_first (i : Int) : decide (cutS (numT i) none (some 1) = ("-" : Str)) = decide (i < 0) := by
  have e := cut_first i
  have m : tl ("-" : Str) = [45] := by decide +kernel
  by_cases c : i < 0
  · rw [if_pos c] at e
    rw [decide_eq_true c]
    exact decide_eq_true (TL.ext_tl (e.trans m.symm))
  · rw [if_neg c] at e
    rw [decide_eq_false c]
    refine decide_eq_false fun q => ?_
    rw [q, m] at e
    cases z : numL i.natAbs with
    | nil => exact TL.numL_ne _ z
    | cons x xs =>
      rw [z] at e
      have hx : x = 45 := by simpa using e.symm
      have := (TL.numL_digits i.natAbs) x (by rw [z]; exact List.mem_cons_self)
      omega
theorem numT_fig {i : Int} (h : ¬ i < 0) : numT i = figT i := by
  apply TL.ext_tl
  rw [tl_numT, if_neg h, tl_figT]
theorem fig_digit {i : Int} {c : Nat} (h : c ∈ tl (figT i)) : c ∈ tl ("0123456789" : Str) := by
  rw [tl_figT] at h
  have := (TL.numL_digits i.natAbs) c h
  have e : tl ("0123456789" : Str) = [48, 49, 50, 51, 52, 53, 54, 55, 56, 57] := by decide +kernel
  rw [e]
  have : c = 48 ∨ c = 49 ∨ c = 50 ∨ c = 51 ∨ c = 52 ∨ c = 53 ∨ c = 54 ∨ c = 55 ∨ c = 56 ∨ c = 57 := by omega
  rcases this with e | e | e | e | e | e | e | e | e | e <;> subst e <;> decide
theorem fig_zero {i : Int} {r : List Nat} (h : tl (figT i) = 48 :: r) : i = 0 := by
  rw [tl_figT] at h
  have := numL_head0 _ _ h
  omega
theorem numT_zero : numT 0 = ("0" : Str) := by decide +kernel
theorem fig_len {i : Int} (h : i.natAbs < 10 ^ 31) : (figT i).length ≤ 31 ∧ 1 ≤ (figT i).length := by
  rw [TL.len_tl, tl_figT]
  exact ⟨TL.numL_len (by decide) h, numL_pos _⟩
end FQ

set_option Elab.async false
set_option linter.all false
set_option maxRecDepth 100000
set_option maxHeartbeats 2000000
namespace FQ
open PySem L2 PySem.Spec PyProof.Rows
abbrev NmK (st : Stmt) (x : Str) (k : NameKind) : Prop := (defScope st).names.lookup x = some k
section
variable {X : Cx} {ρ : Rho} {μ : Mem} {pos : Pos} {n : Str}
/-- a constant of the module -/
def GInt (mg : Str → Option Value) (n : Str) (i : Int) : Prop := ∃ t, mg n = some (.int i t)
def GStr (mg : Str → Option Value) (n : Str) (x : Str) : Prop := ∃ t, mg n = some (.str x t)
def GDat (K : PySem.W.Frag) (mg : Str → Option Value) (n : Str) (d : D) : Prop := ∃ a, mg n = some (.ref a) ∧ ∀ G, Rp K G (.ref a) d
theorem ev_gint {i : Int} (h : GInt X.mg n i) (hg : Gl X n) (hp : PlainN n) : Ev X (.Name n pos) ρ μ (.int i) := by
  obtain ⟨t, h⟩ := h
  exact ev_glob (v := .int i) h ⟨t, rfl⟩ (fun _ => .int i) hg hp
theorem ev_gstr {x : Str} (h : GStr X.mg n x) (hg : Gl X n) (hp : PlainN n) : Ev X (.Name n pos) ρ μ (.str x) := by
  obtain ⟨t, h⟩ := h
  exact ev_glob (v := .str x) h ⟨t, rfl⟩ (fun _ => .str x) hg hp
theorem ev_gdat {d : D} (h : GDat X.K X.mg n d) (hg : Gl X n) (hp : PlainN n) : Ev X (.Name n pos) ρ μ d := by
  obtain ⟨a, h, r⟩ := h
  exact ev_glob (v := .ref a) h rfl r hg hp
theorem sld_str {z : Str} {lo hi : Option Int} (h : z.length ≤ sizeLine) : SlD X (.str z) lo hi (.str (cutS z lo hi)) := fun μ => SlR.imp sl_str fun v l u H Q ⟨el, eh, G, n, rv, f⟩ => by
  subst el
  subst eh
  cases rv
  exact ⟨z, rfl, h, f.is n (.str _)⟩
theorem ev_ndn {d d' : D} {e : Expr} (h : Ev X e ρ μ d) (q : d = d') : Ev X e ρ μ d' := q ▸ h
end
/-- the texts of words: strings as they are, ints in decimal -/
def D.wt : D → Str
  | .int i => numT i
  | .str s => s
  | _ => ⟨#[]⟩
def D.wok : D → Bool
  | .int i => decide (i.natAbs.log2 < 1920)
  | .str _ => true
  | _ => false
theorem log_small {i : Int} (h : i.natAbs < 10 ^ 100) : i.natAbs.log2 < 1920 := by
  by_cases c : i.natAbs = 0
  · rw [c]
    decide
  · refine (Nat.log2_lt c).mpr (Nat.lt_of_lt_of_le h ?_)
    decide +kernel
end FQ

set_option Elab.async false
set_option linter.all false
set_option maxRecDepth 100000
set_option maxHeartbeats 2000000
/-! enumerate over a tuple; walks over what was made by a map -/
namespace FQ
open PySem L2 PySem.Spec PyProof.Rows
set_option maxHeartbeats 1000000 in
theorem enumT_new {v : Value} {o : Obj} {P : Heap → Prop} (B : Begins v o P) :
    Meets (Builtin.«enumerate.__new__» ⟨[.type "enumerate", v], []⟩) (fun _ R s => P s.heap ∧
      R (.ok (.ret (.ref (s.heap.push o).objs.size))) { s with heap := (s.heap.push o).push { cls := .type "enumerate", data := .fields #[.none, .bool false, .ref s.heap.objs.size, rawInt 0, .none, .none] } }) :=
  .of_wp fun pr w A R s h => by
    obtain ⟨hp, g, d, tk, os⟩ := s; obtain ⟨h1, h⟩ := h
    have sb := sub_enumerate
    have go : ∀ {A' : Around} {E Q : Value → Shared → Prop}, Q (.ref hp.objs.size) ⟨hp.push o, g, d, tk, os⟩ → wpAny (model pr w) A' (pyIter v) Q E ⟨hp, g, d, tk, os⟩ :=
      fun q => B.iter pr w _ _ ⟨hp, g, d, tk, os⟩ _ h1 q
    wp_walk using go
    refine wpAny_stack_any fun _ => wpAny_pure ?_
    split
    · rename_i c _ _ _ _ _
      cases (c == Value.type "enumerate") <;> (wp_walk using go; exact ⟨_, rfl, h⟩)
    · wp_walk using go
      exact ⟨_, rfl, h⟩
theorem enumT_call {prog : Program} {w : World} {A : Around} {E : Value → Shared → Prop} {s : Shared} {v : Value} {o : Obj} {P : Heap → Prop} {Q : Value → Shared → Prop} (B : Begins v o P) (h1 : P s.heap)
    (h : ∀ h', IsEnum h' (s.heap.objs.size + 1) s.heap.objs.size 0 .none → h'.get? s.heap.objs.size = some o → h'.objs.size = s.heap.objs.size + 2 →
      (∀ b o, s.heap.get? b = some o → h'.get? b = some o) → Q (.ref (s.heap.objs.size + 1)) { s with heap := h' }) :
    wpAny (model prog w) A (call (.type "enumerate") [v]) Q E s := by
  refine callType_new F.called_enumerate (by decide) (F.typeCall_enumerate_1 _) (F.newCall_enumerate_1 _) (fun obj => F.args_object_init_2 obj _) F.entry_enumerate_new (enumT_new B) ⟨h1, ?_⟩
  have hz : (s.heap.push o).objs.size = s.heap.objs.size + 1 := Heap.size_push ..
  show _ ∧ _
  rw [hz]
  have key := Heap.get?_push_size (s.heap.push o) (o := { cls := .type "enumerate", data := .fields #[.none, .bool false, .ref s.heap.objs.size, rawInt 0, .none, .none] }) rfl
  rw [hz] at key
  exact ⟨⟨_, key, rfl⟩, h _ key (Heap.get?_push_of_some _ (Heap.get?_push_size _ B.free)) (by rw [Heap.size_push, hz]) fun b o x => Heap.get?_push_of_some _ (Heap.get?_push_of_some _ x)⟩
/-- the tuple at a, each item in a new pair with its count -/
def IteT (K : PySem.W.Frag) (a : Addr) : It :=
  ⟨fun i H => ∃ (xs : List V) (x : V), SqT K H a xs ∧ xs[i]? = some x, fun i H v H' => ∃ T x, v = .ref T ∧ H T = none ∧ H' = upd H T (.tup [.int (i : Nat), x]) ∧ ∀ xs, SqT K H a xs → xs[i]? = some x, fun i H => ∃ xs : List V, SqT K H a xs ∧ xs.length ≤ i⟩
theorem turn_enumT {P : Program} {w : World} {K : PySem.W.Frag} {elts : List Expr} {kk : Nat} {tpos : Pos} (a e it : Addr) :
    Turn P w K (.Tuple elts kk tpos) (IteT K a) [e, it] e (fun i h => (∃ old, IsEnum h e it ((i : Nat) : Int) old) ∧ h.IsTupleIter it a i ∧ e ≠ it ∧ a ≠ it ∧ a ≠ e) where
  mem := by simp
  obj := fun i h st b hb => by
    obtain ⟨⟨old, he⟩, ⟨o, ho, hc, hd⟩, _⟩ := st
    have c : b = e ∨ b = it := by simpa using hb
    rcases c with z | z
    · rw [z]; exact ⟨_, he, fun v q => nomatch q⟩
    · rw [z]; exact ⟨o, ho, fun v q => by rw [hd] at q; cases q⟩
  keep := fun i h h' st k => let ⟨⟨old, he⟩, hi, hne⟩ := st; ⟨⟨old, k e (by simp) _ he⟩, hi.at fun o q => k it (by simp) o q, hne⟩
  item := by
    intro X hP hw hK hc i pins s σ H E I hf st hg
    subst hP hw hK
    obtain ⟨⟨old, he⟩, hit, hne, nai, nae⟩ := st
    obtain ⟨xs, x, hq, hx⟩ := hg
    obtain ⟨its, rv, p, hz⟩ := I.tuple hq
    obtain ⟨u, hu, ru⟩ := rv.get hx
    have hel : e < s.heap.objs.size := Heap.lt_size he
    have hil : it < s.heap.objs.size := by obtain ⟨_, q, _⟩ := hit; exact Heap.lt_size q
    have hl : i < its.toArray.size := by
      have hl2 := (List.getElem?_eq_some_iff.mp hu).1
      simpa using hl2
    have pT : s.heap.IsTuple a its.toArray := p
    refine wpAny_pyNext_enum_itemC (Draws.tuple (A := X.A.in1) (show X.A.in1.handled = none from I.ok.hd hc) it a nai its.toArray) he ⟨hit, pT⟩ hl hne (fun q => ?_) fun y h' tk hy ho hit' hT hsz hk => ?_
    · have c : e = it ∨ e = a := by simpa using q
      rcases c with z | z
      · exact hne z
      · exact nae z.symm
    have ey : y = u := by
      have hu2 : its.toArray[i]? = some u := by simpa using hu
      rw [hu2] at hy
      exact (Option.some.inj hy).symm
    subst ey
    refine ⟨_, rfl, wpAny_letOwnedTupleGo_enum (s := { s with heap := h', toks := tk + 1 }) ho fun h'' he' sb => ?_⟩
    have hT2 : h''.get? s.heap.objs.size = some { cls := .type "tuple", data := .seq #[.int i tk, y] } := (sb.2 _ (Nat.ne_of_gt hel)).trans hT
    have new : ObjOk X.prog X.w (upd H s.heap.objs.size (.tup [.int (i : Nat), x])) h'' s.heap.objs.size (.tup [.int (i : Nat), x]) :=
      ⟨by show 2 ≤ sizeLine; decide, [.int i tk, y], .cons ⟨_, rfl⟩ (.cons ru .nil), ⟨_, hT2, rfl, _, rfl⟩⟩
    have I1 : Inv X pins σ (upd H s.heap.objs.size (.tup [.int (i : Nat), x])) { s with heap := h'', toks := tk + 1 } :=
      I.turnedNew (ch := [e, it]) (fun b ob hb q => (sb.2 b (fun z => hb (by simp [z]))).trans (hk b ob (fun z => hb (by simp [z])) (fun z => hb (by simp [z])) q)) hf (Nat.le_refl _) new
    refine ⟨.ref s.heap.objs.size, _, I1, rfl, ⟨_, x, rfl, I.hok.fresh (Nat.le_refl _), rfl, fun ys hy => by rw [I.tuple_inj hy hq]; exact hx⟩, ⟨⟨y, ?_⟩, hit'.1.at fun o q => (sb.2 it (Ne.symm hne)).trans q, hne, nai, nae⟩, fun b hb => ?_⟩
    · have e1 : ((i + 1 : Nat) : Int) = (i : Int) + 1 := by omega
      rw [e1]; exact he'
    · have hb' : b < s.heap.objs.size := by
        have c : b = e ∨ b = it := by simpa using hb
        rcases c with z | z
        · rw [z]; exact hel
        · rw [z]; exact hil
      rw [upd_ne (Nat.ne_of_lt hb')]
      exact (hf b hb).1
  done := by
    intro X hP hw hK hc i pins s σ H E I hf st hg
    subst hP hw hK
    obtain ⟨⟨old, he⟩, hit, hne, nai, nae⟩ := st
    obtain ⟨xs, hq, hx⟩ := hg
    obtain ⟨its, rv, p, hz⟩ := I.tuple hq
    obtain ⟨f0, f1, f2, f3, f4, f5⟩ := hf it (by simp)
    have hl := rv.length
    have pT : s.heap.IsTuple a its.toArray := p
    have hT : s.TypeIs (.ref e) "enumerate" := ⟨_, he, rfl⟩
    unfold pyNext
    refine wpAny_bind (wpAny_attempt (wpAny_callSpecial?_slot (name := Str.ofString "__next__") hT F.slot_enumerate_next
      (wpAny_call_entry F.slot_enumerate_next hT F.entry_enumerate_next ?_ (F.args_enumerate_next_1 _))))
    show wpAny _ _ (field (.ref e) 2 >>= _) _ _ _
    refine wpAny_bind (wpAny_field he rfl (x := .ref it) rfl ?_)
    refine wpAny_bind (wpAny_nextOf_tuple_end (I.ok.hd hc) hit pT (by simp; omega) fun h' x hx' q => ?_)
    obtain ⟨o, ho, hcl⟩ := q
    refine wpAny_bind (wpAny_isInstance (T := "StopIteration") (b := true) ⟨o, ho, hcl⟩ isSubtype_stop ?_)
    exact wpAny_pure ⟨rfl, I.turned (t' := s.toks) (fun b o hb q => hx' b o hb q) f0 f1 f3 f4 f5⟩
  self := fun A i s Q E st h => let ⟨⟨_, he⟩, _⟩ := st; wpAny_pyIter_enum he h
def iEnumT (K : PySem.W.Frag) (ta : TA) : TI := fun σ H R => ta σ H fun vs H1 => ∃ a xs, vs = [.ref a] ∧ SqT K H1 a xs ∧ R (IteT K a) H1
theorem pi_enumT {X : Cx} {e : Expr} {ta : TA} {p pos tpos : Pos} {elts : List Expr} {kk : Nat} (hg : Gl X "enumerate") (hm : X.mg "enumerate" = none) (ha : PA X [e] ta) (hs : starEach [e] X.env = [(false, eval e X.env)] := by rfl) :
    PI X (.Tuple elts kk tpos) (.Call (.Name "enumerate" p) [e] [] pos) (iEnumT X.K ta) := by
  refine ⟨fun pins s σ H R I h => ?_⟩
  refine Call_ (ld_blt I hg hm boot_enumerate (PyProof.Rows.callWith_type1 (thn (ha.run pos pins s σ H _ I h) fun us s1 ⟨vs, H1, I1, r1, q1⟩ => ?_) hs rfl))
  obtain ⟨a, xs, ex, hq, q⟩ := q1
  subst ex
  cases r1 with
  | cons r rr =>
    cases rr
    cases r
    obtain ⟨its, rv, p', hz⟩ := I1.tuple hq
    have pT : s1.heap.IsTuple a its.toArray := p'
    have hal : a < s1.heap.objs.size := by obtain ⟨_, q, _⟩ := pT; exact Heap.lt_size q
    refine enumT_call (begins_tuple a its.toArray) pT fun h' he hit hsz hk => wpAny_pyIter_enum he ?_
    have I2 : Inv X pins σ H1 { s1 with heap := h' } := I1.kept (t' := s1.toks) hk
    refine ⟨s1.heap.objs.size + 1, [s1.heap.objs.size + 1, s1.heap.objs.size], _, _, H1, rfl, I2, turn_enumT a (s1.heap.objs.size + 1) s1.heap.objs.size, ⟨⟨.none, he⟩, ⟨_, hit, rfl, rfl⟩, Nat.succ_ne_self _, Nat.ne_of_lt hal, Nat.ne_of_lt (Nat.lt_succ_of_lt hal)⟩, fun b hb => ?_, q⟩
    have c : b = s1.heap.objs.size + 1 ∨ b = s1.heap.objs.size := by simpa using hb
    have hle : s1.heap.objs.size ≤ b := by
      rcases c with z | z
      · rw [z]; exact Nat.le_add_right _ _
      · rw [z]; exact Nat.le_refl _
    exact I1.fpOk hle (I1.hok.fresh hle)
section
variable {X : Cx} {e elt c tg iter : Expr} {ρ : Rho} {μ : Mem} {pos p cpos : Pos} {scope : Scope}
/-- the items with their counts -/
def enumD (ds : List D) : List D := ds.mapIdx fun i d => .tup [.int (i : Nat), d]
theorem wk_enumT {elts : List Expr} {kk : Nat} {tpos : Pos} {ds : List D} (hm : X.mg "enumerate" = none) (h : Ev X e ρ μ (.tup ds)) (hg : Gl X "enumerate") (hs : starEach [e] X.env = (false, eval e X.env) :: starEach [] X.env := by rfl) :
    Wk X (.Tuple elts kk tpos) (.Call (.Name "enumerate" p) [e] [] cpos) ρ μ (enumD ds) := ⟨_, pi_enumT hg hm pa_w hs, fun σ H G q R k => av_cons h av_nil hs σ H G q _ fun vs H1 G1 xs μ1 ⟨e1, e2⟩ s b m r => by
  subst e1
  subst e2
  cases r with
  | cons r rr =>
    cases rr
    cases r with
    | tup ht rt =>
      have len : (enumD ds).length = ds.length := List.length_mapIdx
      refine ⟨_, _, rfl, Same.sqT b ht, k _ H1 G1 s b m ⟨fun i H G' hi u c => ?_, fun H G' u c => ?_, fun i H x H' G' μ' d hd u c m' y => ?_⟩⟩
      · rw [len] at hi
        obtain ⟨v, hv, _⟩ := rt.get (i := i) (List.getElem?_eq_getElem hi)
        exact ⟨_, v, Same.sqT c (Same.sqT u ht), hv⟩
      · exact ⟨_, Same.sqT c (Same.sqT u ht), by rw [len]; exact Nat.le_of_eq rt.length⟩
      · obtain ⟨T, x', ev, hT, eH, y⟩ := y
        subst ev
        subst eH
        have hx := y _ (Same.sqT c (Same.sqT u ht))
        obtain ⟨d', hd', r'⟩ := rt.get' hx
        have ed : d = .tup [.int (i : Nat), d'] := by
          have e2 : (enumD ds)[i]? = some (.tup [.int (i : Nat), d']) := by
            unfold enumD
            rw [List.getElem?_mapIdx, hd']
            rfl
          rw [hd] at e2
          exact Option.some.inj e2
        subst ed
        have g := c.free hT
        exact ⟨_, step_new hT g, sub_new c, mm_new m' hT g, .tup (.inl (.inl upd_same)) ((RpL.cons (.int _) (.cons (r'.mono u) .nil)).mono (same_new g))⟩⟩
/-- a comprehension over a mapped list -/
theorem ev_lcM {α : Type} (xs : List α) (f g : α → D) {own : List (Str × Nat)} (hw : Wk X tg iter ρ μ (xs.map f)) (hz : xs.length ≤ sizeLine)
    (hs : ∀ x, x ∈ xs → ∃ ρ'', InB X scope (fun Y => Gw Y tg (own.map (·.2)) (f x) (wipeR ρ (own.map (·.2))) ρ'') ∧ InB X scope fun Y => Ev Y elt ρ'' μ (g x))
    (ok : BlkOk X.N X.env.scope scope own) (hN : X.N.Nodup) (hc : X.calm = true) (hf : ∀ x, foldedSetIterable iter X.env x = pure x := by intro _; rfl) :
    Ev X (.ListComp elt [⟨tg, iter, [], 0⟩] scope pos) ρ μ (.lst (xs.map g)) := by
  refine ec_lc (own := own) hw (by rw [List.length_map]; exact hz) (fun i acc μ' => acc = (xs.take i).map g ∧ μ' = μ) ⟨rfl, rfl⟩ (fun i d acc μ' hd ⟨e1, e2⟩ _ => ?_) (fun acc μ' ⟨e1, e2⟩ => ⟨by rw [e1, List.length_map, List.take_length], e2⟩) ok hN hc hf
  subst e1
  subst e2
  rw [List.getElem?_map] at hd
  cases hx : xs[i]? with
  | none => rw [hx] at hd; cases hd
  | some x =>
    rw [hx] at hd
    have ed : f x = d := Option.some.inj hd
    subst ed
    obtain ⟨ρ'', h1, h2⟩ := hs x (List.mem_of_getElem? hx)
    refine ⟨ρ'', h1, fun s H C cl fp => tsc_nil (fun s H C cl fp => (h2 s H C cl fp).to ⟨?_, rfl⟩)⟩
    rw [List.take_add_one, hx, List.map_append]
    rfl
/-- .. where memory may change -/
theorem ec_lcM {α : Type} {Φ : Aft} (xs : List α) (f : α → D) {own : List (Str × Nat)} (hw : Wk X tg iter ρ μ (xs.map f)) (hz : xs.length ≤ sizeLine) (I : List α → List D → Mem → Prop) (h0 : I [] [] μ)
    (hs : ∀ pre x post acc μ', xs = pre ++ x :: post → I pre acc μ' → ∃ ρ'', InB X scope (fun Y => Gw Y tg (own.map (·.2)) (f x) (wipeR ρ (own.map (·.2))) ρ'') ∧ InB X scope fun Y => Ec Y elt ρ'' μ' fun r μ2 => I (pre ++ [x]) (acc ++ [r]) μ2)
    (hd : ∀ acc μ', I xs acc μ' → Φ (.lst acc) μ')
    (ok : BlkOk X.N X.env.scope scope own) (hN : X.N.Nodup) (hc : X.calm = true) (hf : ∀ x, foldedSetIterable iter X.env x = pure x := by intro _; rfl) :
    Ec X (.ListComp elt [⟨tg, iter, [], 0⟩] scope pos) ρ μ Φ := by
  refine ec_lc (own := own) hw (by rw [List.length_map]; exact hz) (fun i acc μ' => I (xs.take i) acc μ') h0 (fun i d acc μ' hd hI _ => ?_) (fun acc μ' h => hd acc μ' (by rw [List.length_map, List.take_length] at h; exact h)) ok hN hc hf
  rw [List.getElem?_map] at hd
  cases hx : xs[i]? with
  | none => rw [hx] at hd; cases hd
  | some x =>
    rw [hx] at hd
    have ed : f x = d := Option.some.inj hd
    subst ed
    have sp : xs = xs.take i ++ x :: xs.drop (i + 1) := by
      obtain ⟨hl, ex⟩ := List.getElem?_eq_some_iff.mp hx
      rw [← ex, ← List.drop_eq_getElem_cons hl, List.take_append_drop]
    obtain ⟨ρ'', h1, h2⟩ := hs _ x _ acc μ' sp hI
    refine ⟨ρ'', h1, fun s H C cl fp => tsc_nil (fun s H C cl fp => ?_)⟩
    have e2 : xs.take (i + 1) = xs.take i ++ [x] := by rw [List.take_add_one, hx]; rfl
    rw [e2]
    exact h2 s H C cl fp
/-- for over a mapped list -/
theorem sx_forM {α : Type} {body : List Stmt} {D : AE} (xs : List α) (f : α → FQ.D) (hw : Wk X tg iter ρ μ (xs.map f)) (I : List α → Rho → Mem → Prop) (h0 : I [] ρ μ)
    (hs : ∀ pre x post ρ' μ', xs = pre ++ x :: post → I pre ρ' μ' → ∃ ρ'', Gv X tg (f x) ρ' ρ'' ∧ Bx X body ρ'' μ' { nx := I (pre ++ [x]), ct := I (pre ++ [x]), bk := D.nx, rt := D.rt })
    (hd : ∀ ρ' μ', I xs ρ' μ' → D.nx ρ' μ') (hp : PassesOwn (model X.prog X.w) X.A X.env X.xe) (hc : X.calm = true) (hf : ∀ x, foldedSetIterable iter X.env x = pure x := by intro _; rfl) :
    Sx X (.For tg iter body [] pos) ρ μ D := by
  refine sx_for hw (fun i ρ' μ' => I (xs.take i) ρ' μ') h0 (fun i d ρ' μ' hd hI => ?_) (fun ρ' μ' h => hd ρ' μ' (by rw [List.length_map, List.take_length] at h; exact h)) hp hc hf
  rw [List.getElem?_map] at hd
  cases hx : xs[i]? with
  | none => rw [hx] at hd; cases hd
  | some x =>
    rw [hx] at hd
    have ed : f x = d := Option.some.inj hd
    subst ed
    have sp : xs = xs.take i ++ x :: xs.drop (i + 1) := by
      obtain ⟨hl, ex⟩ := List.getElem?_eq_some_iff.mp hx
      rw [← ex, ← List.drop_eq_getElem_cons hl, List.take_append_drop]
    obtain ⟨ρ'', h1, h2⟩ := hs _ x _ ρ' μ' sp hI
    have e2 : xs.take (i + 1) = xs.take i ++ [x] := by rw [List.take_add_one, hx]; rfl
    refine ⟨ρ'', h1, ?_⟩
    rw [e2]
    exact h2
/-- l.append(e) -/
theorem sx_app {o : Expr} {apos epos : Pos} {D : AE} {l : Addr} {ds : List FQ.D} (ho : Ev X o ρ μ (.raw (.ref l))) (m : μ l = some (.lst ds)) (h : Ec X e ρ μ fun d μ1 => μ1 l = some (.lst ds) ∧ ds.length < sizeLine ∧ D.nx ρ (μ1.put l (.lst (ds ++ [d]))))
    (hbase : attributeBase o "append" X.env (eval o X.env) = eval o X.env := by rfl)
    (hfew : ((backTo pos (starEach [e] X.env)).all (fun x => !x.1) && (backToKw pos (keywordEach [] X.env)).all (fun x => x.1.isSome) && decide (([e] : List Expr).length + ([] : List Keyword).length + (if ([] : List Keyword).isEmpty then 0 else 1) < 30)) = true := by rfl)
    (hline : (apos.endLine == pos.line) = true := by rfl) (hs : starEach [e] X.env = (false, eval e X.env) :: starEach [] X.env := by rfl) (hplain : (backTo pos (starEach [] X.env)).any (·.1) = false := by rfl)
    (hsw : swapsWith (.Call (.Attribute o "append" apos) [e] [] pos) none epos.line X.env = pure false := by rfl) :
    Sx X (.Expr (.Call (.Attribute o "append" apos) [e] [] pos) epos) ρ μ D :=
  sx_expr (ec_bm PySem.F.plainAttrs_list PySem.F.slot_list_append PySem.F.type_list_append (ho.to ⟨tyd_own m, ac_cons (h.mono fun d μ1 ⟨m1, hl, p⟩ => ac_nil (MtR.imp (mx_append (d := d) m1 hl) fun v vs H Q ⟨G, n, rv, r, f⟩ => ⟨G, n, rv, r, fun v' H' G' d' μ' ⟨e1, e2⟩ => f v' H' G' d' μ' (by rw [e2]; exact p)⟩)) hs⟩) hbase hfew hline hs hplain) hsw
end
end FQ

set_option Elab.async false
set_option linter.all false
set_option maxRecDepth 100000
set_option maxHeartbeats 2000000
/-! rules at one memory -/
namespace FQ
open PySem L2 PySem.Spec PyProof.Rows
section
variable {X : Cx} {e a b o : Expr} {es : List Expr} {ρ : Rho} {μ : Mem} {pos p : Pos} {x y z d : D} {f : Str}
theorem opx_of {fn : Value → Value → Sem Value} (h : OpD X fn x y z) : OpX X fn x y μ (Is z μ) := h μ
theorem cdx_of {fn : Value} {ds : List D} (h : CallD X fn ds z) : CallX X fn ds μ (Is z μ) := h μ
theorem ixx_of (h : IxD X x y z) : IxX X x y μ (Is z μ) := h μ
theorem ev_binX {op : Operator} (ha : Ev X a ρ μ x) (hb : Ev X b ρ μ y) (ho : OpX X (binaryOp op) x y μ (Is z μ)) : Ev X (.BinOp a op b pos) ρ μ z := ec_bin (ha.to (hb.to ho))
theorem ev_cmpX {op : CmpOp} (ha : Ev X a ρ μ x) (hb : Ev X b ρ μ y) (ho : OpX X (compareOp op) x y μ (Is z μ)) (hm : behindInMarks op b = false) : Ev X (.Compare a [op] [b] pos) ρ μ z := ec_cmp (ha.to (hb.to ho)) hm
theorem ev_callBX {n : Str} {id : String} {ds : List D} (hm : X.mg n = none) (hv : bootBuiltins n = some (.builtin id)) (h : Av X (e :: es) ρ μ ds) (ho : CallX X (.builtin id) ds μ (Is z μ)) (hg : Gl X n) (hp : PlainN n)
    (he : starEach (e :: es) X.env = (false, eval e X.env) :: starEach es X.env := by rfl) (hpl : (backTo pos (starEach es X.env)).any (·.1) = false := by rfl) : Ev X (.Call (.Name n p) (e :: es) [] pos) ρ μ z := ec_callB hm hv (h.to ho) hg hp he hpl
theorem ev_callTyX {n : Str} {T : String} {ds : List D} (hm : X.mg n = none) (hv : bootBuiltins n = some (.type T)) (h : Av X (e :: es) ρ μ ds) (ho : CallX X (.type T) ds μ (Is z μ)) (hg : Gl X n) (hp : PlainN n)
    (he : starEach (e :: es) X.env = (false, eval e X.env) :: starEach es X.env := by rfl) (hpl : (backTo pos (starEach es X.env)).any (·.1) = false := by rfl) : Ev X (.Call (.Name n p) (e :: es) [] pos) ρ μ z := ec_callTy hm hv (h.to ho) hg hp he hpl
theorem ev_ixX (ha : Ev X a ρ μ x) (hb : Ev X b ρ μ y) (ho : IxX X x y μ (Is z μ)) (hs : PlainIx b) : Ev X (.Subscript a b pos) ρ μ z := ec_ix (ha.to (hb.to ho)) hs
/-- len, ==, [i] of our own list -/
theorem opx_eqM {l : Addr} {ds : List D} (hu : X.A.units + 64 < cLine) (m : μ l = some (.lst ds)) (fx : (D.lst ds).flat = true) (fy : y.flat = true) (sx : SeqAt.shaped (D.lst ds).py = true) (sy : SeqAt.shaped y.py = true) :
    OpX X (compareOp .Eq) (.raw (.ref l)) y μ (Is (.bl (PyData.eqv (D.lst ds).py y.py)) μ) :=
  OpR.imp (op_eqD hu) fun v u H Q ⟨G, n, rv, ru, f⟩ => by
    cases rv
    obtain ⟨_, vs, e, r⟩ := n.mem _ _ m
    exact ⟨(D.lst ds).py, y.py, Rp.toDp _ _ fx (.lst e (r.sub n.sub)), Rp.toDp _ _ fy (ru.sub n.sub), sx, sy, f.is n (.bl _)⟩
theorem opx_neM {l : Addr} {ds : List D} (hu : X.A.units + 64 < cLine) (m : μ l = some (.lst ds)) (fx : (D.lst ds).flat = true) (fy : y.flat = true) (sx : SeqAt.shaped (D.lst ds).py = true) (sy : SeqAt.shaped y.py = true) :
    OpX X (compareOp .NotEq) (.raw (.ref l)) y μ (Is (.bl (!PyData.eqv (D.lst ds).py y.py)) μ) :=
  OpR.imp (op_neD hu) fun v u H Q ⟨G, n, rv, ru, f⟩ => by
    cases rv
    obtain ⟨_, vs, e, r⟩ := n.mem _ _ m
    exact ⟨(D.lst ds).py, y.py, Rp.toDp _ _ fx (.lst e (r.sub n.sub)), Rp.toDp _ _ fy (ru.sub n.sub), sx, sy, f.is n (.bl _)⟩
theorem eqv_nil {ds : List D} : PyData.eqv (D.lst ds).py (D.lst []).py = ds.isEmpty := by
  cases ds <;> rfl
theorem shaped_nil : SeqAt.shaped (D.lst []).py = true := by decide
/-- .. against the empty list -/
theorem opx_eqN {l : Addr} {ds : List D} (hu : X.A.units + 64 < cLine) (m : μ l = some (.lst ds)) (fx : (D.lst ds).flat = true) (sx : SeqAt.shaped (D.lst ds).py = true) :
    OpX X (compareOp .Eq) (.raw (.ref l)) (.lst []) μ (Is (.bl ds.isEmpty) μ) := by
  have h := opx_eqM (y := .lst []) hu m fx rfl sx shaped_nil
  rw [eqv_nil] at h
  exact h
theorem opx_neN {l : Addr} {ds : List D} (hu : X.A.units + 64 < cLine) (m : μ l = some (.lst ds)) (fx : (D.lst ds).flat = true) (sx : SeqAt.shaped (D.lst ds).py = true) :
    OpX X (compareOp .NotEq) (.raw (.ref l)) (.lst []) μ (Is (.bl !ds.isEmpty) μ) := by
  have h := opx_neM (y := .lst []) hu m fx rfl sx shaped_nil
  rw [eqv_nil] at h
  exact h
theorem opd_eqN {ds : List D} (hu : X.A.units + 64 < cLine) (fx : (D.lst ds).flat = true) (sx : SeqAt.shaped (D.lst ds).py = true) : OpD X (compareOp .Eq) (.lst ds) (.lst []) (.bl ds.isEmpty) := by
  have h := opd_eqD (X := X) (y := .lst []) hu fx rfl sx shaped_nil
  rw [eqv_nil] at h
  exact h
theorem opd_neN {ds : List D} (hu : X.A.units + 64 < cLine) (fx : (D.lst ds).flat = true) (sx : SeqAt.shaped (D.lst ds).py = true) : OpD X (compareOp .NotEq) (.lst ds) (.lst []) (.bl !ds.isEmpty) := by
  have h := opd_neD (X := X) (y := .lst []) hu fx rfl sx shaped_nil
  rw [eqv_nil] at h
  exact h
/-- all, any of what a map made -/
theorem cd_allM {α : Type} {xs : List α} {g : α → Bool} (hc : X.calm = true) : CallD X (.builtin "all") [.lst (xs.map fun x => .bl (g x))] (.bl (xs.all g)) := by
  have h := cd_all (X := X) (bs := xs.map g) hc
  rw [List.map_map, List.all_map] at h
  exact h
theorem cd_anyM {α : Type} {xs : List α} {g : α → Bool} (hc : X.calm = true) : CallD X (.builtin "any") [.lst (xs.map fun x => .bl (g x))] (.bl (xs.any g)) := by
  have h := cd_any (X := X) (bs := xs.map g) hc
  rw [List.map_map, List.any_map] at h
  exact h
/-- str(w) of a word -/
theorem cd_str_w {d : D} (h : d.wok = true) : CallD X (.type "str") [d] (.str d.wt) := by
  cases d with
  | int i => exact cd_str_int (by simpa [D.wok] using h)
  | str s => exact cd_str_str
  | _ => cases h
theorem md_joinM {α : Type} {s : Str} {xs : List α} {g : α → Str} (h : ((xs.map g).map (·.length)).sum + xs.length * s.length ≤ 16777216) : MtD X "str.join" (.str s) [.lst (xs.map fun x => .str (g x))] (.str (Txt.join s (xs.map g))) := by
  have k := md_joinL (X := X) (a := s) (ys := xs.map g) (by rw [List.length_map]; exact h)
  rw [List.map_map] at k
  exact k
theorem enumD_get {α : Type} {xs : List α} {f : α → D} {i : Nat} {d : D} (h : (enumD (xs.map f))[i]? = some d) : ∃ x, xs[i]? = some x ∧ d = .tup [.int (i : Nat), f x] := by
  unfold enumD at h
  rw [List.getElem?_mapIdx, List.getElem?_map] at h
  cases e : xs[i]? with
  | none => rw [e] at h; cases h
  | some x =>
    rw [e] at h
    exact ⟨x, rfl, (Option.some.inj h).symm⟩
end
section
variable {X : Cx} {c : Expr} {body orelse : List Stmt} {ρ : Rho} {μ : Mem} {pos : Pos} {D : AE} {k : Bool}
theorem sx_ifF (h : Tv X c ρ μ k) (e : k = false) (q : Bx X orelse ρ μ D) : Sx X (.If c body orelse pos) ρ μ D := by
  subst e
  exact sx_if (h.to q)
theorem sx_ifT (h : Tv X c ρ μ k) (e : k = true) (q : Bx X body ρ μ D) : Sx X (.If c body orelse pos) ρ μ D := by
  subst e
  exact sx_if (h.to q)
theorem Mm.free_put {μ : Mem} {a b : Addr} {o : MO} (h : (μ.put a o) b = none) : b ≠ a ∧ μ b = none := by
  by_cases q : b = a
  · subst q
    rw [Mem.put_same] at h
    cases h
  · rw [Mem.put_ne q] at h
    exact ⟨q, h⟩
end
section
variable {X : Cx} {a b c : Expr} {ρ : Rho} {μ : Mem} {pos : Pos} {x y z : D}
/-- comparisons as tests -/
theorem tc_cmp {op : CmpOp} {Ψ : Bool → Mem → Prop} (h : Ec X a ρ μ fun x μ1 => Ec X b ρ μ1 fun y μ2 => OpX X (compareOp op) x y μ2 fun d μ3 => ∃ k, d = .bl k ∧ Ψ k μ3) (hm : behindInMarks op b = false) : Tc X (.Compare a [op] [b] pos) ρ μ Ψ := fun σ H G q Q f => by
  have key : PT X (.Compare a [op] [b] pos) (tTest fun σ H Q => WE X a σ H fun v H1 => WE X b σ H1 fun u H2 => ∃ x y μ2 G, OpX X (compareOp op) x y μ2 (fun d μ3 => ∃ k, d = .bl k ∧ Ψ k μ3) ∧ Now X.K H2 G μ2 ∧ Rp X.K G v x ∧ Rp X.K G u y ∧ Fin X.K μ2 H2 G (fun d μ3 => ∃ k, d = .bl k ∧ Ψ k μ3) Q) :=
    pt_cmpR (r := fun v u H2 Q => ∃ x y μ2 G, OpX X (compareOp op) x y μ2 (fun d μ3 => ∃ k, d = .bl k ∧ Ψ k μ3) ∧ Now X.K H2 G μ2 ∧ Rp X.K G v x ∧ Rp X.K G u y ∧ Fin X.K μ2 H2 G (fun d μ3 => ∃ k, d = .bl k ∧ Ψ k μ3) Q) (fun pins s σ H v u v' u' Q I rv ru ⟨x, y, μ2, G, o, n, r1, r2, f⟩ => o pins s σ H v u v' u' Q I rv ru ⟨G, n, r1, r2, f⟩) pe_w pe_w hm
  refine wt key (h σ H G q _ fun v H1 G1 x μ1 p1 s1 b1 m1 r1 => ?_)
  refine p1 σ H1 G1 (q.go s1 b1 m1) _ fun u H2 G2 y μ2 p2 s2 b2 m2 r2 => ?_
  refine ⟨x, y, μ2, G2, p2, ⟨b2, m2⟩, r1.mono s2.up, r2, fun w H3 G3 d μ3 ⟨k, e, p3⟩ s3 b3 m3 r3 => ?_⟩
  subst e
  cases r3
  exact ⟨k, rfl, f k H3 G3 μ3 p3 ((s1.trans s2).trans s3) b3 m3⟩
theorem OpX.mono {fn : Value → Value → Sem Value} {Φ Ψ : Aft} (h : OpX X fn x y μ Φ) (k : ∀ d μ', Φ d μ' → Ψ d μ') : OpX X fn x y μ Ψ := OpR.imp h fun v u H Q ⟨G, n, rv, ru, f⟩ => ⟨G, n, rv, ru, fun v' H' G' d μ' p => f v' H' G' d μ' (k d μ' p)⟩
theorem tv_cmp {op : CmpOp} {k : Bool} (ha : Ev X a ρ μ x) (hb : Ev X b ρ μ y) (ho : OpX X (compareOp op) x y μ (Is (.bl k) μ)) (hm : behindInMarks op b = false) : Tv X (.Compare a [op] [b] pos) ρ μ k :=
  tc_cmp (ha.to (hb.to (ho.mono fun d μ' ⟨e1, e2⟩ => ⟨k, e1, rfl, e2⟩))) hm
theorem chain_run {op op' : CmpOp} {k l : Bool} (ha : Ev X a ρ μ x) (hb : Ev X b ρ μ y) (hc : Ev X c ρ μ z) (ho : OpD X (compareOp op) x y (.bl k)) (ho' : OpD X (compareOp op') y z (.bl l)) {σ : L2.St} {H G : Hp} {Q : VK} (q : At X.K H G σ ρ μ) (f : Fin X.K μ H G (Is (.bl (k && l)) μ) Q) :
    tChain (fun v u H Q => ∃ G, Now X.K H G μ ∧ Rp X.K G v x ∧ Rp X.K G u y ∧ Fin X.K μ H G (Is (.bl k) μ) Q) (fun v u H Q => ∃ G, Now X.K H G μ ∧ Rp X.K G v y ∧ Rp X.K G u z ∧ Fin X.K μ H G (Is (.bl l) μ) Q) (WE X a) (WE X b) (WE X c) σ H Q := by
  refine ha σ H G q _ fun v H1 G1 x1 μ1 ⟨e1, e2⟩ s1 b1 m1 r1 => ?_
  subst e1
  subst e2
  have q1 := q.go s1 b1 m1
  refine hb σ H1 G1 q1 _ fun u H2 G2 y1 μ2 ⟨e1, e2⟩ s2 b2 m2 r2 => ?_
  subst e1
  subst e2
  have q2 := q1.go s2 b2 m2
  refine ⟨G2, ⟨b2, m2⟩, r1.mono s2.up, r2, fun w H3 G3 d3 μ3 ⟨e1, e2⟩ s3 b3 m3 r3 => ?_⟩
  subst e1
  subst e2
  cases r3
  have q3 := q2.go s3 b3 m3
  refine ⟨k, rfl, ?_⟩
  have f3 := ((f.from s1).from s2).from s3
  cases k with
  | false => exact f3.is ⟨b3, m3⟩ (.bl _)
  | true =>
    refine hc σ H3 G3 q3 _ fun w H4 G4 d4 μ4 ⟨e1, e2⟩ s4 b4 m4 r4 => ?_
    subst e1
    subst e2
    exact ⟨G4, ⟨b4, m4⟩, (r2.mono s3.up).mono s4.up, r4, f3.from s4⟩
theorem tv_chain {op op' : CmpOp} {k l : Bool} (ha : Ev X a ρ μ x) (hb : Ev X b ρ μ y) (hc : Ev X c ρ μ z) (ho : OpD X (compareOp op) x y (.bl k)) (ho' : OpD X (compareOp op') y z (.bl l)) (hm : lastMarks [op, op'] [b, c] = false := by with_unfolding_all rfl) :
    Tv X (.Compare a [op, op'] [b, c] pos) ρ μ (k && l) := fun σ H G q Q f =>
  wt (pt_chain (ho μ) (ho' μ) pe_w pe_w pe_w hm) (chain_run ha hb hc ho ho' q fun v H' G' d μ' ⟨e1, e2⟩ s b m r => by
    subst e1
    subst e2
    cases r
    exact ⟨_, rfl, f _ H' G' μ' ⟨rfl, rfl⟩ s b m⟩)
end
end FQ

set_option Elab.async false
set_option linter.all false
set_option maxRecDepth 100000
set_option maxHeartbeats 2000000
/-! small data: what repr and == ask of it -/
namespace FQ
open PySem L2 PySem.Spec PyProof.Rows TL
/-- plain data, no deeper than k, no heavier than n -/
structure Sm (k n : Nat) (d : D) : Prop where
  flat : d.flat = true
  can : PyData.canLay0 d.py = true
  dep : PyData.depth d.py ≤ k
  wei : PyData.weight d.py ≤ n
  sho : PyData.showable d.py = true
  nod : PyData.hasDict d.py = false
  ish : PyData.intsShort 13 d.py = true
theorem Sm.mono {k k' n n' : Nat} {d : D} (h : Sm k n d) (hk : k ≤ k') (hn : n ≤ n') : Sm k' n' d := ⟨h.flat, h.can, Nat.le_trans h.dep hk, Nat.le_trans h.wei hn, h.sho, h.nod, h.ish⟩
theorem Sm.non {k n : Nat} : Sm k n .non := ⟨rfl, rfl, Nat.zero_le _, Nat.zero_le _, rfl, rfl, rfl⟩
theorem Sm.bl {k n : Nat} {b : Bool} : Sm k n (.bl b) := ⟨rfl, rfl, Nat.zero_le _, Nat.zero_le _, rfl, rfl, rfl⟩
theorem Sm.int {k n : Nat} {i : Int} (h : i.natAbs < 10 ^ 11) (hn : 40 ≤ n) : Sm k n (.int i) := by
  refine ⟨rfl, rfl, Nat.zero_le _, ?_, ?_, rfl, ?_⟩
  · show (if i == 0 then 0 else i.natAbs.log2 + 1) ≤ n
    by_cases c : i = 0
    · rw [c]
      exact Nat.zero_le _
    · have c2 : i.natAbs ≠ 0 := by omega
      have l : i.natAbs.log2 < 38 := (Nat.log2_lt c2).mpr (Nat.lt_trans h (by decide))
      split <;> omega
  · exact decide_eq_true (log_small (Nat.lt_trans h (by decide +kernel)))
  · have l := len_numT (k := 11) (by decide) h
    show decide ((PyData.shown (.int i)).length ≤ 13) = true
    refine decide_eq_true (Nat.le_trans (Nat.le_of_eq ?_) (Nat.le_succ_of_le l))
    unfold PyData.shown numT
    rfl
theorem Sm.str {k n : Nat} {s : Str} (h : ∀ c ∈ tl s, c < 256) (hn : s.length ≤ n) : Sm k n (.str s) := by
  refine ⟨rfl, ?_, Nat.zero_le _, hn, rfl, rfl, rfl⟩
  show PyData.strOk s = true
  unfold PyData.strOk
  rw [Array.all_eq_true_iff_forall_mem]
  intro c hc
  have := h c (Array.mem_toList_iff.mpr hc)
  exact decide_eq_true (by omega)
theorem sm_all {k n : Nat} : ∀ {ds : List D}, (∀ d ∈ ds, Sm k n d) → flatL ds = true ∧ PyData.canLayAll0 (pyL ds) = true ∧ PyData.depthAll (pyL ds) ≤ k ∧ PyData.weightAll (pyL ds) ≤ ds.length * (n + 1) ∧ PyData.showableAll (pyL ds) = true ∧ PyData.hasDictAll (pyL ds) = false ∧ PyData.intsShortAll 13 (pyL ds) = true
  | [], _ => ⟨rfl, rfl, Nat.zero_le _, Nat.zero_le _, rfl, rfl, rfl⟩
  | d :: ds, h => by
    have hd := h d List.mem_cons_self
    obtain ⟨h1, h2, h3, h4, h5, h6, h7⟩ := sm_all (ds := ds) fun x hx => h x (List.mem_cons_of_mem _ hx)
    refine ⟨?_, ?_, ?_, ?_, ?_, ?_, ?_⟩
    · show (d.flat && flatL ds) = true
      rw [hd.flat, h1]
      rfl
    · show (PyData.canLay0 d.py && PyData.canLayAll0 (pyL ds)) = true
      rw [hd.can, h2]
      rfl
    · show max (PyData.depth d.py) (PyData.depthAll (pyL ds)) ≤ k
      exact Nat.max_le.mpr ⟨hd.dep, h3⟩
    · show PyData.weight d.py + 1 + PyData.weightAll (pyL ds) ≤ (ds.length + 1) * (n + 1)
      rw [Nat.succ_mul]
      have := hd.wei
      omega
    · show (PyData.showable d.py && PyData.showableAll (pyL ds)) = true
      rw [hd.sho, h5]
      rfl
    · show (PyData.hasDict d.py || PyData.hasDictAll (pyL ds)) = false
      rw [hd.nod, h6]
      rfl
    · show (PyData.intsShort 13 d.py && PyData.intsShortAll 13 (pyL ds)) = true
      rw [hd.ish, h7]
      rfl
theorem Sm.tup {k n m : Nat} {ds : List D} (h : ∀ d ∈ ds, Sm k n d) (l : ds.length * (n + 1) ≤ m) : Sm (k + 1) m (.tup ds) := by
  obtain ⟨h1, h2, h3, h4, h5, h6, h7⟩ := sm_all h
  exact ⟨h1, h2, Nat.succ_le_succ h3, Nat.le_trans h4 l, h5, h6, h7⟩
theorem Sm.lst {k n m : Nat} {ds : List D} (h : ∀ d ∈ ds, Sm k n d) (l : ds.length * (n + 1) ≤ m) : Sm (k + 1) m (.lst ds) := by
  obtain ⟨h1, h2, h3, h4, h5, h6, h7⟩ := sm_all h
  exact ⟨h1, h2, Nat.succ_le_succ h3, Nat.le_trans h4 l, h5, h6, h7⟩
theorem Sm.shaped {k n : Nat} {d : D} (h : Sm k n d) (hk : k ≤ 64) : SeqAt.shaped d.py = true := by
  unfold SeqAt.shaped
  rw [h.can, decide_eq_true (Nat.le_trans h.dep hk)]
  rfl
theorem Sm.cd_repr {X : Cx} {k n : Nat} {d : D} (h : Sm k n d) (hk : k ≤ 62) (hn : n ≤ 1048576) (hc : Calm X.A) (hu : X.A.units + 64 < cLine) (hr : ∃ ds, d = .tup ds ∨ d = .lst ds) : CallD X (.builtin "repr") [d] (.str d.py.shown) := by
  refine FQ.cd_repr hc hu h.flat h.sho h.nod (Nat.le_trans h.dep hk) ?_ hr
  have l : PyData.layable0 d.py = true := by
    unfold PyData.layable0
    rw [h.can, decide_eq_true (Nat.le_trans h.dep (Nat.le_trans hk (by decide))), decide_eq_true (Nat.le_trans h.wei (Nat.le_trans hn (by decide)))]
    rfl
  exact Nat.le_trans (shown_le13 l h.ish) (by decide)
end FQ
namespace FQ
open PySem L2 PySem.Spec PyProof.Rows
theorem isi_tup {X : Cx} {ds : List D} : CallD X (.builtin "isinstance") [.tup ds, .raw (.ty "tuple")] (.bl true) := cd_isi rfl kit_tuple_tuple
theorem isi_int {X : Cx} {i : Int} : CallD X (.builtin "isinstance") [.int i, .raw (.ty "int")] (.bl true) := cd_isi rfl kit_int_int
theorem isi_bool {X : Cx} {i : Int} : CallD X (.builtin "isinstance") [.int i, .raw (.ty "bool")] (.bl false) := cd_isi rfl kit_int_bool
theorem isi_str {X : Cx} {s : Str} : CallD X (.builtin "isinstance") [.str s, .raw (.ty "str")] (.bl true) := cd_isi rfl kit_str_str
end FQ

set_option Elab.async false
set_option linter.all false
set_option maxRecDepth 100000
set_option maxHeartbeats 2000000
namespace FQ
open PySem L2 PySem.Spec PyProof.Rows
section
variable {X : Cx} {e : Expr} {ρ : Rho} {μ : Mem} {p cpos : Pos}
theorem wk_enum {elts : List Expr} {kk : Nat} {tpos : Pos} {ds : List D} (hm : X.mg "enumerate" = none) (h : Ev X e ρ μ (.lst ds)) (hg : Gl X "enumerate") (hs : starEach [e] X.env = (false, eval e X.env) :: starEach [] X.env := by rfl) :
    Wk X (.Tuple elts kk tpos) (.Call (.Name "enumerate" p) [e] [] cpos) ρ μ (enumD ds) := ⟨_, pi_enum hg hm pa_w hs, fun σ H G q R k => av_cons h av_nil hs σ H G q _ fun vs H1 G1 xs μ1 ⟨e1, e2⟩ s b m r => by
  subst e1
  subst e2
  cases r with
  | cons r rr =>
    cases rr
    cases r with
    | lst ht rt =>
      have len : (enumD ds).length = ds.length := List.length_mapIdx
      refine ⟨_, _, rfl, SqL.of (b _ _ ht), k _ H1 G1 s b m ⟨fun i H G' hi u c => ?_, fun H G' u c => ?_, fun i H x H' G' μ' d hd u c m' y => ?_⟩⟩
      · rw [len] at hi
        obtain ⟨v, hv, _⟩ := rt.get (i := i) (List.getElem?_eq_getElem hi)
        exact ⟨_, v, SqL.of (c _ _ (u _ _ ht)), hv⟩
      · exact ⟨_, SqL.of (c _ _ (u _ _ ht)), by rw [len]; exact Nat.le_of_eq rt.length⟩
      · obtain ⟨T, x', ev, hT, eH, y⟩ := y
        subst ev
        subst eH
        have hx := y _ (SqL.of (c _ _ (u _ _ ht)))
        obtain ⟨d', hd', r'⟩ := rt.get' hx
        have ed : d = .tup [.int (i : Nat), d'] := by
          have e2 : (enumD ds)[i]? = some (.tup [.int (i : Nat), d']) := by
            unfold enumD
            rw [List.getElem?_mapIdx, hd']
            rfl
          rw [hd] at e2
          exact Option.some.inj e2
        subst ed
        have g := c.free hT
        exact ⟨_, step_new hT g, sub_new c, mm_new m' hT g, .tup (.inl (.inl upd_same)) ((RpL.cons (.int _) (.cons (r'.mono u) .nil)).mono (same_new g))⟩⟩
theorem inS_str {s : Str} {ss : List Str} : inS (.str s) (ss.map D.str) = decide (s ∈ ss) := by
  unfold inS inV
  rw [List.map_map, List.any_map]
  rw [Bool.eq_iff_iff, List.any_eq_true, decide_eq_true_eq]
  constructor
  · rintro ⟨x, hx, e⟩
    have e' : eqV (.str x) (.str s) = true := e
    have : x = s := by simpa [eqV] using e'
    exact this ▸ hx
  · intro h
    refine ⟨s, h, ?_⟩
    show eqV (.str s) (.str s) = true
    simp [eqV]
theorem sc_strs {ss : List Str} : (ss.map D.str).all D.sc = true := by
  rw [List.all_map, List.all_eq_true]
  intro _ _
  rfl
end
end FQ

set_option Elab.async false
set_option linter.all false
set_option maxRecDepth 100000
set_option maxHeartbeats 2000000
/-! walks over what is worked out with changes of memory -/
namespace FQ
open PySem L2 PySem.Spec PyProof.Rows
section
variable {X : Cx} {e iter tg c : Expr} {body : List Stmt} {ρ : Rho} {μ : Mem} {pos p : Pos} {D : AE}
def WkC (X : Cx) (tg iter : Expr) (ρ : Rho) (μ : Mem) (Ψ : List FQ.D → Mem → Prop) : Prop := ∃ wi, PI X tg iter wi ∧ ∀ σ H G, At X.K H G σ ρ μ → ∀ R : It → Hp → Prop,
  (∀ J H1 G1 ds μ1, Ψ ds μ1 → Step μ H G μ1 H1 G1 → Sub G1 H1 → Mm X.K H1 G1 μ1 → WalkD X.K G1 J ds → R J H1) → wi σ H R
theorem wk_c {Ψ : List FQ.D → Mem → Prop} {ds : List FQ.D} (h : Wk X tg iter ρ μ ds) (p : Ψ ds μ) : WkC X tg iter ρ μ Ψ := by
  obtain ⟨wi, pi, hw⟩ := h
  exact ⟨wi, pi, fun σ H G q R k => hw σ H G q R fun J H1 G1 s b m wd => k J H1 G1 ds μ p s b m wd⟩
theorem wkc_lst {Ψ : List FQ.D → Mem → Prop} (h : Ec X iter ρ μ fun d μ1 => ∃ ds, d = .lst ds ∧ Ψ ds μ1) : WkC X tg iter ρ μ Ψ := ⟨_, pi_list pe_w, fun σ H G q R k => h σ H G q _ fun v H1 G1 d μ1 ⟨ds, e1, e2⟩ s b m r => by
  subst e1
  cases r with
  | lst ht rt =>
    refine ⟨_, rfl, ⟨_, SqL.of (b _ _ ht)⟩, k _ H1 G1 ds μ1 e2 s b m ⟨fun i H G' hi u c => ?_, fun H G' u c => ?_, fun i H x H' G' μ' d hd u c m' y => ?_⟩⟩
    · obtain ⟨v, hv, _⟩ := rt.get (i := i) (List.getElem?_eq_getElem hi)
      exact ⟨_, v, SqL.of (c _ _ (u _ _ ht)), hv⟩
    · exact ⟨_, SqL.of (c _ _ (u _ _ ht)), Nat.le_of_eq rt.length⟩
    · obtain ⟨e, y⟩ := y
      subst e
      have hx := y _ (SqL.of (c _ _ (u _ _ ht)))
      obtain ⟨d', hd', r'⟩ := rt.get' hx
      rw [hd] at hd'
      cases hd'
      exact ⟨G', .refl, c, m', r'.mono u⟩⟩
theorem wkc_tup {Ψ : List FQ.D → Mem → Prop} (h : Ec X iter ρ μ fun d μ1 => ∃ ds, d = .tup ds ∧ Ψ ds μ1) : WkC X tg iter ρ μ Ψ := ⟨_, pi_tup pe_w, fun σ H G q R k => h σ H G q _ fun v H1 G1 d μ1 ⟨ds, e1, e2⟩ s b m r => by
  subst e1
  cases r with
  | tup ht rt =>
    refine ⟨_, rfl, ⟨_, Same.sqT b ht⟩, k _ H1 G1 ds μ1 e2 s b m ⟨fun i H G' hi u c => ?_, fun H G' u c => ?_, fun i H x H' G' μ' d hd u c m' y => ?_⟩⟩
    · obtain ⟨v, hv, _⟩ := rt.get (i := i) (List.getElem?_eq_getElem hi)
      exact ⟨_, v, Same.sqT c (Same.sqT u ht), hv⟩
    · exact ⟨_, Same.sqT c (Same.sqT u ht), Nat.le_of_eq rt.length⟩
    · obtain ⟨e, y⟩ := y
      subst e
      have hx := y _ (Same.sqT c (Same.sqT u ht))
      obtain ⟨d', hd', r'⟩ := rt.get' hx
      rw [hd] at hd'
      cases hd'
      exact ⟨G', .refl, c, m', r'.mono u⟩⟩
theorem wkc_range1 {a : Expr} {Ψ : List FQ.D → Mem → Prop} (hm : X.mg "range" = none) (h : Ec X a ρ μ fun d μ1 => ∃ n : Int, d = .int n ∧ -(2 ^ 62) ≤ n ∧ n < 2 ^ 62 ∧ Ψ ((List.range n.toNat).map fun (i : Nat) => FQ.D.int (i : Int)) μ1) (hg : Gl X "range") (hs : starEach [a] X.env = [(false, eval a X.env)] := by rfl) :
    WkC X tg (.Call (.Name "range" p) [a] [] pos) ρ μ Ψ := ⟨_, pi_range1 hg hm (pa_cons pe_w pa_nil hs) hs, fun σ H G q R k => h σ H G q _ fun v H1 G1 d μ1 ⟨n, e1, h0, h1, e2⟩ s b m r => by
  subst e1
  cases r
  have w := walk_range (lo := 0) (n := n.toNat)
  refine ⟨n, rfl, h0, h1, k _ H1 G1 _ μ1 e2 s b m ⟨fun i H G' hi u c => ?_, fun H G' u c => ?_, fun i H x H' G' μ' d hd u c m' y => ?_⟩⟩
  · rw [List.length_map, List.length_range] at hi
    exact w.goes i H hi trivial
  · rw [List.length_map, List.length_range]
    exact w.stops H trivial
  · have hi : i < n.toNat := by
      have q := (List.getElem?_eq_some_iff.mp hd).1
      rw [List.length_map, List.length_range] at q
      exact q
    obtain ⟨e, ex⟩ := w.yields i H x H' hi trivial y
    subst e
    rw [List.getElem?_map, List.getElem?_range hi] at hd
    have hd' := Option.some.inj hd
    subst hd'
    subst ex
    refine ⟨G', .refl, c, m', ?_⟩
    have e0 : (0 : Int) + (i : Int) = (i : Int) := Int.zero_add _
    show Rp X.K G' (V.int (0 + (i : Int))) (FQ.D.int (i : Int))
    rw [e0]
    exact .int _⟩
theorem sx_forC (hw : WkC X tg iter ρ μ fun ds μ1 => ∃ I : Nat → Rho → Mem → Prop, I 0 ρ μ1 ∧
    (∀ i d ρ' μ', ds[i]? = some d → I i ρ' μ' → ∃ ρ'', Gv X tg d ρ' ρ'' ∧ Bx X body ρ'' μ' { nx := I (i + 1), ct := I (i + 1), bk := D.nx, rt := D.rt }) ∧ ∀ ρ' μ', I ds.length ρ' μ' → D.nx ρ' μ')
    (hp : PassesOwn (model X.prog X.w) X.A X.env X.xe) (hc : X.calm = true) (hf : ∀ x, foldedSetIterable iter X.env x = pure x := by intro _; rfl) :
    Sx X (.For tg iter body [] pos) ρ μ D := fun σ H G q E o => by
  obtain ⟨wi, pi, hw⟩ := hw
  refine ws (ps_for hp hc pi pg_w pb_w hf) (hw σ H G q _ fun J H1 G1 ds μ0 ⟨I, h0, hs, hd⟩ s1 b1 m1 wd => ?_)
  have q1 := q.go s1 b1 m1
  have o1 := o.from s1
  refine ⟨fun i m σ' H' => i + m = ds.length ∧ ∃ G' ρ' μ', I i ρ' μ' ∧ Step μ0 H1 G1 μ' H' G' ∧ At X.K H' G' σ' ρ' μ', ⟨ds.length, by omega, G1, ρ, μ0, h0, .refl, q1⟩, ?_⟩
  rintro i m σ' H' ⟨hm, G', ρ', μ', hi, s', q'⟩
  by_cases hl : i < ds.length
  · refine .inr ⟨wd.goes i H' G' hl s'.up q'.sub, fun σ2 H2 => ∃ G2 ρ2 μ2, I (i + 1) ρ2 μ2 ∧ Step μ0 H1 G1 μ2 H2 G2 ∧ At X.K H2 G2 σ2 ρ2 μ2, fun σ2 H2 z => ⟨m - 1, by omega, by omega, z⟩, fun x H2 y => ?_⟩
    have hd := List.getElem?_eq_getElem hl
    obtain ⟨G2, s2, b2, m2, r2⟩ := wd.yields i H' x H2 G' μ' _ hd s'.up q'.sub q'.mem y
    obtain ⟨ρ'', g, bd⟩ := hs i _ ρ' μ' hd hi
    have s3 := s'.trans s2
    refine g σ' H2 G2 x b2 (q'.sto.mono s2.up) r2 _ fun σ3 st3 => ?_
    refine bd σ3 H2 G2 ⟨b2, m2, st3⟩ _ ⟨fun σ4 H4 G4 ρ4 μ4 p s4 a4 => ⟨G4, ρ4, μ4, p, s3.trans s4, a4⟩, fun v H4 G4 d4 μ4 p s4 b4 m4 r4 => o1.rt v H4 G4 d4 μ4 p (s3.trans s4) b4 m4 r4, fun σ4 H4 G4 ρ4 μ4 p s4 a4 => o1.nx σ4 H4 G4 ρ4 μ4 p (s3.trans s4) a4, fun σ4 H4 G4 ρ4 μ4 p s4 a4 => ⟨G4, ρ4, μ4, p, s3.trans s4, a4⟩⟩
  · have e : i = ds.length := by omega
    subst e
    exact .inl ⟨wd.stops H' G' s'.up q'.sub, o1.nx σ' H' G' ρ' μ' (hd _ _ hi) s' q'⟩
end
section
variable {X : Cx} {e elt c tg iter : Expr} {ifs : List Expr} {ρ ρ' : Rho} {μ : Mem} {pos p : Pos} {scope : Scope} {Φ : Aft}
theorem lc_readsC {own : List (Str × Nat)} {wi : TI} {σ : L2.St} {H G : Hp} {Q : VK} {Fi : List D → Mem → Prop}
    (hw : ∀ σ H G, At X.K H G σ ρ μ → ∀ R : It → Hp → Prop, (∀ J H1 G1 ds μ1, (ds.length ≤ sizeLine ∧ ∃ I : Nat → List D → Mem → Prop, I 0 [] μ1 ∧
      (∀ i d acc μ', ds[i]? = some d → I i acc μ' → acc.length ≤ i → ∃ ρ'', InB X scope (fun Y => Gw Y tg (own.map (·.2)) d (wipeR ρ (own.map (·.2))) ρ'') ∧
        InB X scope fun Y => Tsc Y ifs ρ'' μ' fun b μ1 => if b = true then InB X scope (fun Y => Ec Y elt ρ'' μ1 fun r μ2 => I (i + 1) (acc ++ [r]) μ2) else I (i + 1) acc μ1) ∧
      ∀ acc μ', I ds.length acc μ' → Fi acc μ') → Step μ H G μ1 H1 G1 → Sub G1 H1 → Mm X.K H1 G1 μ1 → WalkD X.K G1 J ds → R J H1) → wi σ H R)
    (q : At X.K H G σ ρ μ) (f : ∀ H1 G1 μ1 L xs H' G' acc μ', Fi acc μ' → Step μ H G μ1 H1 G1 → H1 L = none → Step μ1 H1 G1 μ' H' G' → H' L = some (.lst xs) → RpL X.K G' xs acc → μ' L = none → G' L = none → Sub G' H' → Mm X.K H' G' μ' → Q (.ref L) H') :
    tLc wi (fun v σ H Q => ∀ (s : Shared) (H0 : Hp) (C : Addr) (cl : List (Str × Addr)) (fp : List Addr), WG (Blk X scope s H0 C cl fp) tg v σ H Q) (fun σ H Q => ∀ (s : Shared) (H0 : Hp) (C : Addr) (cl : List (Str × Addr)) (fp : List Addr), WTs (Blk X scope s H0 C cl fp) ifs σ H Q)
      (fun σ H Q => ∀ (s : Shared) (H0 : Hp) (C : Addr) (cl : List (Str × Addr)) (fp : List Addr), WE (Blk X scope s H0 C cl fp) elt σ H Q) (own.map (·.2)) σ H Q := by
  refine hw σ H G q _ fun J H1 G1 ds μ0 ⟨hz, I, h0, hs, hd⟩ s1 b1 m1 wd L hL => ?_
  have gL : G1 L = none := b1.free hL
  have mL : μ0 L = none := m1.free hL
  refine ⟨fun i m H' => i + m = ds.length ∧ ∃ G' acc xs μ', I i acc μ' ∧ acc.length ≤ i ∧ Step μ0 H1 G1 μ' H' G' ∧ Sub G' H' ∧ Mm X.K H' G' μ' ∧ H' L = some (.lst xs) ∧ RpL X.K G' xs acc ∧ μ' L = none ∧ G' L = none,
    ⟨ds.length, ?_⟩, ?_⟩
  · have st : Step μ0 H1 G1 μ0 (upd H1 L (.lst [])) G1 := ⟨fun a o e _ => by rw [upd_ne (ne_of_none e hL)]; exact e, fun _ _ e => e, fun _ _ _ e _ => e, fun _ e _ => e⟩
    refine ⟨Nat.zero_add _, G1, [], [], μ0, h0, Nat.le_refl _, st, sub_put b1 gL, ?_, upd_same, .nil, mL, gL⟩
    intro a o e
    obtain ⟨x, y⟩ := m1 a o e
    have n : a ≠ L := fun q => by rw [q, mL] at e; cases e
    exact ⟨x, y.keep (upd_ne n) fun _ _ z => z⟩
  rintro i m H' ⟨hm, G', acc, xs, μ', hi, hl, s', b', m', eL, rL, nL, nG⟩
  have stw : Sto X.K G' (wipe σ (own.map (·.2))) (wipeR ρ (own.map (·.2))) := ((q.sto.mono s1.up).mono s'.up).wipe _
  by_cases hlt : i < ds.length
  · refine .inr ⟨wd.goes i H' G' hlt s'.up b', fun H2 => ∃ G2 acc2 xs2 μ2, I (i + 1) acc2 μ2 ∧ acc2.length ≤ i + 1 ∧ Step μ0 H1 G1 μ2 H2 G2 ∧ Sub G2 H2 ∧ Mm X.K H2 G2 μ2 ∧ H2 L = some (.lst xs2) ∧ RpL X.K G2 xs2 acc2 ∧ μ2 L = none ∧ G2 L = none,
      fun H2 z => ⟨m - 1, by omega, by omega, z⟩, fun x H2 y => ?_⟩
    have hd := List.getElem?_eq_getElem hlt
    obtain ⟨G2, s2, b2, m2, r2⟩ := wd.yields i H' x H2 G' μ' _ hd s'.up b' m' y
    obtain ⟨ρ'', gw, ts⟩ := hs i _ acc μ' hd hi hl
    have e2 : H2 L = some (.lst xs) := s2.same L _ eL nL
    have g2 : G2 L = none := s2.new L _ eL nG nL
    intro sA HA CA clA fpA
    refine gw sA HA CA clA fpA (wipe σ (own.map (·.2))) H2 G2 x b2 (stw.mono s2.up) r2 _ ?_
    intro σ3 st3 w3
    refine ⟨w3.trans (wipe_wipe fun v hv => hv), fun sB HB CB clB fpB => ?_⟩
    refine ts sB HB CB clB fpB σ3 H2 G2 ⟨b2, m2, st3⟩ _ fun b H3 G3 μ3 p3 s3 b3 m3 => ?_
    have e3 : H3 L = some (.lst xs) := s3.same L _ e2 nL
    have g3 : G3 L = none := s3.new L _ e2 g2 nL
    have n3 : μ3 L = none := s3.dom L nL (by rw [e2]; simp)
    have up3 : Same G' G3 := fun a o z => s3.up a o (s2.up a o z)
    cases b with
    | false => exact ⟨G3, acc, xs, μ3, p3, by omega, (s'.trans s2).trans s3, b3, m3, e3, rL.mono up3, n3, g3⟩
    | true =>
      intro sC HC CC clC fpC
      refine p3 sC HC CC clC fpC σ3 H3 G3 ⟨b3, m3, st3.mono s3.up⟩ _ fun v H4 G4 d μ4 p4 s4 b4 m4 r4 => ?_
      have e4 : H4 L = some (.lst xs) := s4.same L _ e3 n3
      have g4 : G4 L = none := s4.new L _ e3 g3 n3
      have n4 : μ4 L = none := s4.dom L n3 (by rw [e3]; simp)
      have s5 := ((s'.trans s2).trans s3).trans s4
      have nl : ∀ a, μ4 a ≠ none → a ≠ L := fun a h e => h (e ▸ n4)
      refine ⟨xs, e4, by rw [rL.length]; omega, G4, acc ++ [d], xs ++ [v], μ4, p4, by rw [List.length_append, List.length_singleton]; omega, ⟨fun a o e n => ?_, s5.up, s5.new, s5.dom⟩, sub_put b4 g4, ?_, upd_same, (rL.mono (fun a o z => s4.up a o (up3 a o z))).append (.one r4), n4, g4⟩
      · by_cases c : a = L
        · subst c
          rw [hL] at e
          cases e
        · rw [upd_ne c]
          exact s5.same a o e n
      · intro a o e
        obtain ⟨x, y⟩ := m4 a o e
        exact ⟨x, y.keep (upd_ne (nl a (by rw [e]; simp))) fun _ _ z => z⟩
  · have e : i = ds.length := by omega
    subst e
    refine .inl ⟨wd.stops H' G' s'.up b', ?_⟩
    exact f H1 G1 μ0 L xs H' G' acc μ' (hd acc μ' hi) s1 hL s' eL rL nL nG b' m'
/-- what a comprehension asks of its walk -/
def LcW (X : Cx) (scope : Scope) (tg elt : Expr) (ifs : List Expr) (own : List (Str × Nat)) (ρ : Rho) (Fi : List D → Mem → Prop) (ds : List D) (μ1 : Mem) : Prop := ds.length ≤ sizeLine ∧ ∃ I : Nat → List D → Mem → Prop, I 0 [] μ1 ∧
      (∀ i d acc μ', ds[i]? = some d → I i acc μ' → acc.length ≤ i → ∃ ρ'', InB X scope (fun Y => Gw Y tg (own.map (·.2)) d (wipeR ρ (own.map (·.2))) ρ'') ∧
        InB X scope fun Y => Tsc Y ifs ρ'' μ' fun b μ1 => if b = true then InB X scope (fun Y => Ec Y elt ρ'' μ1 fun r μ2 => I (i + 1) (acc ++ [r]) μ2) else I (i + 1) acc μ1) ∧
      ∀ acc μ', I ds.length acc μ' → Fi acc μ'
theorem pe_lcW {σ : L2.St} {H : Hp} {Q : VK} {own : List (Str × Nat)} {wi : TI} (pi : PI X tg iter wi) (ok : BlkOk X.N X.env.scope scope own) (hN : X.N.Nodup) (hc : X.calm = true) (hf : ∀ x, foldedSetIterable iter X.env x = pure x)
    (h : tLc wi (fun v σ H Q => ∀ (s : Shared) (H0 : Hp) (C : Addr) (cl : List (Str × Addr)) (fp : List Addr), WG (Blk X scope s H0 C cl fp) tg v σ H Q) (fun σ H Q => ∀ (s : Shared) (H0 : Hp) (C : Addr) (cl : List (Str × Addr)) (fp : List Addr), WTs (Blk X scope s H0 C cl fp) ifs σ H Q)
      (fun σ H Q => ∀ (s : Shared) (H0 : Hp) (C : Addr) (cl : List (Str × Addr)) (fp : List Addr), WE (Blk X scope s H0 C cl fp) elt σ H Q) (own.map (·.2)) σ H Q) : WE X (.ListComp elt [⟨tg, iter, ifs, 0⟩] scope pos) σ H Q :=
  we (pe_lc hc hN pi ok (fun s H C cl fp => ⟨fun pins s2 σ H v u Q I r h => h s _ C cl fp pins s2 u I r⟩) (fun s H C cl fp => ⟨fun pins s2 σ H Q I h => h s _ C cl fp pins s2 I⟩) (fun s H C cl fp => ⟨fun pins s2 σ H Q I h => h s _ C cl fp pins s2 I⟩) hf) h
/-- the new list is ours to change -/
theorem ec_lcO {own : List (Str × Nat)} (hw : WkC X tg iter ρ μ (LcW X scope tg elt ifs own ρ fun acc μ' => ∀ L, μ' L = none → Φ (.raw (.ref L)) (μ'.put L (.lst acc)))) (ok : BlkOk X.N X.env.scope scope own) (hN : X.N.Nodup) (hc : X.calm = true) (hf : ∀ x, foldedSetIterable iter X.env x = pure x := by intro _; rfl) :
    Ec X (.ListComp elt [⟨tg, iter, ifs, 0⟩] scope pos) ρ μ Φ := fun σ H G q Q f => by
  obtain ⟨wi, pi, hw⟩ := hw
  refine pe_lcW pi ok hN hc hf (lc_readsC hw q fun H1 G1 μ1 L xs H' G' acc μ' p s1 hL s' eL rL nL nG b m => ?_)
  refine f (.ref L) H' G' _ _ (p L nL) (s1.trans ⟨s'.same, s'.up, s'.new, fun a n g => ?_⟩) b (fun a o e => ?_) (.raw _)
  · have c : a ≠ L := fun z => g (z ▸ hL)
    rw [Mem.put_ne c]
    exact s'.dom a n g
  · by_cases c : a = L
    · subst c
      rw [Mem.put_same] at e
      cases e
      exact ⟨nG, xs, eL, rL⟩
    · rw [Mem.put_ne c] at e
      exact m a o e
/-- .. or data -/
theorem ec_lcC {own : List (Str × Nat)} (hw : WkC X tg iter ρ μ (LcW X scope tg elt ifs own ρ fun acc μ' => Φ (.lst acc) μ')) (ok : BlkOk X.N X.env.scope scope own) (hN : X.N.Nodup) (hc : X.calm = true) (hf : ∀ x, foldedSetIterable iter X.env x = pure x := by intro _; rfl) :
    Ec X (.ListComp elt [⟨tg, iter, ifs, 0⟩] scope pos) ρ μ Φ := fun σ H G q Q f => by
  obtain ⟨wi, pi, hw⟩ := hw
  refine pe_lcW pi ok hN hc hf (lc_readsC hw q fun H1 G1 μ1 L xs H' G' acc μ' p s1 hL s' eL rL nL nG b' m' => ?_)
  refine f (.ref L) H' (upd G' L (.lst xs)) _ μ' p ?_ (sub_freeze b' eL) (fun a o e => ?_) (.lst upd_same (rL.mono (same_new nG)))
  · refine s1.trans ⟨s'.same, fun a o e => same_new nG a o (s'.up a o e), fun a o e g n => ?_, s'.dom⟩
    have c : a ≠ L := fun q => by rw [q, hL] at e; cases e
    rw [upd_ne c]
    exact s'.new a o e g n
  · obtain ⟨x, y⟩ := m' a o e
    have c : a ≠ L := fun q => by rw [q, nL] at e; cases e
    exact ⟨by rw [upd_ne c]; exact x, y.keep rfl (same_new nG)⟩
end
/-! dict displays with keys that are texts -/
section
variable {X : Cx} {ρ : Rho} {μ : Mem} {pos : Pos} {Φ : Aft}
def Vc (X : Cx) : List Expr → Rho → Mem → (List D → Mem → Prop) → Prop
  | [], _, μ, Ψ => Ψ [] μ
  | e :: es, ρ, μ, Ψ => Ec X e ρ μ fun d μ1 => Vc X es ρ μ1 fun ds μ2 => Ψ (d :: ds) μ2
theorem putD_out {κ α : Type} [DecidableEq κ] {k : κ} {d : α} : ∀ {ks : List κ} {xs : List α}, ks.length = xs.length → k ∉ ks → putD k d ks xs = xs ++ [d]
  | [], [], _, _ => rfl
  | g :: r, x :: xs, h, n => by
    unfold putD
    have ne : ¬ g = k := fun e => n (e ▸ List.mem_cons_self)
    rw [if_neg ne, putD_out (Nat.succ.inj h) fun q => n (List.mem_cons_of_mem _ q)]
    rfl
theorem mergeK_zip : ∀ (k2 : List Key) (ys : List V) (ks : List Key) (xs : List V), k2.length = ys.length → ks.length = xs.length → (ks ++ k2).Nodup → mergeK (ks.zip xs) (k2.zip ys) = (ks ++ k2).zip (xs ++ ys)
  | [], [], ks, xs, _, _, _ => by rw [List.append_nil, List.append_nil]; rfl
  | k :: k2, y :: ys, ks, xs, h1, h2, nd => by
    have nd1 : ks.Nodup := (List.nodup_append.mp nd).1
    have nk : k ∉ ks := fun q => (List.nodup_append.mp nd).2.2 k q k List.mem_cons_self rfl
    have e : mergeK (ks.zip xs) ((k :: k2).zip (y :: ys)) = mergeK (putK (ks.zip xs) k y) (k2.zip ys) := rfl
    rw [e, putK_zip k y ks xs nd1 h2, putN_out nk, putD_out h2 nk, mergeK_zip k2 ys _ _ (Nat.succ.inj h1) (by rw [List.length_append, List.length_append, h2]; rfl) (by rw [List.append_assoc]; exact nd), List.append_assoc, List.append_assoc]
    rfl
theorem vc_run {ps : List Pos} {js : List Nat} : ∀ {ks : List Str} {es : List Expr} {σ : L2.St} {H G : Hp} {μ : Mem} {Ψ : List D → Mem → Prop} {Q : List (V × V) → Hp → Prop} {kes : List Expr}, (∀ (i : Nat) (k : Str), ks[i]? = some k → ∃ j p, kes[i]? = some (Expr.Constant (.str k) j p)) → kes.length = ks.length → es.length = ks.length → Vc X es ρ μ Ψ → At X.K H G σ ρ μ →
    (∀ vs H' G' ds μ', Ψ ds μ' → Step μ H G μ' H' G' → Sub G' H' → Mm X.K H' G' μ' → RpL X.K G' vs ds → ds.length = ks.length → Q ((ks.zip vs).map fun kv => (.str kv.1, kv.2)) H') →
    tPairs ((kes.zip es).map fun p => (WE X p.1, WE X p.2)) σ H Q
  | [], [], σ, H, G, μ, Ψ, Q, [], _, _, _, h, q, f => f [] H G [] μ h .refl q.sub q.mem .nil rfl
  | k :: ks, e :: es, σ, H, G, μ, Ψ, Q, ke :: kes, hk, l1, l2, h, q, f => by
    obtain ⟨j, p, e1⟩ := hk 0 k rfl
    have e1 : ke = Expr.Constant (.str k) j p := Option.some.inj e1
    subst e1
    refine we pe_str ?_
    refine h σ H G q _ fun v H1 G1 d μ1 h1 s1 b1 m1 r1 => ?_
    refine vc_run (ps := ps) (js := js) (fun i k' e => hk (i + 1) k' e) (Nat.succ.inj l1) (Nat.succ.inj l2) h1 (q.go s1 b1 m1) fun vs H2 G2 ds μ2 p2 s2 b2 m2 r2 l => ?_
    exact f (v :: vs) H2 G2 (d :: ds) μ2 p2 (s1.trans s2) b2 m2 (.cons (r1.mono s2.up) r2) (congrArg Nat.succ l)
theorem ec_disp {ks : List Str} {kes : List Expr} {keys : List (Option Expr)} {es : List Expr} (ek : keys = kes.map some) (hk : ∀ (i : Nat) (k : Str), ks[i]? = some k → ∃ j p, kes[i]? = some (Expr.Constant (.str k) j p)) (l1 : kes.length = ks.length) (l2 : es.length = ks.length) (nd : (ks.map (Sum.inr : Str → Key)).Nodup)
    (h0 : ks ≠ []) (h15 : ks.length ≤ 15) (h : Vc X es ρ μ fun ds μ1 => ∀ p, μ1 p = none → Φ (.raw (.ref p)) (μ1.put p (.dK (ks.map Sum.inr) ds))) : Ec X (.Dict keys es pos) ρ μ Φ := fun σ H G q Q f => by
  subst ek
  have pp : ∀ (kes es : List Expr), kes.length = es.length → PPs X pos (kes.map some) es ((kes.zip es).map fun p => (WE X p.1, WE X p.2)) := by
    intro kes
    induction kes with
    | nil => intro es l; cases es with
      | nil => exact pps_nil
      | cons _ _ => cases l
    | cons k ks ih => intro es l; cases es with
      | nil => cases l
      | cons e es => exact pps_cons pe_w pe_w (ih es (Nat.succ.inj l))
  refine we (pe_disp (pp kes es (l1.trans l2.symm)) (by rw [List.all_map, List.all_eq_true]; intro _ _; rfl) (by rw [List.length_map]; exact l1.trans l2.symm) (fun e => h0 ?_) (by rw [List.length_map, l1]; exact h15)) fun p hp => ?_
  · have := congrArg List.length e
    rw [List.length_map, l1] at this
    exact List.length_eq_zero_iff.mp this
  have gp : G p = none := q.sub.free hp
  have mp : μ p = none := q.mem.free hp
  have q1 : At X.K (upd H p (.dK [])) G σ ρ μ := ⟨sub_put q.sub gp, fun a o e => by
    obtain ⟨x, y⟩ := q.mem a o e
    have n : a ≠ p := fun z => by rw [z, mp] at e; cases e
    exact ⟨x, y.keep (upd_ne n) fun _ _ z => z⟩, q.sto⟩
  refine vc_run (ps := []) (js := []) hk l1 l2 h q1 fun vs H2 G2 ds μ2 k s b m r l => ?_
  have np : μ2 p = none := s.dom p mp (by rw [upd_same]; simp)
  have gp2 : G2 p = none := s.new p _ upd_same gp mp
  have lv : ks.length = vs.length := by rw [← l, r.length]
  refine ⟨s.same p _ upd_same mp, (ks.map Sum.inr).zip vs, ?_, by rw [List.length_zip, List.length_map, ← lv, Nat.min_self]; exact h15, ?_⟩
  · rw [List.zip_map_left, List.map_map]
    rfl
  · have em := mergeK_zip (ks.map Sum.inr) vs [] [] (by rw [List.length_map]; exact lv) rfl (by rw [List.nil_append]; exact nd)
    have em : mergeK [] ((ks.map Sum.inr).zip vs) = (ks.map Sum.inr).zip vs := em
    rw [em]
    have st : Step μ H G μ2 H2 G2 := ⟨fun a o e n => s.same a o (by rw [upd_ne (ne_of_none e hp)]; exact e) n, s.up, fun a o e g n => s.new a o (by rw [upd_ne (ne_of_none e hp)]; exact e) g n, fun a n g => s.dom a n (by
      have c : a ≠ p := fun z => g (z ▸ hp)
      rw [upd_ne c]
      exact g)⟩
    refine f (.ref p) _ G2 _ _ (k p np) ?_ (sub_put b gp2) (mm_put m gp2 ⟨vs, upd_same, by rw [List.length_map]; exact lv, r⟩) (.raw _)
    refine ⟨fun a o e n => ?_, st.up, st.new, fun a n g => ?_⟩
    · rw [upd_ne (ne_of_none e hp)]
      exact st.same a o e n
    · have c : a ≠ p := fun z => g (z ▸ hp)
      rw [Mem.put_ne c]
      exact st.dom a n g
end
end FQ

set_option Elab.async false
set_option linter.all false
set_option maxRecDepth 100000
set_option maxHeartbeats 2000000
namespace FQ
open PySem L2 PySem.Spec PyProof.Rows
theorem IxX.mono {X : Cx} {x y : D} {μ : Mem} {Φ Ψ : Aft} (h : IxX X x y μ Φ) (k : ∀ d μ', Φ d μ' → Ψ d μ') : IxX X x y μ Ψ := IxR.imp h fun v u H Q ⟨G, n, rv, ru, f⟩ => ⟨G, n, rv, ru, fun v' H' G' d μ' p => f v' H' G' d μ' (k d μ' p)⟩
theorem CallX.mono {X : Cx} {g : Value} {ds : List D} {μ : Mem} {Φ Ψ : Aft} (h : CallX X g ds μ Φ) (k : ∀ d μ', Φ d μ' → Ψ d μ') : CallX X g ds μ Ψ := CallR.imp h fun v H Q ⟨G, n, rv, f⟩ => ⟨G, n, rv, fun v' H' G' d μ' p => f v' H' G' d μ' (k d μ' p)⟩
theorem sx_to {X : Cx} {st : Stmt} {ρ : Rho} {μ : Mem} {D : AE} (J : Rho → Mem → Prop) (h : Sx X st ρ μ { D with nx := J }) (k : ∀ ρ' μ', J ρ' μ' → D.nx ρ' μ') : Sx X st ρ μ D := fun σ H G q E o =>
  h σ H G q E ⟨fun σ' H' G' ρ' μ' p => o.nx σ' H' G' ρ' μ' (k ρ' μ' p), o.rt, o.bk, o.ct⟩
theorem ev_callG {X : Cx} {e : Expr} {es : List Expr} {ρ : Rho} {μ : Mem} {x : Str} {p pos : Pos} {ps : List Str} {k : Nat} {R : List D → D → Prop} {ds : List D} {r : D} (F : DefG X.prog X.w X.K X.mg X.base x ps k (Pure R)) (hc : Calm X.A) (hr : Room k X.A) (h : Av X (e :: es) ρ μ ds) (hR : R ds r) (hg : Gl X x) (hp : PlainN x)
    (he : starEach (e :: es) X.env = (false, eval e X.env) :: starEach es X.env := by rfl) (hpl : (backTo pos (starEach es X.env)).any (·.1) = false := by rfl) : Ev X (.Call (.Name x p) (e :: es) [] pos) ρ μ r :=
  ec_callG F hc hr (h.to ⟨r, hR, rfl, rfl⟩) hg hp he hpl
theorem u1 {k : Nat} {A : Around} (h : Room k A) : A.units + 1 < cLine := Nat.lt_of_le_of_lt (Nat.add_le_add_left (by decide) _) h.units
theorem opd_neF {X : Cx} {ds : List D} (hu : X.A.units + 64 < cLine) (fx : (D.lst ds).flat = true) (sx : SeqAt.shaped (D.lst ds).py = true) : OpD X (compareOp .NotEq) (.fro ds) (.lst []) (.bl !ds.isEmpty) := by
  have h := opd_neD (X := X) (x := .fro ds) (y := .lst []) hu fx rfl sx shaped_nil
  have e : PyData.eqv (D.fro ds).py (D.lst []).py = ds.isEmpty := eqv_nil
  rw [e] at h
  exact h
/-- data of ints is shaped, however big they are -/
theorem ints_flat : ∀ ns : List Int, (D.lst (ns.map D.int)).flat = true := fun ns => by
  show flatL (ns.map D.int) = true
  rw [flatL_all, List.all_map, List.all_eq_true]
  intro _ _
  rfl
theorem ints_can : ∀ ns : List Int, PyData.canLayAll0 (ns.map PyData.int) = true
  | [] => rfl
  | a :: r => by
    show (true && PyData.canLayAll0 (r.map PyData.int)) = true
    rw [Bool.true_and]
    exact ints_can r
theorem ints_depth : ∀ ns : List Int, PyData.depthAll (ns.map PyData.int) = 0
  | [] => rfl
  | a :: r => by
    show max 0 (PyData.depthAll (r.map PyData.int)) = 0
    rw [ints_depth r]
    rfl
theorem ints_shaped (ns : List Int) : SeqAt.shaped (D.lst (ns.map D.int)).py = true := by
  have e : (D.lst (ns.map D.int)).py = PyData.list (ns.map PyData.int) := by
    show PyData.list (pyL (ns.map D.int)) = _
    rw [pyL_map, List.map_map]
    rfl
  have h2 : PyData.depth (.list (ns.map PyData.int)) ≤ 64 := by
    show PyData.depthAll (ns.map PyData.int) + 1 ≤ 64
    rw [ints_depth]
    decide
  have h1 : PyData.canLay0 (.list (ns.map PyData.int)) = true := ints_can ns
  rw [e]
  unfold SeqAt.shaped
  rw [h1, decide_eq_true h2]
  rfl
end FQ

section
open PySem PySem.W PyProof.Rows
set_option maxRecDepth 100000
set_option maxHeartbeats 0
open_top head33 for PySem.Challenge.rw_fewqueues_k33_whole_texts_of_histories
end
set_option Elab.async false
set_option linter.all false
set_option maxRecDepth 100000
set_option maxHeartbeats 4000000
namespace K33
open PySem L2 PySem.Spec PyProof.Rows FQ
set_option hygiene false
local macro_rules | `(tactic| walk_at "vis") => `(tactic| first | exact Or.inl rfl | exact Or.inr (Or.inr rfl) | exact Or.inr (Or.inl rfl))
local macro_rules | `(tactic| walk_at "loc") => `(tactic| first | exact Or.inl rfl | exact Or.inr rfl)
local macro_rules | `(tactic| walk_at "lk") => `(tactic| first | rfl)
local macro_rules | `(tactic| walk_at "seq") => `(tactic| first | exact Or.inl rfl | exact Or.inr rfl)
local macro_rules | `(tactic| walk_at "sd") => `(tactic| first | assumption | exact Mem.put_same | exact hr.units | exact ⟨by decide, by decide, by decide⟩ | omega | exact ⟨by omega, by omega⟩ | exact List.cons_ne_nil _ _ | exact ints_flat _ | exact ints_shaped _ | exact Or.inr ⟨by omega, by omega⟩ | exact Or.inl ⟨by omega, by omega⟩ | (apply_assumption <;> assumption) | (show _ ≤ 16777216; (try simp only [List.length_map, List.length_append, List.length_cons, List.length_nil]); omega) | decide | rfl)
local macro_rules | `(tactic| walk_at "sz") => `(tactic| first | exact Nat.le_of_ble_eq_true rfl | walk_at "sd")
local macro_rules | `(tactic| walk_at "opAdda") => `(tactic| with_reducible (first | exact opx_of opd_addI))
local macro_rules | `(tactic| walk_at "ix") => `(tactic| first | exact ixx_of (ixd_tup rfl) | exact ixx_of (ixd_lst rfl) | exact ixx_of (ixd_lst (by walk_at "sd")) | exact ixx_of (ixd_tup (by walk_at "sd")) | exact ixx_of (ixd_fro (by walk_at "sd")) | exact ixx_of (ixd_str (by walk_at "sd") (by walk_at "sd")) | exact ixx_own (by walk_at "sd") (by walk_at "sd"))
local macro_rules | `(tactic| walk_at "opAddb") => `(tactic| with_reducible (first | refine opx_of (opd_catL ?_) | refine opx_of (opd_catT ?_) | refine opx_of (opd_addS ?_)))
local macro_rules | `(tactic| walk_at "opAdd") => `(tactic| first | walk_at "opAdda" | (walk_at "opAddb" <;> walk_at "sd") | exact opx_catM (by walk_at "sd") (by walk_at "sd"))
local macro_rules | `(tactic| walk_at "opMultb") => `(tactic| with_reducible (first | refine opx_of (opd_mulI ?_) | refine opx_of (opd_repT ?_ ?_ ?_ ?_) | refine opx_of (opd_repL ?_ ?_ ?_)))
local macro_rules | `(tactic| walk_at "opMult") => `(tactic| first | (walk_at "opMultb" <;> walk_at "sd"))
local macro_rules | `(tactic| walk_at "opModb") => `(tactic| with_reducible (first | refine opx_of (opd_mod ?_)))
local macro_rules | `(tactic| walk_at "opMod") => `(tactic| first | (walk_at "opModb" <;> walk_at "sd"))
local macro_rules | `(tactic| walk_at "opFloorDivb") => `(tactic| with_reducible (first | refine opx_of (opd_fdiv ?_)))
local macro_rules | `(tactic| walk_at "opFloorDiv") => `(tactic| first | (walk_at "opFloorDivb" <;> walk_at "sd"))
local macro_rules | `(tactic| walk_at "opPowb") => `(tactic| with_reducible (first | refine opx_of (opd_pow ?_)))
local macro_rules | `(tactic| walk_at "opPow") => `(tactic| first | (walk_at "opPowb" <;> walk_at "sd"))
local macro_rules | `(tactic| walk_at "opEqa") => `(tactic| with_reducible (first | exact opx_of opd_eqI | exact opx_of opd_eqS))
local macro_rules | `(tactic| walk_at "opEqb") => `(tactic| with_reducible (first | refine opx_of (opd_eqN ?_ ?_ ?_) | refine opx_of (opd_eqD ?_ ?_ ?_ ?_ ?_)))
local macro_rules | `(tactic| walk_at "opEq") => `(tactic| first | walk_at "opEqa" | exact opx_eqN (by walk_at "sd") (by walk_at "sd") (by walk_at "sd") (by walk_at "sd") | (walk_at "opEqb" <;> walk_at "sd"))
local macro_rules | `(tactic| walk_at "opNotEqa") => `(tactic| with_reducible (first | exact opx_of opd_neI | exact opx_of opd_neS))
local macro_rules | `(tactic| walk_at "opNotEqb") => `(tactic| with_reducible (first | refine opx_of (opd_neN ?_ ?_ ?_) | refine opx_of (opd_neD ?_ ?_ ?_ ?_ ?_)))
local macro_rules | `(tactic| walk_at "opNotEq") => `(tactic| first | walk_at "opNotEqa" | exact opx_neN (by walk_at "sd") (by walk_at "sd") (by walk_at "sd") (by walk_at "sd") | (walk_at "opNotEqb" <;> walk_at "sd"))
local macro_rules | `(tactic| walk_at "opIna") => `(tactic| with_reducible (first | exact opx_of opd_inC))
local macro_rules | `(tactic| walk_at "opInb") => `(tactic| with_reducible (first | refine opx_of (opd_inT ?_ ?_) | refine opx_of (opd_inL ?_ ?_)))
local macro_rules | `(tactic| walk_at "opIn") => `(tactic| first | walk_at "opIna" | (walk_at "opInb" <;> walk_at "sd"))
local macro_rules | `(tactic| walk_at "opNotInb") => `(tactic| with_reducible (first | refine opx_of (opd_ninT ?_ ?_) | refine opx_of (opd_ninL ?_ ?_)))
local macro_rules | `(tactic| walk_at "opNotIn") => `(tactic| first | (walk_at "opNotInb" <;> walk_at "sd"))
local macro_rules | `(tactic| walk_at "cd1") => `(tactic| with_reducible (first | exact cdx_of cd_len_lst | exact cdx_of cd_len_tup | exact cdx_of cd_len_fro | exact cdx_of cd_int_int | exact cdx_of cd_str_str | exact cdx_of cd_tuple_lst | exact cdx_of cd_tuple_tup | exact cdx_of cd_list_lst | exact cdx_of cd_list_fro | exact cdx_of cd_list_tup))
local macro_rules | `(tactic| walk_at "cd3") => `(tactic| with_reducible (first | refine cdx_of (cd_str_w ?_) | refine cdx_of (cd_len_str ?_) | refine cdx_of (cd_int_str ?_ ?_)))
local macro_rules | `(tactic| walk_at "cd4") => `(tactic| first | exact cx_len_own (by walk_at "sd") | exact cx_tuple_own (by walk_at "sd"))
local macro_rules | `(tactic| walk_at "cd2") => `(tactic| first | exact cdx_of cd_list_tup)
local macro_rules | `(tactic| walk_at "cd") => `(tactic| first | walk_at "cd1" | (walk_at "cd3" <;> walk_at "sd") | walk_at "cd2" | walk_at "cd4")
local macro_rules | `(tactic| walk_at "sl1") => `(tactic| with_reducible (first | exact sld_lst | exact sld_tup))
local macro_rules | `(tactic| walk_at "sl") => `(tactic| first | walk_at "sl1" | (refine sld_str ?_; walk_at "sd"))
local macro_rules | `(tactic| walk_at "md") => `(tactic| first | exact md_joinM (by walk_at "sd") | exact md_joinL (by walk_at "sd") | exact md_split (by walk_at "sd") (by walk_at "sd"))
local macro_rules | `(tactic| walk_at "n1k") => `(tactic| exact Nat.lt_of_lt_of_le (m := 100) (by decide) (by decide))
local macro_rules | `(tactic| walk_at "mem") => `(tactic| first | assumption | exact Mem.put_same | exact (Mem.put_ne (by first | assumption | exact Ne.symm (by assumption))).trans (by first | assumption | exact Mem.put_same))
local macro_rules | `(tactic| walk_at "repr") => `(tactic| exact Sm.cd_repr (k := 10) (n := 1000000) (by assumption) (by decide) (by decide) hc hr.units ⟨_, by first | exact Or.inl rfl | exact Or.inr rfl⟩)
local macro_rules | `(tactic| walk_at "rg0") => `(tactic| first | assumption | omega | (split <;> omega))
local macro_rules | `(tactic| walk_at "rg1") => `(tactic| first | assumption | omega | (split <;> omega))
def top (i : Nat) : Stmt := PySem.Challenge.pw_fewqueues_k33_whole_texts_of_histories.main.body.getD i (.Pass ⟨0, 0, 0, 0⟩)
/-- the built-ins are themselves -/
structure Blt (mg : Str → Option Value) : Prop where
  isinstance : mg "isinstance" = none
  len : mg "len" = none
  all : mg "all" = none
  min : mg "min" = none
  max : mg "max" = none
  int : mg "int" = none
  bool : mg "bool" = none
  str : mg "str" = none
  tuple : mg "tuple" = none
  list : mg "list" = none
  range : mg "range" = none
  enumerate : mg "enumerate" = none
  repr : mg "repr" = none
structure Glo (K : PySem.W.Frag) (mg : Str → Option Value) : Prop where
  MOST_TICK : GInt mg "MOST_TICK" 1000000000
  MOST_THINGS : GInt mg "MOST_THINGS" 12
  MOST_EMPTIES : GInt mg "MOST_EMPTIES" 8
  MOST_FIGURES : GInt mg "MOST_FIGURES" 31
  THING : GStr mg "THING" "thing"
  EMPTY_terms : GStr mg "EMPTY_terms" "empty"
  NEWLINE : GStr mg "NEWLINE" "\n"
  BLANK : GStr mg "BLANK" " "
  MINUS : GStr mg "MINUS" "-"
  NAUGHT : GStr mg "NAUGHT" "0"
  FIGURES : GStr mg "FIGURES" "0123456789"
  TAKEN : GStr mg "TAKEN" "taken"
  NEVER : GStr mg "NEVER" "never"
  NOTHING : GStr mg "NOTHING" "nothing"
section
variable {P : Program} {w : World} {K : PySem.W.Frag} {mg : Str → Option Value} {base : Heap}
abbrev s_is_integer : Stmt := top 14
abbrev N_is_integer : List Str := ["thing"]
theorem sc_is_integer : FnScope N_is_integer ["thing"] (defScope s_is_integer) := ⟨rfl, rfl, rfl, by decide +kernel, rfl, by decide +kernel, by decide +kernel⟩
theorem p_thing : PlainN "thing" := by decide +kernel
theorem p_isinstance : PlainN "isinstance" := by decide +kernel
theorem p_int : PlainN "int" := by decide +kernel
theorem p_bool : PlainN "bool" := by decide +kernel
theorem n_is_integer_thing : NmK s_is_integer "thing" .local := by decide +kernel
theorem n_is_integer_isinstance : NmK s_is_integer "isinstance" .globalImplicit := by decide +kernel
theorem n_is_integer_int : NmK s_is_integer "int" .globalImplicit := by decide +kernel
theorem n_is_integer_bool : NmK s_is_integer "bool" .globalImplicit := by decide +kernel
abbrev T_is_integer : Ct := Pure fun ds r => ∃ i, ds = [.int i] ∧ r = .bl true
theorem ok_is_integer {f : Addr} {fd : FuncData} (F : Fun K "is_integer" "is_integer" s_is_integer f fd) (B : Blt mg) (L : Glo K mg) : FnOk P w K mg base CX0 1 f fd ["thing"] (Pr K T_is_integer) := by
  refine fun_ok F sc_is_integer (fun ds μ Φ h => ?_) fun cdv A outer s H E hr ds μ Φ h => ?_
  · obtain ⟨r, ⟨i, rfl, _⟩, _⟩ := h
    rfl
  · obtain ⟨r, ⟨i, rfl, rfl⟩, h⟩ := h
    refine bx_one (sx_ret (Ev.to (Ev.is (ev_and (ev_callBX B.isinstance bb_isinstance (av_cons (ev_var 0 rfl rfl (Or.inl n_is_integer_thing) p_thing) (av_cons (ev_ty B.int bb_int n_is_integer_int p_int) av_nil)) (cdx_of isi_int) n_is_integer_isinstance p_isinstance) (fun _ => (ev_one (ev_not (ev_callBX B.isinstance bb_isinstance (av_cons (ev_var 0 rfl rfl (Or.inl n_is_integer_thing) p_thing) (av_cons (ev_ty B.bool bb_bool n_is_integer_bool p_bool) av_nil)) (cdx_of isi_bool) n_is_integer_isinstance p_isinstance))))) ?_) h))
    rfl
abbrev s_is_between : Stmt := top 15
abbrev N_is_between : List Str := ["thing", "least", "most"]
theorem sc_is_between : FnScope N_is_between ["thing", "least", "most"] (defScope s_is_between) := ⟨rfl, rfl, rfl, by decide +kernel, rfl, by decide +kernel, by decide +kernel⟩
theorem p_least : PlainN "least" := by decide +kernel
theorem p_most : PlainN "most" := by decide +kernel
theorem p_is_integer : PlainN "is_integer" := by decide +kernel
theorem n_is_between_thing : NmK s_is_between "thing" .local := by decide +kernel
theorem n_is_between_least : NmK s_is_between "least" .local := by decide +kernel
theorem n_is_between_most : NmK s_is_between "most" .local := by decide +kernel
theorem n_is_between_is_integer : NmK s_is_between "is_integer" .globalImplicit := by decide +kernel
abbrev T_is_between : Ct := Pure fun ds r => ∃ i a b, ds = [.int i, .int a, .int b] ∧ r = .bl (decide (a ≤ i) && decide (i ≤ b))
theorem ok_is_between {f : Addr} {fd : FuncData} (F : Fun K "is_between" "is_between" s_is_between f fd) (B : Blt mg) (L : Glo K mg) (D_is_integer : DefAt P w K mg base "is_integer" ["thing"] 1 T_is_integer) : FnOk P w K mg base CX0 2 f fd ["thing", "least", "most"] (Pr K T_is_between) := by
  refine fun_ok F sc_is_between (fun ds μ Φ h => ?_) fun cdv A outer s H E hr ds μ Φ h => ?_
  · obtain ⟨r, ⟨i, a, b, rfl, _⟩, _⟩ := h
    rfl
  · obtain ⟨r, ⟨i, a, b, rfl, rfl⟩, h⟩ := h
    refine bx_one (sx_ret (Ev.to (Ev.is (ev_and (ev_call D_is_integer (hr.mono (by decide)) (av_cons (ev_var 0 rfl rfl (Or.inl n_is_between_thing) p_thing) av_nil) ⟨_, rfl, rfl⟩ n_is_between_is_integer p_is_integer) (fun _ => (ev_one (ev_chain (ev_var 1 rfl rfl (Or.inl n_is_between_least) p_least) (ev_var 0 rfl rfl (Or.inl n_is_between_thing) p_thing) (ev_var 2 rfl rfl (Or.inl n_is_between_most) p_most) opd_le opd_le)))) ?_) h))
    rfl

abbrev eC (c : Int × Int) : D := .tup [.int c.1, .int c.2]
def gC (c : Int × Int) : Prop := -1000000000 ≤ c.1 ∧ c.1 ≤ c.2 ∧ c.2 ≤ 1000000000
abbrev Th := (Int × Int) × Option (Int × Int)
abbrev eO : Option (Int × Int) → D
  | none => .non
  | some c => eC c
abbrev eT (t : Th) : D := .tup [eC t.1, eO t.2]
def gT (t : Th) : Prop := gC t.1 ∧ ∀ c, t.2 = some c → gC c
abbrev Hy := List Th × List (Int × Int)
abbrev eH (h : Hy) : D := .tup [.tup (h.1.map eT), .tup (h.2.map eC)]
structure gH (h : Hy) : Prop where
  l1 : h.1.length ≤ 12
  l2 : h.2.length ≤ 8
  ts : ∀ t ∈ h.1, gT t
  cs : ∀ c ∈ h.2, gC c
abbrev s_is_call : Stmt := top 16
abbrev N_is_call : List Str := ["thing", "tick"]
theorem sc_is_call : FnScope N_is_call ["thing"] (defScope s_is_call) := ⟨rfl, rfl, rfl, by decide +kernel, rfl, by decide +kernel, by decide +kernel⟩
theorem p_tick : PlainN "tick" := by decide +kernel
theorem p_tuple : PlainN "tuple" := by decide +kernel
theorem p_len : PlainN "len" := by decide +kernel
theorem p_all : PlainN "all" := by decide +kernel
theorem p_MOST_TICK : PlainN "MOST_TICK" := by decide +kernel
theorem p_is_between : PlainN "is_between" := by decide +kernel
theorem n_is_call_thing : NmK s_is_call "thing" .local := by decide +kernel
theorem n_is_call_isinstance : NmK s_is_call "isinstance" .globalImplicit := by decide +kernel
theorem n_is_call_tuple : NmK s_is_call "tuple" .globalImplicit := by decide +kernel
theorem n_is_call_len : NmK s_is_call "len" .globalImplicit := by decide +kernel
theorem n_is_call_all : NmK s_is_call "all" .globalImplicit := by decide +kernel
abbrev T_is_call : Ct := Pure fun ds r => ∃ c, ds = [eC c] ∧ gC c ∧ r = .bl true
theorem ok_is_call {f : Addr} {fd : FuncData} (F : Fun K "is_call" "is_call" s_is_call f fd) (B : Blt mg) (L : Glo K mg) (D_is_between : DefAt P w K mg base "is_between" ["thing", "least", "most"] 2 T_is_between) : FnOk P w K mg base CX0 3 f fd ["thing"] (Pr K T_is_call) := by
  refine fun_ok F sc_is_call (fun ds μ Φ h => ?_) fun cdv A outer s H E hr ds μ Φ h => ?_
  · obtain ⟨r, ⟨c, rfl, _⟩, _⟩ := h
    rfl
  · obtain ⟨r, ⟨c, rfl, g, rfl⟩, h⟩ := h
    refine bx_cons (sx_ifF (tv_w (wv_or (tv_not (tv_val (ev_callBX B.isinstance bb_isinstance (av_cons (ev_var 0 rfl rfl (Or.inl n_is_call_thing) p_thing) (av_cons (ev_ty B.tuple bb_tuple n_is_call_tuple p_tuple) av_nil)) (cdx_of isi_tup) n_is_call_isinstance p_isinstance) (fun _ => rfl))) (fun _ => (wv_or1 (tv_cmp (ev_callBX B.len bb_len (av_cons (ev_var 0 rfl rfl (Or.inl n_is_call_thing) p_thing) av_nil) (by walk_at "cd") n_is_call_len p_len) ev_int (by walk_at "opNotEq") (nomark _)))))) (by rfl) (bx_nil ?_))
    refine bx_one (sx_ret (Ev.to (Ev.is (ev_and (ev_callBX B.all bb_all (av_cons (ev_lcM (own := [("tick", 1)]) [c.1, c.2] D.int _ (wk_tup (ev_var 0 rfl rfl (Or.inl n_is_call_thing) p_thing)) (by walk_at "sz") (fun x hx => ⟨_, fun s H C cl fp => (gw_name 1 rfl sc_is_call.nd (by walk_at "loc") (by decide) (Or.inr (by walk_at "lk"))), fun s H C cl fp => (ev_call D_is_between (hr.mono (by decide)) (av_cons (ev_var 1 rfl rfl (by walk_at "vis") p_tick) (av_cons (ev_binX ev_int (ev_gint L.MOST_TICK rfl p_MOST_TICK) (opx_of opd_subI)) (av_cons (ev_gint L.MOST_TICK rfl p_MOST_TICK) av_nil))) ⟨_, _, _, rfl, rfl⟩ rfl p_is_between)⟩) (show BlkOk N_is_call (defScope s_is_call) _ _ from ⟨rfl, by decide +kernel, by decide +kernel, by decide +kernel, by decide +kernel⟩) sc_is_call.nd rfl) av_nil) (cdx_of (cd_allM rfl)) n_is_call_all p_all) (fun _ => (ev_one (ev_cmpX (ev_ixX (ev_var 0 rfl rfl (Or.inl n_is_call_thing) p_thing) ev_int (by walk_at "ix") (fun _ _ => rfl)) (ev_ixX (ev_var 0 rfl rfl (Or.inl n_is_call_thing) p_thing) ev_int (by walk_at "ix") (fun _ _ => rfl)) (opx_of opd_le) (nomark _))))) ?_) h))
    obtain ⟨g1, g2, g3⟩ := g
    simp
    omega
abbrev s_is_thing : Stmt := top 17
abbrev N_is_thing : List Str := ["value"]
theorem sc_is_thing : FnScope N_is_thing ["value"] (defScope s_is_thing) := ⟨rfl, rfl, rfl, by decide +kernel, rfl, by decide +kernel, by decide +kernel⟩
theorem p_value : PlainN "value" := by decide +kernel
theorem p_is_call : PlainN "is_call" := by decide +kernel
theorem n_is_thing_value : NmK s_is_thing "value" .local := by decide +kernel
theorem n_is_thing_isinstance : NmK s_is_thing "isinstance" .globalImplicit := by decide +kernel
theorem n_is_thing_tuple : NmK s_is_thing "tuple" .globalImplicit := by decide +kernel
theorem n_is_thing_len : NmK s_is_thing "len" .globalImplicit := by decide +kernel
theorem n_is_thing_is_call : NmK s_is_thing "is_call" .globalImplicit := by decide +kernel
abbrev T_is_thing : Ct := Pure fun ds r => ∃ t, ds = [eT t] ∧ gT t ∧ r = .bl true
theorem ok_is_thing {f : Addr} {fd : FuncData} (F : Fun K "is_thing" "is_thing" s_is_thing f fd) (B : Blt mg) (L : Glo K mg) (D_is_call : DefAt P w K mg base "is_call" ["thing"] 3 T_is_call) : FnOk P w K mg base CX0 4 f fd ["value"] (Pr K T_is_thing) := by
  refine fun_ok F sc_is_thing (fun ds μ Φ h => ?_) fun cdv A outer s H E hr ds μ Φ h => ?_
  · obtain ⟨r, ⟨c, rfl, _⟩, _⟩ := h
    rfl
  · obtain ⟨r, ⟨t, rfl, ⟨g1, g2⟩, rfl⟩, h⟩ := h
    refine bx_cons (sx_ifF (tv_w (wv_or (tv_not (tv_val (ev_callBX B.isinstance bb_isinstance (av_cons (ev_var 0 rfl rfl (Or.inl n_is_thing_value) p_value) (av_cons (ev_ty B.tuple bb_tuple n_is_thing_tuple p_tuple) av_nil)) (cdx_of isi_tup) n_is_thing_isinstance p_isinstance) (fun _ => rfl))) (fun _ => (wv_or (tv_cmp (ev_callBX B.len bb_len (av_cons (ev_var 0 rfl rfl (Or.inl n_is_thing_value) p_value) av_nil) (by walk_at "cd") n_is_thing_len p_len) ev_int (by walk_at "opNotEq") (nomark _)) (fun _ => (wv_or1 (tv_not (tv_val (ev_call D_is_call (hr.mono (by decide)) (av_cons (ev_ixX (ev_var 0 rfl rfl (Or.inl n_is_thing_value) p_value) ev_int (by walk_at "ix") (fun _ _ => rfl)) av_nil) ⟨_, rfl, by assumption, rfl⟩ n_is_thing_is_call p_is_call) (fun _ => rfl))))))))) (by rfl) (bx_nil ?_))
    obtain ⟨c, o⟩ := t
    cases o with
    | none =>
      refine bx_one (sx_ret ?_)
      refine ec_or (Ev.to (ev_cmpX (ev_ixX (ev_var 0 rfl rfl (Or.inl n_is_thing_value) p_value) ev_int (by walk_at "ix") (fun _ _ => rfl)) ev_non (opx_of opd_isN) (nomark _)) ⟨_, rfl, ?_⟩)
      exact h
    | some d =>
      have gd := g2 d rfl
      refine bx_one (sx_ret (Ev.to (Ev.is (ev_or (ev_cmpX (ev_ixX (ev_var 0 rfl rfl (Or.inl n_is_thing_value) p_value) ev_int (by walk_at "ix") (fun _ _ => rfl)) ev_non (opx_of opd_isN) (nomark _)) (fun _ => (ev_one (ev_call D_is_call (hr.mono (by decide)) (av_cons (ev_ixX (ev_var 0 rfl rfl (Or.inl n_is_thing_value) p_value) ev_int (by walk_at "ix") (fun _ _ => rfl)) av_nil) ⟨_, rfl, by assumption, rfl⟩ n_is_thing_is_call p_is_call)))) ?_) h))
      rfl

abbrev s_need_history : Stmt := top 18
abbrev N_need_history : List Str := ["thing", "things", "empties", "number", "one"]
theorem sc_need_history : FnScope N_need_history ["thing"] (defScope s_need_history) := ⟨rfl, rfl, rfl, by decide +kernel, rfl, by decide +kernel, by decide +kernel⟩
theorem p_things : PlainN "things" := by decide +kernel
theorem p_empties : PlainN "empties" := by decide +kernel
theorem p_number : PlainN "number" := by decide +kernel
theorem p_one : PlainN "one" := by decide +kernel
theorem p_BadHistory : PlainN "BadHistory" := by decide +kernel
theorem p_FORM : PlainN "FORM" := by decide +kernel
theorem p_MOST_THINGS : PlainN "MOST_THINGS" := by decide +kernel
theorem p_THINGS : PlainN "THINGS" := by decide +kernel
theorem p_enumerate : PlainN "enumerate" := by decide +kernel
theorem p_is_thing : PlainN "is_thing" := by decide +kernel
theorem p_THING : PlainN "THING" := by decide +kernel
theorem p_MOST_EMPTIES : PlainN "MOST_EMPTIES" := by decide +kernel
theorem p_EMPTIES : PlainN "EMPTIES" := by decide +kernel
theorem p_EMPTY_histories : PlainN "EMPTY_histories" := by decide +kernel
theorem n_need_history_thing : NmK s_need_history "thing" .local := by decide +kernel
theorem n_need_history_things : NmK s_need_history "things" .local := by decide +kernel
theorem n_need_history_empties : NmK s_need_history "empties" .local := by decide +kernel
theorem n_need_history_number : NmK s_need_history "number" .local := by decide +kernel
theorem n_need_history_one : NmK s_need_history "one" .local := by decide +kernel
theorem n_need_history_isinstance : NmK s_need_history "isinstance" .globalImplicit := by decide +kernel
theorem n_need_history_tuple : NmK s_need_history "tuple" .globalImplicit := by decide +kernel
theorem n_need_history_len : NmK s_need_history "len" .globalImplicit := by decide +kernel
theorem n_need_history_BadHistory : NmK s_need_history "BadHistory" .globalImplicit := by decide +kernel
theorem n_need_history_FORM : NmK s_need_history "FORM" .globalImplicit := by decide +kernel
theorem n_need_history_MOST_THINGS : NmK s_need_history "MOST_THINGS" .globalImplicit := by decide +kernel
theorem n_need_history_THINGS : NmK s_need_history "THINGS" .globalImplicit := by decide +kernel
theorem n_need_history_enumerate : NmK s_need_history "enumerate" .globalImplicit := by decide +kernel
theorem n_need_history_is_thing : NmK s_need_history "is_thing" .globalImplicit := by decide +kernel
theorem n_need_history_THING : NmK s_need_history "THING" .globalImplicit := by decide +kernel
theorem n_need_history_MOST_EMPTIES : NmK s_need_history "MOST_EMPTIES" .globalImplicit := by decide +kernel
theorem n_need_history_EMPTIES : NmK s_need_history "EMPTIES" .globalImplicit := by decide +kernel
theorem n_need_history_is_call : NmK s_need_history "is_call" .globalImplicit := by decide +kernel
theorem n_need_history_EMPTY_histories : NmK s_need_history "EMPTY_histories" .globalImplicit := by decide +kernel
abbrev T_need_history : Ct := Pure fun ds r => ∃ h, ds = [eH h] ∧ gH h ∧ r = eH h
theorem ok_need_history {f : Addr} {fd : FuncData} (F : Fun K "need_history" "need_history" s_need_history f fd) (B : Blt mg) (L : Glo K mg) (D_is_thing : DefAt P w K mg base "is_thing" ["value"] 4 T_is_thing) (D_is_call : DefAt P w K mg base "is_call" ["thing"] 3 T_is_call) : FnOk P w K mg base CX0 5 f fd ["thing"] (Pr K T_need_history) := by
  refine fun_ok F sc_need_history (fun ds μ Φ h => ?_) fun cdv A outer s H E hr ds μ Φ h => ?_
  · obtain ⟨r, ⟨c, rfl, _⟩, _⟩ := h
    rfl
  · obtain ⟨r, ⟨t, rfl, g, rfl⟩, h⟩ := h
    refine bx_cons (sx_ifF (tv_w (wv_or (tv_not (tv_val (ev_callBX B.isinstance bb_isinstance (av_cons (ev_var 0 rfl rfl (Or.inl n_need_history_thing) p_thing) (av_cons (ev_ty B.tuple bb_tuple n_need_history_tuple p_tuple) av_nil)) (cdx_of isi_tup) n_need_history_isinstance p_isinstance) (fun _ => rfl))) (fun _ => (wv_or1 (tv_cmp (ev_callBX B.len bb_len (av_cons (ev_var 0 rfl rfl (Or.inl n_need_history_thing) p_thing) av_nil) (by walk_at "cd") n_need_history_len p_len) ev_int (by walk_at "opNotEq") (nomark _)))))) (by rfl) (bx_nil ?_))
    refine bx_cons (sx_asg (Ev.to (ev_var 0 rfl rfl (Or.inl n_need_history_thing) p_thing) ⟨_, (gv_tup (gvl_cons (gv_name 1 rfl sc_need_history.nd (Or.inl n_need_history_things) (Or.inr n_need_history_things)) (gvl_cons (gv_name 2 rfl sc_need_history.nd (Or.inl n_need_history_empties) (Or.inr n_need_history_empties)) gvl_nil)) rfl rfl), ?_⟩))
    refine bx_cons (sx_ifF (tv_w (wv_or (tv_not (tv_val (ev_callBX B.isinstance bb_isinstance (av_cons (ev_var 1 rfl rfl (Or.inl n_need_history_things) p_things) (av_cons (ev_ty B.tuple bb_tuple n_need_history_tuple p_tuple) av_nil)) (cdx_of isi_tup) n_need_history_isinstance p_isinstance) (fun _ => rfl))) (fun _ => (wv_or1 (tv_cmp (ev_callBX B.len bb_len (av_cons (ev_var 1 rfl rfl (Or.inl n_need_history_things) p_things) av_nil) (by walk_at "cd") n_need_history_len p_len) (ev_gint L.MOST_THINGS n_need_history_MOST_THINGS p_MOST_THINGS) (opx_of opd_gt) (nomark _)))))) ?_ (bx_nil ?_))
    · have := g.l1
      simp
      omega
    refine bx_cons (sx_for (wk_enumT B.enumerate (ev_var 1 rfl rfl (Or.inl n_need_history_things) p_things) n_need_history_enumerate) (fun _ ρ' μ' => ∃ a b, ρ' = [some (eH t), some (.tup (t.1.map eT)), some (.tup (t.2.map eC)), a, b] ∧ μ = μ') ⟨_, _, rfl, rfl⟩ (fun i d ρ' μ' hd hI => ?_) (fun ρ' μ' hI => ?_) PassesOwn.never rfl)
    · obtain ⟨a, b, rfl, rfl⟩ := hI
      obtain ⟨x, hx, rfl⟩ := enumD_get hd
      have gx := g.ts x (List.mem_of_getElem? hx)
      refine ⟨_, (gv_tup (gvl_cons (gv_name 3 rfl sc_need_history.nd (Or.inl n_need_history_number) (Or.inr n_need_history_number)) (gvl_cons (gv_name 4 rfl sc_need_history.nd (Or.inl n_need_history_one) (Or.inr n_need_history_one)) gvl_nil)) rfl rfl), ?_⟩
      exact bx_one (sx_ifF (tv_not (tv_val (ev_call D_is_thing (hr.mono (by decide)) (av_cons (ev_var 4 rfl rfl (Or.inl n_need_history_one) p_one) av_nil) ⟨_, rfl, by assumption, rfl⟩ n_need_history_is_thing p_is_thing) (fun _ => rfl))) (by rfl) (bx_nil ⟨_, _, rfl, rfl⟩))
    obtain ⟨a, b, rfl, rfl⟩ := hI
    refine bx_cons (sx_ifF (tv_w (wv_or (tv_not (tv_val (ev_callBX B.isinstance bb_isinstance (av_cons (ev_var 2 rfl rfl (Or.inl n_need_history_empties) p_empties) (av_cons (ev_ty B.tuple bb_tuple n_need_history_tuple p_tuple) av_nil)) (cdx_of isi_tup) n_need_history_isinstance p_isinstance) (fun _ => rfl))) (fun _ => (wv_or1 (tv_cmp (ev_callBX B.len bb_len (av_cons (ev_var 2 rfl rfl (Or.inl n_need_history_empties) p_empties) av_nil) (by walk_at "cd") n_need_history_len p_len) (ev_gint L.MOST_EMPTIES n_need_history_MOST_EMPTIES p_MOST_EMPTIES) (opx_of opd_gt) (nomark _)))))) ?_ (bx_nil ?_))
    · have := g.l2
      simp
      omega
    refine bx_cons (sx_for (wk_enumT B.enumerate (ev_var 2 rfl rfl (Or.inl n_need_history_empties) p_empties) n_need_history_enumerate) (fun _ ρ' μ' => ∃ a b, ρ' = [some (eH t), some (.tup (t.1.map eT)), some (.tup (t.2.map eC)), a, b] ∧ μ = μ') ⟨_, _, rfl, rfl⟩ (fun i d ρ' μ' hd hI => ?_) (fun ρ' μ' hI => ?_) PassesOwn.never rfl)
    · obtain ⟨a, b, rfl, rfl⟩ := hI
      obtain ⟨x, hx, rfl⟩ := enumD_get hd
      have gx := g.cs x (List.mem_of_getElem? hx)
      refine ⟨_, (gv_tup (gvl_cons (gv_name 3 rfl sc_need_history.nd (Or.inl n_need_history_number) (Or.inr n_need_history_number)) (gvl_cons (gv_name 4 rfl sc_need_history.nd (Or.inl n_need_history_one) (Or.inr n_need_history_one)) gvl_nil)) rfl rfl), ?_⟩
      exact bx_one (sx_ifF (tv_not (tv_val (ev_call D_is_call (hr.mono (by decide)) (av_cons (ev_var 4 rfl rfl (Or.inl n_need_history_one) p_one) av_nil) ⟨_, rfl, by assumption, rfl⟩ n_need_history_is_call p_is_call) (fun _ => rfl))) (by rfl) (bx_nil ⟨_, _, rfl, rfl⟩))
    obtain ⟨a, b, rfl, rfl⟩ := hI
    exact bx_one (sx_ret (Ev.to (ev_var 0 rfl rfl (Or.inl n_need_history_thing) p_thing) h))
/-- words in a row -/
def rowT (ws : List D) : Str := Txt.join " " (ws.map D.wt)
abbrev s_line_of : Stmt := top 39
abbrev N_line_of : List Str := ["things", "thing"]
theorem sc_line_of : FnScope N_line_of ["things"] (defScope s_line_of) := ⟨rfl, rfl, rfl, by decide +kernel, rfl, by decide +kernel, by decide +kernel⟩
theorem p_BLANK : PlainN "BLANK" := by decide +kernel
theorem p_str : PlainN "str" := by decide +kernel
theorem n_line_of_things : NmK s_line_of "things" .local := by decide +kernel
theorem n_line_of_BLANK : NmK s_line_of "BLANK" .globalImplicit := by decide +kernel
abbrev T_line_of : Ct := Pure fun ds r => ∃ ws : List D, ds = [.lst ws] ∧ (∀ d ∈ ws, d.wok = true) ∧ ws.length ≤ 100 ∧ (∀ d ∈ ws, d.wt.length ≤ 100) ∧ r = .str (rowT ws)
theorem sum_le {α : Type} {f : α → Nat} {n : Nat} : ∀ {xs : List α}, (∀ x ∈ xs, f x ≤ n) → (xs.map f).sum ≤ xs.length * n
  | [], _ => by simp
  | x :: xs, h => by
    have h1 := h x List.mem_cons_self
    have h2 := sum_le (xs := xs) fun y hy => h y (List.mem_cons_of_mem _ hy)
    simp only [List.map_cons, List.sum_cons, List.length_cons, Nat.succ_mul]
    omega
theorem ok_line_of {f : Addr} {fd : FuncData} (F : Fun K "line_of" "line_of" s_line_of f fd) (B : Blt mg) (L : Glo K mg) : FnOk P w K mg base CX0 1 f fd ["things"] (Pr K T_line_of) := by
  refine fun_ok F sc_line_of (fun ds μ Φ h => ?_) fun cdv A outer s H E hr ds μ Φ h => ?_
  · obtain ⟨r, ⟨c, rfl, _⟩, _⟩ := h
    rfl
  · obtain ⟨r, ⟨ws, rfl, ok, l1, l2, rfl⟩, h⟩ := h
    have sz : ws.length ≤ sizeLine := Nat.le_trans l1 (by decide)
    have sw : ((ws.map D.wt).map (·.length)).sum + ws.length * ((" " : Str)).length ≤ 16777216 := by
      rw [List.map_map]
      have := sum_le (f := (fun s : Str => s.length) ∘ D.wt) (n := 100) (xs := ws) fun d hd => l2 d hd
      have e : ((" " : Str)).length = 1 := by decide
      rw [e]
      have := Nat.mul_le_mul_right 100 l1
      omega
    refine bx_one (sx_ret (Ev.to (ev_bm PySem.F.plainAttrs_str PySem.F.slot_str_join PySem.F.type_str_join (ev_gstr L.BLANK n_line_of_BLANK p_BLANK) tyd_str (av_cons (ev_lc (own := [("thing", 1)]) _ (wk_lst (ev_var 0 rfl rfl (Or.inl n_line_of_things) p_things)) (by walk_at "sz") (fun x hx => ⟨_, fun s H C cl fp => (gw_name 1 rfl sc_line_of.nd (by walk_at "loc") (by decide) (Or.inr (by walk_at "lk"))), fun s H C cl fp => (ev_callTyX B.str bb_str (av_cons (ev_var 1 rfl rfl (by walk_at "vis") p_thing) av_nil) (by walk_at "cd") rfl p_str)⟩) (show BlkOk N_line_of (defScope s_line_of) _ _ from ⟨rfl, by decide +kernel, by decide +kernel, by decide +kernel, by decide +kernel⟩) sc_line_of.nd rfl) av_nil) (by walk_at "md")) h))
end
section
variable {P : Program} {w : World} {K : PySem.W.Frag} {mg : Str → Option Value} {base : Heap}
/-- the words of a thing, of a call -/
abbrev wT (t : Th) : List D := match t.2 with
  | none => [.str "thing", .int t.1.1, .int t.1.2, .str "never"]
  | some c => [.str "thing", .int t.1.1, .int t.1.2, .str "taken", .int c.1, .int c.2]
abbrev wC (c : Int × Int) : List D := [.str "empty", .int c.1, .int c.2]
theorem nw {i : Int} (h0 : -1000000000 ≤ i) (h1 : i ≤ 1000000000) : (D.int i).wok = true ∧ (D.int i).wt.length ≤ 100 := by
  have a : i.natAbs < 10 ^ 10 := by omega
  refine ⟨?_, Nat.le_trans (len_numT (k := 10) (by decide) a) (by decide)⟩
  show decide (i.natAbs.log2 < 1920) = true
  exact decide_eq_true (log_small (Nat.lt_trans a (by decide +kernel)))
theorem cw1 {c : Int × Int} (g : gC c) : (D.int c.1).wok = true ∧ (D.int c.1).wt.length ≤ 100 := nw g.1 (by have := g.2; omega)
theorem cw2 {c : Int × Int} (g : gC c) : (D.int c.2).wok = true ∧ (D.int c.2).wt.length ≤ 100 := nw (by have := g.1; have := g.2; omega) g.2.2
theorem sw (s : Str) (h : s.length ≤ 100) : (D.str s).wok = true ∧ (D.str s).wt.length ≤ 100 := ⟨rfl, h⟩
theorem wT_ok {t : Th} (g : gT t) : ∀ d ∈ wT t, d.wok = true ∧ d.wt.length ≤ 100 := by
  obtain ⟨p, o⟩ := t
  intro d hd
  cases o with
  | none =>
    simp only [wT, List.mem_cons, List.not_mem_nil, or_false] at hd
    rcases hd with rfl | rfl | rfl | rfl
    · exact sw _ (by decide)
    · exact cw1 g.1
    · exact cw2 g.1
    · exact sw _ (by decide)
  | some c =>
    have gc := g.2 c rfl
    simp only [wT, List.mem_cons, List.not_mem_nil, or_false] at hd
    rcases hd with rfl | rfl | rfl | rfl | rfl | rfl
    · exact sw _ (by decide)
    · exact cw1 g.1
    · exact cw2 g.1
    · exact sw _ (by decide)
    · exact cw1 gc
    · exact cw2 gc
theorem wC_ok {c : Int × Int} (g : gC c) : ∀ d ∈ wC c, d.wok = true ∧ d.wt.length ≤ 100 := by
  intro d hd
  simp only [wC, List.mem_cons, List.not_mem_nil, or_false] at hd
  rcases hd with rfl | rfl | rfl
  · exact sw _ (by decide)
  · exact cw1 g
  · exact cw2 g
theorem joinL_len (S : List Nat) : ∀ ps : List (List Nat), (TL.joinL S ps).length ≤ (ps.map (·.length)).sum + ps.length * S.length
  | [] => Nat.zero_le _
  | [p] => by simp [TL.joinL]
  | p :: q :: r => by
    have ih := joinL_len S (q :: r)
    have e : (TL.joinL S (p :: q :: r)).length = p.length + (S.length + (TL.joinL S (q :: r)).length) := by
      show (p ++ (S ++ TL.joinL S (q :: r))).length = _
      rw [List.length_append, List.length_append]
    rw [e]
    simp only [List.map_cons, List.sum_cons, List.length_cons, Nat.succ_mul] at ih ⊢
    omega
theorem join_len (y : Str) (ps : List Str) : (Txt.join y ps).length ≤ (ps.map (·.length)).sum + ps.length * y.length := by
  rw [TL.join_eq, TL.len_tl, TL.tl_join, TL.len_tl y]
  have h := joinL_len (TL.tl y) (ps.map TL.tl)
  rw [List.length_map, List.map_map] at h
  have e : ((fun x : List Nat => x.length) ∘ TL.tl) = fun x : Str => x.length := by
    funext x
    exact (TL.len_tl x).symm
  rw [e] at h
  exact h
theorem rowT_len {ws : List D} (l1 : ws.length ≤ 6) (l2 : ∀ d ∈ ws, d.wok = true ∧ d.wt.length ≤ 100) : (rowT ws).length ≤ 1000 := by
  refine Nat.le_trans (join_len _ _) ?_
  have := sum_le (f := (fun s : Str => s.length) ∘ D.wt) (n := 100) (xs := ws) fun d hd => (l2 d hd).2
  rw [List.map_map, List.length_map]
  have e : ((" " : Str)).length = 1 := by decide
  rw [e]
  have := Nat.mul_le_mul_right 100 l1
  omega
abbrev s_thing_line : Stmt := top 40
abbrev N_thing_line : List Str := ["thing", "put", "take"]
theorem sc_thing_line : FnScope N_thing_line ["thing"] (defScope s_thing_line) := ⟨rfl, rfl, rfl, by decide +kernel, rfl, by decide +kernel, by decide +kernel⟩
theorem p_put : PlainN "put" := by decide +kernel
theorem p_take : PlainN "take" := by decide +kernel
theorem p_line_of : PlainN "line_of" := by decide +kernel
theorem p_NEVER : PlainN "NEVER" := by decide +kernel
theorem p_TAKEN : PlainN "TAKEN" := by decide +kernel
theorem n_thing_line_thing : NmK s_thing_line "thing" .local := by decide +kernel
theorem n_thing_line_put : NmK s_thing_line "put" .local := by decide +kernel
theorem n_thing_line_take : NmK s_thing_line "take" .local := by decide +kernel
theorem n_thing_line_line_of : NmK s_thing_line "line_of" .globalImplicit := by decide +kernel
theorem n_thing_line_THING : NmK s_thing_line "THING" .globalImplicit := by decide +kernel
theorem n_thing_line_NEVER : NmK s_thing_line "NEVER" .globalImplicit := by decide +kernel
theorem n_thing_line_TAKEN : NmK s_thing_line "TAKEN" .globalImplicit := by decide +kernel
abbrev T_thing_line : Ct := Pure fun ds r => ∃ t, ds = [eT t] ∧ gT t ∧ r = .str (rowT (wT t))
theorem ok_thing_line {f : Addr} {fd : FuncData} (F : Fun K "thing_line" "thing_line" s_thing_line f fd) (B : Blt mg) (L : Glo K mg) (D_line_of : DefAt P w K mg base "line_of" ["things"] 1 T_line_of) : FnOk P w K mg base CX0 2 f fd ["thing"] (Pr K T_thing_line) := by
  refine fun_ok F sc_thing_line (fun ds μ Φ h => ?_) fun cdv A outer s H E hr ds μ Φ h => ?_
  · obtain ⟨r, ⟨c, rfl, _⟩, _⟩ := h
    rfl
  · obtain ⟨r, ⟨t, rfl, g, rfl⟩, h⟩ := h
    have ok := wT_ok g
    obtain ⟨c, o⟩ := t
    cases o with
    | none =>
      refine bx_cons (sx_asg (Ev.to (ev_var 0 rfl rfl (Or.inl n_thing_line_thing) p_thing) ⟨_, (gv_tup (gvl_cons (gv_name 1 rfl sc_thing_line.nd (Or.inl n_thing_line_put) (Or.inr n_thing_line_put)) (gvl_cons (gv_name 2 rfl sc_thing_line.nd (Or.inl n_thing_line_take) (Or.inr n_thing_line_take)) gvl_nil)) rfl rfl), ?_⟩))
      exact bx_one (sx_ret (Ev.to (ev_ifT (Tv.is (tv_cmp (ev_var 2 rfl rfl (Or.inl n_thing_line_take) p_take) ev_non (opx_of opd_isN) (nomark _)) (by rfl)) (ev_call D_line_of (hr.mono (by decide)) (av_cons (ev_lst (av_cons (ev_gstr L.THING n_thing_line_THING p_THING) (av_star (ev_var 1 rfl rfl (Or.inl n_thing_line_put) p_put) (by walk_at "seq") (av_cons (ev_gstr L.NEVER n_thing_line_NEVER p_NEVER) av_nil))) (by walk_at "sz")) av_nil) ⟨_, rfl, fun d hd => (ok d hd).1, Nat.le_of_ble_eq_true rfl, fun d hd => (ok d hd).2, rfl⟩ n_thing_line_line_of p_line_of)) h))
    | some d =>
      refine bx_cons (sx_asg (Ev.to (ev_var 0 rfl rfl (Or.inl n_thing_line_thing) p_thing) ⟨_, (gv_tup (gvl_cons (gv_name 1 rfl sc_thing_line.nd (Or.inl n_thing_line_put) (Or.inr n_thing_line_put)) (gvl_cons (gv_name 2 rfl sc_thing_line.nd (Or.inl n_thing_line_take) (Or.inr n_thing_line_take)) gvl_nil)) rfl rfl), ?_⟩))
      exact bx_one (sx_ret (Ev.to (ev_ifF (Tv.is (tv_cmp (ev_var 2 rfl rfl (Or.inl n_thing_line_take) p_take) ev_non (opx_of opd_isN) (nomark _)) (by rfl)) (ev_call D_line_of (hr.mono (by decide)) (av_cons (ev_lst (av_cons (ev_gstr L.THING n_thing_line_THING p_THING) (av_star (ev_var 1 rfl rfl (Or.inl n_thing_line_put) p_put) (by walk_at "seq") (av_cons (ev_gstr L.TAKEN n_thing_line_TAKEN p_TAKEN) (av_star (ev_var 2 rfl rfl (Or.inl n_thing_line_take) p_take) (by walk_at "seq") av_nil)))) (by walk_at "sz")) av_nil) ⟨_, rfl, fun d hd => (ok d hd).1, Nat.le_of_ble_eq_true rfl, fun d hd => (ok d hd).2, rfl⟩ n_thing_line_line_of p_line_of)) h))

theorem wT_len (t : Th) : (wT t).length ≤ 6 := by
  obtain ⟨p, o⟩ := t
  cases o <;> simp [wT]
theorem wC_len (c : Int × Int) : (wC c).length ≤ 6 := by simp [wC]
/-- the text of a history -/
abbrev linesH (h : Hy) : List Str := h.1.map (fun t => rowT (wT t)) ++ h.2.map fun c => rowT (wC c)
def textH (h : Hy) : Str := if linesH h = [] then "nothing" else Txt.join "\n" (linesH h)
theorem linesH_len {h : Hy} (g : gH h) : ∀ s ∈ linesH h, s.length ≤ 1000 := fun s hs => by
  rcases List.mem_append.mp hs with q | q
  · obtain ⟨t, ht, rfl⟩ := List.mem_map.mp q
    exact rowT_len (wT_len t) (wT_ok (g.ts t ht))
  · obtain ⟨c, hc, rfl⟩ := List.mem_map.mp q
    exact rowT_len (wC_len c) (wC_ok (g.cs c hc))
theorem linesH_join {h : Hy} (g : gH h) : ((linesH h).map (·.length)).sum + (linesH h).length * ("\n" : Str).length ≤ 16777216 := by
  have l : (linesH h).length ≤ 20 := by
    have := g.l1
    have := g.l2
    simp only [linesH, List.length_append, List.length_map]
    omega
  have := sum_le (f := fun s : Str => s.length) (n := 1000) (xs := linesH h) (linesH_len g)
  have e : ("\n" : Str).length = 1 := by decide
  rw [e]
  have := Nat.mul_le_mul_right 1000 l
  omega
theorem sm_strs {ss : List Str} {n : Nat} (h : ∀ s ∈ ss, ∀ c ∈ TL.tl s, c < 256) (hl : ∀ s ∈ ss, s.length ≤ n) : ∀ d ∈ ss.map D.str, Sm 0 n d := fun d hd => by
  obtain ⟨s, hs, rfl⟩ := List.mem_map.mp hd
  exact Sm.str (h s hs) (hl s hs)
theorem mem_joinL {S : List Nat} {c : Nat} : ∀ {ps : List (List Nat)}, c ∈ TL.joinL S ps → c ∈ S ∨ ∃ p ∈ ps, c ∈ p
  | [], h => by cases h
  | [p], h => .inr ⟨p, List.mem_cons_self, h⟩
  | p :: q :: r, h => by
    have h' : c ∈ p ++ (S ++ TL.joinL S (q :: r)) := h
    rcases List.mem_append.mp h' with h1 | h1
    · exact .inr ⟨p, List.mem_cons_self, h1⟩
    · rcases List.mem_append.mp h1 with h2 | h2
      · exact .inl h2
      · rcases mem_joinL h2 with h3 | ⟨z, hz, h3⟩
        · exact .inl h3
        · exact .inr ⟨z, List.mem_cons_of_mem _ hz, h3⟩
theorem mem_join {y : Str} {c : Nat} {ps : List Str} (h : c ∈ TL.tl (Txt.join y ps)) : c ∈ TL.tl y ∨ ∃ p ∈ ps, c ∈ TL.tl p := by
  rw [TL.join_eq, TL.tl_join] at h
  rcases mem_joinL h with h | ⟨z, hz, h⟩
  · exact .inl h
  · obtain ⟨p, hp, rfl⟩ := List.mem_map.mp hz
    exact .inr ⟨p, hp, h⟩
/-- a word's signs: no blank, no newline, all small -/
def WS (d : D) : Prop := ∀ c ∈ TL.tl d.wt, c < 256 ∧ c ≠ 32 ∧ c ≠ 10
theorem ws_int (i : Int) : WS (.int i) := fun c hc => by
  have h1 : ¬ (c < 45 ∨ 57 < c) := fun q => numT_free q hc
  omega
theorem ws_str {s : Str} (h : (TL.tl s).all (fun c => decide (c < 256 ∧ c ≠ 32 ∧ c ≠ 10)) = true) : WS (.str s) := fun c hc => of_decide_eq_true (List.all_eq_true.mp h c hc)
theorem wT_ws (t : Th) : ∀ d ∈ wT t, WS d := by
  obtain ⟨p, o⟩ := t
  intro d hd
  cases o with
  | none =>
    simp only [wT, List.mem_cons, List.not_mem_nil, or_false] at hd
    rcases hd with rfl | rfl | rfl | rfl
    · exact ws_str (by decide)
    · exact ws_int _
    · exact ws_int _
    · exact ws_str (by decide)
  | some c =>
    simp only [wT, List.mem_cons, List.not_mem_nil, or_false] at hd
    rcases hd with rfl | rfl | rfl | rfl | rfl | rfl
    · exact ws_str (by decide)
    · exact ws_int _
    · exact ws_int _
    · exact ws_str (by decide)
    · exact ws_int _
    · exact ws_int _
theorem wC_ws (c : Int × Int) : ∀ d ∈ wC c, WS d := by
  intro d hd
  simp only [wC, List.mem_cons, List.not_mem_nil, or_false] at hd
  rcases hd with rfl | rfl | rfl
  · exact ws_str (by decide)
  · exact ws_int _
  · exact ws_int _
theorem row_ws {ws : List D} (h : ∀ d ∈ ws, WS d) : ∀ c ∈ TL.tl (rowT ws), c < 256 ∧ c ≠ 10 := fun c hc => by
  rcases mem_join hc with q | ⟨p, hp, q⟩
  · have e : TL.tl (" " : Str) = [32] := by decide
    rw [e] at q
    have : c = 32 := List.mem_singleton.mp q
    omega
  · obtain ⟨d, hd, rfl⟩ := List.mem_map.mp hp
    have := h d hd c q
    omega
theorem linesH_ws (h : Hy) : ∀ s ∈ linesH h, ∀ c ∈ TL.tl s, c < 256 ∧ c ≠ 10 := fun s hs => by
  rcases List.mem_append.mp hs with q | q
  · obtain ⟨t, ht, rfl⟩ := List.mem_map.mp q
    exact row_ws (wT_ws t)
  · obtain ⟨c, hc, rfl⟩ := List.mem_map.mp q
    exact row_ws (wC_ws c)
theorem linesH_ok {h : Hy} (g : gH h) : ∀ s ∈ linesH h, ∀ c ∈ TL.tl s, c < 256 := fun s hs c hc => (linesH_ws h s hs c hc).1
abbrev s_history_text : Stmt := top 41
abbrev N_history_text : List Str := ["history", "things", "empties", "lines", "thing", "call"]
theorem sc_history_text : FnScope N_history_text ["history"] (defScope s_history_text) := ⟨rfl, rfl, rfl, by decide +kernel, rfl, by decide +kernel, by decide +kernel⟩
theorem p_history : PlainN "history" := by decide +kernel
theorem p_lines : PlainN "lines" := by decide +kernel
theorem p_call : PlainN "call" := by decide +kernel
theorem p_need_history : PlainN "need_history" := by decide +kernel
theorem p_NEWLINE : PlainN "NEWLINE" := by decide +kernel
theorem p_NOTHING : PlainN "NOTHING" := by decide +kernel
theorem p_EMPTY_terms : PlainN "EMPTY_terms" := by decide +kernel
theorem p_thing_line : PlainN "thing_line" := by decide +kernel
theorem n_history_text_history : NmK s_history_text "history" .local := by decide +kernel
theorem n_history_text_things : NmK s_history_text "things" .local := by decide +kernel
theorem n_history_text_empties : NmK s_history_text "empties" .local := by decide +kernel
theorem n_history_text_lines : NmK s_history_text "lines" .local := by decide +kernel
theorem n_history_text_need_history : NmK s_history_text "need_history" .globalImplicit := by decide +kernel
theorem n_history_text_NEWLINE : NmK s_history_text "NEWLINE" .globalImplicit := by decide +kernel
theorem n_history_text_NOTHING : NmK s_history_text "NOTHING" .globalImplicit := by decide +kernel
abbrev T_history_text : Ct := Pure fun ds r => ∃ t, ds = [eH t] ∧ gH t ∧ r = .str (textH t)
theorem eqv_strs {ss : List Str} : PyData.eqv (D.lst (ss.map D.str)).py (D.lst []).py = decide (ss = []) := by
  rw [eqv_nil]
  cases ss <;> rfl
theorem ok_history_text {f : Addr} {fd : FuncData} (F : Fun K "history_text" "history_text" s_history_text f fd) (B : Blt mg) (L : Glo K mg) (D_need_history : DefAt P w K mg base "need_history" ["thing"] 5 T_need_history) (D_thing_line : DefAt P w K mg base "thing_line" ["thing"] 2 T_thing_line) (D_line_of : DefAt P w K mg base "line_of" ["things"] 1 T_line_of) : FnOk P w K mg base CX0 6 f fd ["history"] (Pr K T_history_text) := by
  refine fun_ok F sc_history_text (fun ds μ Φ h => ?_) fun cdv A outer s H E hr ds μ Φ h => ?_
  · obtain ⟨r, ⟨c, rfl, _⟩, _⟩ := h
    rfl
  · obtain ⟨r, ⟨t, rfl, g, rfl⟩, h⟩ := h
    have l1 := g.l1
    have l2 := g.l2
    refine bx_cons (sx_asg (Ev.to (ev_call D_need_history (hr.mono (by decide)) (av_cons (ev_var 0 rfl rfl (Or.inl n_history_text_history) p_history) av_nil) ⟨_, rfl, g, rfl⟩ n_history_text_need_history p_need_history) ⟨_, (gv_tup (gvl_cons (gv_name 1 rfl sc_history_text.nd (Or.inl n_history_text_things) (Or.inr n_history_text_things)) (gvl_cons (gv_name 2 rfl sc_history_text.nd (Or.inl n_history_text_empties) (Or.inr n_history_text_empties)) gvl_nil)) rfl rfl), ?_⟩))
    have e : t.1.map (fun x => D.str (rowT (wT x))) ++ t.2.map (fun x => D.str (rowT (wC x))) = (linesH t).map D.str := by
      rw [List.map_append, List.map_map, List.map_map]
      rfl
    refine bx_cons (sx_set 3 rfl ?_ sc_history_text.nd (Or.inl n_history_text_lines) (Or.inr n_history_text_lines))
    refine Ev.to (Ev.is (ev_binX (ev_lcM (own := [("thing", 4)]) t.1 eT _ (wk_tup (ev_var 1 rfl rfl (Or.inl n_history_text_things) p_things)) (by walk_at "sz") (fun x hx => ⟨_, fun s H C cl fp => (gw_name 4 rfl sc_history_text.nd (by walk_at "loc") (by decide) (Or.inr (by walk_at "lk"))), fun s H C cl fp => (ev_call D_thing_line (hr.mono (by decide)) (av_cons (ev_var 4 rfl rfl (by walk_at "vis") p_thing) av_nil) ⟨_, rfl, g.ts _ hx, rfl⟩ rfl p_thing_line)⟩) (show BlkOk N_history_text (defScope s_history_text) _ _ from ⟨rfl, by decide +kernel, by decide +kernel, by decide +kernel, by decide +kernel⟩) sc_history_text.nd rfl) (ev_lcM (own := [("call", 5)]) t.2 eC _ (wk_tup (ev_var 2 rfl rfl (Or.inl n_history_text_empties) p_empties)) (by walk_at "sz") (fun x hx => ⟨_, fun s H C cl fp => (gw_name 5 rfl sc_history_text.nd (by walk_at "loc") (by decide) (Or.inr (by walk_at "lk"))), fun s H C cl fp => (ev_call D_line_of (hr.mono (by decide)) (av_cons (ev_lst (av_cons (ev_gstr L.EMPTY_terms rfl p_EMPTY_terms) (av_star (ev_var 5 rfl rfl (by walk_at "vis") p_call) (by walk_at "seq") av_nil)) (by walk_at "sz")) av_nil) ⟨wC x, rfl, fun d hd => (wC_ok (g.cs x hx) d hd).1, Nat.le_trans (wC_len x) (by decide), fun d hd => (wC_ok (g.cs x hx) d hd).2, rfl⟩ rfl p_line_of)⟩) (show BlkOk N_history_text (defScope s_history_text) _ _ from ⟨rfl, by decide +kernel, by decide +kernel, by decide +kernel, by decide +kernel⟩) sc_history_text.nd rfl) (by walk_at "opAdd")) (congrArg D.lst e)) ?_
    have bj := linesH_join g
    have fl : (D.lst ((linesH t).map D.str)).flat = true ∧ SeqAt.shaped (D.lst ((linesH t).map D.str)).py = true := by
      have sm : Sm 1 20020 (D.lst ((linesH t).map D.str)) := Sm.lst (sm_strs (linesH_ok g) (linesH_len g)) (by
        simp only [List.length_append, List.length_map]
        omega)
      exact ⟨sm.flat, sm.shaped (by decide)⟩
    have fl1 := fl.1
    have fl2 := fl.2
    by_cases c : linesH t = []
    · have e2 : textH t = "nothing" := if_pos c
      rw [e2] at h
      refine bx_one (sx_ret (Ev.to (ev_ifF (Tv.is (tv_cmp (ev_var 3 rfl rfl (Or.inl n_history_text_lines) p_lines) (ev_lst av_nil (by walk_at "sz")) (by walk_at "opNotEq") (nomark _)) ?_) (ev_gstr L.NOTHING n_history_text_NOTHING p_NOTHING)) h))
      rw [c]
      rfl
    · have e2 : textH t = Txt.join "\n" (linesH t) := if_neg c
      rw [e2] at h
      refine bx_one (sx_ret (Ev.to (ev_ifT (Tv.is (tv_cmp (ev_var 3 rfl rfl (Or.inl n_history_text_lines) p_lines) (ev_lst av_nil (by walk_at "sz")) (by walk_at "opNotEq") (nomark _)) ?_) (ev_bm PySem.F.plainAttrs_str PySem.F.slot_str_join PySem.F.type_str_join (ev_gstr L.NEWLINE n_history_text_NEWLINE p_NEWLINE) tyd_str (av_cons (ev_var 3 rfl rfl (Or.inl n_history_text_lines) p_lines) av_nil) (by walk_at "md"))) h))
      cases q : linesH t with
      | nil => exact absurd q c
      | cons a b => rfl
theorem atI_zero {α : Type} {x : α} {xs : List α} : atI (x :: xs) 0 = some x := by
  unfold atI ixN
  simp
abbrev s_integer_in : Stmt := top 42
abbrev N_integer_in : List Str := ["word", "figures", "figure"]
theorem sc_integer_in : FnScope N_integer_in ["word"] (defScope s_integer_in) := ⟨rfl, rfl, rfl, by decide +kernel, rfl, by decide +kernel, by decide +kernel⟩
theorem p_word : PlainN "word" := by decide +kernel
theorem p_figures : PlainN "figures" := by decide +kernel
theorem p_figure : PlainN "figure" := by decide +kernel
theorem p_MINUS : PlainN "MINUS" := by decide +kernel
theorem p_MOST_FIGURES : PlainN "MOST_FIGURES" := by decide +kernel
theorem p_NAUGHT : PlainN "NAUGHT" := by decide +kernel
theorem p_FIGURES : PlainN "FIGURES" := by decide +kernel
theorem n_integer_in_word : NmK s_integer_in "word" .local := by decide +kernel
theorem n_integer_in_figures : NmK s_integer_in "figures" .local := by decide +kernel
theorem n_integer_in_MINUS : NmK s_integer_in "MINUS" .globalImplicit := by decide +kernel
theorem n_integer_in_len : NmK s_integer_in "len" .globalImplicit := by decide +kernel
theorem n_integer_in_MOST_FIGURES : NmK s_integer_in "MOST_FIGURES" .globalImplicit := by decide +kernel
theorem n_integer_in_all : NmK s_integer_in "all" .globalImplicit := by decide +kernel
theorem n_integer_in_NAUGHT : NmK s_integer_in "NAUGHT" .globalImplicit := by decide +kernel
theorem n_integer_in_int : NmK s_integer_in "int" .globalImplicit := by decide +kernel
abbrev T_integer_in : Ct := Pure fun ds r => ∃ i : Int, ds = [.str (numT i)] ∧ i.natAbs < 10 ^ 10 ∧ r = .int i
theorem ok_integer_in {f : Addr} {fd : FuncData} (F : Fun K "integer_in" "integer_in" s_integer_in f fd) (B : Blt mg) (L : Glo K mg) : FnOk P w K mg base CX0 1 f fd ["word"] (Pr K T_integer_in) := by
  refine fun_ok F sc_integer_in (fun ds μ Φ h => ?_) fun cdv A outer s H E hr ds μ Φ h => ?_
  · obtain ⟨r, ⟨c, rfl, _⟩, _⟩ := h
    rfl
  · obtain ⟨r, ⟨i, rfl, g, rfl⟩, h⟩ := h
    have g31 : i.natAbs < 10 ^ 31 := Nat.lt_trans g (by decide +kernel)
    have nl : (numT i).length ≤ 11 := len_numT (by decide) g
    have nl2 : (numT i).length ≤ sizeLine := Nat.le_trans nl (by decide)
    have fl := fig_len g31
    have fl2 : (figT i).length ≤ sizeLine := Nat.le_trans fl.1 (by decide)
    refine bx_cons (sx_set 1 rfl ?_ sc_integer_in.nd (Or.inl n_integer_in_figures) (Or.inr n_integer_in_figures))
    refine Ev.to (Ev.is (ev_if (k := decide (i < 0)) (x := .str (figT i)) (y := .str (figT i)) (Tv.is (tv_cmp (ev_slice (ev_var 0 rfl rfl (Or.inl n_integer_in_word) p_word) pv_none (pv_some ev_int) (by walk_at "sl")) (ev_gstr L.MINUS n_integer_in_MINUS p_MINUS) (by walk_at "opEq") (nomark _)) (minus_first i)) (fun q => Ev.is (ev_slice (ev_var 0 rfl rfl (Or.inl n_integer_in_word) p_word) (pv_some ev_int) pv_none (by walk_at "sl")) ?_) (fun q => Ev.is (ev_var 0 rfl rfl (Or.inl n_integer_in_word) p_word) ?_)) (ite_self _)) ?_
    · exact congrArg D.str (cut_rest (of_decide_eq_true q))
    · exact congrArg D.str (numT_fig (of_decide_eq_false q))
    refine bx_cons (sx_ifF (tv_w (wv_or (tv_not (tv_chain ev_int (ev_callBX B.len bb_len (av_cons (ev_var 1 rfl rfl (Or.inl n_integer_in_figures) p_figures) av_nil) (by walk_at "cd") n_integer_in_len p_len) (ev_gint L.MOST_FIGURES n_integer_in_MOST_FIGURES p_MOST_FIGURES) opd_le opd_le)) (fun _ => (wv_or1 (tv_not (tv_val (ev_callBX B.all bb_all (av_cons (ev_lcM (own := [("figure", 2)]) (figT i).cps.toList (fun c => D.str ⟨#[c]⟩) _ (wk_str (ev_var 1 rfl rfl (Or.inl n_integer_in_figures) p_figures)) (by walk_at "sz") (fun x hx => ⟨_, fun s H C cl fp => (gw_name 2 rfl sc_integer_in.nd (by walk_at "loc") (by decide) (Or.inr (by walk_at "lk"))), fun s H C cl fp => (ev_cmpX (ev_var 2 rfl rfl (by walk_at "vis") p_figure) (ev_gstr L.FIGURES rfl p_FIGURES) (by walk_at "opIn") (by with_unfolding_all rfl))⟩) (show BlkOk N_integer_in (defScope s_integer_in) _ _ from ⟨rfl, by decide +kernel, by decide +kernel, by decide +kernel, by decide +kernel⟩) sc_integer_in.nd rfl) av_nil) (cdx_of (cd_allM rfl)) n_integer_in_all p_all) (fun _ => rfl))))))) ?_ (bx_nil ?_))
    · have h1 : (figT i).cps.toList.all (fun x => decide (x ∈ ("0123456789" : Str).cps.toList)) = true := by
        rw [List.all_eq_true]
        intro x hx
        exact decide_eq_true (fig_digit hx)
      simp only [h1, Bool.not_true, Bool.or_false, Bool.not_eq_false', Bool.and_eq_true, decide_eq_true_eq]
      omega
    obtain ⟨c, r, ec⟩ : ∃ c r, TL.tl (figT i) = c :: r := by
      cases q : TL.tl (figT i) with
      | nil =>
        have := fl.2
        rw [TL.len_tl, q] at this
        cases this
      | cons c r => exact ⟨c, r, rfl⟩
    have ic : atI (figT i).cps.toList 0 = some c := by
      show atI (TL.tl (figT i)) 0 = some c
      rw [ec]
      exact atI_zero
    refine bx_cons (sx_ifF (tv_w (wv_and (tv_cmp (ev_ixX (ev_var 1 rfl rfl (Or.inl n_integer_in_figures) p_figures) ev_int (by walk_at "ix") (fun _ _ => rfl)) (ev_gstr L.NAUGHT n_integer_in_NAUGHT p_NAUGHT) (by walk_at "opEq") (nomark _)) (fun _ => (wv_and1 (tv_cmp (ev_var 0 rfl rfl (Or.inl n_integer_in_word) p_word) (ev_gstr L.NAUGHT n_integer_in_NAUGHT p_NAUGHT) (by walk_at "opNotEq") (nomark _)))))) ?_ (bx_nil ?_))
    · by_cases c0 : c = 48
      · subst c0
        have i0 := fig_zero ec
        subst i0
        rw [numT_zero]
        simp
      · have n : ¬ ((⟨#[c]⟩ : Str) = "0") := fun e => c0 (by
          have := congrArg TL.tl e
          exact (List.cons.inj (show [c] = [48] from this)).1)
        rw [decide_eq_false n]
        rfl
    have it := int_numT g31
    have nl3 : (numT i).length ≤ 640 := Nat.le_trans nl (by decide)
    exact bx_one (sx_ret (Ev.to (ev_callTyX B.int bb_int (av_cons (ev_var 0 rfl rfl (Or.inl n_integer_in_word) p_word) av_nil) (by walk_at "cd") n_integer_in_int p_int) h))
end
/-- the classes -/
structure KWords (K : PySem.W.Frag) (C : Addr) : Prop where
  cls : Cls K C
  all_words : NoAttr K C "all_words"
  row : NoAttr K C "row"
  «at» : NoAttr K C "at"
  terms_read : NoAttr K C "terms_read"
structure KLines (K : PySem.W.Frag) (C : Addr) : Prop where
  cls : Cls K C
  things_read : NoAttr K C "things_read"
  empties_read : NoAttr K C "empties_read"
section
variable {P : Program} {w : World} {K : PySem.W.Frag} {mg : Str → Option Value} {base : Heap} {C_Words C_Lines : Addr}
abbrev nsW : List Str := ["all_words", "row", "at", "terms_read"]
abbrev oW (C : Addr) (ws : List Str) (row : Int) (k : Nat) : MO := .ins C nsW [.lst (ws.map D.str), .int row, .int k, .int 0]
abbrev s_Words___init__ : Stmt := inClass (top 43) 0
abbrev N_Words___init__ : List Str := ["self", "line", "row"]
theorem sc_Words___init__ : FnScope N_Words___init__ ["self", "line", "row"] (defScope s_Words___init__) := ⟨rfl, rfl, rfl, by decide +kernel, rfl, by decide +kernel, by decide +kernel⟩
theorem p_self : PlainN "self" := by decide +kernel
theorem p_line : PlainN "line" := by decide +kernel
theorem p_row : PlainN "row" := by decide +kernel
theorem n_Words___init___self : NmK s_Words___init__ "self" .local := by decide +kernel
theorem n_Words___init___line : NmK s_Words___init__ "line" .local := by decide +kernel
theorem n_Words___init___row : NmK s_Words___init__ "row" .local := by decide +kernel
theorem n_Words___init___BLANK : NmK s_Words___init__ "BLANK" .globalImplicit := by decide +kernel
abbrev T_Words___init__ (C : Addr) : Ct := fun ds μ Φ => ∃ a line row, ds = [.raw (.ref a), .str line, .int row] ∧ μ a = some (.ins C [] []) ∧ line.length + 2 ≤ sizeLine ∧ Φ .non (μ.put a (oW C (Txt.split line " ") row 0))
theorem ok_Words___init__ {f : Addr} {fd : FuncData} (F : Fun K "__init__" "Words.__init__" s_Words___init__ f fd) (B : Blt mg) (L : Glo K mg) (K_Words : KWords K C_Words) (K_Lines : KLines K C_Lines) : FnOk P w K mg base CX0 1 f fd ["self", "line", "row"] (Pr K (T_Words___init__ C_Words)) := by
  refine fun_ok F sc_Words___init__ (fun ds μ Φ h => ?_) fun cdv A outer s H E hr ds μ Φ h => ?_
  · obtain ⟨a, line, row, rfl, _⟩ := h
    rfl
  · obtain ⟨a, line, row, rfl, m, sz, h⟩ := h
    refine bx_cons (sx_fld (Ev.to (ev_bm PySem.F.plainAttrs_str PySem.F.slot_str_split PySem.F.type_str_split (ev_var 1 rfl rfl (Or.inl n_Words___init___line) p_line) tyd_str (av_cons (ev_gstr L.BLANK n_Words___init___BLANK p_BLANK) av_nil) (by walk_at "md")) (Ev.to (ev_var 0 rfl rfl (Or.inl n_Words___init___self) p_self) ⟨_, _, _, _, rfl, (by walk_at "mem"), K_Words.cls, K_Words.all_words, (by walk_at "n1k"), ?_⟩)))
    refine bx_cons (sx_fld (Ev.to (ev_var 2 rfl rfl (Or.inl n_Words___init___row) p_row) (Ev.to (ev_var 0 rfl rfl (Or.inl n_Words___init___self) p_self) ⟨_, _, _, _, rfl, (by walk_at "mem"), K_Words.cls, K_Words.row, (by walk_at "n1k"), ?_⟩)))
    refine bx_cons (sx_fld (Ev.to ev_int (Ev.to (ev_var 0 rfl rfl (Or.inl n_Words___init___self) p_self) ⟨_, _, _, _, rfl, (by walk_at "mem"), K_Words.cls, K_Words.at, (by walk_at "n1k"), ?_⟩)))
    refine bx_one (sx_fld (Ev.to ev_int (Ev.to (ev_var 0 rfl rfl (Or.inl n_Words___init___self) p_self) ⟨_, _, _, _, rfl, (by walk_at "mem"), K_Words.cls, K_Words.terms_read, (by walk_at "n1k"), ?_⟩)))
    rw [Mem.put_put, Mem.put_put, Mem.put_put]
    exact h
abbrev s_Words_next_word : Stmt := inClass (top 43) 2
abbrev N_Words_next_word : List Str := ["self"]
theorem sc_Words_next_word : FnScope N_Words_next_word ["self"] (defScope s_Words_next_word) := ⟨rfl, rfl, rfl, by decide +kernel, rfl, by decide +kernel, by decide +kernel⟩
theorem n_Words_next_word_self : NmK s_Words_next_word "self" .local := by decide +kernel
theorem n_Words_next_word_len : NmK s_Words_next_word "len" .globalImplicit := by decide +kernel
abbrev T_Words_next_word (C : Addr) : Ct := fun ds μ Φ => ∃ a ws row k, ds = [.raw (.ref a)] ∧ μ a = some (oW C ws row k) ∧ Φ (match ws[k]? with | some w => .str w | none => .non) μ
theorem ok_Words_next_word {f : Addr} {fd : FuncData} (F : Fun K "next_word" "Words.next_word" s_Words_next_word f fd) (B : Blt mg) (L : Glo K mg) (K_Words : KWords K C_Words) (K_Lines : KLines K C_Lines) : FnOk P w K mg base CX0 1 f fd ["self"] (Pr K (T_Words_next_word C_Words)) := by
  refine fun_ok F sc_Words_next_word (fun ds μ Φ h => ?_) fun cdv A outer s H E hr ds μ Φ h => ?_
  · obtain ⟨a, ws, row, k, rfl, _⟩ := h
    rfl
  · obtain ⟨a, ws, row, k, rfl, m, h⟩ := h
    cases e : ws[k]? with
    | some w =>
      rw [e] at h
      have l : k < ws.length := (List.getElem?_eq_some_iff.mp e).1
      have ea : atI (ws.map D.str) (k : Int) = some (.str w) := by
        unfold atI ixN
        rw [List.length_map, if_pos (by omega), if_pos (by omega)]
        show (ws.map D.str)[(k : Int).toNat]? = _
        rw [Int.toNat_natCast, List.getElem?_map, e]
        rfl
      refine bx_one (sx_ret (Ev.to (ev_ifT (Tv.is (tv_cmp (ev_fld (ev_var 0 rfl rfl (Or.inl n_Words_next_word_self) p_self) (fld_own (by walk_at "mem") K_Words.cls K_Words.at rfl)) (ev_callBX B.len bb_len (av_cons (ev_fld (ev_var 0 rfl rfl (Or.inl n_Words_next_word_self) p_self) (fld_own (by walk_at "mem") K_Words.cls K_Words.all_words rfl)) av_nil) (by walk_at "cd") n_Words_next_word_len p_len) (opx_of opd_lt) (nomark _)) ?_) (ev_ixX (ev_fld (ev_var 0 rfl rfl (Or.inl n_Words_next_word_self) p_self) (fld_own (by walk_at "mem") K_Words.cls K_Words.all_words rfl)) (ev_fld (ev_var 0 rfl rfl (Or.inl n_Words_next_word_self) p_self) (fld_own (by walk_at "mem") K_Words.cls K_Words.at rfl)) (by walk_at "ix") (fun _ _ => rfl))) h))
      rw [List.length_map]
      exact decide_eq_true (by omega)
    | none =>
      rw [e] at h
      have l : ws.length ≤ k := List.getElem?_eq_none_iff.mp e
      refine bx_one (sx_ret (Ev.to (ev_ifF (Tv.is (tv_cmp (ev_fld (ev_var 0 rfl rfl (Or.inl n_Words_next_word_self) p_self) (fld_own (by walk_at "mem") K_Words.cls K_Words.at rfl)) (ev_callBX B.len bb_len (av_cons (ev_fld (ev_var 0 rfl rfl (Or.inl n_Words_next_word_self) p_self) (fld_own (by walk_at "mem") K_Words.cls K_Words.all_words rfl)) av_nil) (by walk_at "cd") n_Words_next_word_len p_len) (opx_of opd_lt) (nomark _)) ?_) ev_non) h))
      rw [List.length_map]
      exact decide_eq_false (by omega)
end
section
variable {P : Program} {w : World} {K : PySem.W.Frag} {mg : Str → Option Value} {base : Heap} {C_Words C_Lines : Addr}
abbrev s_Words_word_of : Stmt := inClass (top 43) 3
abbrev N_Words_word_of : List Str := ["self", "some", "word"]
theorem sc_Words_word_of : FnScope N_Words_word_of ["self", "some"] (defScope s_Words_word_of) := ⟨rfl, rfl, rfl, by decide +kernel, rfl, by decide +kernel, by decide +kernel⟩
theorem p_some : PlainN "some" := by decide +kernel
theorem n_Words_word_of_self : NmK s_Words_word_of "self" .local := by decide +kernel
theorem n_Words_word_of_some : NmK s_Words_word_of "some" .local := by decide +kernel
theorem n_Words_word_of_word : NmK s_Words_word_of "word" .local := by decide +kernel
abbrev T_Words_word_of (C : Addr) : Ct := fun ds μ Φ => ∃ a ws row k, ∃ some_ : List Str, ∃ x, ds = [.raw (.ref a), .lst (some_.map D.str)] ∧ μ a = some (oW C ws row k) ∧ ws[k]? = some x ∧ x ∈ some_ ∧ Φ (.str x) (μ.put a (oW C ws row (k + 1)))
theorem ok_Words_word_of {f : Addr} {fd : FuncData} (F : Fun K "word_of" "Words.word_of" s_Words_word_of f fd) (B : Blt mg) (L : Glo K mg) (K_Words : KWords K C_Words) (K_Lines : KLines K C_Lines) (D_Words_next_word : MethAt P w K mg base C_Words "next_word" ["self"] 1 (T_Words_next_word C_Words)) : FnOk P w K mg base CX0 2 f fd ["self", "some"] (Pr K (T_Words_word_of C_Words)) := by
  refine fun_ok F sc_Words_word_of (fun ds μ Φ h => ?_) fun cdv A outer s H E hr ds μ Φ h => ?_
  · obtain ⟨a, ws, row, k, some_, x, rfl, _⟩ := h
    rfl
  · obtain ⟨a, ws, row, k, some_, x, rfl, m, e, hx, h⟩ := h
    refine bx_cons (sx_set 2 rfl ?_ sc_Words_word_of.nd (Or.inl n_Words_word_of_word) (Or.inr n_Words_word_of_word))
    refine (ec_meth0 D_Words_next_word (hr.mono (by decide)) (Ev.to (ev_var 0 rfl rfl (Or.inl n_Words_word_of_self) p_self) ⟨ins_own (by walk_at "mem") (by decide), ?_⟩))
    refine ⟨a, ws, row, k, rfl, m, ?_⟩
    rw [e]
    have ha := sc_strs (ss := some_)
    refine bx_cons (sx_ifF (tv_w (wv_or (tv_cmp (ev_var 2 rfl rfl (Or.inl n_Words_word_of_word) p_word) ev_non (opx_of opd_isN) (nomark _)) (fun _ => (wv_or1 (tv_cmp (ev_var 2 rfl rfl (Or.inl n_Words_word_of_word) p_word) (ev_var 1 rfl rfl (Or.inl n_Words_word_of_some) p_some) (by walk_at "opNotIn") (by with_unfolding_all rfl)))))) ?_ (bx_nil ?_))
    · rw [inS_str, decide_eq_true hx]
      rfl
    refine bx_cons (sx_fld (Ev.to (ev_binX (ev_fld (ev_var 0 rfl rfl (Or.inl n_Words_word_of_self) p_self) (fld_own (by walk_at "mem") K_Words.cls K_Words.at rfl)) ev_int (by walk_at "opAdd")) (Ev.to (ev_var 0 rfl rfl (Or.inl n_Words_word_of_self) p_self) ⟨_, _, _, _, rfl, (by walk_at "mem"), K_Words.cls, K_Words.at, (by walk_at "n1k"), ?_⟩)))
    exact bx_one (sx_ret (Ev.to (ev_var 2 rfl rfl (Or.inl n_Words_word_of_word) p_word) h))
abbrev s_Words_integer : Stmt := inClass (top 43) 4
abbrev N_Words_integer : List Str := ["self", "word", "found"]
theorem sc_Words_integer : FnScope N_Words_integer ["self"] (defScope s_Words_integer) := ⟨rfl, rfl, rfl, by decide +kernel, rfl, by decide +kernel, by decide +kernel⟩
theorem p_found : PlainN "found" := by decide +kernel
theorem p_integer_in : PlainN "integer_in" := by decide +kernel
theorem n_Words_integer_self : NmK s_Words_integer "self" .local := by decide +kernel
theorem n_Words_integer_word : NmK s_Words_integer "word" .local := by decide +kernel
theorem n_Words_integer_found : NmK s_Words_integer "found" .local := by decide +kernel
theorem n_Words_integer_integer_in : NmK s_Words_integer "integer_in" .globalImplicit := by decide +kernel
abbrev T_Words_integer (C : Addr) : Ct := fun ds μ Φ => ∃ a ws row k i, ds = [.raw (.ref a)] ∧ μ a = some (oW C ws row k) ∧ ws[k]? = some (numT i) ∧ i.natAbs < 10 ^ 10 ∧ Φ (.int i) (μ.put a (oW C ws row (k + 1)))
theorem ok_Words_integer {f : Addr} {fd : FuncData} (F : Fun K "integer" "Words.integer" s_Words_integer f fd) (B : Blt mg) (L : Glo K mg) (K_Words : KWords K C_Words) (K_Lines : KLines K C_Lines) (D_Words_next_word : MethAt P w K mg base C_Words "next_word" ["self"] 1 (T_Words_next_word C_Words)) (D_integer_in : DefAt P w K mg base "integer_in" ["word"] 1 T_integer_in) : FnOk P w K mg base CX0 2 f fd ["self"] (Pr K (T_Words_integer C_Words)) := by
  refine fun_ok F sc_Words_integer (fun ds μ Φ h => ?_) fun cdv A outer s H E hr ds μ Φ h => ?_
  · obtain ⟨a, ws, row, k, i, rfl, _⟩ := h
    rfl
  · obtain ⟨a, ws, row, k, i, rfl, m, e, gi, h⟩ := h
    refine bx_cons (sx_set 1 rfl ?_ sc_Words_integer.nd (Or.inl n_Words_integer_word) (Or.inr n_Words_integer_word))
    refine (ec_meth0 D_Words_next_word (hr.mono (by decide)) (Ev.to (ev_var 0 rfl rfl (Or.inl n_Words_integer_self) p_self) ⟨ins_own (by walk_at "mem") (by decide), ?_⟩))
    refine ⟨a, ws, row, k, rfl, m, ?_⟩
    rw [e]
    refine bx_cons (sx_set 2 rfl ?_ sc_Words_integer.nd (Or.inl n_Words_integer_found) (Or.inr n_Words_integer_found))
    refine Ev.to (ev_ifF (Tv.is (tv_cmp (ev_var 1 rfl rfl (Or.inl n_Words_integer_word) p_word) ev_non (opx_of opd_isN) (nomark _)) (by rfl)) (ev_call D_integer_in (hr.mono (by decide)) (av_cons (ev_var 1 rfl rfl (Or.inl n_Words_integer_word) p_word) av_nil) ⟨_, rfl, gi, rfl⟩ n_Words_integer_integer_in p_integer_in)) ?_
    refine bx_cons (sx_ifF (tv_cmp (ev_var 2 rfl rfl (Or.inl n_Words_integer_found) p_found) ev_non (opx_of opd_isN) (nomark _)) (by rfl) (bx_nil ?_))
    refine bx_cons (sx_fld (Ev.to (ev_binX (ev_fld (ev_var 0 rfl rfl (Or.inl n_Words_integer_self) p_self) (fld_own (by walk_at "mem") K_Words.cls K_Words.at rfl)) ev_int (by walk_at "opAdd")) (Ev.to (ev_var 0 rfl rfl (Or.inl n_Words_integer_self) p_self) ⟨_, _, _, _, rfl, (by walk_at "mem"), K_Words.cls, K_Words.at, (by walk_at "n1k"), ?_⟩)))
    exact bx_one (sx_ret (Ev.to (ev_var 2 rfl rfl (Or.inl n_Words_integer_found) p_found) h))
abbrev s_Words_call : Stmt := inClass (top 43) 7
abbrev N_Words_call : List Str := ["self"]
theorem sc_Words_call : FnScope N_Words_call ["self"] (defScope s_Words_call) := ⟨rfl, rfl, rfl, by decide +kernel, rfl, by decide +kernel, by decide +kernel⟩
theorem n_Words_call_self : NmK s_Words_call "self" .local := by decide +kernel
abbrev T_Words_call (C : Addr) : Ct := fun ds μ Φ => ∃ a ws row k, ∃ c : Int × Int, ds = [.raw (.ref a)] ∧ μ a = some (oW C ws row k) ∧ ws[k]? = some (numT c.1) ∧ ws[k + 1]? = some (numT c.2) ∧ gC c ∧ Φ (eC c) (μ.put a (oW C ws row (k + 2)))
theorem ok_Words_call {f : Addr} {fd : FuncData} (F : Fun K "call" "Words.call" s_Words_call f fd) (B : Blt mg) (L : Glo K mg) (K_Words : KWords K C_Words) (K_Lines : KLines K C_Lines) (D_Words_integer : MethAt P w K mg base C_Words "integer" ["self"] 2 (T_Words_integer C_Words)) : FnOk P w K mg base CX0 3 f fd ["self"] (Pr K (T_Words_call C_Words)) := by
  refine fun_ok F sc_Words_call (fun ds μ Φ h => ?_) fun cdv A outer s H E hr ds μ Φ h => ?_
  · obtain ⟨a, ws, row, k, c, rfl, _⟩ := h
    rfl
  · obtain ⟨a, ws, row, k, c, rfl, m, e1, e2, gc, h⟩ := h
    obtain ⟨g1, g2, g3⟩ := gc
    refine bx_one (sx_ret (ec_tup (ac_cons (ec_meth0 D_Words_integer (hr.mono (by decide)) (Ev.to (ev_var 0 rfl rfl (Or.inl n_Words_call_self) p_self) ⟨ins_own (by walk_at "mem") (by decide), ?_⟩)))))
    refine ⟨a, ws, row, k, c.1, rfl, m, e1, by omega, ?_⟩
    refine ac_cons (ec_meth0 D_Words_integer (hr.mono (by decide)) (Ev.to (ev_var 0 rfl rfl (Or.inl n_Words_call_self) p_self) ⟨ins_own (by walk_at "mem") (by decide), ?_⟩))
    refine ⟨a, ws, row, k + 1, c.2, rfl, Mem.put_same, e2, by omega, ?_⟩
    rw [Mem.put_put]
    exact ac_nil ⟨Nat.le_of_ble_eq_true rfl, h⟩
abbrev s_Words_end : Stmt := inClass (top 43) 8
abbrev N_Words_end : List Str := ["self"]
theorem sc_Words_end : FnScope N_Words_end ["self"] (defScope s_Words_end) := ⟨rfl, rfl, rfl, by decide +kernel, rfl, by decide +kernel, by decide +kernel⟩
theorem n_Words_end_self : NmK s_Words_end "self" .local := by decide +kernel
abbrev T_Words_end (C : Addr) : Ct := fun ds μ Φ => ∃ a ws row, ds = [.raw (.ref a)] ∧ μ a = some (oW C ws row ws.length) ∧ Φ .non μ
theorem ok_Words_end {f : Addr} {fd : FuncData} (F : Fun K "end" "Words.end" s_Words_end f fd) (B : Blt mg) (L : Glo K mg) (K_Words : KWords K C_Words) (K_Lines : KLines K C_Lines) (D_Words_next_word : MethAt P w K mg base C_Words "next_word" ["self"] 1 (T_Words_next_word C_Words)) : FnOk P w K mg base CX0 2 f fd ["self"] (Pr K (T_Words_end C_Words)) := by
  refine fun_ok F sc_Words_end (fun ds μ Φ h => ?_) fun cdv A outer s H E hr ds μ Φ h => ?_
  · obtain ⟨a, ws, row, rfl, _⟩ := h
    rfl
  · obtain ⟨a, ws, row, rfl, m, h⟩ := h
    refine bx_one (sx_if (tc_cmp (ec_meth0 D_Words_next_word (hr.mono (by decide)) (Ev.to (ev_var 0 rfl rfl (Or.inl n_Words_end_self) p_self) ⟨ins_own (by walk_at "mem") (by decide), ?_⟩)) (nomark _)))
    refine ⟨a, ws, row, _, rfl, m, ?_⟩
    rw [List.getElem?_eq_none (Nat.le_refl _)]
    refine Ev.to ev_non (OpX.mono (opx_of opd_notN) fun d μ' ⟨e1, e2⟩ => ⟨_, e1, ?_⟩)
    subst e2
    exact bx_nil h
abbrev nsL : List Str := ["things_read", "empties_read"]
abbrev oL (C p q : Addr) : MO := .ins C nsL [.raw (.ref p), .raw (.ref q)]
abbrev s_Lines___init__ : Stmt := inClass (top 45) 0
abbrev N_Lines___init__ : List Str := ["self"]
theorem sc_Lines___init__ : FnScope N_Lines___init__ ["self"] (defScope s_Lines___init__) := ⟨rfl, rfl, rfl, by decide +kernel, rfl, by decide +kernel, by decide +kernel⟩
theorem n_Lines___init___self : NmK s_Lines___init__ "self" .local := by decide +kernel
abbrev T_Lines___init__ (C : Addr) : Ct := fun ds μ Φ => ∃ a, ds = [.raw (.ref a)] ∧ μ a = some (.ins C [] []) ∧ ∀ p q μ', p ≠ a → q ≠ a → p ≠ q → μ p = none → μ q = none → μ' a = some (oL C p q) → μ' p = some (.lst []) → μ' q = some (.lst []) → (∀ b, b ≠ a → b ≠ p → b ≠ q → μ' b = μ b) → Φ .non μ'
theorem ok_Lines___init__ {f : Addr} {fd : FuncData} (F : Fun K "__init__" "Lines.__init__" s_Lines___init__ f fd) (B : Blt mg) (L : Glo K mg) (K_Words : KWords K C_Words) (K_Lines : KLines K C_Lines) : FnOk P w K mg base CX0 1 f fd ["self"] (Pr K (T_Lines___init__ C_Lines)) := by
  refine fun_ok F sc_Lines___init__ (fun ds μ Φ h => ?_) fun cdv A outer s H E hr ds μ Φ h => ?_
  · obtain ⟨a, rfl, _⟩ := h
    rfl
  · obtain ⟨a, rfl, m, h⟩ := h
    refine bx_cons (sx_fld (ec_own (ac_nil ⟨Nat.zero_le _, fun p hp => Ev.to (ev_var 0 rfl rfl (Or.inl n_Lines___init___self) p_self) ⟨a, C_Lines, [], [], rfl, ?_, K_Lines.cls, K_Lines.things_read, (by walk_at "n1k"), ?_⟩⟩)))
    · have n : a ≠ p := fun e => by
        rw [← e, m] at hp
        cases hp
      rw [Mem.put_ne n]
      exact m
    have np : p ≠ a := fun e => by
      rw [e, m] at hp
      cases hp
    refine bx_one (sx_fld (ec_own (ac_nil ⟨Nat.zero_le _, fun q hq => Ev.to (ev_var 0 rfl rfl (Or.inl n_Lines___init___self) p_self) ⟨a, C_Lines, ["things_read"], [.raw (.ref p)], rfl, ?_, K_Lines.cls, K_Lines.empties_read, (by decide : 1 < 1000), ?_⟩⟩)))
    · obtain ⟨n1, hq⟩ := Mm.free_put hq
      rw [Mem.put_ne (Ne.symm n1)]
      exact Mem.put_same
    obtain ⟨n1, hq⟩ := Mm.free_put hq
    obtain ⟨n2, hq⟩ := Mm.free_put hq
    refine h p q _ np n1 (Ne.symm n2) hp hq Mem.put_same ?_ ?_ fun b b1 b2 b3 => ?_
    · rw [Mem.put_ne np, Mem.put_ne (Ne.symm n2), Mem.put_ne np, Mem.put_same]
    · rw [Mem.put_ne n1, Mem.put_same]
    · rw [Mem.put_ne b1, Mem.put_ne b3, Mem.put_ne b1, Mem.put_ne b2]
/-- the sorts that may stand -/
abbrev sT : Str := "thing"
abbrev sE : Str := "empty"
abbrev sN : Str := "nothing"
abbrev sortsS (nx ny : Nat) (row : Int) : List Str := ((if ny = 0 ∧ nx < 12 then [sT] else []) ++ (if ny < 8 then [sE] else [])) ++ (if row = 0 then [sN] else [])
abbrev s_Lines_sorts : Stmt := inClass (top 45) 1
abbrev N_Lines_sorts : List Str := ["self", "row", "found"]
theorem sc_Lines_sorts : FnScope N_Lines_sorts ["self", "row"] (defScope s_Lines_sorts) := ⟨rfl, rfl, rfl, by decide +kernel, rfl, by decide +kernel, by decide +kernel⟩
theorem n_Lines_sorts_self : NmK s_Lines_sorts "self" .local := by decide +kernel
theorem n_Lines_sorts_row : NmK s_Lines_sorts "row" .local := by decide +kernel
theorem n_Lines_sorts_found : NmK s_Lines_sorts "found" .local := by decide +kernel
theorem n_Lines_sorts_len : NmK s_Lines_sorts "len" .globalImplicit := by decide +kernel
theorem n_Lines_sorts_MOST_THINGS : NmK s_Lines_sorts "MOST_THINGS" .globalImplicit := by decide +kernel
theorem n_Lines_sorts_THING : NmK s_Lines_sorts "THING" .globalImplicit := by decide +kernel
theorem n_Lines_sorts_MOST_EMPTIES : NmK s_Lines_sorts "MOST_EMPTIES" .globalImplicit := by decide +kernel
theorem n_Lines_sorts_EMPTY_terms : NmK s_Lines_sorts "EMPTY_terms" .globalImplicit := by decide +kernel
theorem n_Lines_sorts_NOTHING : NmK s_Lines_sorts "NOTHING" .globalImplicit := by decide +kernel
abbrev T_Lines_sorts (C : Addr) : Ct := fun ds μ Φ => ∃ a p q xs ys row, ds = [.raw (.ref a), .int row] ∧ μ a = some (oL C p q) ∧ μ p = some (.lst xs) ∧ μ q = some (.lst ys) ∧ (D.lst ys).flat = true ∧ SeqAt.shaped (D.lst ys).py = true ∧ Φ (.lst ((sortsS xs.length ys.length row).map D.str)) μ
theorem lst_if {c : Bool} {P : Prop} [Decidable P] (h : c = decide P) (s : Str) : (if c = true then D.lst [.str s] else D.lst []) = D.lst ((if P then [s] else []).map D.str) := by
  subst h
  by_cases p : P
  · rw [if_pos p, if_pos (decide_eq_true p)]
    rfl
  · rw [if_neg p, if_neg (by rw [decide_eq_false p]; exact Bool.false_ne_true)]
    rfl
theorem sorts_len (nx ny : Nat) : (if ny = 0 ∧ nx < 12 then [sT] else ([] : List Str)).length ≤ 1 ∧ (if ny < 8 then [sE] else ([] : List Str)).length ≤ 1 := by
  constructor
  · split <;> simp
  · split <;> simp
theorem isEmpty_len {α : Type} (xs : List α) : xs.isEmpty = decide (xs.length = 0) := by cases xs <;> simp
theorem ok_Lines_sorts {f : Addr} {fd : FuncData} (F : Fun K "sorts" "Lines.sorts" s_Lines_sorts f fd) (B : Blt mg) (L : Glo K mg) (K_Words : KWords K C_Words) (K_Lines : KLines K C_Lines) : FnOk P w K mg base CX0 1 f fd ["self", "row"] (Pr K (T_Lines_sorts C_Lines)) := by
  refine fun_ok F sc_Lines_sorts (fun ds μ Φ h => ?_) fun cdv A outer s H E hr ds μ Φ h => ?_
  · obtain ⟨a, p, q, xs, ys, row, rfl, _⟩ := h
    rfl
  · obtain ⟨a, p, q, xs, ys, row, rfl, m, mp, mq, fl, sh, h⟩ := h
    refine bx_cons (sx_set 2 rfl ?_ sc_Lines_sorts.nd (Or.inl n_Lines_sorts_found) (Or.inr n_Lines_sorts_found))
    refine Ev.to (Ev.is (ev_if (tv_w (wv_and (tv_cmp (ev_fld (ev_var 0 rfl rfl (Or.inl n_Lines_sorts_self) p_self) (fld_own (by walk_at "mem") K_Lines.cls K_Lines.empties_read rfl)) (ev_lst av_nil (by walk_at "sz")) (by walk_at "opEq") (nomark _)) (fun _ => (wv_and1 (tv_cmp (ev_callBX B.len bb_len (av_cons (ev_fld (ev_var 0 rfl rfl (Or.inl n_Lines_sorts_self) p_self) (fld_own (by walk_at "mem") K_Lines.cls K_Lines.things_read rfl)) av_nil) (by walk_at "cd") n_Lines_sorts_len p_len) (ev_gint L.MOST_THINGS n_Lines_sorts_MOST_THINGS p_MOST_THINGS) (opx_of opd_lt) (nomark _)))))) (fun _ => (ev_lst (av_cons (ev_gstr L.THING n_Lines_sorts_THING p_THING) av_nil) (by walk_at "sz"))) (fun _ => (ev_lst av_nil (by walk_at "sz")))) (lst_if (P := ys.length = 0 ∧ xs.length < 12) ?_ _)) ?_
    · rw [isEmpty_len, Bool.decide_and]
      congr 1
      exact decide_eq_decide.mpr (by omega)
    have l1 := (sorts_len xs.length ys.length).1
    have l2 := (sorts_len xs.length ys.length).2
    have sz : (D.str "a" :: List.map D.str (if ys.length = 0 ∧ xs.length < 12 then [sT] else [])).length ≤ 16777216 := by
      rw [List.length_cons, List.length_map]
      omega
    refine bx_cons (sx_set 2 rfl ?_ sc_Lines_sorts.nd (Or.inl n_Lines_sorts_found) (Or.inr n_Lines_sorts_found))
    refine ec_bin (Ev.to (ev_var 2 rfl rfl (Or.inl n_Lines_sorts_found) p_found) (Ev.to (Ev.is (ev_if (tv_cmp (ev_callBX B.len bb_len (av_cons (ev_fld (ev_var 0 rfl rfl (Or.inl n_Lines_sorts_self) p_self) (fld_own (by walk_at "mem") K_Lines.cls K_Lines.empties_read rfl)) av_nil) (by walk_at "cd") n_Lines_sorts_len p_len) (ev_gint L.MOST_EMPTIES n_Lines_sorts_MOST_EMPTIES p_MOST_EMPTIES) (opx_of opd_lt) (nomark _)) (fun _ => (ev_lst (av_cons (ev_gstr L.EMPTY_terms n_Lines_sorts_EMPTY_terms p_EMPTY_terms) av_nil) (by walk_at "sz"))) (fun _ => (ev_lst av_nil (by walk_at "sz")))) (lst_if (P := ys.length < 8) ?_ _)) ?_))
    · exact decide_eq_decide.mpr (by omega)
    refine OpX.mono (opx_of (opd_catL ?_)) fun d μ' ⟨e1, e2⟩ => ?_
    · rw [List.length_map, List.length_map]
      exact Nat.le_trans (Nat.add_le_add l1 l2) (by decide)
    subst e1
    subst e2
    refine bx_one (sx_ret (ec_bin (Ev.to (ev_var 2 rfl rfl (Or.inl n_Lines_sorts_found) p_found) (Ev.to (Ev.is (ev_if (tv_cmp (ev_var 1 rfl rfl (Or.inl n_Lines_sorts_row) p_row) ev_int (by walk_at "opEq") (nomark _)) (fun _ => (ev_lst (av_cons (ev_gstr L.NOTHING n_Lines_sorts_NOTHING p_NOTHING) av_nil) (by walk_at "sz"))) (fun _ => (ev_lst av_nil (by walk_at "sz")))) (lst_if (P := row = 0) rfl _)) ?_))))
    have l3 : (if row = 0 then [sN] else ([] : List Str)).length ≤ 1 := by split <;> simp
    refine OpX.mono (opx_of (opd_catL ?_)) fun d μ' ⟨e1, e2⟩ => ?_
    · rw [List.length_append, List.length_map, List.length_map, List.length_map]
      exact Nat.le_trans (Nat.add_le_add (Nat.add_le_add l1 l2) l3) (by decide)
    subst e1
    subst e2
    rw [← List.map_append, ← List.map_append]
    exact h
end
section
variable {P : Program} {w : World} {K : PySem.W.Frag} {mg : Str → Option Value} {base : Heap} {C_Words C_Lines : Addr}
/-- a row of a text -/
inductive Ln where
  | t (x : Th)
  | c (x : Int × Int)
  | n
abbrev Ln.ws : Ln → List Str
  | .t x => (wT x).map D.wt
  | .c x => (wC x).map D.wt
  | .n => [sN]
def Ln.tx (l : Ln) : Str := Txt.join " " l.ws
abbrev Ln.g : Ln → Prop
  | .t x => gT x
  | .c x => gC x
  | .n => True
theorem Ln.free (l : Ln) : ∀ s ∈ l.ws, 32 ∉ TL.tl s := fun s hs h32 => by
  cases l with
  | t x =>
    obtain ⟨d, hd, rfl⟩ := List.mem_map.mp hs
    exact (wT_ws x d hd 32 h32).2.1 rfl
  | c x =>
    obtain ⟨d, hd, rfl⟩ := List.mem_map.mp hs
    exact (wC_ws x d hd 32 h32).2.1 rfl
  | n =>
    have e := List.mem_singleton.mp hs
    subst e
    exact absurd h32 (by decide)
theorem Ln.ne (l : Ln) : l.ws ≠ [] := by
  cases l with
  | t x =>
    obtain ⟨p, o⟩ := x
    cases o <;> exact List.cons_ne_nil _ _
  | c x => exact List.cons_ne_nil _ _
  | n => exact List.cons_ne_nil _ _
theorem Ln.split (l : Ln) : Txt.split l.tx " " = l.ws := TL.split_join (s := 32) (S := []) (by decide +kernel) (by decide +kernel) l.ne l.free
theorem Ln.len (l : Ln) (g : l.g) : l.tx.length ≤ 1000 := by
  cases l with
  | t x => exact rowT_len (wT_len x) (wT_ok g)
  | c x => exact rowT_len (wC_len x) (wC_ok g)
  | n => exact (by decide : (Ln.n.tx).length ≤ 1000)
theorem sub_put2 {μ : Mem} {w p : Addr} {A Y : MO} (hw : μ w = none) (n : p ≠ w) : SubM (μ.put p Y) ((μ.put w A).put p Y) := fun b o e => by
  by_cases c : b = p
  · rw [c, Mem.put_same] at e ⊢
    exact e
  · rw [Mem.put_ne c] at e ⊢
    have n2 : b ≠ w := fun q => by
      rw [q, hw] at e
      cases e
    rw [Mem.put_ne n2]
    exact e
abbrev s_Lines_read : Stmt := inClass (top 45) 2
abbrev N_Lines_read : List Str := ["self", "line", "row", "words", "sort", "put"]
theorem sc_Lines_read : FnScope N_Lines_read ["self", "line", "row"] (defScope s_Lines_read) := ⟨rfl, rfl, rfl, by decide +kernel, rfl, by decide +kernel, by decide +kernel⟩
theorem p_words : PlainN "words" := by decide +kernel
theorem p_sort : PlainN "sort" := by decide +kernel
theorem p_Words : PlainN "Words" := by decide +kernel
theorem n_Lines_read_self : NmK s_Lines_read "self" .local := by decide +kernel
theorem n_Lines_read_line : NmK s_Lines_read "line" .local := by decide +kernel
theorem n_Lines_read_row : NmK s_Lines_read "row" .local := by decide +kernel
theorem n_Lines_read_words : NmK s_Lines_read "words" .local := by decide +kernel
theorem n_Lines_read_sort : NmK s_Lines_read "sort" .local := by decide +kernel
theorem n_Lines_read_put : NmK s_Lines_read "put" .local := by decide +kernel
theorem n_Lines_read_Words : NmK s_Lines_read "Words" .globalImplicit := by decide +kernel
theorem n_Lines_read_THING : NmK s_Lines_read "THING" .globalImplicit := by decide +kernel
theorem n_Lines_read_TAKEN : NmK s_Lines_read "TAKEN" .globalImplicit := by decide +kernel
theorem n_Lines_read_NEVER : NmK s_Lines_read "NEVER" .globalImplicit := by decide +kernel
theorem n_Lines_read_EMPTY_terms : NmK s_Lines_read "EMPTY_terms" .globalImplicit := by decide +kernel
abbrev T_Lines_read (C : Addr) : Ct := fun ds μ Φ => ∃ a p q xs ys row, ∃ l : Ln, ds = [.raw (.ref a), .str l.tx, .int row] ∧ μ a = some (oL C p q) ∧ μ p = some (.lst xs) ∧ μ q = some (.lst ys) ∧ (D.lst ys).flat = true ∧ SeqAt.shaped (D.lst ys).py = true ∧ l.g ∧
  match l with
  | .t x => ys = [] ∧ xs.length < 12 ∧ Φ (.str sT) (μ.put p (.lst (xs ++ [eT x])))
  | .c x => ys.length < 8 ∧ Φ (.str sE) (μ.put q (.lst (ys ++ [eC x])))
  | .n => row = 0 ∧ Φ (.str sN) μ
theorem ok_Lines_read {f : Addr} {fd : FuncData} (F : Fun K "read" "Lines.read" s_Lines_read f fd) (B : Blt mg) (L : Glo K mg) (K_Words : KWords K C_Words) (K_Lines : KLines K C_Lines) (D_Words___init__ : MakeAt P w K mg base "Words" C_Words ["self", "line", "row"] 1 (T_Words___init__ C_Words)) (D_Words_word_of : MethAt P w K mg base C_Words "word_of" ["self", "some"] 2 (T_Words_word_of C_Words)) (D_Words_end : MethAt P w K mg base C_Words "end" ["self"] 2 (T_Words_end C_Words)) (D_Lines_sorts : MethAt P w K mg base C_Lines "sorts" ["self", "row"] 1 (T_Lines_sorts C_Lines)) (D_Words_call : MethAt P w K mg base C_Words "call" ["self"] 3 (T_Words_call C_Words)) : FnOk P w K mg base CX0 4 f fd ["self", "line", "row"] (Pr K (T_Lines_read C_Lines)) := by
  refine fun_ok F sc_Lines_read (fun ds μ Φ h => ?_) fun cdv A outer s H E hr ds μ Φ h => ?_
  · obtain ⟨a, p, q, xs, ys, row, l, rfl, _⟩ := h
    rfl
  · obtain ⟨a, p, q, xs, ys, row, l, rfl, m, mp, mq, fl, sh, g, h⟩ := h
    have sz : l.tx.length + 2 ≤ sizeLine := Nat.le_trans (Nat.add_le_add_right (l.len g) 2) (by decide)
    refine bx_cons (sx_set 3 rfl ?_ sc_Lines_read.nd (Or.inl n_Lines_read_words) (Or.inr n_Lines_read_words))
    refine (ec_make D_Words___init__ (hr.mono (by decide)) (Av.to (av_cons (ev_var 1 rfl rfl (Or.inl n_Lines_read_line) p_line) (av_cons (ev_var 2 rfl rfl (Or.inl n_Lines_read_row) p_row) av_nil)) ?_) n_Lines_read_Words p_Words)
    intro wa hw
    have na : a ≠ wa := fun e => by rw [e, hw] at m; cases m
    have np : p ≠ wa := fun e => by rw [e, hw] at mp; cases mp
    have nq : q ≠ wa := fun e => by rw [e, hw] at mq; cases mq
    refine ⟨wa, l.tx, row, rfl, Mem.put_same, sz, rfl, ?_⟩
    rw [Mem.put_put, l.split]
    refine bx_cons (sx_set 4 rfl ?_ sc_Lines_read.nd (Or.inl n_Lines_read_sort) (Or.inr n_Lines_read_sort))
    refine (ec_meth D_Words_word_of (hr.mono (by decide)) (Ev.to (ev_var 3 rfl rfl (Or.inl n_Lines_read_words) p_words) ⟨ins_own (by walk_at "mem") (by decide), (ac_cons (ec_meth D_Lines_sorts (hr.mono (by decide)) (Ev.to (ev_var 0 rfl rfl (Or.inl n_Lines_read_self) p_self) ⟨ins_own (by walk_at "mem") (by decide), (Av.to (av_cons (ev_var 2 rfl rfl (Or.inl n_Lines_read_row) p_row) av_nil) ?_)⟩)))⟩))
    refine ⟨a, p, q, xs, ys, row, rfl, by rw [Mem.put_ne na]; exact m, by rw [Mem.put_ne np]; exact mp, by rw [Mem.put_ne nq]; exact mq, fl, sh, ?_⟩
    refine ac_nil ?_
    cases l with
    | n =>
      obtain ⟨r0, h⟩ := h
      refine ⟨wa, _, row, 0, _, sN, rfl, Mem.put_same, rfl, by rw [r0]; simp [sortsS], ?_⟩
      rw [Mem.put_put]
      refine bx_cons (sx_ifF (tv_cmp (ev_var 4 rfl rfl (Or.inl n_Lines_read_sort) p_sort) (ev_gstr L.THING n_Lines_read_THING p_THING) (by walk_at "opEq") (nomark _)) (by decide) (bx_one (sx_ifF (tv_cmp (ev_var 4 rfl rfl (Or.inl n_Lines_read_sort) p_sort) (ev_gstr L.EMPTY_terms n_Lines_read_EMPTY_terms p_EMPTY_terms) (by walk_at "opEq") (nomark _)) (by decide) (bx_nil ?_))))
      refine bx_cons (sx_expr (ec_meth0 D_Words_end (hr.mono (by decide)) (Ev.to (ev_var 3 rfl rfl (Or.inl n_Lines_read_words) p_words) ⟨ins_own (by walk_at "mem") (by decide), ?_⟩)))
      refine ⟨wa, _, row, rfl, Mem.put_same, ?_⟩
      refine bx_drop (ν := μ) (subM_put hw) (bx_one (sx_ret (Ev.to (ev_var 4 rfl rfl (Or.inl n_Lines_read_sort) p_sort) h)))
    | c x =>
      obtain ⟨l8, h⟩ := h
      refine ⟨wa, _, row, 0, _, sE, rfl, Mem.put_same, rfl, by simp [sortsS, l8], ?_⟩
      rw [Mem.put_put]
      refine bx_cons (sx_ifF (tv_cmp (ev_var 4 rfl rfl (Or.inl n_Lines_read_sort) p_sort) (ev_gstr L.THING n_Lines_read_THING p_THING) (by walk_at "opEq") (nomark _)) (by decide) (bx_one (sx_ifT (tv_cmp (ev_var 4 rfl rfl (Or.inl n_Lines_read_sort) p_sort) (ev_gstr L.EMPTY_terms n_Lines_read_EMPTY_terms p_EMPTY_terms) (by walk_at "opEq") (nomark _)) (by decide) (bx_one ?_))))
      refine sx_app (ds := ys) (ev_fld (ev_var 0 rfl rfl (Or.inl n_Lines_read_self) p_self) (fld_own (by walk_at "mem") K_Lines.cls K_Lines.empties_read rfl)) (by walk_at "mem") ?_
      refine (ec_meth0 D_Words_call (hr.mono (by decide)) (Ev.to (ev_var 3 rfl rfl (Or.inl n_Lines_read_words) p_words) ⟨ins_own (by walk_at "mem") (by decide), ?_⟩))
      refine ⟨wa, _, row, 1, x, rfl, Mem.put_same, rfl, rfl, g, ?_⟩
      rw [Mem.put_put]
      refine ⟨by rw [Mem.put_ne nq]; exact mq, Nat.lt_of_lt_of_le l8 (by decide), ?_⟩
      refine bx_cons (sx_expr (ec_meth0 D_Words_end (hr.mono (by decide)) (Ev.to (ev_var 3 rfl rfl (Or.inl n_Lines_read_words) p_words) ⟨ins_own (by walk_at "mem") (by decide), ?_⟩)))
      refine ⟨wa, _, row, rfl, by rw [Mem.put_ne (Ne.symm nq)]; exact Mem.put_same, ?_⟩
      exact bx_drop (sub_put2 hw nq) (bx_one (sx_ret (Ev.to (ev_var 4 rfl rfl (Or.inl n_Lines_read_sort) p_sort) h)))
    | t x =>
      obtain ⟨y0, l12, h⟩ := h
      subst y0
      refine ⟨wa, _, row, 0, _, sT, rfl, Mem.put_same, ?_, by simp [sortsS, l12], ?_⟩
      · obtain ⟨c, o⟩ := x
        cases o <;> rfl
      rw [Mem.put_put]
      refine bx_cons (sx_ifT (tv_cmp (ev_var 4 rfl rfl (Or.inl n_Lines_read_sort) p_sort) (ev_gstr L.THING n_Lines_read_THING p_THING) (by walk_at "opEq") (nomark _)) (by decide) ?_)
      refine bx_cons (sx_set 5 rfl ?_ sc_Lines_read.nd (Or.inl n_Lines_read_put) (Or.inr n_Lines_read_put))
      refine (ec_meth0 D_Words_call (hr.mono (by decide)) (Ev.to (ev_var 3 rfl rfl (Or.inl n_Lines_read_words) p_words) ⟨ins_own (by walk_at "mem") (by decide), ?_⟩))
      refine ⟨wa, _, row, 1, x.1, rfl, Mem.put_same, ?_, ?_, g.1, ?_⟩
      · obtain ⟨c, o⟩ := x
        cases o <;> rfl
      · obtain ⟨c, o⟩ := x
        cases o <;> rfl
      rw [Mem.put_put]
      refine bx_one (sx_app (ds := xs) (ev_fld (ev_var 0 rfl rfl (Or.inl n_Lines_read_self) p_self) (fld_own (by walk_at "mem") K_Lines.cls K_Lines.things_read rfl)) (by walk_at "mem") ?_)
      refine ec_tup (ac_cons (Ev.to (ev_var 5 rfl rfl (Or.inl n_Lines_read_put) p_put) (ac_cons (ec_if (tc_cmp (ec_meth D_Words_word_of (hr.mono (by decide)) (Ev.to (ev_var 3 rfl rfl (Or.inl n_Lines_read_words) p_words) ⟨ins_own (by walk_at "mem") (by decide), (Av.to (av_cons (ev_lst (av_cons (ev_gstr L.TAKEN n_Lines_read_TAKEN p_TAKEN) (av_cons (ev_gstr L.NEVER n_Lines_read_NEVER p_NEVER) av_nil)) (by walk_at "sz")) av_nil) ?_)⟩)) (nomark _))))))
      obtain ⟨c, o⟩ := x
      cases o with
      | none =>
        refine ⟨wa, _, row, 3, [("taken" : Str), "never"], ("never" : Str), rfl, Mem.put_same, rfl, by simp, ?_⟩
        rw [Mem.put_put]
        refine Ev.to (ev_gstr L.TAKEN n_Lines_read_TAKEN p_TAKEN) (OpX.mono (opx_of opd_eqS) fun d μ' ⟨e1, e2⟩ => ⟨false, e1.trans (congrArg D.bl (by decide)), ?_⟩)
        subst e2
        refine Ev.to ev_non (ac_nil ⟨Nat.le_of_ble_eq_true rfl, by rw [Mem.put_ne np]; exact mp, Nat.lt_of_lt_of_le l12 (by decide), ?_⟩)
        refine bx_cons (sx_expr (ec_meth0 D_Words_end (hr.mono (by decide)) (Ev.to (ev_var 3 rfl rfl (Or.inl n_Lines_read_words) p_words) ⟨ins_own (by walk_at "mem") (by decide), ?_⟩)))
        refine ⟨wa, _, row, rfl, by rw [Mem.put_ne (Ne.symm np)]; exact Mem.put_same, ?_⟩
        exact bx_drop (sub_put2 hw np) (bx_one (sx_ret (Ev.to (ev_var 4 rfl rfl (Or.inl n_Lines_read_sort) p_sort) h)))
      | some d0 =>
        refine ⟨wa, _, row, 3, [("taken" : Str), "never"], ("taken" : Str), rfl, Mem.put_same, rfl, by simp, ?_⟩
        rw [Mem.put_put]
        refine Ev.to (ev_gstr L.TAKEN n_Lines_read_TAKEN p_TAKEN) (OpX.mono (opx_of opd_eqS) fun d μ' ⟨e1, e2⟩ => ⟨true, e1.trans (congrArg D.bl (by decide)), ?_⟩)
        subst e2
        refine (ec_meth0 D_Words_call (hr.mono (by decide)) (Ev.to (ev_var 3 rfl rfl (Or.inl n_Lines_read_words) p_words) ⟨ins_own (by walk_at "mem") (by decide), ?_⟩))
        refine ⟨wa, _, row, 4, d0, rfl, Mem.put_same, rfl, rfl, g.2 d0 rfl, ?_⟩
        rw [Mem.put_put]
        refine ac_nil ⟨Nat.le_of_ble_eq_true rfl, by rw [Mem.put_ne np]; exact mp, Nat.lt_of_lt_of_le l12 (by decide), ?_⟩
        refine bx_cons (sx_expr (ec_meth0 D_Words_end (hr.mono (by decide)) (Ev.to (ev_var 3 rfl rfl (Or.inl n_Lines_read_words) p_words) ⟨ins_own (by walk_at "mem") (by decide), ?_⟩)))
        refine ⟨wa, _, row, rfl, by rw [Mem.put_ne (Ne.symm np)]; exact Mem.put_same, ?_⟩
        exact bx_drop (sub_put2 hw np) (bx_one (sx_ret (Ev.to (ev_var 4 rfl rfl (Or.inl n_Lines_read_sort) p_sort) h)))
abbrev s_need_text : Stmt := top 44
abbrev N_need_text : List Str := ["text"]
theorem sc_need_text : FnScope N_need_text ["text"] (defScope s_need_text) := ⟨rfl, rfl, rfl, by decide +kernel, rfl, by decide +kernel, by decide +kernel⟩
theorem p_text : PlainN "text" := by decide +kernel
theorem p_BadText : PlainN "BadText" := by decide +kernel
theorem n_need_text_text : NmK s_need_text "text" .local := by decide +kernel
theorem n_need_text_isinstance : NmK s_need_text "isinstance" .globalImplicit := by decide +kernel
theorem n_need_text_str : NmK s_need_text "str" .globalImplicit := by decide +kernel
theorem n_need_text_BadText : NmK s_need_text "BadText" .globalImplicit := by decide +kernel
abbrev T_need_text : Ct := Pure fun ds r => ∃ s, ds = [.str s] ∧ r = .non
theorem ok_need_text {f : Addr} {fd : FuncData} (F : Fun K "need_text" "need_text" s_need_text f fd) (B : Blt mg) (L : Glo K mg) (K_Words : KWords K C_Words) (K_Lines : KLines K C_Lines) : FnOk P w K mg base CX0 1 f fd ["text"] (Pr K T_need_text) := by
  refine fun_ok F sc_need_text (fun ds μ Φ h => ?_) fun cdv A outer s H E hr ds μ Φ h => ?_
  · obtain ⟨r, ⟨s, rfl, _⟩, _⟩ := h
    rfl
  · obtain ⟨r, ⟨s, rfl, rfl⟩, h⟩ := h
    exact bx_one (sx_ifF (tv_not (tv_val (ev_callBX B.isinstance bb_isinstance (av_cons (ev_var 0 rfl rfl (Or.inl n_need_text_text) p_text) (av_cons (ev_ty B.str bb_str n_need_text_str p_str) av_nil)) (cdx_of isi_str) n_need_text_isinstance p_isinstance) (fun _ => rfl))) (by rfl) (bx_nil h))
/-- the rows of a history -/
def lnsH (h : Hy) : List Ln := if h.1 = [] ∧ h.2 = [] then [.n] else h.1.map Ln.t ++ h.2.map Ln.c
theorem textH_lns (h : Hy) : textH h = Txt.join "\n" ((lnsH h).map Ln.tx) := by
  unfold textH lnsH
  by_cases c : h.1 = [] ∧ h.2 = []
  · rw [if_pos c]
    obtain ⟨c1, c2⟩ := c
    have e : linesH h = [] := by
      unfold linesH
      rw [c1, c2]
      rfl
    rw [if_pos e]
    decide +kernel
  · rw [if_neg c]
    have e : linesH h ≠ [] := fun q => by
      have q := List.append_eq_nil_iff.mp q
      exact c ⟨List.map_eq_nil_iff.mp q.1, List.map_eq_nil_iff.mp q.2⟩
    rw [if_neg e, List.map_append, List.map_map, List.map_map]
    rfl
theorem lnsH_ne (h : Hy) : (lnsH h).map Ln.tx ≠ [] := by
  unfold lnsH
  split
  · exact List.cons_ne_nil _ _
  · rename_i c
    intro q
    have q := List.append_eq_nil_iff.mp (List.map_eq_nil_iff.mp q)
    exact c ⟨List.map_eq_nil_iff.mp q.1, List.map_eq_nil_iff.mp q.2⟩
theorem lnsH_split (h : Hy) : Txt.split (textH h) "\n" = (lnsH h).map Ln.tx := by
  rw [textH_lns]
  refine TL.split_join (s := 10) (S := []) (by decide +kernel) (by decide +kernel) (lnsH_ne h) fun s hs h10 => ?_
  obtain ⟨l, hl, rfl⟩ := List.mem_map.mp hs
  cases l with
  | t x => exact (row_ws (wT_ws x) 10 h10).2 rfl
  | c x => exact (row_ws (wC_ws x) 10 h10).2 rfl
  | n => exact absurd h10 (by decide +kernel)
theorem lnsH_len {h : Hy} (g : gH h) : (lnsH h).length ≤ 20 := by
  have := g.l1
  have := g.l2
  unfold lnsH
  split
  · exact (by decide : 1 ≤ 20)
  · rw [List.length_append, List.length_map, List.length_map]
    omega
theorem lnsH_g {h : Hy} (g : gH h) : ∀ l ∈ lnsH h, l.g := by
  intro l hl
  unfold lnsH at hl
  split at hl
  · rw [List.mem_singleton.mp hl]
    trivial
  · rcases List.mem_append.mp hl with q | q
    · obtain ⟨t, ht, rfl⟩ := List.mem_map.mp q
      exact g.ts t ht
    · obtain ⟨t, ht, rfl⟩ := List.mem_map.mp q
      exact g.cs t ht
theorem textH_len {h : Hy} (g : gH h) : (textH h).length ≤ 20020 := by
  rw [textH_lns]
  refine Nat.le_trans (join_len _ _) ?_
  have l := lnsH_len g
  have := sum_le (f := fun s : Str => s.length) (n := 1000) (xs := (lnsH h).map Ln.tx) fun s hs => by
    obtain ⟨l, hl, rfl⟩ := List.mem_map.mp hs
    exact l.len (lnsH_g g l hl)
  have e : ("\n" : Str).length = 1 := by decide
  rw [e]
  rw [List.length_map] at this ⊢
  have := Nat.mul_le_mul_right 1000 l
  omega
/-- what was read ahead of row i -/
abbrev xsI (h : Hy) (i : Nat) : List D := (h.1.take i).map eT
abbrev ysI (h : Hy) (i : Nat) : List D := (h.2.take (i - h.1.length)).map eC
theorem full (h : Hy) : xsI h (lnsH h).length = h.1.map eT ∧ ysI h (lnsH h).length = h.2.map eC := by
  unfold xsI ysI lnsH
  by_cases c : h.1 = [] ∧ h.2 = []
  · rw [if_pos c, c.1, c.2]
    exact ⟨rfl, rfl⟩
  · rw [if_neg c, List.length_append, List.length_map, List.length_map]
    refine ⟨?_, ?_⟩
    · rw [List.take_of_length_le (Nat.le_add_right _ _)]
    · rw [Nat.add_sub_cancel_left, List.take_length]
theorem sub_put {μ μ' : Mem} {p : Addr} {Y : MO} (s : SubM μ μ') (h : μ p = none) : SubM μ (μ'.put p Y) := fun b o e => by
  have n : b ≠ p := fun q => by rw [q, h] at e; cases e
  rw [Mem.put_ne n]
  exact s b o e
abbrev s_read_history : Stmt := top 46
abbrev N_read_history : List Str := ["text", "lines", "reader", "row", "line"]
theorem sc_read_history : FnScope N_read_history ["text"] (defScope s_read_history) := ⟨rfl, rfl, rfl, by decide +kernel, rfl, by decide +kernel, by decide +kernel⟩
theorem p_reader : PlainN "reader" := by decide +kernel
theorem p_need_text : PlainN "need_text" := by decide +kernel
theorem p_Lines : PlainN "Lines" := by decide +kernel
theorem n_read_history_text : NmK s_read_history "text" .local := by decide +kernel
theorem n_read_history_lines : NmK s_read_history "lines" .local := by decide +kernel
theorem n_read_history_reader : NmK s_read_history "reader" .local := by decide +kernel
theorem n_read_history_row : NmK s_read_history "row" .local := by decide +kernel
theorem n_read_history_line : NmK s_read_history "line" .local := by decide +kernel
theorem n_read_history_need_text : NmK s_read_history "need_text" .globalImplicit := by decide +kernel
theorem n_read_history_NEWLINE : NmK s_read_history "NEWLINE" .globalImplicit := by decide +kernel
theorem n_read_history_Lines : NmK s_read_history "Lines" .globalImplicit := by decide +kernel
theorem n_read_history_enumerate : NmK s_read_history "enumerate" .globalImplicit := by decide +kernel
theorem n_read_history_NOTHING : NmK s_read_history "NOTHING" .globalImplicit := by decide +kernel
theorem n_read_history_len : NmK s_read_history "len" .globalImplicit := by decide +kernel
theorem n_read_history_BadText : NmK s_read_history "BadText" .globalImplicit := by decide +kernel
theorem n_read_history_need_history : NmK s_read_history "need_history" .globalImplicit := by decide +kernel
theorem n_read_history_tuple : NmK s_read_history "tuple" .globalImplicit := by decide +kernel
abbrev T_read_history : Ct := Pure fun ds r => ∃ h, ds = [.str (textH h)] ∧ gH h ∧ r = eH h
theorem sm_cs {cs : List (Int × Int)} (h : ∀ c ∈ cs, gC c) : ∀ d ∈ cs.map eC, Sm 1 82 d := fun d hd => by
  obtain ⟨c, hc, rfl⟩ := List.mem_map.mp hd
  have g := h c hc
  obtain ⟨g1, g2, g3⟩ := g
  refine Sm.tup (k := 0) (n := 40) (fun d hd => ?_) (by show 2 * 41 ≤ 82; decide)
  have hd : d = .int c.1 ∨ d = .int c.2 := by simpa using hd
  rcases hd with rfl | rfl <;> exact Sm.int (by omega) (by decide)
theorem ok_read_history {f : Addr} {fd : FuncData} (F : Fun K "read_history" "read_history" s_read_history f fd) (B : Blt mg) (L : Glo K mg) (K_Words : KWords K C_Words) (K_Lines : KLines K C_Lines) (D_need_text : DefAt P w K mg base "need_text" ["text"] 1 T_need_text) (D_need_history : DefAt P w K mg base "need_history" ["thing"] 5 T_need_history) (D_Lines___init__ : MakeAt P w K mg base "Lines" C_Lines ["self"] 1 (T_Lines___init__ C_Lines)) (D_Lines_read : MethAt P w K mg base C_Lines "read" ["self", "line", "row"] 4 (T_Lines_read C_Lines)) : FnOk P w K mg base CX0 6 f fd ["text"] (Pr K T_read_history) := by
  refine fun_ok F sc_read_history (fun ds μ Φ h => ?_) fun cdv A outer s H E hr ds μ Φ h => ?_
  · obtain ⟨r, ⟨s, rfl, _⟩, _⟩ := h
    rfl
  · obtain ⟨r, ⟨h0, rfl, g, rfl⟩, h⟩ := h
    have tl := textH_len g
    have tl2 : (textH h0).length + 2 ≤ sizeLine := Nat.le_trans (Nat.add_le_add_right tl 2) (by decide)
    have nl : (("\n" : Str).length == 0) = false := by decide
    refine bx_cons (sx_expr (Ev.to (ev_call D_need_text (hr.mono (by decide)) (av_cons (ev_var 0 rfl rfl (Or.inl n_read_history_text) p_text) av_nil) ⟨_, rfl, rfl⟩ n_read_history_need_text p_need_text) ?_))
    refine bx_cons (sx_par rfl sc_read_history.nd (i := 1) (j := 2) rfl rfl (by decide) n_read_history_lines n_read_history_reader ?_ rfl)
    refine ac_cons (Ev.to (Ev.is (ev_bm PySem.F.plainAttrs_str PySem.F.slot_str_split PySem.F.type_str_split (ev_var 0 rfl rfl (Or.inl n_read_history_text) p_text) tyd_str (av_cons (ev_gstr L.NEWLINE n_read_history_NEWLINE p_NEWLINE) av_nil) (by walk_at "md")) (congrArg (fun x => D.lst (x.map D.str)) (lnsH_split h0))) (ac_cons (ec_make0 D_Lines___init__ (hr.mono (by decide)) ?_ n_read_history_Lines p_Lines)))
    intro a ha
    refine ⟨a, rfl, Mem.put_same, fun p q μ1 pa qa pq hp hq m mp mq rest => ⟨rfl, ac_nil ⟨_, _, rfl, ?_⟩⟩⟩
    rw [Mem.put_ne pa] at hp
    rw [Mem.put_ne qa] at hq
    rw [List.map_map]
    refine bx_cons (sx_for (wk_enum B.enumerate (ev_var 1 rfl rfl (Or.inl n_read_history_lines) p_lines) n_read_history_enumerate) (fun i ρ' μ' => (∃ u v, ρ' = [some (.str (textH h0)), some (.lst ((lnsH h0).map (D.str ∘ Ln.tx))), some (.raw (.ref a)), u, v]) ∧ μ' a = some (oL C_Lines p q) ∧ μ' p = some (.lst (xsI h0 i)) ∧ μ' q = some (.lst (ysI h0 i)) ∧ SubM μ μ')
      ⟨⟨_, _, rfl⟩, m, mp, ?_, fun b o e => ?_⟩ (fun i d ρ' μ' hd hI => ?_) (fun ρ' μ' hI => ?_) PassesOwn.never rfl)
    · rw [mq]
      simp [ysI]
    · have b1 : b ≠ a := fun z => by rw [z, ha] at e; cases e
      have b2 : b ≠ p := fun z => by rw [z, hp] at e; cases e
      have b3 : b ≠ q := fun z => by rw [z, hq] at e; cases e
      rw [rest b b1 b2 b3, Mem.put_ne b1]
      exact e
    · obtain ⟨⟨u, v, rfl⟩, m, mp, mq, sub⟩ := hI
      obtain ⟨l, hl, rfl⟩ := enumD_get hd
      refine ⟨_, (gv_tup (gvl_cons (gv_name 3 rfl sc_read_history.nd (Or.inl n_read_history_row) (Or.inr n_read_history_row)) (gvl_cons (gv_name 4 rfl sc_read_history.nd (Or.inl n_read_history_line) (Or.inr n_read_history_line)) gvl_nil)) rfl rfl), ?_⟩
      refine bx_one (sx_if (tc_w (wc_and (tc_cmp (ec_meth D_Lines_read (hr.mono (by decide)) (Ev.to (ev_var 2 rfl rfl (Or.inl n_read_history_reader) p_reader) ⟨ins_own (by walk_at "mem") (by decide), (Av.to (av_cons (ev_var 4 rfl rfl (Or.inl n_read_history_line) p_line) (av_cons (ev_var 3 rfl rfl (Or.inl n_read_history_row) p_row) av_nil)) ?_)⟩)) (nomark _)))))
      have gl := lnsH_g g l (List.mem_of_getElem? hl)
      have sm : Sm 2 1000 (D.lst (ysI h0 i)) := Sm.lst (sm_cs fun c hc => g.cs c (List.mem_of_mem_take hc)) (by
        have := g.l2
        rw [List.length_map, List.length_take]
        omega)
      refine ⟨a, p, q, _, _, _, l, rfl, m, mp, mq, sm.flat, sm.shaped (by decide), gl, ?_⟩
      have np : p ≠ a := pa
      have nq : q ≠ a := qa
      by_cases c : h0.1 = [] ∧ h0.2 = []
      · have e : lnsH h0 = [.n] := if_pos c
        rw [e] at hl
        cases i with
        | succ j => cases hl
        | zero =>
          cases hl
          refine ⟨rfl, Ev.to (ev_gstr L.NOTHING n_read_history_NOTHING p_NOTHING) (OpX.mono (opx_of opd_eqS) fun d μ2 ⟨e1, e2⟩ => ⟨true, e1.trans (congrArg D.bl (by decide)), ?_⟩)⟩
          subst e2
          refine wc_and1 (Tv.to (Tv.is (tv_cmp (ev_callBX B.len bb_len (av_cons (ev_var 1 rfl rfl (Or.inl n_read_history_lines) p_lines) av_nil) (by walk_at "cd") n_read_history_len p_len) ev_int (opx_of opd_gt) (nomark _)) (?_ : _ = false)) ?_)
          · rw [List.length_map, e]
            rfl
          refine bx_nil ⟨⟨_, _, rfl⟩, m, ?_, ?_, sub⟩
          · rw [mp]
            unfold xsI
            rw [c.1]
            rfl
          · rw [mq]
            unfold ysI
            rw [c.2, List.take_nil, List.take_nil]
      · have e : lnsH h0 = h0.1.map Ln.t ++ h0.2.map Ln.c := if_neg c
        rw [e] at hl
        by_cases li : i < h0.1.length
        · rw [List.getElem?_append_left (by rw [List.length_map]; exact li), List.getElem?_map] at hl
          have hx := List.getElem?_eq_getElem li
          rw [hx] at hl
          cases hl
          have l12 := g.l1
          have ey : ∀ j, j ≤ h0.1.length → ysI h0 j = [] := fun j hj => by
            unfold ysI
            rw [Nat.sub_eq_zero_of_le hj]
            rfl
          refine ⟨ey i (Nat.le_of_lt li), by rw [List.length_map, List.length_take]; omega, Ev.to (ev_gstr L.NOTHING n_read_history_NOTHING p_NOTHING) (OpX.mono (opx_of opd_eqS) fun d μ2 ⟨e1, e2⟩ => ⟨false, e1.trans (congrArg D.bl (by decide)), ?_⟩)⟩
          subst e2
          refine bx_nil ⟨⟨_, _, rfl⟩, by rw [Mem.put_ne (Ne.symm np)]; exact m, ?_, ?_, sub_put sub hp⟩
          · rw [Mem.put_same]
            unfold xsI
            rw [List.take_add_one, hx, List.map_append]
            rfl
          · rw [Mem.put_ne (Ne.symm pq), mq, ey i (Nat.le_of_lt li), ey (i + 1) li]
        · have li := Nat.le_of_not_lt li
          rw [List.getElem?_append_right (by rw [List.length_map]; exact li), List.length_map, List.getElem?_map] at hl
          cases hx : h0.2[i - h0.1.length]? with
          | none => rw [hx] at hl; cases hl
          | some x =>
            rw [hx] at hl
            cases hl
            have l8 := g.l2
            have lx := (List.getElem?_eq_some_iff.mp hx).1
            refine ⟨by rw [List.length_map, List.length_take]; omega, Ev.to (ev_gstr L.NOTHING n_read_history_NOTHING p_NOTHING) (OpX.mono (opx_of opd_eqS) fun d μ2 ⟨e1, e2⟩ => ⟨false, e1.trans (congrArg D.bl (by decide)), ?_⟩)⟩
            subst e2
            refine bx_nil ⟨⟨_, _, rfl⟩, by rw [Mem.put_ne (Ne.symm nq)]; exact m, ?_, ?_, sub_put sub hq⟩
            · rw [Mem.put_ne pq, mp]
              unfold xsI
              rw [List.take_of_length_le li, List.take_of_length_le (Nat.le_succ_of_le li)]
            · rw [Mem.put_same]
              unfold ysI
              rw [Nat.sub_add_comm li, List.take_add_one, hx, List.map_append]
              rfl
    obtain ⟨⟨u, v, rfl⟩, m, mp, mq, sub⟩ := hI
    have ln : (enumD ((lnsH h0).map (D.str ∘ Ln.tx))).length = (lnsH h0).length := by
      unfold enumD
      rw [List.length_mapIdx, List.length_map]
    rw [ln, (full h0).1] at mp
    rw [ln, (full h0).2] at mq
    exact bx_one (sx_ret (ec_drop (Ev.to (ev_call D_need_history (hr.mono (by decide)) (av_cons (ev_tup (av_cons (ev_callTyX B.tuple bb_tuple (av_cons (ev_fld (ev_var 2 rfl rfl (Or.inl n_read_history_reader) p_reader) (fld_own (by walk_at "mem") K_Lines.cls K_Lines.things_read rfl)) av_nil) (by walk_at "cd") n_read_history_tuple p_tuple) (av_cons (ev_callTyX B.tuple bb_tuple (av_cons (ev_fld (ev_var 2 rfl rfl (Or.inl n_read_history_reader) p_reader) (fld_own (by walk_at "mem") K_Lines.cls K_Lines.empties_read rfl)) av_nil) (by walk_at "cd") n_read_history_tuple p_tuple) av_nil)) (by walk_at "sz")) av_nil) ⟨h0, rfl, g, rfl⟩ n_read_history_need_history p_need_history) ⟨μ, sub, h⟩)))
end
section
variable {P : Program} {w : World} {K : PySem.W.Frag} {mg : Str → Option Value} {base : Heap} {C_Words C_Lines : Addr}
def mixI (c k : Int) : Int := (c % 2147483647 * (48271 + 2 * k * k) + 69621 * k + 11) % 2147483647 * 69621 % 2147483629
abbrev s__law_mixed : Stmt := top 48
abbrev N__law_mixed : List Str := ["_law_cell", "_law_k"]
theorem sc__law_mixed : FnScope N__law_mixed ["_law_cell", "_law_k"] (defScope s__law_mixed) := ⟨rfl, rfl, rfl, by decide +kernel, rfl, by decide +kernel, by decide +kernel⟩
theorem p__law_cell : PlainN "_law_cell" := by decide +kernel
theorem p__law_k : PlainN "_law_k" := by decide +kernel
theorem n__law_mixed__law_cell : NmK s__law_mixed "_law_cell" .local := by decide +kernel
theorem n__law_mixed__law_k : NmK s__law_mixed "_law_k" .local := by decide +kernel
theorem n__law_mixed_int : NmK s__law_mixed "int" .globalImplicit := by decide +kernel
abbrev T__law_mixed : Ct := Pure fun ds r => ∃ c k, ds = [.int c, .int k] ∧ 0 ≤ k ∧ k < 1000000000 ∧ r = .int (mixI c k)
theorem ok__law_mixed {f : Addr} {fd : FuncData} (F : Fun K "_law_mixed" "_law_mixed" s__law_mixed f fd) (B : Blt mg) (L : Glo K mg) : FnOk P w K mg base CX0 1 f fd ["_law_cell", "_law_k"] (Pr K T__law_mixed) := by
  refine fun_ok F sc__law_mixed (fun ds μ Φ h => ?_) fun cdv A outer s H E hr ds μ Φ h => ?_
  · obtain ⟨r, ⟨c, k, rfl, _⟩, _⟩ := h
    rfl
  · obtain ⟨r, ⟨c, k, rfl, k0, k1, rfl⟩, h⟩ := h
    refine bx_cons (sx_set 0 rfl ?_ sc__law_mixed.nd (Or.inl n__law_mixed__law_cell) (Or.inr n__law_mixed__law_cell))
    refine Ev.to (ev_binX (ev_callTyX B.int bb_int (av_cons (ev_var 0 rfl rfl (Or.inl n__law_mixed__law_cell) p__law_cell) av_nil) (by walk_at "cd") n__law_mixed_int p_int) ev_int (by walk_at "opMod")) ?_
    exact bx_one (sx_ret (Ev.to (ev_binX (ev_binX (ev_binX (ev_binX (ev_binX (ev_binX (ev_var 0 rfl rfl (Or.inl n__law_mixed__law_cell) p__law_cell) (ev_binX ev_int (ev_binX (ev_binX ev_int (ev_var 1 rfl rfl (Or.inl n__law_mixed__law_k) p__law_k) (by walk_at "opMult")) (ev_var 1 rfl rfl (Or.inl n__law_mixed__law_k) p__law_k) (by walk_at "opMult")) (by walk_at "opAdd")) (by walk_at "opMult")) (ev_binX ev_int (ev_var 1 rfl rfl (Or.inl n__law_mixed__law_k) p__law_k) (by walk_at "opMult")) (by walk_at "opAdd")) ev_int (by walk_at "opAdd")) ev_int (by walk_at "opMod")) ev_int (by walk_at "opMult")) ev_int (by walk_at "opMod")) h))
/-- the state of the draws -/
abbrev kS : List Key := [Sum.inr "cells", Sum.inr "lefts", Sum.inr "at", Sum.inr "room"]
abbrev oS (l : Addr) (cs : List Int) (n : Nat) : MO := .dK kS [.lst (cs.map D.int), .raw (.ref l), .int n, .int 0]
def St (s l : Addr) (n : Nat) (μ : Mem) : Prop := ∃ (cs ls : List Int) (k : Nat), μ s = some (oS l cs k) ∧ μ l = some (.lst (ls.map D.int)) ∧ cs.length = ls.length ∧ 0 < cs.length ∧ cs.length ≤ 100 ∧ k ≤ n ∧ s ≠ l
def Fr (s l : Addr) (μ μ' : Mem) : Prop := ∀ b o, b ≠ s → b ≠ l → μ b = some o → μ' b = some o
theorem Fr.refl {s l : Addr} {μ : Mem} : Fr s l μ μ := fun _ _ _ _ e => e
theorem Fr.trans {s l : Addr} {μ ν κ : Mem} (h : Fr s l μ ν) (k : Fr s l ν κ) : Fr s l μ κ := fun b o n1 n2 e => k b o n1 n2 (h b o n1 n2 e)
theorem St.mono {s l : Addr} {n m : Nat} {μ : Mem} (h : St s l n μ) (q : n ≤ m) : St s l m μ := by
  obtain ⟨cs, ls, k, h1, h2, h3, h4, h5, h6, h7⟩ := h
  exact ⟨cs, ls, k, h1, h2, h3, h4, h5, Nat.le_trans h6 q, h7⟩
abbrev s__law_begin : Stmt := top 49
abbrev N__law_begin : List Str := ["_law_script", "_law_cells", "_law_cell"]
theorem sc__law_begin : FnScope N__law_begin ["_law_script"] (defScope s__law_begin) := ⟨rfl, rfl, rfl, by decide +kernel, rfl, by decide +kernel, by decide +kernel⟩
theorem p__law_script : PlainN "_law_script" := by decide +kernel
theorem p__law_cells : PlainN "_law_cells" := by decide +kernel
theorem p_list : PlainN "list" := by decide +kernel
theorem n__law_begin__law_script : NmK s__law_begin "_law_script" .local := by decide +kernel
theorem n__law_begin__law_cells : NmK s__law_begin "_law_cells" .local := by decide +kernel
theorem n__law_begin_list : NmK s__law_begin "list" .globalImplicit := by decide +kernel
abbrev T__law_begin : Ct := fun ds μ Φ => ∃ ns : List Int, ds = [.fro (ns.map D.int)] ∧ ns.length ≤ 63 ∧ ∀ s l μ', μ s = none → μ l = none → St s l 0 μ' → SubM μ μ' → Φ (.raw (.ref s)) μ'
theorem ok__law_begin {f : Addr} {fd : FuncData} (F : Fun K "_law_begin" "_law_begin" s__law_begin f fd) (B : Blt mg) (L : Glo K mg) : FnOk P w K mg base CX0 1 f fd ["_law_script"] (Pr K T__law_begin) := by
  refine fun_ok F sc__law_begin (fun ds μ Φ h => ?_) fun cdv A outer s H E hr ds μ Φ h => ?_
  · obtain ⟨ns, rfl, _⟩ := h
    rfl
  · obtain ⟨ns, rfl, ln, h⟩ := h
    refine bx_cons (sx_set 1 rfl ?_ sc__law_begin.nd (Or.inl n__law_begin__law_cells) (Or.inr n__law_begin__law_cells))
    have e0 : List.map D.int [0] = [D.int 0] := rfl
    refine Ev.to (d := .lst ((if ns = [] then [0] else ns).map D.int)) ?_ ?_
    · by_cases c : ns = []
      · rw [if_pos c]
        exact ev_ifF (Tv.is (tv_cmp (ev_var 0 rfl rfl (Or.inl n__law_begin__law_script) p__law_script) (ev_lst av_nil (by walk_at "sz")) (by walk_at "opNotEq") (nomark _)) (by rw [c]; rfl)) (ev_lst (av_cons ev_int av_nil) (by walk_at "sz"))
      · rw [if_neg c]
        exact ev_ifT (Tv.is (tv_cmp (ev_var 0 rfl rfl (Or.inl n__law_begin__law_script) p__law_script) (ev_lst av_nil (by walk_at "sz")) (by walk_at "opNotEq") (nomark _)) (by
          cases ns with
          | nil => exact absurd rfl c
          | cons _ _ => rfl)) (ev_callTyX B.list bb_list (av_cons (ev_var 0 rfl rfl (Or.inl n__law_begin__law_script) p__law_script) av_nil) (by walk_at "cd") n__law_begin_list p_list)
    generalize hc : (if ns = [] then [0] else ns) = cs
    have c1 : 0 < cs.length ∧ cs.length ≤ 63 := by
      subst hc
      by_cases c : ns = []
      · rw [if_pos c]
        exact ⟨by decide, by decide⟩
      · rw [if_neg c]
        exact ⟨List.length_pos_iff.mpr c, ln⟩
    refine bx_one (sx_ret (ec_disp (ks := ["cells", "lefts", "at", "room"]) (kes := [_, _, _, _]) rfl (fun i k e => ?_) rfl rfl (by decide) (by decide) (by decide) ?_))
    · match i, e with
      | 0, e => cases e; exact ⟨_, _, rfl⟩
      | 1, e => cases e; exact ⟨_, _, rfl⟩
      | 2, e => cases e; exact ⟨_, _, rfl⟩
      | 3, e => cases e; exact ⟨_, _, rfl⟩
      | i + 4, e => cases e
    refine Ev.to (ev_var 1 rfl rfl (Or.inl n__law_begin__law_cells) p__law_cells) (ec_lcO (own := [("_law_cell", 2)]) (wk_c (wk_lst (ev_var 1 rfl rfl (Or.inl n__law_begin__law_cells) p__law_cells)) ⟨?_, fun i acc μ' => acc = (((cs.take i).map fun c => if 10 ^ 18 ≤ c then c else 0).map D.int) ∧ μ = μ', ⟨rfl, rfl⟩, fun i d acc μ' hd hI _ => ?_, fun acc μ' hI L hL => ?_⟩) (show BlkOk N__law_begin (defScope s__law_begin) _ _ from ⟨rfl, by decide +kernel, by decide +kernel, by decide +kernel, by decide +kernel⟩) sc__law_begin.nd rfl)
    · rw [List.length_map]
      exact Nat.le_trans c1.2 (by decide)
    · obtain ⟨rfl, rfl⟩ := hI
      rw [List.getElem?_map] at hd
      cases hx : cs[i]? with
      | none => rw [hx] at hd; cases hd
      | some x =>
        rw [hx] at hd
        cases hd
        refine ⟨_, fun s H C cl fp => (gw_name 2 rfl sc__law_begin.nd (by walk_at "loc") (by decide) (Or.inr (by walk_at "lk"))), fun s H C cl fp => tsc_nil fun s H C cl fp => ?_⟩
        refine Ev.to (Ev.is (ev_if (tv_cmp (ev_var 2 rfl rfl (by walk_at "vis") p__law_cell) (ev_binX ev_int ev_int (by walk_at "opPow")) (opx_of opd_ge) (nomark _)) (fun _ => (ev_var 2 rfl rfl (by walk_at "vis") p__law_cell)) (fun _ => ev_int)) (show _ = D.int (if 10 ^ 18 ≤ x then x else 0) from ?_)) ⟨?_, rfl⟩
        · show (if decide ((10 : Int) ^ 18 ≤ x) = true then D.int x else D.int 0) = _
          by_cases q : (10 : Int) ^ 18 ≤ x
          · rw [if_pos q, if_pos (decide_eq_true q)]
          · rw [if_neg q, if_neg (by rw [decide_eq_false q]; exact Bool.false_ne_true)]
        · rw [List.take_add_one, hx, List.map_append, List.map_append]
          rfl
    · obtain ⟨rfl, rfl⟩ := hI
      rw [List.length_map, List.take_length]
      refine Ev.to ev_int (Ev.to ev_int fun p hp => ?_)
      obtain ⟨np, hp⟩ := Mm.free_put hp
      refine h p L _ hp hL ⟨cs, _, 0, Mem.put_same, by rw [Mem.put_ne (Ne.symm np)]; exact Mem.put_same, by rw [List.length_map], c1.1, Nat.le_trans c1.2 (by decide), Nat.le_refl _, np⟩ fun b o e => ?_
      have n1 : b ≠ p := fun z => by rw [z, hp] at e; cases e
      have n2 : b ≠ L := fun z => by rw [z, hL] at e; cases e
      rw [Mem.put_ne n1, Mem.put_ne n2]
      exact e
end
section
variable {P : Program} {w : World} {K : PySem.W.Frag} {mg : Str → Option Value} {base : Heap} {C_Words C_Lines : Addr}
theorem mixI_bd (c k : Int) : 0 ≤ mixI c k ∧ mixI c k < 2147483629 := by
  unfold mixI
  omega
abbrev s__law_draw : Stmt := top 50
abbrev N__law_draw : List Str := ["_law_state", "_law_many", "_law_at", "_law_place", "_law_left", "_law_number"]
theorem sc__law_draw : FnScope N__law_draw ["_law_state", "_law_many"] (defScope s__law_draw) := ⟨rfl, rfl, rfl, by decide +kernel, rfl, by decide +kernel, by decide +kernel⟩
theorem p__law_state : PlainN "_law_state" := by decide +kernel
theorem p__law_many : PlainN "_law_many" := by decide +kernel
theorem p__law_at : PlainN "_law_at" := by decide +kernel
theorem p__law_place : PlainN "_law_place" := by decide +kernel
theorem p__law_left : PlainN "_law_left" := by decide +kernel
theorem p__law_number : PlainN "_law_number" := by decide +kernel
theorem p__law_mixed : PlainN "_law_mixed" := by decide +kernel
theorem n__law_draw__law_state : NmK s__law_draw "_law_state" .local := by decide +kernel
theorem n__law_draw__law_many : NmK s__law_draw "_law_many" .local := by decide +kernel
theorem n__law_draw__law_at : NmK s__law_draw "_law_at" .local := by decide +kernel
theorem n__law_draw__law_place : NmK s__law_draw "_law_place" .local := by decide +kernel
theorem n__law_draw__law_left : NmK s__law_draw "_law_left" .local := by decide +kernel
theorem n__law_draw__law_number : NmK s__law_draw "_law_number" .local := by decide +kernel
theorem n__law_draw_int : NmK s__law_draw "int" .globalImplicit := by decide +kernel
theorem n__law_draw_len : NmK s__law_draw "len" .globalImplicit := by decide +kernel
theorem n__law_draw__law_mixed : NmK s__law_draw "_law_mixed" .globalImplicit := by decide +kernel
abbrev T__law_draw : Ct := fun ds μ Φ => ∃ s l n many, ds = [.raw (.ref s), .int many] ∧ 1 ≤ many ∧ many < 1000 ∧ St s l n μ ∧ n < 1000000 ∧ ∀ r μ', 0 ≤ r → r < many → St s l (n + 1) μ' → Fr s l μ μ' → Φ (.int r) μ'
theorem Fr.put_s {s l : Addr} {μ : Mem} {o : MO} : Fr s l μ (μ.put s o) := fun b o n1 n2 e => by rw [Mem.put_ne n1]; exact e
theorem Fr.put_l {s l : Addr} {μ : Mem} {o : MO} : Fr s l μ (μ.put l o) := fun b o n1 n2 e => by rw [Mem.put_ne n2]; exact e
theorem ok__law_draw {f : Addr} {fd : FuncData} (F : Fun K "_law_draw" "_law_draw" s__law_draw f fd) (B : Blt mg) (L : Glo K mg) (D__law_mixed : DefAt P w K mg base "_law_mixed" ["_law_cell", "_law_k"] 1 T__law_mixed) : FnOk P w K mg base CX0 2 f fd ["_law_state", "_law_many"] (Pr K T__law_draw) := by
  refine fun_ok F sc__law_draw (fun ds μ Φ h => ?_) fun cdv A outer s H E hr ds μ Φ h => ?_
  · obtain ⟨s, l, n, many, rfl, _⟩ := h
    rfl
  · obtain ⟨s, l, n, many, rfl, m1, m2, st, nb, h⟩ := h
    obtain ⟨cs, ls, k, ms, ml, el, l0, l1, kn, ne⟩ := st
    refine bx_cons (sx_set 2 rfl ?_ sc__law_draw.nd (Or.inl n__law_draw__law_at) (Or.inr n__law_draw__law_at))
    refine Ev.to (ev_dget (u1 hr) (ev_var 0 rfl rfl (Or.inl n__law_draw__law_state) p__law_state) ev_str (dic_own (k := Sum.inr "at") (by walk_at "mem")) (fun _ _ => rfl)) ?_
    refine bx_cons (sx_dput (u1 hr) (Ev.to (ev_binX (ev_var 2 rfl rfl (Or.inl n__law_draw__law_at) p__law_at) ev_int (by walk_at "opAdd")) (Ev.to (ev_var 0 rfl rfl (Or.inl n__law_draw__law_state) p__law_state) (Ev.to ev_str ⟨s, kS, _, Sum.inr "at", rfl, rfl, ms, by decide, by decide, ?_⟩))))
    have hm : ∀ ν : Mem, ν = μ.put s (oS l cs (k + 1)) → ν s = some (oS l cs (k + 1)) ∧ ν l = some (.lst (ls.map D.int)) := fun ν e => by
      subst e
      exact ⟨Mem.put_same, by rw [Mem.put_ne (Ne.symm ne)]; exact ml⟩
    have fr : Fr s l μ (μ.put s (oS l cs (k + 1))) := Fr.put_s
    show Bx _ _ _ (μ.put s (oS l cs (k + 1))) _
    generalize (μ.put s (oS l cs (k + 1))) = ν at hm fr ⊢
    obtain ⟨ms, ml⟩ := hm ν rfl
    have hpos : (0 : Int) < ((cs.map D.int).length : Nat) := by
      rw [List.length_map]
      omega
    refine bx_cons (sx_set 3 rfl ?_ sc__law_draw.nd (Or.inl n__law_draw__law_place) (Or.inr n__law_draw__law_place))
    refine Ev.to (ev_binX (ev_callTyX B.int bb_int (av_cons (ev_var 2 rfl rfl (Or.inl n__law_draw__law_at) p__law_at) av_nil) (by walk_at "cd") n__law_draw_int p_int) (ev_callBX B.len bb_len (av_cons (ev_dget (u1 hr) (ev_var 0 rfl rfl (Or.inl n__law_draw__law_state) p__law_state) ev_str (dic_own (k := Sum.inr "cells") (by walk_at "mem")) (fun _ _ => rfl)) av_nil) (by walk_at "cd") n__law_draw_len p_len) (by walk_at "opMod")) ?_
    have hp0 := Int.emod_nonneg (k : Int) (Int.ne_of_gt hpos)
    have hp1 := Int.emod_lt_of_pos (k : Int) hpos
    generalize ((k : Int) % ((cs.map D.int).length : Nat)) = pl at hp0 hp1 ⊢
    rw [List.length_map] at hp1
    have hj : pl.toNat < ls.length := by omega
    have hj2 : pl.toNat < cs.length := by omega
    have at1 : atI (ls.map D.int) pl = some (.int ls[pl.toNat]) := by
      unfold atI ixN
      rw [List.length_map, if_pos hp0, if_pos (by omega)]
      show (ls.map D.int)[pl.toNat]? = _
      rw [List.getElem?_map, List.getElem?_eq_getElem hj]
      rfl
    have at2 : atI (cs.map D.int) pl = some (.int cs[pl.toNat]) := by
      unfold atI ixN
      rw [List.length_map, if_pos hp0, if_pos (by omega)]
      show (cs.map D.int)[pl.toNat]? = _
      rw [List.getElem?_map, List.getElem?_eq_getElem hj2]
      rfl
    generalize ls[pl.toNat] = left at at1
    generalize cs[pl.toNat] = cell at at2
    refine bx_cons (sx_set 4 rfl ?_ sc__law_draw.nd (Or.inl n__law_draw__law_left) (Or.inr n__law_draw__law_left))
    refine Ev.to (ev_ixX (ev_dget (u1 hr) (ev_var 0 rfl rfl (Or.inl n__law_draw__law_state) p__law_state) ev_str (dic_own (k := Sum.inr "lefts") (by walk_at "mem")) (fun _ _ => rfl)) (ev_var 3 rfl rfl (Or.inl n__law_draw__law_place) p__law_place) (by walk_at "ix") (fun _ _ => rfl)) ?_
    by_cases c : 0 < left
    · refine bx_cons (sx_ifT (tv_cmp (ev_var 4 rfl rfl (Or.inl n__law_draw__law_left) p__law_left) ev_int (opx_of opd_gt) (nomark _)) (decide_eq_true c) ?_)
      refine bx_cons (sx_lput (Ev.to (ev_binX (ev_var 4 rfl rfl (Or.inl n__law_draw__law_left) p__law_left) (ev_var 1 rfl rfl (Or.inl n__law_draw__law_many) p__law_many) (by walk_at "opFloorDiv")) (Ev.to (ev_dget (u1 hr) (ev_var 0 rfl rfl (Or.inl n__law_draw__law_state) p__law_state) ev_str (dic_own (k := Sum.inr "lefts") (by walk_at "mem")) (fun _ _ => rfl)) (Ev.to (ev_var 3 rfl rfl (Or.inl n__law_draw__law_place) p__law_place) ⟨l, _, pl, pl.toNat, rfl, rfl, ml, ?_, ?_⟩))))
      · unfold ixN
        rw [List.length_map, if_pos hp0, if_pos (by omega)]
      refine bx_one (sx_ret (Ev.to (ev_binX (ev_callTyX B.int bb_int (av_cons (ev_var 4 rfl rfl (Or.inl n__law_draw__law_left) p__law_left) av_nil) (by walk_at "cd") n__law_draw_int p_int) (ev_var 1 rfl rfl (Or.inl n__law_draw__law_many) p__law_many) (by walk_at "opMod")) ?_))
      refine h _ _ (Int.emod_nonneg _ (by omega)) (Int.emod_lt_of_pos _ (by omega)) ⟨cs, ls.set pl.toNat (left / many), k + 1, ?_, ?_, by rw [List.length_set]; exact el, l0, l1, by omega, ne⟩ (fr.trans Fr.put_l)
      · rw [Mem.put_ne ne]
        exact ms
      · rw [Mem.put_same, List.map_set]
    · refine bx_cons (sx_ifF (tv_cmp (ev_var 4 rfl rfl (Or.inl n__law_draw__law_left) p__law_left) ev_int (opx_of opd_gt) (nomark _)) (decide_eq_false c) (bx_nil ?_))
      refine bx_cons (sx_set 5 rfl ?_ sc__law_draw.nd (Or.inl n__law_draw__law_number) (Or.inr n__law_draw__law_number))
      refine Ev.to (ev_call D__law_mixed (hr.mono (by decide)) (av_cons (ev_call D__law_mixed (hr.mono (by decide)) (av_cons (ev_ixX (ev_dget (u1 hr) (ev_var 0 rfl rfl (Or.inl n__law_draw__law_state) p__law_state) ev_str (dic_own (k := Sum.inr "cells") (by walk_at "mem")) (fun _ _ => rfl)) (ev_var 3 rfl rfl (Or.inl n__law_draw__law_place) p__law_place) (by walk_at "ix") (fun _ _ => rfl)) (av_cons (ev_var 2 rfl rfl (Or.inl n__law_draw__law_at) p__law_at) av_nil)) ⟨_, _, rfl, by omega, by omega, rfl⟩ n__law_draw__law_mixed p__law_mixed) (av_cons (ev_binX ev_int (ev_var 2 rfl rfl (Or.inl n__law_draw__law_at) p__law_at) (by walk_at "opAdd")) av_nil)) ⟨_, _, rfl, by omega, by omega, rfl⟩ n__law_draw__law_mixed p__law_mixed) ?_
      have b1 := mixI_bd (mixI cell k) (40 + k)
      generalize mixI (mixI cell k) (40 + k) = nu at b1 ⊢
      refine bx_one (sx_ret (Ev.to (ev_binX (ev_binX (ev_callTyX B.int bb_int (av_cons (ev_binX (ev_binX (ev_var 5 rfl rfl (Or.inl n__law_draw__law_number) p__law_number) ev_int (by walk_at "opMult")) (ev_call D__law_mixed (hr.mono (by decide)) (av_cons (ev_var 5 rfl rfl (Or.inl n__law_draw__law_number) p__law_number) (av_cons (ev_binX ev_int (ev_var 2 rfl rfl (Or.inl n__law_draw__law_at) p__law_at) (by walk_at "opAdd")) av_nil)) ⟨_, _, rfl, by omega, by omega, rfl⟩ n__law_draw__law_mixed p__law_mixed) (by walk_at "opAdd")) av_nil) (by walk_at "cd") n__law_draw_int p_int) ev_int (by walk_at "opFloorDiv")) (ev_var 1 rfl rfl (Or.inl n__law_draw__law_many) p__law_many) (by walk_at "opMod")) ?_))
      exact h _ _ (Int.emod_nonneg _ (by omega)) (Int.emod_lt_of_pos _ (by omega)) ⟨cs, ls, k + 1, ms, ml, el, l0, l1, by omega, ne⟩ fr
abbrev s__law_of : Stmt := top 51
abbrev N__law_of : List Str := ["_law_state", "_law_some"]
theorem sc__law_of : FnScope N__law_of ["_law_state", "_law_some"] (defScope s__law_of) := ⟨rfl, rfl, rfl, by decide +kernel, rfl, by decide +kernel, by decide +kernel⟩
theorem p__law_some : PlainN "_law_some" := by decide +kernel
theorem p__law_draw : PlainN "_law_draw" := by decide +kernel
theorem n__law_of__law_state : NmK s__law_of "_law_state" .local := by decide +kernel
theorem n__law_of__law_some : NmK s__law_of "_law_some" .local := by decide +kernel
theorem n__law_of__law_draw : NmK s__law_of "_law_draw" .globalImplicit := by decide +kernel
theorem n__law_of_len : NmK s__law_of "len" .globalImplicit := by decide +kernel
abbrev T__law_of : Ct := fun ds μ Φ => ∃ s l n, ∃ xs : List D, ds = [.raw (.ref s), .lst xs] ∧ 1 ≤ xs.length ∧ xs.length < 1000 ∧ St s l n μ ∧ n < 1000000 ∧ ∀ x μ', x ∈ xs → St s l (n + 1) μ' → Fr s l μ μ' → Φ x μ'
theorem ok__law_of {f : Addr} {fd : FuncData} (F : Fun K "_law_of" "_law_of" s__law_of f fd) (B : Blt mg) (L : Glo K mg) (D__law_draw : DefAt P w K mg base "_law_draw" ["_law_state", "_law_many"] 2 T__law_draw) : FnOk P w K mg base CX0 3 f fd ["_law_state", "_law_some"] (Pr K T__law_of) := by
  refine fun_ok F sc__law_of (fun ds μ Φ h => ?_) fun cdv A outer s H E hr ds μ Φ h => ?_
  · obtain ⟨s, l, n, xs, rfl, _⟩ := h
    rfl
  · obtain ⟨s, l, n, xs, rfl, m1, m2, st, nb, h⟩ := h
    refine bx_one (sx_ret (ec_ix (Ev.to (ev_var 1 rfl rfl (Or.inl n__law_of__law_some) p__law_some) (ec_call D__law_draw (hr.mono (by decide)) (Av.to (av_cons (ev_var 0 rfl rfl (Or.inl n__law_of__law_state) p__law_state) (av_cons (ev_callBX B.len bb_len (av_cons (ev_var 1 rfl rfl (Or.inl n__law_of__law_some) p__law_some) av_nil) (by walk_at "cd") n__law_of_len p_len) av_nil)) ?_) n__law_of__law_draw p__law_draw)) (fun _ _ => rfl)))
    refine ⟨s, l, n, xs.length, rfl, by omega, by omega, st, nb, fun r μ' r0 r1 st' fr => ?_⟩
    have hj : r.toNat < xs.length := by omega
    have at1 : atI xs r = some xs[r.toNat] := by
      unfold atI ixN
      rw [if_pos r0, if_pos r1]
      exact List.getElem?_eq_getElem hj
    exact IxX.mono (ixx_of (ixd_lst at1)) fun d μ2 ⟨e1, e2⟩ => by
      subst e1
      subst e2
      exact h _ _ (List.getElem_mem hj) st' fr
abbrev s__law_call : Stmt := top 52
abbrev N__law_call : List Str := ["_law_state", "_law_most", "_law_one", "_law_other"]
theorem sc__law_call : FnScope N__law_call ["_law_state", "_law_most"] (defScope s__law_call) := ⟨rfl, rfl, rfl, by decide +kernel, rfl, by decide +kernel, by decide +kernel⟩
theorem p__law_most : PlainN "_law_most" := by decide +kernel
theorem p__law_one : PlainN "_law_one" := by decide +kernel
theorem p__law_other : PlainN "_law_other" := by decide +kernel
theorem p_min : PlainN "min" := by decide +kernel
theorem p_max : PlainN "max" := by decide +kernel
theorem n__law_call__law_state : NmK s__law_call "_law_state" .local := by decide +kernel
theorem n__law_call__law_most : NmK s__law_call "_law_most" .local := by decide +kernel
theorem n__law_call__law_one : NmK s__law_call "_law_one" .local := by decide +kernel
theorem n__law_call__law_other : NmK s__law_call "_law_other" .local := by decide +kernel
theorem n__law_call__law_draw : NmK s__law_call "_law_draw" .globalImplicit := by decide +kernel
theorem n__law_call_min : NmK s__law_call "min" .globalImplicit := by decide +kernel
theorem n__law_call_max : NmK s__law_call "max" .globalImplicit := by decide +kernel
abbrev T__law_call : Ct := fun ds μ Φ => ∃ s l n many, ds = [.raw (.ref s), .int many] ∧ 1 ≤ many ∧ many < 1000 ∧ St s l n μ ∧ n + 2 < 1000000 ∧ ∀ (c : Int × Int) μ', 0 ≤ c.1 → c.1 ≤ c.2 → c.2 < many → St s l (n + 2) μ' → Fr s l μ μ' → Φ (eC c) μ'
theorem ok__law_call {f : Addr} {fd : FuncData} (F : Fun K "_law_call" "_law_call" s__law_call f fd) (B : Blt mg) (L : Glo K mg) (D__law_draw : DefAt P w K mg base "_law_draw" ["_law_state", "_law_many"] 2 T__law_draw) : FnOk P w K mg base CX0 3 f fd ["_law_state", "_law_most"] (Pr K T__law_call) := by
  refine fun_ok F sc__law_call (fun ds μ Φ h => ?_) fun cdv A outer s H E hr ds μ Φ h => ?_
  · obtain ⟨s, l, n, many, rfl, _⟩ := h
    rfl
  · obtain ⟨s, l, n, many, rfl, m1, m2, st, nb, h⟩ := h
    refine bx_cons (sx_par rfl sc__law_call.nd (i := 2) (j := 3) rfl rfl (by decide) n__law_call__law_one n__law_call__law_other ?_ rfl)
    refine ac_cons (ec_call D__law_draw (hr.mono (by decide)) (Av.to (av_cons (ev_var 0 rfl rfl (Or.inl n__law_call__law_state) p__law_state) (av_cons (ev_var 1 rfl rfl (Or.inl n__law_call__law_most) p__law_most) av_nil)) ?_) n__law_call__law_draw p__law_draw)
    refine ⟨s, l, n, many, rfl, m1, m2, st, by omega, fun r1 μ1 a1 a2 st1 fr1 => ?_⟩
    refine ac_cons (ec_call D__law_draw (hr.mono (by decide)) (Av.to (av_cons (ev_var 0 rfl rfl (Or.inl n__law_call__law_state) p__law_state) (av_cons (ev_var 1 rfl rfl (Or.inl n__law_call__law_most) p__law_most) av_nil)) ?_) n__law_call__law_draw p__law_draw)
    refine ⟨s, l, n + 1, many, rfl, m1, m2, st1, by omega, fun r2 μ2 b1 b2 st2 fr2 => ?_⟩
    refine ac_nil ⟨_, _, rfl, ?_⟩
    refine bx_one (sx_ret (Ev.to (ev_tup (av_cons (ev_callBX B.min bb_min (av_cons (ev_var 2 rfl rfl (Or.inl n__law_call__law_one) p__law_one) (av_cons (ev_var 3 rfl rfl (Or.inl n__law_call__law_other) p__law_other) av_nil)) (cdx_of (cd_min2 rfl)) n__law_call_min p_min) (av_cons (ev_callBX B.max bb_max (av_cons (ev_var 2 rfl rfl (Or.inl n__law_call__law_one) p__law_one) (av_cons (ev_var 3 rfl rfl (Or.inl n__law_call__law_other) p__law_other) av_nil)) (cdx_of (cd_max2 rfl)) n__law_call_max p_max) av_nil)) (by walk_at "sz")) ?_))
    refine h (if r2 < r1 then r2 else r1, if r2 > r1 then r2 else r1) μ2 ?_ ?_ ?_ st2 (fr1.trans fr2)
    · show 0 ≤ (if r2 < r1 then r2 else r1)
      split <;> assumption
    · show (if r2 < r1 then r2 else r1) ≤ (if r2 > r1 then r2 else r1)
      split <;> split <;> omega
    · show (if r2 > r1 then r2 else r1) < many
      split <;> assumption
end
section
variable {P : Program} {w : World} {K : PySem.W.Frag} {mg : Str → Option Value} {base : Heap} {C_Words C_Lines : Addr}
def g40 (m : Int) (c : Int × Int) : Prop := 0 ≤ c.1 ∧ c.1 ≤ c.2 ∧ c.2 < m
def t40 (m : Int) (t : Th) : Prop := g40 m t.1 ∧ ∀ c, t.2 = some c → g40 m c
theorem St.ne {s l p n : Addr} {μ : Mem} (h : St s l n μ) (hp : μ p = none) : p ≠ s ∧ p ≠ l := by
  obtain ⟨cs, ls, k, h1, h2, _⟩ := h
  exact ⟨fun e => (by rw [e, h1] at hp; cases hp), fun e => (by rw [e, h2] at hp; cases hp)⟩
theorem St.put {s l p n : Addr} {μ : Mem} {o : MO} (h : St s l n μ) (h1 : p ≠ s) (h2 : p ≠ l) : St s l n (μ.put p o) := by
  obtain ⟨cs, ls, k, a1, a2, r⟩ := h
  exact ⟨cs, ls, k, by rw [Mem.put_ne (Ne.symm h1)]; exact a1, by rw [Mem.put_ne (Ne.symm h2)]; exact a2, r⟩
theorem Fr.put {s l p : Addr} {μ μ' : Mem} {o : MO} (h : Fr s l μ μ') (hp : μ p = none) : Fr s l μ (μ'.put p o) := fun b u n1 n2 e => by
  have n : b ≠ p := fun q => by rw [q, hp] at e; cases e
  rw [Mem.put_ne n]
  exact h b u n1 n2 e
abbrev s__law_things : Stmt := top 53
abbrev N__law_things : List Str := ["_law_state", "_law_many", "_law_most", "_law_found", "_law_k", "_law_put", "_law_take"]
theorem sc__law_things : FnScope N__law_things ["_law_state", "_law_many", "_law_most"] (defScope s__law_things) := ⟨rfl, rfl, rfl, by decide +kernel, rfl, by decide +kernel, by decide +kernel⟩
theorem p__law_found : PlainN "_law_found" := by decide +kernel
theorem p__law_put : PlainN "_law_put" := by decide +kernel
theorem p__law_take : PlainN "_law_take" := by decide +kernel
theorem p_range : PlainN "range" := by decide +kernel
theorem p__law_call : PlainN "_law_call" := by decide +kernel
theorem n__law_things__law_state : NmK s__law_things "_law_state" .local := by decide +kernel
theorem n__law_things__law_many : NmK s__law_things "_law_many" .local := by decide +kernel
theorem n__law_things__law_most : NmK s__law_things "_law_most" .local := by decide +kernel
theorem n__law_things__law_found : NmK s__law_things "_law_found" .local := by decide +kernel
theorem n__law_things__law_k : NmK s__law_things "_law_k" .local := by decide +kernel
theorem n__law_things__law_put : NmK s__law_things "_law_put" .local := by decide +kernel
theorem n__law_things__law_take : NmK s__law_things "_law_take" .local := by decide +kernel
theorem n__law_things_range : NmK s__law_things "range" .globalImplicit := by decide +kernel
theorem n__law_things__law_draw : NmK s__law_things "_law_draw" .globalImplicit := by decide +kernel
theorem n__law_things__law_call : NmK s__law_things "_law_call" .globalImplicit := by decide +kernel
theorem n__law_things_tuple : NmK s__law_things "tuple" .globalImplicit := by decide +kernel
abbrev T__law_things : Ct := fun ds μ Φ => ∃ s l n many most, ds = [.raw (.ref s), .int many, .int most] ∧ 0 ≤ many ∧ many ≤ 12 ∧ 1 ≤ most ∧ most < 1000 ∧ St s l n μ ∧ n + 100 < 1000000 ∧
  ∀ (ts : List Th) μ', ts.length ≤ 12 → (∀ t ∈ ts, t40 most t) → St s l (n + 100) μ' → Fr s l μ μ' → Φ (.tup (ts.map eT)) μ'
theorem ok__law_things {f : Addr} {fd : FuncData} (F : Fun K "_law_things" "_law_things" s__law_things f fd) (B : Blt mg) (L : Glo K mg) (D__law_draw : DefAt P w K mg base "_law_draw" ["_law_state", "_law_many"] 2 T__law_draw) (D__law_call : DefAt P w K mg base "_law_call" ["_law_state", "_law_most"] 3 T__law_call) : FnOk P w K mg base CX0 4 f fd ["_law_state", "_law_many", "_law_most"] (Pr K T__law_things) := by
  refine fun_ok F sc__law_things (fun ds μ Φ h => ?_) fun cdv A outer s H E hr ds μ Φ h => ?_
  · obtain ⟨s, l, n, many, most, rfl, _⟩ := h
    rfl
  · obtain ⟨s, l, n, many, most, rfl, y1, y2, m1, m2, st, nb, h⟩ := h
    refine bx_cons (sx_set 3 rfl ?_ sc__law_things.nd (Or.inl n__law_things__law_found) (Or.inr n__law_things__law_found))
    refine ec_own (ac_nil ⟨Nat.zero_le _, fun p hp => ?_⟩)
    obtain ⟨ps, pl⟩ := st.ne hp
    refine bx_cons (sx_forC (wkc_range1 B.range (ec_call D__law_draw (hr.mono (by decide)) (Av.to (av_cons (ev_var 0 rfl rfl (Or.inl n__law_things__law_state) p__law_state) (av_cons (ev_binX (ev_var 1 rfl rfl (Or.inl n__law_things__law_many) p__law_many) ev_int (by walk_at "opAdd")) av_nil)) ?_) n__law_things__law_draw p__law_draw) n__law_things_range) PassesOwn.never rfl)
    refine ⟨s, l, n, many + 1, rfl, by omega, by omega, st.put ps pl, by omega, fun r μ1 r0 r1 st1 fr1 => ⟨r, rfl, by omega, by omega, ?_⟩⟩
    have f1 : Fr s l μ μ1 := fun b o n1 n2 e => fr1 b o n1 n2 (by
      have n : b ≠ p := fun q => by rw [q, hp] at e; cases e
      rw [Mem.put_ne n]
      exact e)
    refine ⟨fun i ρ' μ' => (∃ a b c, ρ' = [some (.raw (.ref s)), some (.int many), some (.int most), some (.raw (.ref p)), a, b, c]) ∧ (∃ ts : List Th, ts.length ≤ i ∧ (∀ t ∈ ts, t40 most t) ∧ μ' p = some (.lst (ts.map eT))) ∧ St s l (n + 1 + 6 * i) μ' ∧ Fr s l μ μ', ⟨⟨_, _, _, rfl⟩, ⟨[], Nat.le_refl _, fun _ h => (by cases h), fr1 p _ ps pl Mem.put_same⟩, st1, f1⟩, fun i d ρ' μ' hd hI => ?_, fun ρ' μ' hI => ?_⟩
    · obtain ⟨⟨a, b, c, rfl⟩, ⟨ts, lt, gt, mp⟩, st2, f2⟩ := hI
      have hi : i < r.toNat := by
        have q := (List.getElem?_eq_some_iff.mp hd).1
        rw [List.length_map, List.length_range] at q
        exact q
      have ed : d = .int i := by
        rw [List.getElem?_map, List.getElem?_range hi] at hd
        exact (Option.some.inj hd).symm
      subst ed
      refine ⟨_, (gv_name 4 rfl sc__law_things.nd (Or.inl n__law_things__law_k) (Or.inr n__law_things__law_k)), ?_⟩
      refine bx_cons (sx_par rfl sc__law_things.nd (i := 5) (j := 6) rfl rfl (by decide) n__law_things__law_put n__law_things__law_take ?_ rfl)
      refine ac_cons (ec_call D__law_call (hr.mono (by decide)) (Av.to (av_cons (ev_var 0 rfl rfl (Or.inl n__law_things__law_state) p__law_state) (av_cons (ev_var 2 rfl rfl (Or.inl n__law_things__law_most) p__law_most) av_nil)) ?_) n__law_things__law_call p__law_call)
      refine ⟨s, l, _, most, rfl, m1, m2, st2, by omega, fun x μ3 x0 x1 x2 st3 fr3 => ?_⟩
      refine ac_cons (ec_call D__law_call (hr.mono (by decide)) (Av.to (av_cons (ev_var 0 rfl rfl (Or.inl n__law_things__law_state) p__law_state) (av_cons (ev_var 2 rfl rfl (Or.inl n__law_things__law_most) p__law_most) av_nil)) ?_) n__law_things__law_call p__law_call)
      refine ⟨s, l, _, most, rfl, m1, m2, st3, by omega, fun y μ4 y0 y1 y2 st4 fr4 => ?_⟩
      refine ac_nil ⟨_, _, rfl, ?_⟩
      have f4 := (f2.trans fr3).trans fr4
      have mp4 := fr4 p _ ps pl (fr3 p _ ps pl mp)
      refine bx_cons (sx_to (fun ρ' μ' => ∃ x y : Int × Int, ρ' = [some (.raw (.ref s)), some (.int many), some (.int most), some (.raw (.ref p)), some (.int i), some (eC x), some (eC y)] ∧ g40 most x ∧ g40 most y ∧ St s l (n + 1 + 6 * i + 5) μ' ∧ Fr s l μ μ' ∧ μ' p = some (.lst (ts.map eT))) ?_ ?_)
      · refine sx_if (tc_w (wc_and (Tv.to (tv_cmp (ev_ixX (ev_var 6 rfl rfl (Or.inl n__law_things__law_take) p__law_take) ev_int (by walk_at "ix") (fun _ _ => rfl)) (ev_ixX (ev_var 5 rfl rfl (Or.inl n__law_things__law_put) p__law_put) ev_int (by walk_at "ix") (fun _ _ => rfl)) (opx_of opd_lt) (nomark _)) ?_)))
        by_cases q : y.2 < x.1
        · rw [decide_eq_true q]
          refine wc_and1 (tc_cmp (ec_call D__law_draw (hr.mono (by decide)) (Av.to (av_cons (ev_var 0 rfl rfl (Or.inl n__law_things__law_state) p__law_state) (av_cons ev_int av_nil)) ?_) n__law_things__law_draw p__law_draw) (nomark _))
          refine ⟨s, l, _, 4, rfl, by decide, by decide, st4, by omega, fun z μ5 z0 z1 st5 fr5 => ?_⟩
          refine Ev.to ev_int (OpX.mono (opx_of opd_gt) fun d μ' ⟨e1, e2⟩ => ⟨_, e1, ?_⟩)
          subst e2
          have f5 := f4.trans fr5
          have mp5 := fr5 p _ ps pl mp4
          by_cases qz : 0 < z
          · rw [decide_eq_true qz]
            refine bx_one (sx_par rfl sc__law_things.nd (i := 5) (j := 6) rfl rfl (by decide) n__law_things__law_put n__law_things__law_take (Av.to (av_cons (ev_var 6 rfl rfl (Or.inl n__law_things__law_take) p__law_take) (av_cons (ev_var 5 rfl rfl (Or.inl n__law_things__law_put) p__law_put) av_nil)) ⟨_, _, rfl, ?_⟩) rfl)
            exact ⟨y, x, rfl, ⟨y0, y1, y2⟩, ⟨x0, x1, x2⟩, st5, f5, mp5⟩
          · rw [decide_eq_false qz]
            exact bx_nil ⟨x, y, rfl, ⟨x0, x1, x2⟩, ⟨y0, y1, y2⟩, st5, f5, mp5⟩
        · rw [decide_eq_false q]
          exact bx_nil ⟨x, y, rfl, ⟨x0, x1, x2⟩, ⟨y0, y1, y2⟩, st4.mono (Nat.le_succ _), f4, mp4⟩
      · rintro ρ' μ5 ⟨x, y, rfl, gx, gy, st5, f5, mp5⟩
        refine bx_one (sx_app (ds := ts.map eT) (ev_var 3 rfl rfl (Or.inl n__law_things__law_found) p__law_found) (by walk_at "mem") ?_)
        refine ec_tup (ac_cons (Ev.to (ev_var 5 rfl rfl (Or.inl n__law_things__law_put) p__law_put) (ac_cons (ec_if (tc_cmp (ec_call D__law_draw (hr.mono (by decide)) (Av.to (av_cons (ev_var 0 rfl rfl (Or.inl n__law_things__law_state) p__law_state) (av_cons ev_int av_nil)) ?_) n__law_things__law_draw p__law_draw) (nomark _))))))
        refine ⟨s, l, _, 5, rfl, by decide, by decide, st5, by omega, fun z μ6 z0 z1 st6 fr6 => ?_⟩
        refine Ev.to ev_int (OpX.mono (opx_of opd_eqI) fun d μ' ⟨e1, e2⟩ => ⟨_, e1, ?_⟩)
        subst e2
        have f6 := f5.trans fr6
        have mp6 := fr6 p _ ps pl mp5
        have lts : (ts.map eT).length < sizeLine := by
          rw [List.length_map]
          exact Nat.lt_of_le_of_lt (Nat.le_trans lt (by omega : i ≤ 100)) (by decide)
        have fin : ∀ o : Option (Int × Int), (∀ c, o = some c → g40 most c) → ∃ ts' : List Th, ts'.length ≤ i + 1 ∧ (∀ t ∈ ts', t40 most t) ∧ (μ'.put p (.lst (ts.map eT ++ [eT (x, o)]))) p = some (.lst (ts'.map eT)) := fun o go => by
          refine ⟨ts ++ [(x, o)], by rw [List.length_append, List.length_singleton]; omega, fun t ht => ?_, by rw [Mem.put_same, List.map_append]; rfl⟩
          rcases List.mem_append.mp ht with q | q
          · exact gt t q
          · rw [List.mem_singleton.mp q]
            exact ⟨gx, go⟩
        have st7 : St s l (n + 1 + 6 * (i + 1)) μ' := st6.mono (by omega)
        by_cases qz : z = 0
        · rw [decide_eq_true qz]
          refine Ev.to ev_non (ac_nil ⟨Nat.le_of_ble_eq_true rfl, mp6, lts, ?_⟩)
          exact ⟨⟨_, _, _, rfl⟩, fin none (fun c e => by cases e), st7.put ps pl, f6.put hp⟩
        · rw [decide_eq_false qz]
          refine Ev.to (ev_var 6 rfl rfl (Or.inl n__law_things__law_take) p__law_take) (ac_nil ⟨Nat.le_of_ble_eq_true rfl, mp6, lts, ?_⟩)
          exact ⟨⟨_, _, _, rfl⟩, fin (some y) (fun c e => by cases e; exact gy), st7.put ps pl, f6.put hp⟩
    · obtain ⟨⟨a, b, c, rfl⟩, ⟨ts, lt, gt, mp⟩, st2, f2⟩ := hI
      rw [List.length_map, List.length_range] at lt st2
      refine bx_one (sx_ret (Ev.to (ev_callTyX B.tuple bb_tuple (av_cons (ev_var 3 rfl rfl (Or.inl n__law_things__law_found) p__law_found) av_nil) (by walk_at "cd") n__law_things_tuple p_tuple) ?_))
      exact h ts μ' (by omega) gt (st2.mono (by omega)) f2
end
section
variable {P : Program} {w : World} {K : PySem.W.Frag} {mg : Str → Option Value} {base : Heap} {C_Words C_Lines : Addr}
abbrev shC (v : Int) (c : Int × Int) : Int × Int := (c.1 + v, c.2 + v)
abbrev shT (v : Int) (t : Th) : Th := (shC v t.1, t.2.map (shC v))
theorem sh_gC {v : Int} (h0 : -1000000000 ≤ v) (h1 : v ≤ 999999960) {c : Int × Int} (g : g40 40 c) : gC (shC v c) := by
  obtain ⟨a, b, d⟩ := g
  refine ⟨?_, ?_, ?_⟩ <;> simp only [shC] <;> omega
theorem sh_gT {v : Int} (h0 : -1000000000 ≤ v) (h1 : v ≤ 999999960) {t : Th} (g : t40 40 t) : gT (shT v t) := by
  refine ⟨sh_gC h0 h1 g.1, fun c hc => ?_⟩
  obtain ⟨p, o⟩ := t
  cases o with
  | none => cases hc
  | some d =>
    cases hc
    exact sh_gC h0 h1 (g.2 d rfl)
abbrev s__law_past : Stmt := top 54
abbrev N__law_past : List Str := ["_law_state", "_law_many", "_law_few", "_law_some", "_law_later", "_law_found", "_law_put", "_law_take", "_law_k"]
theorem sc__law_past : FnScope N__law_past ["_law_state", "_law_many", "_law_few"] (defScope s__law_past) := ⟨rfl, rfl, rfl, by decide +kernel, rfl, by decide +kernel, by decide +kernel⟩
theorem p__law_few : PlainN "_law_few" := by decide +kernel
theorem p__law_later : PlainN "_law_later" := by decide +kernel
theorem p__law_things : PlainN "_law_things" := by decide +kernel
theorem p__law_of : PlainN "_law_of" := by decide +kernel
theorem n__law_past__law_state : NmK s__law_past "_law_state" .cell := by decide +kernel
theorem n__law_past__law_many : NmK s__law_past "_law_many" .local := by decide +kernel
theorem n__law_past__law_few : NmK s__law_past "_law_few" .local := by decide +kernel
theorem n__law_past__law_some : NmK s__law_past "_law_some" .local := by decide +kernel
theorem n__law_past__law_later : NmK s__law_past "_law_later" .local := by decide +kernel
theorem n__law_past__law_found : NmK s__law_past "_law_found" .local := by decide +kernel
theorem n__law_past__law_put : NmK s__law_past "_law_put" .local := by decide +kernel
theorem n__law_past__law_take : NmK s__law_past "_law_take" .local := by decide +kernel
theorem n__law_past__law_things : NmK s__law_past "_law_things" .globalImplicit := by decide +kernel
theorem n__law_past__law_of : NmK s__law_past "_law_of" .globalImplicit := by decide +kernel
theorem n__law_past_tuple : NmK s__law_past "tuple" .globalImplicit := by decide +kernel
theorem n__law_past_range : NmK s__law_past "range" .globalImplicit := by decide +kernel
theorem n__law_past__law_draw : NmK s__law_past "_law_draw" .globalImplicit := by decide +kernel
abbrev T__law_past : Ct := fun ds μ Φ => ∃ s l n many few, ds = [.raw (.ref s), .int many, .int few] ∧ 0 ≤ many ∧ many ≤ 12 ∧ 0 ≤ few ∧ few ≤ 8 ∧ St s l n μ ∧ n + 200 < 1000000 ∧ ∀ (t : Hy) μ', gH t → St s l (n + 200) μ' → Fr s l μ μ' → Φ (eH t) μ'
theorem ok__law_past {f : Addr} {fd : FuncData} (F : Fun K "_law_past" "_law_past" s__law_past f fd) (B : Blt mg) (L : Glo K mg) (D__law_things : DefAt P w K mg base "_law_things" ["_law_state", "_law_many", "_law_most"] 4 T__law_things) (D__law_of : DefAt P w K mg base "_law_of" ["_law_state", "_law_some"] 3 T__law_of) (D__law_call : DefAt P w K mg base "_law_call" ["_law_state", "_law_most"] 3 T__law_call) (D__law_draw : DefAt P w K mg base "_law_draw" ["_law_state", "_law_many"] 2 T__law_draw) : FnOk P w K mg base CX0 5 f fd ["_law_state", "_law_many", "_law_few"] (Pr K T__law_past) := by
  refine fun_ok F sc__law_past (fun ds μ Φ h => ?_) fun cdv A outer s H E hr ds μ Φ h => ?_
  · obtain ⟨s, l, n, many, few, rfl, _⟩ := h
    rfl
  · obtain ⟨s, l, n, many, few, rfl, y1, y2, z1, z2, st, nb, h⟩ := h
    refine bx_cons (sx_par rfl sc__law_past.nd (i := 3) (j := 4) rfl rfl (by decide) n__law_past__law_some n__law_past__law_later ?_ rfl)
    refine ac_cons (ec_call D__law_things (hr.mono (by decide)) (Av.to (av_cons (ev_var 0 rfl rfl (Or.inr (Or.inl n__law_past__law_state)) p__law_state) (av_cons (ev_var 1 rfl rfl (Or.inl n__law_past__law_many) p__law_many) (av_cons ev_int av_nil))) ?_) n__law_past__law_things p__law_things)
    refine ⟨s, l, n, many, 40, rfl, y1, y2, by decide, by decide, st, by omega, fun ts μ1 lt gt st1 fr1 => ?_⟩
    refine ac_cons (ec_call D__law_of (hr.mono (by decide)) (Av.to (av_cons (ev_var 0 rfl rfl (Or.inr (Or.inl n__law_past__law_state)) p__law_state) (av_cons (ev_lst (av_cons ev_int (av_cons ev_int (av_cons (ev_un ev_int und_neg) (av_cons (ev_un ev_int und_neg) (av_cons (ev_binX (ev_binX ev_int ev_int (by walk_at "opPow")) ev_int (opx_of opd_subI)) (av_cons (ev_un (ev_binX ev_int ev_int (by walk_at "opPow")) und_neg) av_nil)))))) (by walk_at "sz")) av_nil)) ?_) n__law_past__law_of p__law_of)
    refine ⟨s, l, _, _, rfl, by decide, by decide, st1, by omega, fun x μ2 hx st2 fr2 => ?_⟩
    have hv : ∃ v : Int, x = .int v ∧ -1000000000 ≤ v ∧ v ≤ 999999960 := by
      simp only [List.mem_cons, List.not_mem_nil, or_false] at hx
      rcases hx with rfl | rfl | rfl | rfl | rfl | rfl
      · exact ⟨_, rfl, by decide, by decide⟩
      · exact ⟨_, rfl, by decide, by decide⟩
      · exact ⟨_, rfl, by decide, by decide⟩
      · exact ⟨_, rfl, by decide, by decide⟩
      · exact ⟨_, rfl, by decide, by decide⟩
      · exact ⟨_, rfl, by decide, by decide⟩
    obtain ⟨v, rfl, v0, v1⟩ := hv
    clear hx
    have f2 := fr1.trans fr2
    refine ac_nil ⟨_, _, rfl, ?_⟩
    refine bx_cons (sx_set 5 rfl ?_ sc__law_past.nd (Or.inl n__law_past__law_found) (Or.inr n__law_past__law_found))
    refine ec_own (ac_nil ⟨Nat.zero_le _, fun p hp => ?_⟩)
    obtain ⟨ps, pl⟩ := st2.ne hp
    have hp0 : μ p = none := by
      cases q : μ p with
      | none => rfl
      | some o =>
        rw [f2 p o ps pl q] at hp
        cases hp
    refine bx_cons (sx_forM ts eT (wk_tup (ev_var 3 rfl rfl (Or.inl n__law_past__law_some) p__law_some)) (fun pre ρ' μ' => (∃ a b, ρ' = [some (.raw (.ref s)), some (.int many), some (.int few), some (.tup (ts.map eT)), some (.int v), some (.raw (.ref p)), a, b, none]) ∧ μ' p = some (.lst (pre.map fun t => eT (shT v t))) ∧ St s l (n + 101) μ' ∧ Fr s l μ μ') ⟨⟨_, _, rfl⟩, Mem.put_same, st2.put ps pl, f2.put hp0⟩ (fun pre t post ρ' μ' sp hI => ?_) (fun ρ' μ' hI => ?_) PassesOwn.never rfl)
    · obtain ⟨⟨a, b, rfl⟩, mp, st3, f3⟩ := hI
      refine ⟨_, (gv_tup (gvl_cons (gv_name 6 rfl sc__law_past.nd (Or.inl n__law_past__law_put) (Or.inr n__law_past__law_put)) (gvl_cons (gv_name 7 rfl sc__law_past.nd (Or.inl n__law_past__law_take) (Or.inr n__law_past__law_take)) gvl_nil)) rfl rfl), ?_⟩
      refine bx_cons (sx_set 6 rfl ?_ sc__law_past.nd (Or.inl n__law_past__law_put) (Or.inr n__law_past__law_put))
      refine Ev.to (ev_tup (av_cons (ev_binX (ev_ixX (ev_var 6 rfl rfl (Or.inl n__law_past__law_put) p__law_put) ev_int (by walk_at "ix") (fun _ _ => rfl)) (ev_var 4 rfl rfl (Or.inl n__law_past__law_later) p__law_later) (by walk_at "opAdd")) (av_cons (ev_binX (ev_ixX (ev_var 6 rfl rfl (Or.inl n__law_past__law_put) p__law_put) ev_int (by walk_at "ix") (fun _ _ => rfl)) (ev_var 4 rfl rfl (Or.inl n__law_past__law_later) p__law_later) (by walk_at "opAdd")) av_nil)) (by walk_at "sz")) ?_
      have lp : (pre.map fun t => eT (shT v t)).length < sizeLine := by
        have e : ts.length = pre.length + (post.length + 1) := by rw [sp, List.length_append, List.length_cons]
        rw [List.length_map]
        exact Nat.lt_of_le_of_lt (by omega : pre.length ≤ 12) (by decide)
      refine bx_one (sx_app (ds := pre.map fun t => eT (shT v t)) (ev_var 5 rfl rfl (Or.inl n__law_past__law_found) p__law_found) (by walk_at "mem") ?_)
      refine ec_tup (ac_cons (Ev.to (ev_var 6 rfl rfl (Or.inl n__law_past__law_put) p__law_put) (ac_cons ?_)))
      have fin : ∀ d : D, d = eT (shT v t) → (μ'.put p (.lst ((pre.map fun t => eT (shT v t)) ++ [d]))) p = some (.lst ((pre ++ [t]).map fun t => eT (shT v t))) := fun d e => by
        rw [e, Mem.put_same, List.map_append]
        rfl
      obtain ⟨tc, to⟩ := t
      cases to with
      | none =>
        refine Ev.to (ev_ifT (Tv.is (tv_cmp (ev_var 7 rfl rfl (Or.inl n__law_past__law_take) p__law_take) ev_non (opx_of opd_isN) (nomark _)) (by rfl)) ev_non) (ac_nil ⟨Nat.le_of_ble_eq_true rfl, mp, lp, ?_⟩)
        exact ⟨⟨_, _, rfl⟩, fin _ rfl, st3.put ps pl, f3.put hp0⟩
      | some d =>
        refine Ev.to (ev_ifF (Tv.is (tv_cmp (ev_var 7 rfl rfl (Or.inl n__law_past__law_take) p__law_take) ev_non (opx_of opd_isN) (nomark _)) (by rfl)) (ev_tup (av_cons (ev_binX (ev_ixX (ev_var 7 rfl rfl (Or.inl n__law_past__law_take) p__law_take) ev_int (by walk_at "ix") (fun _ _ => rfl)) (ev_var 4 rfl rfl (Or.inl n__law_past__law_later) p__law_later) (by walk_at "opAdd")) (av_cons (ev_binX (ev_ixX (ev_var 7 rfl rfl (Or.inl n__law_past__law_take) p__law_take) ev_int (by walk_at "ix") (fun _ _ => rfl)) (ev_var 4 rfl rfl (Or.inl n__law_past__law_later) p__law_later) (by walk_at "opAdd")) av_nil)) (by walk_at "sz"))) (ac_nil ⟨Nat.le_of_ble_eq_true rfl, mp, lp, ?_⟩)
        exact ⟨⟨_, _, rfl⟩, fin _ rfl, st3.put ps pl, f3.put hp0⟩
    obtain ⟨⟨a, b, rfl⟩, mp, st3, f3⟩ := hI
    refine bx_one (sx_ret (ec_tup (ac_cons (Ev.to (ev_callTyX B.tuple bb_tuple (av_cons (ev_var 5 rfl rfl (Or.inl n__law_past__law_found) p__law_found) av_nil) (by walk_at "cd") n__law_past_tuple p_tuple) (ac_cons (ec_callTy B.tuple bb_tuple (ac_cons (ec_lcC (own := [("_law_k", 8)]) (wkc_range1 B.range (ec_call D__law_draw (hr.mono (by decide)) (Av.to (av_cons (ev_var 0 rfl rfl (Or.inr (Or.inl n__law_past__law_state)) p__law_state) (av_cons (ev_binX (ev_var 2 rfl rfl (Or.inl n__law_past__law_few) p__law_few) ev_int (by walk_at "opAdd")) av_nil)) ?_) n__law_past__law_draw p__law_draw) n__law_past_range)
      (show BlkOk N__law_past (defScope s__law_past) _ _ from ⟨rfl, by decide +kernel, by decide +kernel, by decide +kernel, by decide +kernel⟩) sc__law_past.nd rfl)) n__law_past_tuple p_tuple))))))
    refine ⟨s, l, _, few + 1, rfl, by omega, by omega, st3, by omega, fun r μ4 r0 r1 st4 fr4 => ⟨r, rfl, by omega, by omega, ?_⟩⟩
    have len : ((List.range r.toNat).map fun (i : Nat) => D.int (i : Int)).length = r.toNat := by rw [List.length_map, List.length_range]
    refine ⟨by rw [len]; exact Nat.le_trans (by omega : r.toNat ≤ 100) (by decide), fun i acc μ' => ∃ cs : List (Int × Int), acc = cs.map eC ∧ cs.length = i ∧ (∀ c ∈ cs, g40 30 c) ∧ St s l (n + 102 + 2 * i) μ' ∧ Fr s l μ μ', ⟨[], rfl, rfl, fun _ h => (by cases h), st4, f3.trans fr4⟩, fun i d acc μ' hd hI _ => ?_, fun acc μ' hI => ?_⟩
    · obtain ⟨cs, rfl, lc, gc, st5, f5⟩ := hI
      have hi : i < r.toNat := by
        have q := (List.getElem?_eq_some_iff.mp hd).1
        rw [len] at q
        exact q
      refine ⟨_, fun _ _ _ _ _ => (gw_name 8 rfl sc__law_past.nd (by walk_at "loc") (by decide) (Or.inr (by walk_at "lk"))), fun _ _ _ _ _ => tsc_nil fun _ _ _ _ _ => ?_⟩
      refine (ec_call D__law_call (hr.mono (by decide)) (Av.to (av_cons (ev_var 0 rfl rfl (by walk_at "vis") p__law_state) (av_cons ev_int av_nil)) ?_) rfl p__law_call)
      refine ⟨s, l, _, 30, rfl, by decide, by decide, st5, by omega, fun x μ6 x0 x1 x2 st6 fr6 => ?_⟩
      refine ⟨cs ++ [x], by rw [List.map_append]; rfl, by rw [List.length_append, lc]; rfl, fun c hc => ?_, st6.mono (by omega), f5.trans fr6⟩
      rcases List.mem_append.mp hc with q | q
      · exact gc c q
      · rw [List.mem_singleton.mp q]
        exact ⟨x0, x1, x2⟩
    · obtain ⟨cs, rfl, lc, gc, st5, f5⟩ := hI
      rw [len] at lc st5
      refine ac_nil ((cd_tuple_lst μ').mono fun d μ6 ⟨e1, e2⟩ => ?_)
      subst e1
      subst e2
      refine ac_nil ⟨Nat.le_of_ble_eq_true rfl, ?_⟩
      have e : D.tup [.tup (ts.map fun t => eT (shT v t)), .tup (cs.map eC)] = eH (ts.map (shT v), cs) := by
        simp only [eH, List.map_map]
        rfl
      rw [e]
      refine h (ts.map (shT v), cs) _ ⟨by rw [List.length_map]; exact lt, by show cs.length ≤ 8; omega, fun t ht => ?_, fun c hc => ?_⟩ (st5.mono (by omega)) f5
      · obtain ⟨t0, ht0, rfl⟩ := List.mem_map.mp ht
        exact sh_gT v0 v1 (gt t0 ht0)
      · obtain ⟨q1, q2, q3⟩ := gc c hc
        exact ⟨by omega, q2, by omega⟩
end
section
variable {P : Program} {w : World} {K : PySem.W.Frag} {mg : Str → Option Value} {base : Heap} {C_Words C_Lines : Addr}
abbrev s__law_line : Stmt := top 55
abbrev N__law_line : List Str := ["_law_words", "_law_word"]
theorem sc__law_line : FnScope N__law_line ["_law_words"] (defScope s__law_line) := ⟨rfl, rfl, rfl, by decide +kernel, rfl, by decide +kernel, by decide +kernel⟩
theorem p__law_words : PlainN "_law_words" := by decide +kernel
theorem p__law_word : PlainN "_law_word" := by decide +kernel
theorem n__law_line__law_words : NmK s__law_line "_law_words" .local := by decide +kernel
abbrev T__law_line : Ct := Pure fun ds r => ∃ ws : List D, ds = [.tup ws] ∧ (∀ d ∈ ws, d.wok = true) ∧ ws.length ≤ 100 ∧ (∀ d ∈ ws, d.wt.length ≤ 100) ∧ r = .str (rowT ws)
theorem ok__law_line {f : Addr} {fd : FuncData} (F : Fun K "_law_line" "_law_line" s__law_line f fd) (B : Blt mg) (L : Glo K mg) : FnOk P w K mg base CX0 1 f fd ["_law_words"] (Pr K T__law_line) := by
  refine fun_ok F sc__law_line (fun ds μ Φ h => ?_) fun cdv A outer s H E hr ds μ Φ h => ?_
  · obtain ⟨r, ⟨c, rfl, _⟩, _⟩ := h
    rfl
  · obtain ⟨r, ⟨ws, rfl, ok, l1, l2, rfl⟩, h⟩ := h
    have sz : ws.length ≤ sizeLine := Nat.le_trans l1 (by decide)
    have sw : ((ws.map D.wt).map (·.length)).sum + ws.length * ((" " : Str)).length ≤ 16777216 := by
      rw [List.map_map]
      have := sum_le (f := (fun s : Str => s.length) ∘ D.wt) (n := 100) (xs := ws) fun d hd => l2 d hd
      have e : ((" " : Str)).length = 1 := by decide
      rw [e]
      have := Nat.mul_le_mul_right 100 l1
      omega
    exact bx_one (sx_ret (Ev.to (ev_bm PySem.F.plainAttrs_str PySem.F.slot_str_join PySem.F.type_str_join ev_str tyd_str (av_cons (ev_lc (own := [("_law_word", 1)]) _ (wk_tup (ev_var 0 rfl rfl (Or.inl n__law_line__law_words) p__law_words)) (by walk_at "sz") (fun x hx => ⟨_, fun s H C cl fp => (gw_name 1 rfl sc__law_line.nd (by walk_at "loc") (by decide) (Or.inr (by walk_at "lk"))), fun s H C cl fp => (ev_callTyX B.str bb_str (av_cons (ev_var 1 rfl rfl (by walk_at "vis") p__law_word) av_nil) (by walk_at "cd") rfl p_str)⟩) (show BlkOk N__law_line (defScope s__law_line) _ _ from ⟨rfl, by decide +kernel, by decide +kernel, by decide +kernel, by decide +kernel⟩) sc__law_line.nd rfl) av_nil) (by walk_at "md")) h))
abbrev s__law_text : Stmt := top 56
abbrev N__law_text : List Str := ["_law_past_here", "_law_found", "_law_put", "_law_take", "_law_call_here"]
theorem sc__law_text : FnScope N__law_text ["_law_past_here"] (defScope s__law_text) := ⟨rfl, rfl, rfl, by decide +kernel, rfl, by decide +kernel, by decide +kernel⟩
theorem p__law_past_here : PlainN "_law_past_here" := by decide +kernel
theorem p__law_call_here : PlainN "_law_call_here" := by decide +kernel
theorem p__law_line : PlainN "_law_line" := by decide +kernel
theorem n__law_text__law_past_here : NmK s__law_text "_law_past_here" .local := by decide +kernel
theorem n__law_text__law_found : NmK s__law_text "_law_found" .local := by decide +kernel
theorem n__law_text__law_put : NmK s__law_text "_law_put" .local := by decide +kernel
theorem n__law_text__law_take : NmK s__law_text "_law_take" .local := by decide +kernel
theorem n__law_text__law_line : NmK s__law_text "_law_line" .globalImplicit := by decide +kernel
abbrev T__law_text : Ct := Pure fun ds r => ∃ t, ds = [eH t] ∧ gH t ∧ r = .str (textH t)
theorem ok__law_text {f : Addr} {fd : FuncData} (F : Fun K "_law_text" "_law_text" s__law_text f fd) (B : Blt mg) (L : Glo K mg) (D__law_line : DefAt P w K mg base "_law_line" ["_law_words"] 1 T__law_line) : FnOk P w K mg base CX0 2 f fd ["_law_past_here"] (Pr K T__law_text) := by
  refine fun_ok F sc__law_text (fun ds μ Φ h => ?_) fun cdv A outer s H E hr ds μ Φ h => ?_
  · obtain ⟨r, ⟨c, rfl, _⟩, _⟩ := h
    rfl
  · obtain ⟨r, ⟨t, rfl, g, rfl⟩, h⟩ := h
    have l1 := g.l1
    have l2 := g.l2
    refine bx_cons (sx_set 1 rfl ?_ sc__law_text.nd (Or.inl n__law_text__law_found) (Or.inr n__law_text__law_found))
    refine ec_own (ac_nil ⟨Nat.zero_le _, fun p hp => ?_⟩)
    refine bx_cons (sx_forM t.1 eT (wk_tup (ev_ixX (ev_var 0 rfl rfl (Or.inl n__law_text__law_past_here) p__law_past_here) ev_int (by walk_at "ix") (fun _ _ => rfl))) (fun pre ρ' μ' => (∃ a b, ρ' = [some (eH t), some (.raw (.ref p)), a, b, none]) ∧ μ' p = some (.lst (pre.map fun x => D.str (rowT (wT x)))) ∧ SubM μ μ') ⟨⟨_, _, rfl⟩, Mem.put_same, subM_put hp⟩ (fun pre x post ρ' μ' sp hI => ?_) (fun ρ' μ' hI => ?_) PassesOwn.never rfl)
    · obtain ⟨⟨a, b, rfl⟩, mp, sub⟩ := hI
      refine ⟨_, (gv_tup (gvl_cons (gv_name 2 rfl sc__law_text.nd (Or.inl n__law_text__law_put) (Or.inr n__law_text__law_put)) (gvl_cons (gv_name 3 rfl sc__law_text.nd (Or.inl n__law_text__law_take) (Or.inr n__law_text__law_take)) gvl_nil)) rfl rfl), ?_⟩
      have hx : x ∈ t.1 := by
        rw [sp]
        exact List.mem_append_right _ List.mem_cons_self
      have ok := wT_ok (g.ts x hx)
      have lp : (pre.map fun x => D.str (rowT (wT x))).length < sizeLine := by
        have e : t.1.length = pre.length + (post.length + 1) := by rw [sp, List.length_append, List.length_cons]
        rw [List.length_map]
        exact Nat.lt_of_le_of_lt (by omega : pre.length ≤ 12) (by decide)
      refine bx_one (sx_app (ds := pre.map fun x => D.str (rowT (wT x))) (ev_var 1 rfl rfl (Or.inl n__law_text__law_found) p__law_found) (by walk_at "mem") ?_)
      have fin : (∃ a b, [some (eH t), some (.raw (.ref p)), some (eC x.1), some (eO x.2), none] = [some (eH t), some (.raw (.ref p)), a, b, none]) ∧ (μ'.put p (.lst ((pre.map fun x => D.str (rowT (wT x))) ++ [D.str (rowT (wT x))]))) p = some (.lst ((pre ++ [x]).map fun x => D.str (rowT (wT x)))) ∧ SubM μ (μ'.put p (.lst ((pre.map fun x => D.str (rowT (wT x))) ++ [D.str (rowT (wT x))]))) :=
        ⟨⟨_, _, rfl⟩, by rw [Mem.put_same, List.map_append]; rfl, sub_put sub hp⟩
      obtain ⟨c, o⟩ := x
      cases o with
      | none =>
        exact Ev.to (ev_call D__law_line (hr.mono (by decide)) (av_cons (ev_binX (ev_binX (ev_tup (av_cons ev_str av_nil) (by walk_at "sz")) (ev_var 2 rfl rfl (Or.inl n__law_text__law_put) p__law_put) (by walk_at "opAdd")) (ev_ifT (Tv.is (tv_cmp (ev_var 3 rfl rfl (Or.inl n__law_text__law_take) p__law_take) ev_non (opx_of opd_isN) (nomark _)) (by rfl)) (ev_tup (av_cons ev_str av_nil) (by walk_at "sz"))) (by walk_at "opAdd")) av_nil) ⟨wT (c, none), rfl, fun d hd => (ok d hd).1, Nat.le_trans (wT_len _) (by decide), fun d hd => (ok d hd).2, rfl⟩ n__law_text__law_line p__law_line) ⟨mp, lp, fin⟩
      | some d =>
        exact Ev.to (ev_call D__law_line (hr.mono (by decide)) (av_cons (ev_binX (ev_binX (ev_tup (av_cons ev_str av_nil) (by walk_at "sz")) (ev_var 2 rfl rfl (Or.inl n__law_text__law_put) p__law_put) (by walk_at "opAdd")) (ev_ifF (Tv.is (tv_cmp (ev_var 3 rfl rfl (Or.inl n__law_text__law_take) p__law_take) ev_non (opx_of opd_isN) (nomark _)) (by rfl)) (ev_binX (ev_tup (av_cons ev_str av_nil) (by walk_at "sz")) (ev_var 3 rfl rfl (Or.inl n__law_text__law_take) p__law_take) (by walk_at "opAdd"))) (by walk_at "opAdd")) av_nil) ⟨wT (c, some d), rfl, fun d hd => (ok d hd).1, Nat.le_trans (wT_len _) (by decide), fun d hd => (ok d hd).2, rfl⟩ n__law_text__law_line p__law_line) ⟨mp, lp, fin⟩
    obtain ⟨⟨a, b, rfl⟩, mp, sub⟩ := hI
    have e : t.1.map (fun x => D.str (rowT (wT x))) ++ t.2.map (fun x => D.str (rowT (wC x))) = (linesH t).map D.str := by
      rw [List.map_append, List.map_map, List.map_map]
      rfl
    refine bx_cons (sx_set 1 rfl ?_ sc__law_text.nd (Or.inl n__law_text__law_found) (Or.inr n__law_text__law_found))
    refine Ev.to (Ev.is (ev_binX (ev_var 1 rfl rfl (Or.inl n__law_text__law_found) p__law_found) (ev_lcM (own := [("_law_call_here", 4)]) t.2 eC _ (wk_tup (ev_ixX (ev_var 0 rfl rfl (Or.inl n__law_text__law_past_here) p__law_past_here) ev_int (by walk_at "ix") (fun _ _ => rfl))) (by walk_at "sz") (fun x hx => ⟨_, fun s H C cl fp => (gw_name 4 rfl sc__law_text.nd (by walk_at "loc") (by decide) (Or.inr (by walk_at "lk"))), fun s H C cl fp => (ev_call D__law_line (hr.mono (by decide)) (av_cons (ev_binX (ev_tup (av_cons ev_str av_nil) (by walk_at "sz")) (ev_var 4 rfl rfl (by walk_at "vis") p__law_call_here) (by walk_at "opAdd")) av_nil) ⟨wC x, rfl, fun d hd => (wC_ok (g.cs x hx) d hd).1, Nat.le_trans (wC_len x) (by decide), fun d hd => (wC_ok (g.cs x hx) d hd).2, rfl⟩ rfl p__law_line)⟩) (show BlkOk N__law_text (defScope s__law_text) _ _ from ⟨rfl, by decide +kernel, by decide +kernel, by decide +kernel, by decide +kernel⟩) sc__law_text.nd rfl) (by walk_at "opAdd")) (congrArg D.lst e)) ?_
    refine bx_drop sub ?_
    have bj := linesH_join g
    have sm : Sm 1 20020 (D.lst ((linesH t).map D.str)) := Sm.lst (sm_strs (linesH_ok g) (linesH_len g)) (by
      simp only [List.length_append, List.length_map]
      omega)
    have fl1 := sm.flat
    have fl2 := sm.shaped (by decide)
    by_cases c : linesH t = []
    · have e2 : textH t = "nothing" := if_pos c
      rw [e2] at h
      refine bx_one (sx_ret (Ev.to (ev_ifF (Tv.is (tv_cmp (ev_var 1 rfl rfl (Or.inl n__law_text__law_found) p__law_found) (ev_lst av_nil (by walk_at "sz")) (by walk_at "opNotEq") (nomark _)) ?_) ev_str) h))
      rw [c]
      rfl
    · have e2 : textH t = Txt.join "\n" (linesH t) := if_neg c
      rw [e2] at h
      refine bx_one (sx_ret (Ev.to (ev_ifT (Tv.is (tv_cmp (ev_var 1 rfl rfl (Or.inl n__law_text__law_found) p__law_found) (ev_lst av_nil (by walk_at "sz")) (by walk_at "opNotEq") (nomark _)) ?_) (ev_bm PySem.F.plainAttrs_str PySem.F.slot_str_join PySem.F.type_str_join ev_str tyd_str (av_cons (ev_var 1 rfl rfl (Or.inl n__law_text__law_found) p__law_found) av_nil) (by walk_at "md"))) h))
      cases q : linesH t with
      | nil => exact absurd q c
      | cons a b => rfl
end
section
variable {P : Program} {w : World} {K : PySem.W.Frag} {mg : Str → Option Value} {base : Heap} {C_Words C_Lines : Addr}
theorem sm_o {t : Th} (g : gT t) : Sm 2 200 (eT t) := by
  obtain ⟨c, o⟩ := t
  refine Sm.tup (k := 1) (n := 90) (fun d hd => ?_) (by show 2 * 91 ≤ 200; decide)
  have hd : d = eC c ∨ d = eO o := by simpa using hd
  rcases hd with rfl | rfl
  · exact (sm_cs (cs := [c]) (fun x hx => by rw [List.mem_singleton.mp hx]; exact g.1) _ List.mem_cons_self).mono (by decide) (by decide)
  · cases o with
    | none => exact .non
    | some d => exact (sm_cs (cs := [d]) (fun x hx => by rw [List.mem_singleton.mp hx]; exact g.2 d rfl) _ List.mem_cons_self).mono (by decide) (by decide)
theorem sm_H {h : Hy} (g : gH h) : Sm 4 6000 (eH h) := by
  refine Sm.tup (k := 3) (n := 2900) (fun d hd => ?_) (by show 2 * 2901 ≤ 6000; decide)
  have hd : d = .tup (h.1.map eT) ∨ d = .tup (h.2.map eC) := by simpa using hd
  rcases hd with rfl | rfl
  · refine Sm.tup (k := 2) (n := 200) (fun d hd => ?_) ?_
    · obtain ⟨t, ht, rfl⟩ := List.mem_map.mp hd
      exact sm_o (g.ts t ht)
    · have := g.l1
      rw [List.length_map]
      omega
  · refine Sm.tup (k := 2) (n := 90) (fun d hd => (sm_cs g.cs d hd).mono (by decide) (by decide)) ?_
    have := g.l2
    rw [List.length_map]
    omega
theorem sm_two {k n m : Nat} {d : D} (h : Sm k n d) (l : 2 * (n + 1) ≤ m) : Sm (k + 1) m (.lst [d, d]) :=
  Sm.lst (fun x hx => by
    have hx : x = d ∨ x = d := by simpa using hx
    rcases hx with rfl | rfl <;> exact h) l
theorem textH_ok {h : Hy} (g : gH h) : ∀ c ∈ TL.tl (textH h), c < 256 := fun c hc => by
  rw [textH_lns] at hc
  rcases mem_join hc with q | ⟨s, hs, q⟩
  · have e : TL.tl ("\n" : Str) = [10] := by decide
    rw [e] at q
    have : c = 10 := List.mem_singleton.mp q
    omega
  · obtain ⟨l, hl, rfl⟩ := List.mem_map.mp hs
    cases l with
    | t x => exact (row_ws (wT_ws x) c q).1
    | c x => exact (row_ws (wC_ws x) c q).1
    | n =>
      have e : (TL.tl Ln.n.tx).all (fun c => decide (c < 256)) = true := by decide +kernel
      exact of_decide_eq_true (List.all_eq_true.mp e c q)
abbrev s__law_right : Stmt := top 57
abbrev N__law_right : List Str := ["_law_past_here", "_law_kept_so", "_law_due"]
theorem sc__law_right : FnScope N__law_right ["_law_past_here"] (defScope s__law_right) := ⟨rfl, rfl, rfl, by decide +kernel, rfl, by decide +kernel, by decide +kernel⟩
theorem p__law_kept_so : PlainN "_law_kept_so" := by decide +kernel
theorem p__law_due : PlainN "_law_due" := by decide +kernel
theorem p_repr : PlainN "repr" := by decide +kernel
theorem p__law_text : PlainN "_law_text" := by decide +kernel
theorem p_history_text : PlainN "history_text" := by decide +kernel
theorem p_read_history : PlainN "read_history" := by decide +kernel
theorem n__law_right__law_past_here : NmK s__law_right "_law_past_here" .local := by decide +kernel
theorem n__law_right__law_kept_so : NmK s__law_right "_law_kept_so" .local := by decide +kernel
theorem n__law_right__law_due : NmK s__law_right "_law_due" .local := by decide +kernel
theorem n__law_right_repr : NmK s__law_right "repr" .globalImplicit := by decide +kernel
theorem n__law_right__law_text : NmK s__law_right "_law_text" .globalImplicit := by decide +kernel
theorem n__law_right_history_text : NmK s__law_right "history_text" .globalImplicit := by decide +kernel
theorem n__law_right_read_history : NmK s__law_right "read_history" .globalImplicit := by decide +kernel
abbrev T__law_right : Ct := Pure fun ds r => ∃ t, ds = [eH t] ∧ gH t ∧ r = .bl true
theorem ok__law_right {f : Addr} {fd : FuncData} (F : Fun K "_law_right" "_law_right" s__law_right f fd) (B : Blt mg) (L : Glo K mg) (D__law_text : DefAt P w K mg base "_law_text" ["_law_past_here"] 2 T__law_text) (D_history_text : DefAt P w K mg base "history_text" ["history"] 6 T_history_text) (D_read_history : DefAt P w K mg base "read_history" ["text"] 6 T_read_history) : FnG P w K mg base 7 f fd ["_law_past_here"] (Pr K T__law_right) := by
  refine funG F sc__law_right (fun ds μ Φ h => ?_) fun cdv A outer s H E hc hr ds μ Φ h => ?_
  · obtain ⟨r, ⟨c, rfl, _⟩, _⟩ := h
    rfl
  · obtain ⟨r, ⟨t, rfl, g, rfl⟩, h⟩ := h
    have smH : Sm 10 1000000 (eH t) := (sm_H g).mono (by decide) (by decide)
    have smHH : Sm 10 1000000 (.lst [eH t, eH t]) := (sm_two (sm_H g) (m := 1000000) (by decide)).mono (by decide) (by decide)
    have smT : Sm 10 1000000 (.lst [.str (textH t), .str (textH t)]) := (sm_two (Sm.str (k := 0) (n := 20020) (textH_ok g) (textH_len g)) (m := 1000000) (by decide)).mono (by decide) (by decide)
    refine bx_cons (sx_par rfl sc__law_right.nd (i := 1) (j := 2) rfl rfl (by decide) n__law_right__law_kept_so n__law_right__law_due (Av.to (av_cons (ev_callBX B.repr bb_repr (av_cons (ev_var 0 rfl rfl (Or.inl n__law_right__law_past_here) p__law_past_here) av_nil) (cdx_of (by walk_at "repr")) n__law_right_repr p_repr) (av_cons (ev_call D__law_text (hr.mono (by decide)) (av_cons (ev_var 0 rfl rfl (Or.inl n__law_right__law_past_here) p__law_past_here) av_nil) ⟨t, rfl, g, rfl⟩ n__law_right__law_text p__law_text) av_nil)) ⟨_, _, rfl, ?_⟩) rfl)
    refine bx_cons (sx_ifF (tv_cmp (ev_callBX B.repr bb_repr (av_cons (ev_lst (av_cons (ev_call D_history_text (hr.mono (by decide)) (av_cons (ev_var 0 rfl rfl (Or.inl n__law_right__law_past_here) p__law_past_here) av_nil) ⟨t, rfl, g, rfl⟩ n__law_right_history_text p_history_text) (av_cons (ev_call D_history_text (hr.mono (by decide)) (av_cons (ev_var 0 rfl rfl (Or.inl n__law_right__law_past_here) p__law_past_here) av_nil) ⟨t, rfl, g, rfl⟩ n__law_right_history_text p_history_text) av_nil)) (by walk_at "sz")) av_nil) (cdx_of (by walk_at "repr")) n__law_right_repr p_repr) (ev_callBX B.repr bb_repr (av_cons (ev_lst (av_cons (ev_var 2 rfl rfl (Or.inl n__law_right__law_due) p__law_due) (av_cons (ev_var 2 rfl rfl (Or.inl n__law_right__law_due) p__law_due) av_nil)) (by walk_at "sz")) av_nil) (cdx_of (by walk_at "repr")) n__law_right_repr p_repr) (by walk_at "opNotEq") (nomark _)) ?_ (bx_nil ?_))
    · rw [decide_eq_true rfl]
      rfl
    refine bx_one (sx_ret (Ev.to (Ev.is (ev_and (ev_cmpX (ev_callBX B.repr bb_repr (av_cons (ev_lst (av_cons (ev_call D_read_history (hr.mono (by decide)) (av_cons (ev_var 2 rfl rfl (Or.inl n__law_right__law_due) p__law_due) av_nil) ⟨t, rfl, g, rfl⟩ n__law_right_read_history p_read_history) (av_cons (ev_call D_read_history (hr.mono (by decide)) (av_cons (ev_var 2 rfl rfl (Or.inl n__law_right__law_due) p__law_due) av_nil) ⟨t, rfl, g, rfl⟩ n__law_right_read_history p_read_history) av_nil)) (by walk_at "sz")) av_nil) (cdx_of (by walk_at "repr")) n__law_right_repr p_repr) (ev_callBX B.repr bb_repr (av_cons (ev_lst (av_cons (ev_var 0 rfl rfl (Or.inl n__law_right__law_past_here) p__law_past_here) (av_cons (ev_var 0 rfl rfl (Or.inl n__law_right__law_past_here) p__law_past_here) av_nil)) (by walk_at "sz")) av_nil) (cdx_of (by walk_at "repr")) n__law_right_repr p_repr) (by walk_at "opEq") (nomark _)) (fun _ => (ev_one (ev_cmpX (ev_callBX B.repr bb_repr (av_cons (ev_var 0 rfl rfl (Or.inl n__law_right__law_past_here) p__law_past_here) av_nil) (cdx_of (by walk_at "repr")) n__law_right_repr p_repr) (ev_var 1 rfl rfl (Or.inl n__law_right__law_kept_so) p__law_kept_so) (by walk_at "opEq") (nomark _))))) ?_) h))
    rw [decide_eq_true rfl, decide_eq_true rfl]
    rfl
end
section
variable {P : Program} {w : World} {K : PySem.W.Frag} {mg : Str → Option Value} {base : Heap} {C_Words C_Lines : Addr}
abbrev hW : Hy := (List.replicate 12 ((-1000000000, 1000000000), none), [(0, 0), (-1000000000, 1000000000), (0, 0), (-1000000000, 1000000000), (0, 0), (-1000000000, 1000000000), (0, 0), (-1000000000, 1000000000)])
theorem gC_0 : gC (0, 0) := ⟨by decide, by decide, by decide⟩
theorem gC_w : gC (-1000000000, 1000000000) := ⟨by decide, by decide, by decide⟩
theorem gW1 : ∀ t ∈ hW.1, gT t := fun t ht => by
  rw [List.eq_of_mem_replicate ht]
  exact ⟨gC_w, fun c e => by cases e⟩
theorem gW : gH hW := ⟨by decide, by decide, gW1, fun c hc => by
  simp only [hW, List.mem_cons, List.not_mem_nil, or_false] at hc
  rcases hc with rfl | rfl | rfl | rfl | rfl | rfl | rfl | rfl <;> first | exact gC_0 | exact gC_w⟩
theorem gW0 : gH (hW.1, []) := ⟨by decide, by decide, gW1, fun c hc => by cases hc⟩
theorem gE : gH ([], []) := ⟨by decide, by decide, fun _ h => (by cases h), fun _ h => (by cases h)⟩
theorem g1 : gH ([], [(-3, 0)]) := ⟨by decide, by decide, fun _ h => (by cases h), fun c hc => by
  rw [List.mem_singleton.mp hc]
  exact ⟨by decide, by decide, by decide⟩⟩
theorem g2 : gH ([((-1, 2), some (0, 1000000000))], []) := ⟨by decide, by decide, fun t ht => by
  rw [List.mem_singleton.mp ht]
  refine ⟨⟨by decide, by decide, by decide⟩, fun c e => ?_⟩
  cases e
  exact ⟨by decide, by decide, by decide⟩, fun c hc => by cases hc⟩
theorem tE : textH ([], []) = "nothing" := by decide +kernel
theorem t1 : textH ([], [(-3, 0)]) = "empty -3 0" := by decide +kernel
theorem t2 : textH ([((-1, 2), some (0, 1000000000))], []) = "thing -1 2 taken 0 1000000000" := by decide +kernel
abbrev s_law : Stmt := top 58
abbrev N_law : List Str := ["_law_script", "_law_state", "_law_turn", "_law_far", "_law_wide", "_law_told"]
theorem sc_law : FnScope N_law ["_law_script"] (defScope s_law) := ⟨rfl, rfl, rfl, by decide +kernel, rfl, by decide +kernel, by decide +kernel⟩
theorem p__law_turn : PlainN "_law_turn" := by decide +kernel
theorem p__law_far : PlainN "_law_far" := by decide +kernel
theorem p__law_wide : PlainN "_law_wide" := by decide +kernel
theorem p__law_told : PlainN "_law_told" := by decide +kernel
theorem p__law_begin : PlainN "_law_begin" := by decide +kernel
theorem p__law_right : PlainN "_law_right" := by decide +kernel
theorem p__law_past : PlainN "_law_past" := by decide +kernel
theorem n_law__law_script : NmK s_law "_law_script" .local := by decide +kernel
theorem n_law__law_state : NmK s_law "_law_state" .local := by decide +kernel
theorem n_law__law_turn : NmK s_law "_law_turn" .local := by decide +kernel
theorem n_law__law_far : NmK s_law "_law_far" .local := by decide +kernel
theorem n_law__law_wide : NmK s_law "_law_wide" .local := by decide +kernel
theorem n_law__law_told : NmK s_law "_law_told" .local := by decide +kernel
theorem n_law__law_begin : NmK s_law "_law_begin" .globalImplicit := by decide +kernel
theorem n_law_range : NmK s_law "range" .globalImplicit := by decide +kernel
theorem n_law_min : NmK s_law "min" .globalImplicit := by decide +kernel
theorem n_law_len : NmK s_law "len" .globalImplicit := by decide +kernel
theorem n_law__law_right : NmK s_law "_law_right" .globalImplicit := by decide +kernel
theorem n_law__law_past : NmK s_law "_law_past" .globalImplicit := by decide +kernel
theorem n_law__law_of : NmK s_law "_law_of" .globalImplicit := by decide +kernel
theorem n_law_history_text : NmK s_law "history_text" .globalImplicit := by decide +kernel
theorem n_law_read_history : NmK s_law "read_history" .globalImplicit := by decide +kernel
abbrev T_law : Ct := fun ds μ Φ => ∃ ns : List Int, ds = [.fro (ns.map D.int)] ∧ ns.length ≤ 63 ∧ ∀ μ', Φ (.bl true) μ'
theorem ok_law {f : Addr} {fd : FuncData} (F : Fun K "law" "law" s_law f fd) (B : Blt mg) (L : Glo K mg) (D__law_begin : DefAt P w K mg base "_law_begin" ["_law_script"] 1 T__law_begin) (D_history_text : DefAt P w K mg base "history_text" ["history"] 6 T_history_text) (D__law_right : DefG P w K mg base "_law_right" ["_law_past_here"] 7 T__law_right) (D_read_history : DefAt P w K mg base "read_history" ["text"] 6 T_read_history) (D__law_past : DefAt P w K mg base "_law_past" ["_law_state", "_law_many", "_law_few"] 5 T__law_past) (D__law_of : DefAt P w K mg base "_law_of" ["_law_state", "_law_some"] 3 T__law_of) : FnG P w K mg base 8 f fd ["_law_script"] (Pr K T_law) := by
  refine funG F sc_law (fun ds μ Φ h => ?_) fun cdv A outer s H E hc hr ds μ Φ h => ?_
  · obtain ⟨ns, rfl, _⟩ := h
    rfl
  · obtain ⟨ns, rfl, ln, h⟩ := h
    refine bx_cons (sx_set 1 rfl ?_ sc_law.nd (Or.inl n_law__law_state) (Or.inr n_law__law_state))
    refine (ec_call D__law_begin (hr.mono (by decide)) (Av.to (av_cons (ev_var 0 rfl rfl (Or.inl n_law__law_script) p__law_script) av_nil) ?_) n_law__law_begin p__law_begin)
    refine ⟨ns, rfl, ln, fun s l μ0 hs hl st sub => ?_⟩
    refine bx_cons (sx_for (wk_range1 B.range (ev_binX ev_int (ev_callBX B.min bb_min (av_cons (ev_callBX B.len bb_len (av_cons (ev_var 0 rfl rfl (Or.inl n_law__law_script) p__law_script) av_nil) (by walk_at "cd") n_law_len p_len) (av_cons ev_int av_nil)) (cdx_of (cd_min2 rfl)) n_law_min p_min) (by walk_at "opAdd")) (by walk_at "rg0") (by walk_at "rg1") n_law_range) (fun i ρ' μ' => (∃ a, ρ' = [some (.fro (ns.map D.int)), some (.raw (.ref s)), a, none, none, none]) ∧ i ≤ 20 ∧ St s l (300 * i) μ') ⟨⟨_, rfl⟩, by decide, st⟩ (fun i d ρ' μ' hd hI => ?_) (fun ρ' μ' hI => ?_) PassesOwn.never rfl)
    · obtain ⟨⟨a, rfl⟩, li, st⟩ := hI
      have hi : i < 20 := by
        have q := (List.getElem?_eq_some_iff.mp hd).1
        rw [List.length_map, List.length_range] at q
        split at q <;> omega
      refine ⟨_, (gv_name 2 rfl sc_law.nd (Or.inl n_law__law_turn) (Or.inr n_law__law_turn)), ?_⟩
      refine bx_one (sx_if (tc_not (tc_val (ec_callG D__law_right hc (hr.mono (by decide)) (ac_cons (ec_call D__law_past (hr.mono (by decide)) (ac_cons (Ev.to (ev_var 1 rfl rfl (Or.inl n_law__law_state) p__law_state) (ac_cons (ec_call D__law_of (hr.mono (by decide)) (Av.to (av_cons (ev_var 1 rfl rfl (Or.inl n_law__law_state) p__law_state) (av_cons (ev_lst (av_cons ev_int (av_cons ev_int (av_cons ev_int av_nil))) (by walk_at "sz")) av_nil)) ?_) n_law__law_of p__law_of)))) n_law__law_past p__law_past)) n_law__law_right p__law_right) (fun _ => rfl))))
      refine ⟨s, l, _, _, rfl, by decide, by decide, st, by omega, fun x μ1 hx st1 fr1 => ?_⟩
      have hv : ∃ v : Int, x = .int v ∧ 0 ≤ v ∧ v ≤ 12 := by
        simp only [List.mem_cons, List.not_mem_nil, or_false] at hx
        rcases hx with rfl | rfl | rfl <;> exact ⟨_, rfl, by decide, by decide⟩
      obtain ⟨v, rfl, v0, v1⟩ := hv
      refine ac_cons (ec_call D__law_of (hr.mono (by decide)) (Av.to (av_cons (ev_var 1 rfl rfl (Or.inl n_law__law_state) p__law_state) (av_cons (ev_lst (av_cons ev_int (av_cons ev_int (av_cons ev_int av_nil))) (by walk_at "sz")) av_nil)) ?_) n_law__law_of p__law_of)
      refine ⟨s, l, _, _, rfl, by decide, by decide, st1, by omega, fun y μ2 hy st2 fr2 => ?_⟩
      have hu : ∃ v : Int, y = .int v ∧ 0 ≤ v ∧ v ≤ 8 := by
        simp only [List.mem_cons, List.not_mem_nil, or_false] at hy
        rcases hy with rfl | rfl | rfl <;> exact ⟨_, rfl, by decide, by decide⟩
      obtain ⟨u, rfl, u0, u1⟩ := hu
      refine ac_nil ?_
      refine ⟨s, l, _, v, u, rfl, v0, v1, u0, u1, st2, by omega, fun t μ3 g st3 fr3 => ?_⟩
      refine ac_nil ?_
      refine ⟨.bl true, ⟨t, rfl, g, rfl⟩, true, tru_bl, ?_⟩
      exact bx_nil ⟨⟨_, rfl⟩, by omega, st3.mono (by omega)⟩
    · obtain ⟨⟨a, rfl⟩, li, st⟩ := hI
      refine bx_cons (sx_set 3 rfl ?_ sc_law.nd (Or.inl n_law__law_far) (Or.inr n_law__law_far))
      refine Ev.to (d := .int 1000000000) (Ev.is (ev_binX ev_int ev_int (by walk_at "opPow")) (by rfl)) ?_
      refine bx_cons (sx_set 4 rfl ?_ sc_law.nd (Or.inl n_law__law_wide) (Or.inr n_law__law_wide))
      refine Ev.to (d := eH hW) (Ev.is (ev_tup (av_cons (ev_binX (ev_tup (av_cons (ev_tup (av_cons (ev_tup (av_cons (ev_un (ev_var 3 rfl rfl (Or.inl n_law__law_far) p__law_far) und_neg) (av_cons (ev_var 3 rfl rfl (Or.inl n_law__law_far) p__law_far) av_nil)) (by walk_at "sz")) (av_cons ev_non av_nil)) (by walk_at "sz")) av_nil) (by walk_at "sz")) ev_int (by walk_at "opMult")) (av_cons (ev_binX (ev_tup (av_cons (ev_tup (av_cons ev_int (av_cons ev_int av_nil)) (by walk_at "sz")) (av_cons (ev_tup (av_cons (ev_un (ev_var 3 rfl rfl (Or.inl n_law__law_far) p__law_far) und_neg) (av_cons (ev_var 3 rfl rfl (Or.inl n_law__law_far) p__law_far) av_nil)) (by walk_at "sz")) av_nil)) (by walk_at "sz")) ev_int (by walk_at "opMult")) av_nil)) (by walk_at "sz")) (by rfl)) ?_
      refine bx_cons (sx_set 5 rfl ?_ sc_law.nd (Or.inl n_law__law_told) (Or.inr n_law__law_told))
      refine Ev.to (d := .lst [.str "nothing", .str "empty -3 0", .str "thing -1 2 taken 0 1000000000"]) (Ev.is (ev_lst (av_cons (ev_call D_history_text (hr.mono (by decide)) (av_cons (ev_tup (av_cons (ev_tup av_nil (by walk_at "sz")) (av_cons (ev_tup av_nil (by walk_at "sz")) av_nil)) (by walk_at "sz")) av_nil) ⟨([], []), rfl, gE, rfl⟩ n_law_history_text p_history_text) (av_cons (ev_call D_history_text (hr.mono (by decide)) (av_cons (ev_tup (av_cons (ev_tup av_nil (by walk_at "sz")) (av_cons (ev_tup (av_cons (ev_tup (av_cons (ev_un ev_int und_neg) (av_cons ev_int av_nil)) (by walk_at "sz")) av_nil) (by walk_at "sz")) av_nil)) (by walk_at "sz")) av_nil) ⟨([], [(-3, 0)]), rfl, g1, rfl⟩ n_law_history_text p_history_text) (av_cons (ev_call D_history_text (hr.mono (by decide)) (av_cons (ev_tup (av_cons (ev_tup (av_cons (ev_tup (av_cons (ev_tup (av_cons (ev_un ev_int und_neg) (av_cons ev_int av_nil)) (by walk_at "sz")) (av_cons (ev_tup (av_cons ev_int (av_cons (ev_var 3 rfl rfl (Or.inl n_law__law_far) p__law_far) av_nil)) (by walk_at "sz")) av_nil)) (by walk_at "sz")) av_nil) (by walk_at "sz")) (av_cons (ev_tup av_nil (by walk_at "sz")) av_nil)) (by walk_at "sz")) av_nil) ⟨([((-1, 2), some (0, 1000000000))], []), rfl, g2, rfl⟩ n_law_history_text p_history_text) av_nil))) (by walk_at "sz")) (by rw [tE, t1, t2])) ?_
      have sm3 : Sm 1 1000 (D.lst [.str "nothing", .str "empty -3 0", .str "thing -1 2 taken 0 1000000000"]) := by
        refine Sm.lst (k := 0) (n := 100) (fun d hd => ?_) (by decide)
        simp only [List.mem_cons, List.not_mem_nil, or_false] at hd
        rcases hd with rfl | rfl | rfl
        · exact Sm.str (fun c hc => of_decide_eq_true (List.all_eq_true.mp (by decide +kernel : (TL.tl ("nothing" : Str)).all (fun c => decide (c < 256)) = true) c hc)) (by decide)
        · exact Sm.str (fun c hc => of_decide_eq_true (List.all_eq_true.mp (by decide +kernel : (TL.tl ("empty -3 0" : Str)).all (fun c => decide (c < 256)) = true) c hc)) (by decide)
        · exact Sm.str (fun c hc => of_decide_eq_true (List.all_eq_true.mp (by decide +kernel : (TL.tl ("thing -1 2 taken 0 1000000000" : Str)).all (fun c => decide (c < 256)) = true) c hc)) (by decide)
      have fl3 := sm3.flat
      have sh3 := sm3.shaped (by decide)
      refine bx_cons (sx_ifF (tv_cmp (ev_var 5 rfl rfl (Or.inl n_law__law_told) p__law_told) (ev_lst (av_cons ev_str (av_cons ev_str (av_cons ev_str av_nil))) (by walk_at "sz")) (by walk_at "opNotEq") (nomark _)) (by decide +kernel) (bx_nil ?_))
      have smE := sm_H gE
      have flE := smE.flat
      have shE := smE.shaped (by decide)
      refine bx_one (sx_ret (Ev.to (Ev.is (ev_and (ev_cmpX (ev_call D_read_history (hr.mono (by decide)) (av_cons ev_str av_nil) ⟨([], []), congrArg (fun s => [D.str s]) tE.symm, gE, rfl⟩ n_law_read_history p_read_history) (ev_tup (av_cons (ev_tup av_nil (by walk_at "sz")) (av_cons (ev_tup av_nil (by walk_at "sz")) av_nil)) (by walk_at "sz")) (by walk_at "opEq") (nomark _)) (fun _ => (ev_and (ev_callG D__law_right hc (hr.mono (by decide)) (av_cons (ev_var 4 rfl rfl (Or.inl n_law__law_wide) p__law_wide) av_nil) ⟨hW, rfl, gW, rfl⟩ n_law__law_right p__law_right) (fun _ => (ev_one (ev_callG D__law_right hc (hr.mono (by decide)) (av_cons (ev_tup (av_cons (ev_ixX (ev_var 4 rfl rfl (Or.inl n_law__law_wide) p__law_wide) ev_int (by walk_at "ix") (fun _ _ => rfl)) (av_cons (ev_tup av_nil (by walk_at "sz")) av_nil)) (by walk_at "sz")) av_nil) ⟨(hW.1, []), rfl, gW0, rfl⟩ n_law__law_right p__law_right)))))) (congrArg D.bl (by decide +kernel))) (h _)))
end
theorem all_mk {l : PySem.W.OpenLaw} {w : World} {K : PySem.W.Frag} {h : Heap} {mg : Str → Option Value} {fa : Addr} (X : K.In h) (G : h.Ns mainGlobals mg) (hfa : mg "law" = some (.ref fa))
    {tk_MOST_TICK : Tok} {tk_MOST_THINGS : Tok} {tk_MOST_EMPTIES : Tok} {tk_MOST_FIGURES : Tok} {tk_THING : Tok} {tk_EMPTY_terms : Tok} {tk_NEWLINE : Tok} {tk_BLANK : Tok} {tk_MINUS : Tok} {tk_NAUGHT : Tok} {tk_FIGURES : Tok} {tk_TAKEN : Tok} {tk_NEVER : Tok} {tk_NOTHING : Tok} {C_Words : Addr} {C_Lines : Addr} {f_is_integer : Addr} {od_is_integer an_is_integer : Option Addr} {sl_is_integer : Array (Option Value)} {oc_is_integer kV_is_integer dc_is_integer pm_is_integer cd_is_integer ct_is_integer : Value} {f_is_between : Addr} {od_is_between an_is_between : Option Addr} {sl_is_between : Array (Option Value)} {oc_is_between kV_is_between dc_is_between pm_is_between cd_is_between ct_is_between : Value} {f_is_call : Addr} {od_is_call an_is_call : Option Addr} {sl_is_call : Array (Option Value)} {oc_is_call kV_is_call dc_is_call pm_is_call cd_is_call ct_is_call : Value} {f_is_thing : Addr} {od_is_thing an_is_thing : Option Addr} {sl_is_thing : Array (Option Value)} {oc_is_thing kV_is_thing dc_is_thing pm_is_thing cd_is_thing ct_is_thing : Value} {f_need_history : Addr} {od_need_history an_need_history : Option Addr} {sl_need_history : Array (Option Value)} {oc_need_history kV_need_history dc_need_history pm_need_history cd_need_history ct_need_history : Value} {f_line_of : Addr} {od_line_of an_line_of : Option Addr} {sl_line_of : Array (Option Value)} {oc_line_of kV_line_of dc_line_of pm_line_of cd_line_of ct_line_of : Value} {f_thing_line : Addr} {od_thing_line an_thing_line : Option Addr} {sl_thing_line : Array (Option Value)} {oc_thing_line kV_thing_line dc_thing_line pm_thing_line cd_thing_line ct_thing_line : Value} {f_history_text : Addr} {od_history_text an_history_text : Option Addr} {sl_history_text : Array (Option Value)} {oc_history_text kV_history_text dc_history_text pm_history_text cd_history_text ct_history_text : Value} {f_integer_in : Addr} {od_integer_in an_integer_in : Option Addr} {sl_integer_in : Array (Option Value)} {oc_integer_in kV_integer_in dc_integer_in pm_integer_in cd_integer_in ct_integer_in : Value} {f_Words___init__ : Addr} {od_Words___init__ an_Words___init__ : Option Addr} {sl_Words___init__ : Array (Option Value)} {oc_Words___init__ kV_Words___init__ dc_Words___init__ pm_Words___init__ cd_Words___init__ ct_Words___init__ : Value} {f_Words_next_word : Addr} {od_Words_next_word an_Words_next_word : Option Addr} {sl_Words_next_word : Array (Option Value)} {oc_Words_next_word kV_Words_next_word dc_Words_next_word pm_Words_next_word cd_Words_next_word ct_Words_next_word : Value} {f_Words_word_of : Addr} {od_Words_word_of an_Words_word_of : Option Addr} {sl_Words_word_of : Array (Option Value)} {oc_Words_word_of kV_Words_word_of dc_Words_word_of pm_Words_word_of cd_Words_word_of ct_Words_word_of : Value} {f_Words_integer : Addr} {od_Words_integer an_Words_integer : Option Addr} {sl_Words_integer : Array (Option Value)} {oc_Words_integer kV_Words_integer dc_Words_integer pm_Words_integer cd_Words_integer ct_Words_integer : Value} {f_Words_call : Addr} {od_Words_call an_Words_call : Option Addr} {sl_Words_call : Array (Option Value)} {oc_Words_call kV_Words_call dc_Words_call pm_Words_call cd_Words_call ct_Words_call : Value} {f_Words_end : Addr} {od_Words_end an_Words_end : Option Addr} {sl_Words_end : Array (Option Value)} {oc_Words_end kV_Words_end dc_Words_end pm_Words_end cd_Words_end ct_Words_end : Value} {f_Lines___init__ : Addr} {od_Lines___init__ an_Lines___init__ : Option Addr} {sl_Lines___init__ : Array (Option Value)} {oc_Lines___init__ kV_Lines___init__ dc_Lines___init__ pm_Lines___init__ cd_Lines___init__ ct_Lines___init__ : Value} {f_Lines_sorts : Addr} {od_Lines_sorts an_Lines_sorts : Option Addr} {sl_Lines_sorts : Array (Option Value)} {oc_Lines_sorts kV_Lines_sorts dc_Lines_sorts pm_Lines_sorts cd_Lines_sorts ct_Lines_sorts : Value} {f_Lines_read : Addr} {od_Lines_read an_Lines_read : Option Addr} {sl_Lines_read : Array (Option Value)} {oc_Lines_read kV_Lines_read dc_Lines_read pm_Lines_read cd_Lines_read ct_Lines_read : Value} {f_need_text : Addr} {od_need_text an_need_text : Option Addr} {sl_need_text : Array (Option Value)} {oc_need_text kV_need_text dc_need_text pm_need_text cd_need_text ct_need_text : Value} {f_read_history : Addr} {od_read_history an_read_history : Option Addr} {sl_read_history : Array (Option Value)} {oc_read_history kV_read_history dc_read_history pm_read_history cd_read_history ct_read_history : Value} {f__law_mixed : Addr} {od__law_mixed an__law_mixed : Option Addr} {sl__law_mixed : Array (Option Value)} {oc__law_mixed kV__law_mixed dc__law_mixed pm__law_mixed cd__law_mixed ct__law_mixed : Value} {f__law_begin : Addr} {od__law_begin an__law_begin : Option Addr} {sl__law_begin : Array (Option Value)} {oc__law_begin kV__law_begin dc__law_begin pm__law_begin cd__law_begin ct__law_begin : Value} {f__law_draw : Addr} {od__law_draw an__law_draw : Option Addr} {sl__law_draw : Array (Option Value)} {oc__law_draw kV__law_draw dc__law_draw pm__law_draw cd__law_draw ct__law_draw : Value} {f__law_of : Addr} {od__law_of an__law_of : Option Addr} {sl__law_of : Array (Option Value)} {oc__law_of kV__law_of dc__law_of pm__law_of cd__law_of ct__law_of : Value} {f__law_call : Addr} {od__law_call an__law_call : Option Addr} {sl__law_call : Array (Option Value)} {oc__law_call kV__law_call dc__law_call pm__law_call cd__law_call ct__law_call : Value} {f__law_things : Addr} {od__law_things an__law_things : Option Addr} {sl__law_things : Array (Option Value)} {oc__law_things kV__law_things dc__law_things pm__law_things cd__law_things ct__law_things : Value} {f__law_past : Addr} {od__law_past an__law_past : Option Addr} {sl__law_past : Array (Option Value)} {oc__law_past kV__law_past dc__law_past pm__law_past cd__law_past ct__law_past : Value} {f__law_line : Addr} {od__law_line an__law_line : Option Addr} {sl__law_line : Array (Option Value)} {oc__law_line kV__law_line dc__law_line pm__law_line cd__law_line ct__law_line : Value} {f__law_text : Addr} {od__law_text an__law_text : Option Addr} {sl__law_text : Array (Option Value)} {oc__law_text kV__law_text dc__law_text pm__law_text cd__law_text ct__law_text : Value} {f__law_right : Addr} {od__law_right an__law_right : Option Addr} {sl__law_right : Array (Option Value)} {oc__law_right kV__law_right dc__law_right pm__law_right cd__law_right ct__law_right : Value} {f_law : Addr} {od_law an_law : Option Addr} {sl_law : Array (Option Value)} {oc_law kV_law dc_law pm_law cd_law ct_law : Value}
    (z_isinstance : PySem.W.nsIn K mainGlobals "isinstance" = some none)
    (z_len : PySem.W.nsIn K mainGlobals "len" = some none)
    (z_all : PySem.W.nsIn K mainGlobals "all" = some none)
    (z_min : PySem.W.nsIn K mainGlobals "min" = some none)
    (z_max : PySem.W.nsIn K mainGlobals "max" = some none)
    (z_int : PySem.W.nsIn K mainGlobals "int" = some none)
    (z_bool : PySem.W.nsIn K mainGlobals "bool" = some none)
    (z_str : PySem.W.nsIn K mainGlobals "str" = some none)
    (z_tuple : PySem.W.nsIn K mainGlobals "tuple" = some none)
    (z_list : PySem.W.nsIn K mainGlobals "list" = some none)
    (z_range : PySem.W.nsIn K mainGlobals "range" = some none)
    (z_enumerate : PySem.W.nsIn K mainGlobals "enumerate" = some none)
    (z_repr : PySem.W.nsIn K mainGlobals "repr" = some none)
    (g_MOST_TICK : PySem.W.nsIn K mainGlobals "MOST_TICK" = some (some (.int 1000000000 tk_MOST_TICK)))
    (g_MOST_THINGS : PySem.W.nsIn K mainGlobals "MOST_THINGS" = some (some (.int 12 tk_MOST_THINGS)))
    (g_MOST_EMPTIES : PySem.W.nsIn K mainGlobals "MOST_EMPTIES" = some (some (.int 8 tk_MOST_EMPTIES)))
    (g_MOST_FIGURES : PySem.W.nsIn K mainGlobals "MOST_FIGURES" = some (some (.int 31 tk_MOST_FIGURES)))
    (g_THING : PySem.W.nsIn K mainGlobals "THING" = some (some (.str "thing" tk_THING)))
    (g_EMPTY_terms : PySem.W.nsIn K mainGlobals "EMPTY_terms" = some (some (.str "empty" tk_EMPTY_terms)))
    (g_NEWLINE : PySem.W.nsIn K mainGlobals "NEWLINE" = some (some (.str "\n" tk_NEWLINE)))
    (g_BLANK : PySem.W.nsIn K mainGlobals "BLANK" = some (some (.str " " tk_BLANK)))
    (g_MINUS : PySem.W.nsIn K mainGlobals "MINUS" = some (some (.str "-" tk_MINUS)))
    (g_NAUGHT : PySem.W.nsIn K mainGlobals "NAUGHT" = some (some (.str "0" tk_NAUGHT)))
    (g_FIGURES : PySem.W.nsIn K mainGlobals "FIGURES" = some (some (.str "0123456789" tk_FIGURES)))
    (g_TAKEN : PySem.W.nsIn K mainGlobals "TAKEN" = some (some (.str "taken" tk_TAKEN)))
    (g_NEVER : PySem.W.nsIn K mainGlobals "NEVER" = some (some (.str "never" tk_NEVER)))
    (g_NOTHING : PySem.W.nsIn K mainGlobals "NOTHING" = some (some (.str "nothing" tk_NOTHING)))
    (aC_Words : PySem.W.nsIn K mainGlobals "Words" = some (some (.ref C_Words)))
    (pg_Words : PySem.W.plainGet K C_Words Str.empty = true)
    (hd_Words : PySem.W.hasDictIn K C_Words = true)
    (po_Words : PySem.W.plainOver K C_Words = true)
    (sa_Words : PySem.W.findIn K (.ref C_Words) "__setattr__" = some (some (.builtin "object.__setattr__")))
    (mk_Words : PySem.W.makesIn K C_Words = true)
    (kc_Words : PySem.W.keepIn K (.ref C_Words) = true)
    (n_Words_all_words : PySem.W.findIn K (.ref C_Words) "all_words" = some none)
    (n_Words_row : PySem.W.findIn K (.ref C_Words) "row" = some none)
    (n_Words_at : PySem.W.findIn K (.ref C_Words) "at" = some none)
    (n_Words_terms_read : PySem.W.findIn K (.ref C_Words) "terms_read" = some none)
    (aC_Lines : PySem.W.nsIn K mainGlobals "Lines" = some (some (.ref C_Lines)))
    (pg_Lines : PySem.W.plainGet K C_Lines Str.empty = true)
    (hd_Lines : PySem.W.hasDictIn K C_Lines = true)
    (po_Lines : PySem.W.plainOver K C_Lines = true)
    (sa_Lines : PySem.W.findIn K (.ref C_Lines) "__setattr__" = some (some (.builtin "object.__setattr__")))
    (mk_Lines : PySem.W.makesIn K C_Lines = true)
    (kc_Lines : PySem.W.keepIn K (.ref C_Lines) = true)
    (n_Lines_things_read : PySem.W.findIn K (.ref C_Lines) "things_read" = some none)
    (n_Lines_empties_read : PySem.W.findIn K (.ref C_Lines) "empties_read" = some none)
    (a_is_integer : PySem.W.nsIn K mainGlobals "is_integer" = some (some (.ref f_is_integer)))
    (l_is_integer : K.lookup f_is_integer = some ⟨oc_is_integer, od_is_integer, .func (PySem.W.fnOf "is_integer" "is_integer" (defArgs s_is_integer) (defBody s_is_integer) (defScope s_is_integer) .none kV_is_integer dc_is_integer pm_is_integer an_is_integer cd_is_integer ct_is_integer), sl_is_integer⟩)
    (c_is_integer : PySem.W.codeIn K cd_is_integer "is_integer" = true)
    (k_is_integer : PySem.W.keepIn K (.ref f_is_integer) = true)
    (a_is_between : PySem.W.nsIn K mainGlobals "is_between" = some (some (.ref f_is_between)))
    (l_is_between : K.lookup f_is_between = some ⟨oc_is_between, od_is_between, .func (PySem.W.fnOf "is_between" "is_between" (defArgs s_is_between) (defBody s_is_between) (defScope s_is_between) .none kV_is_between dc_is_between pm_is_between an_is_between cd_is_between ct_is_between), sl_is_between⟩)
    (c_is_between : PySem.W.codeIn K cd_is_between "is_between" = true)
    (k_is_between : PySem.W.keepIn K (.ref f_is_between) = true)
    (a_is_call : PySem.W.nsIn K mainGlobals "is_call" = some (some (.ref f_is_call)))
    (l_is_call : K.lookup f_is_call = some ⟨oc_is_call, od_is_call, .func (PySem.W.fnOf "is_call" "is_call" (defArgs s_is_call) (defBody s_is_call) (defScope s_is_call) .none kV_is_call dc_is_call pm_is_call an_is_call cd_is_call ct_is_call), sl_is_call⟩)
    (c_is_call : PySem.W.codeIn K cd_is_call "is_call" = true)
    (k_is_call : PySem.W.keepIn K (.ref f_is_call) = true)
    (a_is_thing : PySem.W.nsIn K mainGlobals "is_thing" = some (some (.ref f_is_thing)))
    (l_is_thing : K.lookup f_is_thing = some ⟨oc_is_thing, od_is_thing, .func (PySem.W.fnOf "is_thing" "is_thing" (defArgs s_is_thing) (defBody s_is_thing) (defScope s_is_thing) .none kV_is_thing dc_is_thing pm_is_thing an_is_thing cd_is_thing ct_is_thing), sl_is_thing⟩)
    (c_is_thing : PySem.W.codeIn K cd_is_thing "is_thing" = true)
    (k_is_thing : PySem.W.keepIn K (.ref f_is_thing) = true)
    (a_need_history : PySem.W.nsIn K mainGlobals "need_history" = some (some (.ref f_need_history)))
    (l_need_history : K.lookup f_need_history = some ⟨oc_need_history, od_need_history, .func (PySem.W.fnOf "need_history" "need_history" (defArgs s_need_history) (defBody s_need_history) (defScope s_need_history) .none kV_need_history dc_need_history pm_need_history an_need_history cd_need_history ct_need_history), sl_need_history⟩)
    (c_need_history : PySem.W.codeIn K cd_need_history "need_history" = true)
    (k_need_history : PySem.W.keepIn K (.ref f_need_history) = true)
    (a_line_of : PySem.W.nsIn K mainGlobals "line_of" = some (some (.ref f_line_of)))
    (l_line_of : K.lookup f_line_of = some ⟨oc_line_of, od_line_of, .func (PySem.W.fnOf "line_of" "line_of" (defArgs s_line_of) (defBody s_line_of) (defScope s_line_of) .none kV_line_of dc_line_of pm_line_of an_line_of cd_line_of ct_line_of), sl_line_of⟩)
    (c_line_of : PySem.W.codeIn K cd_line_of "line_of" = true)
    (k_line_of : PySem.W.keepIn K (.ref f_line_of) = true)
    (a_thing_line : PySem.W.nsIn K mainGlobals "thing_line" = some (some (.ref f_thing_line)))
    (l_thing_line : K.lookup f_thing_line = some ⟨oc_thing_line, od_thing_line, .func (PySem.W.fnOf "thing_line" "thing_line" (defArgs s_thing_line) (defBody s_thing_line) (defScope s_thing_line) .none kV_thing_line dc_thing_line pm_thing_line an_thing_line cd_thing_line ct_thing_line), sl_thing_line⟩)
    (c_thing_line : PySem.W.codeIn K cd_thing_line "thing_line" = true)
    (k_thing_line : PySem.W.keepIn K (.ref f_thing_line) = true)
    (a_history_text : PySem.W.nsIn K mainGlobals "history_text" = some (some (.ref f_history_text)))
    (l_history_text : K.lookup f_history_text = some ⟨oc_history_text, od_history_text, .func (PySem.W.fnOf "history_text" "history_text" (defArgs s_history_text) (defBody s_history_text) (defScope s_history_text) .none kV_history_text dc_history_text pm_history_text an_history_text cd_history_text ct_history_text), sl_history_text⟩)
    (c_history_text : PySem.W.codeIn K cd_history_text "history_text" = true)
    (k_history_text : PySem.W.keepIn K (.ref f_history_text) = true)
    (a_integer_in : PySem.W.nsIn K mainGlobals "integer_in" = some (some (.ref f_integer_in)))
    (l_integer_in : K.lookup f_integer_in = some ⟨oc_integer_in, od_integer_in, .func (PySem.W.fnOf "integer_in" "integer_in" (defArgs s_integer_in) (defBody s_integer_in) (defScope s_integer_in) .none kV_integer_in dc_integer_in pm_integer_in an_integer_in cd_integer_in ct_integer_in), sl_integer_in⟩)
    (c_integer_in : PySem.W.codeIn K cd_integer_in "integer_in" = true)
    (k_integer_in : PySem.W.keepIn K (.ref f_integer_in) = true)
    (a_Words___init__ : PySem.W.findIn K (.ref C_Words) "__init__" = some (some (.ref f_Words___init__)))
    (i_Words___init__ : PySem.W.isFn K (.ref f_Words___init__) = true)
    (l_Words___init__ : K.lookup f_Words___init__ = some ⟨oc_Words___init__, od_Words___init__, .func (PySem.W.fnOf "__init__" "Words.__init__" (defArgs s_Words___init__) (defBody s_Words___init__) (defScope s_Words___init__) .none kV_Words___init__ dc_Words___init__ pm_Words___init__ an_Words___init__ cd_Words___init__ ct_Words___init__), sl_Words___init__⟩)
    (c_Words___init__ : PySem.W.codeIn K cd_Words___init__ "Words.__init__" = true)
    (k_Words___init__ : PySem.W.keepIn K (.ref f_Words___init__) = true)
    (a_Words_next_word : PySem.W.findIn K (.ref C_Words) "next_word" = some (some (.ref f_Words_next_word)))
    (i_Words_next_word : PySem.W.isFn K (.ref f_Words_next_word) = true)
    (l_Words_next_word : K.lookup f_Words_next_word = some ⟨oc_Words_next_word, od_Words_next_word, .func (PySem.W.fnOf "next_word" "Words.next_word" (defArgs s_Words_next_word) (defBody s_Words_next_word) (defScope s_Words_next_word) .none kV_Words_next_word dc_Words_next_word pm_Words_next_word an_Words_next_word cd_Words_next_word ct_Words_next_word), sl_Words_next_word⟩)
    (c_Words_next_word : PySem.W.codeIn K cd_Words_next_word "Words.next_word" = true)
    (k_Words_next_word : PySem.W.keepIn K (.ref f_Words_next_word) = true)
    (a_Words_word_of : PySem.W.findIn K (.ref C_Words) "word_of" = some (some (.ref f_Words_word_of)))
    (i_Words_word_of : PySem.W.isFn K (.ref f_Words_word_of) = true)
    (l_Words_word_of : K.lookup f_Words_word_of = some ⟨oc_Words_word_of, od_Words_word_of, .func (PySem.W.fnOf "word_of" "Words.word_of" (defArgs s_Words_word_of) (defBody s_Words_word_of) (defScope s_Words_word_of) .none kV_Words_word_of dc_Words_word_of pm_Words_word_of an_Words_word_of cd_Words_word_of ct_Words_word_of), sl_Words_word_of⟩)
    (c_Words_word_of : PySem.W.codeIn K cd_Words_word_of "Words.word_of" = true)
    (k_Words_word_of : PySem.W.keepIn K (.ref f_Words_word_of) = true)
    (a_Words_integer : PySem.W.findIn K (.ref C_Words) "integer" = some (some (.ref f_Words_integer)))
    (i_Words_integer : PySem.W.isFn K (.ref f_Words_integer) = true)
    (l_Words_integer : K.lookup f_Words_integer = some ⟨oc_Words_integer, od_Words_integer, .func (PySem.W.fnOf "integer" "Words.integer" (defArgs s_Words_integer) (defBody s_Words_integer) (defScope s_Words_integer) .none kV_Words_integer dc_Words_integer pm_Words_integer an_Words_integer cd_Words_integer ct_Words_integer), sl_Words_integer⟩)
    (c_Words_integer : PySem.W.codeIn K cd_Words_integer "Words.integer" = true)
    (k_Words_integer : PySem.W.keepIn K (.ref f_Words_integer) = true)
    (a_Words_call : PySem.W.findIn K (.ref C_Words) "call" = some (some (.ref f_Words_call)))
    (i_Words_call : PySem.W.isFn K (.ref f_Words_call) = true)
    (l_Words_call : K.lookup f_Words_call = some ⟨oc_Words_call, od_Words_call, .func (PySem.W.fnOf "call" "Words.call" (defArgs s_Words_call) (defBody s_Words_call) (defScope s_Words_call) .none kV_Words_call dc_Words_call pm_Words_call an_Words_call cd_Words_call ct_Words_call), sl_Words_call⟩)
    (c_Words_call : PySem.W.codeIn K cd_Words_call "Words.call" = true)
    (k_Words_call : PySem.W.keepIn K (.ref f_Words_call) = true)
    (a_Words_end : PySem.W.findIn K (.ref C_Words) "end" = some (some (.ref f_Words_end)))
    (i_Words_end : PySem.W.isFn K (.ref f_Words_end) = true)
    (l_Words_end : K.lookup f_Words_end = some ⟨oc_Words_end, od_Words_end, .func (PySem.W.fnOf "end" "Words.end" (defArgs s_Words_end) (defBody s_Words_end) (defScope s_Words_end) .none kV_Words_end dc_Words_end pm_Words_end an_Words_end cd_Words_end ct_Words_end), sl_Words_end⟩)
    (c_Words_end : PySem.W.codeIn K cd_Words_end "Words.end" = true)
    (k_Words_end : PySem.W.keepIn K (.ref f_Words_end) = true)
    (a_Lines___init__ : PySem.W.findIn K (.ref C_Lines) "__init__" = some (some (.ref f_Lines___init__)))
    (i_Lines___init__ : PySem.W.isFn K (.ref f_Lines___init__) = true)
    (l_Lines___init__ : K.lookup f_Lines___init__ = some ⟨oc_Lines___init__, od_Lines___init__, .func (PySem.W.fnOf "__init__" "Lines.__init__" (defArgs s_Lines___init__) (defBody s_Lines___init__) (defScope s_Lines___init__) .none kV_Lines___init__ dc_Lines___init__ pm_Lines___init__ an_Lines___init__ cd_Lines___init__ ct_Lines___init__), sl_Lines___init__⟩)
    (c_Lines___init__ : PySem.W.codeIn K cd_Lines___init__ "Lines.__init__" = true)
    (k_Lines___init__ : PySem.W.keepIn K (.ref f_Lines___init__) = true)
    (a_Lines_sorts : PySem.W.findIn K (.ref C_Lines) "sorts" = some (some (.ref f_Lines_sorts)))
    (i_Lines_sorts : PySem.W.isFn K (.ref f_Lines_sorts) = true)
    (l_Lines_sorts : K.lookup f_Lines_sorts = some ⟨oc_Lines_sorts, od_Lines_sorts, .func (PySem.W.fnOf "sorts" "Lines.sorts" (defArgs s_Lines_sorts) (defBody s_Lines_sorts) (defScope s_Lines_sorts) .none kV_Lines_sorts dc_Lines_sorts pm_Lines_sorts an_Lines_sorts cd_Lines_sorts ct_Lines_sorts), sl_Lines_sorts⟩)
    (c_Lines_sorts : PySem.W.codeIn K cd_Lines_sorts "Lines.sorts" = true)
    (k_Lines_sorts : PySem.W.keepIn K (.ref f_Lines_sorts) = true)
    (a_Lines_read : PySem.W.findIn K (.ref C_Lines) "read" = some (some (.ref f_Lines_read)))
    (i_Lines_read : PySem.W.isFn K (.ref f_Lines_read) = true)
    (l_Lines_read : K.lookup f_Lines_read = some ⟨oc_Lines_read, od_Lines_read, .func (PySem.W.fnOf "read" "Lines.read" (defArgs s_Lines_read) (defBody s_Lines_read) (defScope s_Lines_read) .none kV_Lines_read dc_Lines_read pm_Lines_read an_Lines_read cd_Lines_read ct_Lines_read), sl_Lines_read⟩)
    (c_Lines_read : PySem.W.codeIn K cd_Lines_read "Lines.read" = true)
    (k_Lines_read : PySem.W.keepIn K (.ref f_Lines_read) = true)
    (a_need_text : PySem.W.nsIn K mainGlobals "need_text" = some (some (.ref f_need_text)))
    (l_need_text : K.lookup f_need_text = some ⟨oc_need_text, od_need_text, .func (PySem.W.fnOf "need_text" "need_text" (defArgs s_need_text) (defBody s_need_text) (defScope s_need_text) .none kV_need_text dc_need_text pm_need_text an_need_text cd_need_text ct_need_text), sl_need_text⟩)
    (c_need_text : PySem.W.codeIn K cd_need_text "need_text" = true)
    (k_need_text : PySem.W.keepIn K (.ref f_need_text) = true)
    (a_read_history : PySem.W.nsIn K mainGlobals "read_history" = some (some (.ref f_read_history)))
    (l_read_history : K.lookup f_read_history = some ⟨oc_read_history, od_read_history, .func (PySem.W.fnOf "read_history" "read_history" (defArgs s_read_history) (defBody s_read_history) (defScope s_read_history) .none kV_read_history dc_read_history pm_read_history an_read_history cd_read_history ct_read_history), sl_read_history⟩)
    (c_read_history : PySem.W.codeIn K cd_read_history "read_history" = true)
    (k_read_history : PySem.W.keepIn K (.ref f_read_history) = true)
    (a__law_mixed : PySem.W.nsIn K mainGlobals "_law_mixed" = some (some (.ref f__law_mixed)))
    (l__law_mixed : K.lookup f__law_mixed = some ⟨oc__law_mixed, od__law_mixed, .func (PySem.W.fnOf "_law_mixed" "_law_mixed" (defArgs s__law_mixed) (defBody s__law_mixed) (defScope s__law_mixed) .none kV__law_mixed dc__law_mixed pm__law_mixed an__law_mixed cd__law_mixed ct__law_mixed), sl__law_mixed⟩)
    (c__law_mixed : PySem.W.codeIn K cd__law_mixed "_law_mixed" = true)
    (k__law_mixed : PySem.W.keepIn K (.ref f__law_mixed) = true)
    (a__law_begin : PySem.W.nsIn K mainGlobals "_law_begin" = some (some (.ref f__law_begin)))
    (l__law_begin : K.lookup f__law_begin = some ⟨oc__law_begin, od__law_begin, .func (PySem.W.fnOf "_law_begin" "_law_begin" (defArgs s__law_begin) (defBody s__law_begin) (defScope s__law_begin) .none kV__law_begin dc__law_begin pm__law_begin an__law_begin cd__law_begin ct__law_begin), sl__law_begin⟩)
    (c__law_begin : PySem.W.codeIn K cd__law_begin "_law_begin" = true)
    (k__law_begin : PySem.W.keepIn K (.ref f__law_begin) = true)
    (a__law_draw : PySem.W.nsIn K mainGlobals "_law_draw" = some (some (.ref f__law_draw)))
    (l__law_draw : K.lookup f__law_draw = some ⟨oc__law_draw, od__law_draw, .func (PySem.W.fnOf "_law_draw" "_law_draw" (defArgs s__law_draw) (defBody s__law_draw) (defScope s__law_draw) .none kV__law_draw dc__law_draw pm__law_draw an__law_draw cd__law_draw ct__law_draw), sl__law_draw⟩)
    (c__law_draw : PySem.W.codeIn K cd__law_draw "_law_draw" = true)
    (k__law_draw : PySem.W.keepIn K (.ref f__law_draw) = true)
    (a__law_of : PySem.W.nsIn K mainGlobals "_law_of" = some (some (.ref f__law_of)))
    (l__law_of : K.lookup f__law_of = some ⟨oc__law_of, od__law_of, .func (PySem.W.fnOf "_law_of" "_law_of" (defArgs s__law_of) (defBody s__law_of) (defScope s__law_of) .none kV__law_of dc__law_of pm__law_of an__law_of cd__law_of ct__law_of), sl__law_of⟩)
    (c__law_of : PySem.W.codeIn K cd__law_of "_law_of" = true)
    (k__law_of : PySem.W.keepIn K (.ref f__law_of) = true)
    (a__law_call : PySem.W.nsIn K mainGlobals "_law_call" = some (some (.ref f__law_call)))
    (l__law_call : K.lookup f__law_call = some ⟨oc__law_call, od__law_call, .func (PySem.W.fnOf "_law_call" "_law_call" (defArgs s__law_call) (defBody s__law_call) (defScope s__law_call) .none kV__law_call dc__law_call pm__law_call an__law_call cd__law_call ct__law_call), sl__law_call⟩)
    (c__law_call : PySem.W.codeIn K cd__law_call "_law_call" = true)
    (k__law_call : PySem.W.keepIn K (.ref f__law_call) = true)
    (a__law_things : PySem.W.nsIn K mainGlobals "_law_things" = some (some (.ref f__law_things)))
    (l__law_things : K.lookup f__law_things = some ⟨oc__law_things, od__law_things, .func (PySem.W.fnOf "_law_things" "_law_things" (defArgs s__law_things) (defBody s__law_things) (defScope s__law_things) .none kV__law_things dc__law_things pm__law_things an__law_things cd__law_things ct__law_things), sl__law_things⟩)
    (c__law_things : PySem.W.codeIn K cd__law_things "_law_things" = true)
    (k__law_things : PySem.W.keepIn K (.ref f__law_things) = true)
    (a__law_past : PySem.W.nsIn K mainGlobals "_law_past" = some (some (.ref f__law_past)))
    (l__law_past : K.lookup f__law_past = some ⟨oc__law_past, od__law_past, .func (PySem.W.fnOf "_law_past" "_law_past" (defArgs s__law_past) (defBody s__law_past) (defScope s__law_past) .none kV__law_past dc__law_past pm__law_past an__law_past cd__law_past ct__law_past), sl__law_past⟩)
    (c__law_past : PySem.W.codeIn K cd__law_past "_law_past" = true)
    (k__law_past : PySem.W.keepIn K (.ref f__law_past) = true)
    (a__law_line : PySem.W.nsIn K mainGlobals "_law_line" = some (some (.ref f__law_line)))
    (l__law_line : K.lookup f__law_line = some ⟨oc__law_line, od__law_line, .func (PySem.W.fnOf "_law_line" "_law_line" (defArgs s__law_line) (defBody s__law_line) (defScope s__law_line) .none kV__law_line dc__law_line pm__law_line an__law_line cd__law_line ct__law_line), sl__law_line⟩)
    (c__law_line : PySem.W.codeIn K cd__law_line "_law_line" = true)
    (k__law_line : PySem.W.keepIn K (.ref f__law_line) = true)
    (a__law_text : PySem.W.nsIn K mainGlobals "_law_text" = some (some (.ref f__law_text)))
    (l__law_text : K.lookup f__law_text = some ⟨oc__law_text, od__law_text, .func (PySem.W.fnOf "_law_text" "_law_text" (defArgs s__law_text) (defBody s__law_text) (defScope s__law_text) .none kV__law_text dc__law_text pm__law_text an__law_text cd__law_text ct__law_text), sl__law_text⟩)
    (c__law_text : PySem.W.codeIn K cd__law_text "_law_text" = true)
    (k__law_text : PySem.W.keepIn K (.ref f__law_text) = true)
    (a__law_right : PySem.W.nsIn K mainGlobals "_law_right" = some (some (.ref f__law_right)))
    (l__law_right : K.lookup f__law_right = some ⟨oc__law_right, od__law_right, .func (PySem.W.fnOf "_law_right" "_law_right" (defArgs s__law_right) (defBody s__law_right) (defScope s__law_right) .none kV__law_right dc__law_right pm__law_right an__law_right cd__law_right ct__law_right), sl__law_right⟩)
    (c__law_right : PySem.W.codeIn K cd__law_right "_law_right" = true)
    (k__law_right : PySem.W.keepIn K (.ref f__law_right) = true)
    (a_law : PySem.W.nsIn K mainGlobals "law" = some (some (.ref f_law)))
    (l_law : K.lookup f_law = some ⟨oc_law, od_law, .func (PySem.W.fnOf "law" "law" (defArgs s_law) (defBody s_law) (defScope s_law) .none kV_law dc_law pm_law an_law cd_law ct_law), sl_law⟩)
    (c_law : PySem.W.codeIn K cd_law "law" = true)
    (k_law : PySem.W.keepIn K (.ref f_law) = true)
    : ∃ fd : FuncData, (∀ (s : Shared) (v : Value), BindsTo s fd ⟨[v], []⟩ [("_law_script", v)]) ∧ ∀ base : Heap, K.In base → base.Ns mainGlobals mg → FnG l.prog w K mg base 8 fa fd ["_law_script"] (Pr K T_law) := by
  have e := hfa.symm.trans (PySem.W.mg_of X G a_law)
  cases e
  have B : Blt mg := ⟨PySem.W.mg_none_of X G z_isinstance, PySem.W.mg_none_of X G z_len, PySem.W.mg_none_of X G z_all, PySem.W.mg_none_of X G z_min, PySem.W.mg_none_of X G z_max, PySem.W.mg_none_of X G z_int, PySem.W.mg_none_of X G z_bool, PySem.W.mg_none_of X G z_str, PySem.W.mg_none_of X G z_tuple, PySem.W.mg_none_of X G z_list, PySem.W.mg_none_of X G z_range, PySem.W.mg_none_of X G z_enumerate, PySem.W.mg_none_of X G z_repr⟩
  have L : Glo K mg := ⟨⟨_, PySem.W.mg_of X G g_MOST_TICK⟩, ⟨_, PySem.W.mg_of X G g_MOST_THINGS⟩, ⟨_, PySem.W.mg_of X G g_MOST_EMPTIES⟩, ⟨_, PySem.W.mg_of X G g_MOST_FIGURES⟩, ⟨_, PySem.W.mg_of X G g_THING⟩, ⟨_, PySem.W.mg_of X G g_EMPTY_terms⟩, ⟨_, PySem.W.mg_of X G g_NEWLINE⟩, ⟨_, PySem.W.mg_of X G g_BLANK⟩, ⟨_, PySem.W.mg_of X G g_MINUS⟩, ⟨_, PySem.W.mg_of X G g_NAUGHT⟩, ⟨_, PySem.W.mg_of X G g_FIGURES⟩, ⟨_, PySem.W.mg_of X G g_TAKEN⟩, ⟨_, PySem.W.mg_of X G g_NEVER⟩, ⟨_, PySem.W.mg_of X G g_NOTHING⟩⟩
  have K_Words : KWords K C_Words := ⟨⟨pg_Words, hd_Words, po_Words, sa_Words⟩, n_Words_all_words, n_Words_row, n_Words_at, n_Words_terms_read⟩
  have K_Lines : KLines K C_Lines := ⟨⟨pg_Lines, hd_Lines, po_Lines, sa_Lines⟩, n_Lines_things_read, n_Lines_empties_read⟩
  have F_is_integer := fun_mk (st := s_is_integer) l_is_integer c_is_integer k_is_integer
  have b_is_integer := F_is_integer.binds (ps := ["thing"]) fun _ _ _ _ _ _ us hl => match us, hl with | [_], _ => rfl
  have o_is_integer := fun (base : Heap)  => ok_is_integer (P := l.prog) (w := w) (base := base) F_is_integer B L
  have D_is_integer : ∀ base : Heap, DefAt l.prog w K mg base "is_integer" ["thing"] 1 T_is_integer := fun base => def_of F_is_integer (o_is_integer base) (PySem.W.mg_of X G a_is_integer) b_is_integer
  have F_is_between := fun_mk (st := s_is_between) l_is_between c_is_between k_is_between
  have b_is_between := F_is_between.binds (ps := ["thing", "least", "most"]) fun _ _ _ _ _ _ us hl => match us, hl with | [_, _, _], _ => rfl
  have o_is_between := fun (base : Heap)  => ok_is_between (P := l.prog) (w := w) (base := base) F_is_between B L (D_is_integer base)
  have D_is_between : ∀ base : Heap, DefAt l.prog w K mg base "is_between" ["thing", "least", "most"] 2 T_is_between := fun base => def_of F_is_between (o_is_between base) (PySem.W.mg_of X G a_is_between) b_is_between
  have F_is_call := fun_mk (st := s_is_call) l_is_call c_is_call k_is_call
  have b_is_call := F_is_call.binds (ps := ["thing"]) fun _ _ _ _ _ _ us hl => match us, hl with | [_], _ => rfl
  have o_is_call := fun (base : Heap)  => ok_is_call (P := l.prog) (w := w) (base := base) F_is_call B L (D_is_between base)
  have D_is_call : ∀ base : Heap, DefAt l.prog w K mg base "is_call" ["thing"] 3 T_is_call := fun base => def_of F_is_call (o_is_call base) (PySem.W.mg_of X G a_is_call) b_is_call
  have F_is_thing := fun_mk (st := s_is_thing) l_is_thing c_is_thing k_is_thing
  have b_is_thing := F_is_thing.binds (ps := ["value"]) fun _ _ _ _ _ _ us hl => match us, hl with | [_], _ => rfl
  have o_is_thing := fun (base : Heap)  => ok_is_thing (P := l.prog) (w := w) (base := base) F_is_thing B L (D_is_call base)
  have D_is_thing : ∀ base : Heap, DefAt l.prog w K mg base "is_thing" ["value"] 4 T_is_thing := fun base => def_of F_is_thing (o_is_thing base) (PySem.W.mg_of X G a_is_thing) b_is_thing
  have F_need_history := fun_mk (st := s_need_history) l_need_history c_need_history k_need_history
  have b_need_history := F_need_history.binds (ps := ["thing"]) fun _ _ _ _ _ _ us hl => match us, hl with | [_], _ => rfl
  have o_need_history := fun (base : Heap)  => ok_need_history (P := l.prog) (w := w) (base := base) F_need_history B L (D_is_thing base) (D_is_call base)
  have D_need_history : ∀ base : Heap, DefAt l.prog w K mg base "need_history" ["thing"] 5 T_need_history := fun base => def_of F_need_history (o_need_history base) (PySem.W.mg_of X G a_need_history) b_need_history
  have F_line_of := fun_mk (st := s_line_of) l_line_of c_line_of k_line_of
  have b_line_of := F_line_of.binds (ps := ["things"]) fun _ _ _ _ _ _ us hl => match us, hl with | [_], _ => rfl
  have o_line_of := fun (base : Heap)  => ok_line_of (P := l.prog) (w := w) (base := base) F_line_of B L
  have D_line_of : ∀ base : Heap, DefAt l.prog w K mg base "line_of" ["things"] 1 T_line_of := fun base => def_of F_line_of (o_line_of base) (PySem.W.mg_of X G a_line_of) b_line_of
  have F_thing_line := fun_mk (st := s_thing_line) l_thing_line c_thing_line k_thing_line
  have b_thing_line := F_thing_line.binds (ps := ["thing"]) fun _ _ _ _ _ _ us hl => match us, hl with | [_], _ => rfl
  have o_thing_line := fun (base : Heap)  => ok_thing_line (P := l.prog) (w := w) (base := base) F_thing_line B L (D_line_of base)
  have D_thing_line : ∀ base : Heap, DefAt l.prog w K mg base "thing_line" ["thing"] 2 T_thing_line := fun base => def_of F_thing_line (o_thing_line base) (PySem.W.mg_of X G a_thing_line) b_thing_line
  have F_history_text := fun_mk (st := s_history_text) l_history_text c_history_text k_history_text
  have b_history_text := F_history_text.binds (ps := ["history"]) fun _ _ _ _ _ _ us hl => match us, hl with | [_], _ => rfl
  have o_history_text := fun (base : Heap)  => ok_history_text (P := l.prog) (w := w) (base := base) F_history_text B L (D_need_history base) (D_thing_line base) (D_line_of base)
  have D_history_text : ∀ base : Heap, DefAt l.prog w K mg base "history_text" ["history"] 6 T_history_text := fun base => def_of F_history_text (o_history_text base) (PySem.W.mg_of X G a_history_text) b_history_text
  have F_integer_in := fun_mk (st := s_integer_in) l_integer_in c_integer_in k_integer_in
  have b_integer_in := F_integer_in.binds (ps := ["word"]) fun _ _ _ _ _ _ us hl => match us, hl with | [_], _ => rfl
  have o_integer_in := fun (base : Heap)  => ok_integer_in (P := l.prog) (w := w) (base := base) F_integer_in B L
  have D_integer_in : ∀ base : Heap, DefAt l.prog w K mg base "integer_in" ["word"] 1 T_integer_in := fun base => def_of F_integer_in (o_integer_in base) (PySem.W.mg_of X G a_integer_in) b_integer_in
  have F_Words___init__ := fun_mk (st := s_Words___init__) l_Words___init__ c_Words___init__ k_Words___init__
  have b_Words___init__ := F_Words___init__.binds (ps := ["self", "line", "row"]) fun _ _ _ _ _ _ us hl => match us, hl with | [_, _, _], _ => rfl
  have o_Words___init__ := fun (base : Heap)  => ok_Words___init__ (P := l.prog) (w := w) (base := base) F_Words___init__ B L K_Words K_Lines
  have D_Words___init__ : ∀ base : Heap, MakeAt l.prog w K mg base "Words" C_Words ["self", "line", "row"] 1 (T_Words___init__ C_Words) := fun base => ⟨⟨_, _, o_Words___init__ base, ⟨mk_Words, a_Words___init__, i_Words___init__, kc_Words⟩, PySem.W.mg_of X G aC_Words, b_Words___init__⟩⟩
  have F_Words_next_word := fun_mk (st := s_Words_next_word) l_Words_next_word c_Words_next_word k_Words_next_word
  have b_Words_next_word := F_Words_next_word.binds (ps := ["self"]) fun _ _ _ _ _ _ us hl => match us, hl with | [_], _ => rfl
  have o_Words_next_word := fun (base : Heap)  => ok_Words_next_word (P := l.prog) (w := w) (base := base) F_Words_next_word B L K_Words K_Lines
  have D_Words_next_word : ∀ base : Heap, MethAt l.prog w K mg base C_Words "next_word" ["self"] 1 (T_Words_next_word C_Words) := fun base => ⟨⟨pg_Words, hd_Words, po_Words, sa_Words⟩, ⟨_, _, o_Words_next_word base, ⟨a_Words_next_word, i_Words_next_word, k_Words_next_word⟩, b_Words_next_word⟩⟩
  have F_Words_word_of := fun_mk (st := s_Words_word_of) l_Words_word_of c_Words_word_of k_Words_word_of
  have b_Words_word_of := F_Words_word_of.binds (ps := ["self", "some"]) fun _ _ _ _ _ _ us hl => match us, hl with | [_, _], _ => rfl
  have o_Words_word_of := fun (base : Heap)  => ok_Words_word_of (P := l.prog) (w := w) (base := base) F_Words_word_of B L K_Words K_Lines (D_Words_next_word base)
  have D_Words_word_of : ∀ base : Heap, MethAt l.prog w K mg base C_Words "word_of" ["self", "some"] 2 (T_Words_word_of C_Words) := fun base => ⟨⟨pg_Words, hd_Words, po_Words, sa_Words⟩, ⟨_, _, o_Words_word_of base, ⟨a_Words_word_of, i_Words_word_of, k_Words_word_of⟩, b_Words_word_of⟩⟩
  have F_Words_integer := fun_mk (st := s_Words_integer) l_Words_integer c_Words_integer k_Words_integer
  have b_Words_integer := F_Words_integer.binds (ps := ["self"]) fun _ _ _ _ _ _ us hl => match us, hl with | [_], _ => rfl
  have o_Words_integer := fun (base : Heap)  => ok_Words_integer (P := l.prog) (w := w) (base := base) F_Words_integer B L K_Words K_Lines (D_Words_next_word base) (D_integer_in base)
  have D_Words_integer : ∀ base : Heap, MethAt l.prog w K mg base C_Words "integer" ["self"] 2 (T_Words_integer C_Words) := fun base => ⟨⟨pg_Words, hd_Words, po_Words, sa_Words⟩, ⟨_, _, o_Words_integer base, ⟨a_Words_integer, i_Words_integer, k_Words_integer⟩, b_Words_integer⟩⟩
  have F_Words_call := fun_mk (st := s_Words_call) l_Words_call c_Words_call k_Words_call
  have b_Words_call := F_Words_call.binds (ps := ["self"]) fun _ _ _ _ _ _ us hl => match us, hl with | [_], _ => rfl
  have o_Words_call := fun (base : Heap)  => ok_Words_call (P := l.prog) (w := w) (base := base) F_Words_call B L K_Words K_Lines (D_Words_integer base)
  have D_Words_call : ∀ base : Heap, MethAt l.prog w K mg base C_Words "call" ["self"] 3 (T_Words_call C_Words) := fun base => ⟨⟨pg_Words, hd_Words, po_Words, sa_Words⟩, ⟨_, _, o_Words_call base, ⟨a_Words_call, i_Words_call, k_Words_call⟩, b_Words_call⟩⟩
  have F_Words_end := fun_mk (st := s_Words_end) l_Words_end c_Words_end k_Words_end
  have b_Words_end := F_Words_end.binds (ps := ["self"]) fun _ _ _ _ _ _ us hl => match us, hl with | [_], _ => rfl
  have o_Words_end := fun (base : Heap)  => ok_Words_end (P := l.prog) (w := w) (base := base) F_Words_end B L K_Words K_Lines (D_Words_next_word base)
  have D_Words_end : ∀ base : Heap, MethAt l.prog w K mg base C_Words "end" ["self"] 2 (T_Words_end C_Words) := fun base => ⟨⟨pg_Words, hd_Words, po_Words, sa_Words⟩, ⟨_, _, o_Words_end base, ⟨a_Words_end, i_Words_end, k_Words_end⟩, b_Words_end⟩⟩
  have F_Lines___init__ := fun_mk (st := s_Lines___init__) l_Lines___init__ c_Lines___init__ k_Lines___init__
  have b_Lines___init__ := F_Lines___init__.binds (ps := ["self"]) fun _ _ _ _ _ _ us hl => match us, hl with | [_], _ => rfl
  have o_Lines___init__ := fun (base : Heap)  => ok_Lines___init__ (P := l.prog) (w := w) (base := base) F_Lines___init__ B L K_Words K_Lines
  have D_Lines___init__ : ∀ base : Heap, MakeAt l.prog w K mg base "Lines" C_Lines ["self"] 1 (T_Lines___init__ C_Lines) := fun base => ⟨⟨_, _, o_Lines___init__ base, ⟨mk_Lines, a_Lines___init__, i_Lines___init__, kc_Lines⟩, PySem.W.mg_of X G aC_Lines, b_Lines___init__⟩⟩
  have F_Lines_sorts := fun_mk (st := s_Lines_sorts) l_Lines_sorts c_Lines_sorts k_Lines_sorts
  have b_Lines_sorts := F_Lines_sorts.binds (ps := ["self", "row"]) fun _ _ _ _ _ _ us hl => match us, hl with | [_, _], _ => rfl
  have o_Lines_sorts := fun (base : Heap)  => ok_Lines_sorts (P := l.prog) (w := w) (base := base) F_Lines_sorts B L K_Words K_Lines
  have D_Lines_sorts : ∀ base : Heap, MethAt l.prog w K mg base C_Lines "sorts" ["self", "row"] 1 (T_Lines_sorts C_Lines) := fun base => ⟨⟨pg_Lines, hd_Lines, po_Lines, sa_Lines⟩, ⟨_, _, o_Lines_sorts base, ⟨a_Lines_sorts, i_Lines_sorts, k_Lines_sorts⟩, b_Lines_sorts⟩⟩
  have F_Lines_read := fun_mk (st := s_Lines_read) l_Lines_read c_Lines_read k_Lines_read
  have b_Lines_read := F_Lines_read.binds (ps := ["self", "line", "row"]) fun _ _ _ _ _ _ us hl => match us, hl with | [_, _, _], _ => rfl
  have o_Lines_read := fun (base : Heap)  => ok_Lines_read (P := l.prog) (w := w) (base := base) F_Lines_read B L K_Words K_Lines (D_Words___init__ base) (D_Words_word_of base) (D_Words_end base) (D_Lines_sorts base) (D_Words_call base)
  have D_Lines_read : ∀ base : Heap, MethAt l.prog w K mg base C_Lines "read" ["self", "line", "row"] 4 (T_Lines_read C_Lines) := fun base => ⟨⟨pg_Lines, hd_Lines, po_Lines, sa_Lines⟩, ⟨_, _, o_Lines_read base, ⟨a_Lines_read, i_Lines_read, k_Lines_read⟩, b_Lines_read⟩⟩
  have F_need_text := fun_mk (st := s_need_text) l_need_text c_need_text k_need_text
  have b_need_text := F_need_text.binds (ps := ["text"]) fun _ _ _ _ _ _ us hl => match us, hl with | [_], _ => rfl
  have o_need_text := fun (base : Heap)  => ok_need_text (P := l.prog) (w := w) (base := base) F_need_text B L K_Words K_Lines
  have D_need_text : ∀ base : Heap, DefAt l.prog w K mg base "need_text" ["text"] 1 T_need_text := fun base => def_of F_need_text (o_need_text base) (PySem.W.mg_of X G a_need_text) b_need_text
  have F_read_history := fun_mk (st := s_read_history) l_read_history c_read_history k_read_history
  have b_read_history := F_read_history.binds (ps := ["text"]) fun _ _ _ _ _ _ us hl => match us, hl with | [_], _ => rfl
  have o_read_history := fun (base : Heap)  => ok_read_history (P := l.prog) (w := w) (base := base) F_read_history B L K_Words K_Lines (D_need_text base) (D_need_history base) (D_Lines___init__ base) (D_Lines_read base)
  have D_read_history : ∀ base : Heap, DefAt l.prog w K mg base "read_history" ["text"] 6 T_read_history := fun base => def_of F_read_history (o_read_history base) (PySem.W.mg_of X G a_read_history) b_read_history
  have F__law_mixed := fun_mk (st := s__law_mixed) l__law_mixed c__law_mixed k__law_mixed
  have b__law_mixed := F__law_mixed.binds (ps := ["_law_cell", "_law_k"]) fun _ _ _ _ _ _ us hl => match us, hl with | [_, _], _ => rfl
  have o__law_mixed := fun (base : Heap)  => ok__law_mixed (P := l.prog) (w := w) (base := base) F__law_mixed B L
  have D__law_mixed : ∀ base : Heap, DefAt l.prog w K mg base "_law_mixed" ["_law_cell", "_law_k"] 1 T__law_mixed := fun base => def_of F__law_mixed (o__law_mixed base) (PySem.W.mg_of X G a__law_mixed) b__law_mixed
  have F__law_begin := fun_mk (st := s__law_begin) l__law_begin c__law_begin k__law_begin
  have b__law_begin := F__law_begin.binds (ps := ["_law_script"]) fun _ _ _ _ _ _ us hl => match us, hl with | [_], _ => rfl
  have o__law_begin := fun (base : Heap)  => ok__law_begin (P := l.prog) (w := w) (base := base) F__law_begin B L
  have D__law_begin : ∀ base : Heap, DefAt l.prog w K mg base "_law_begin" ["_law_script"] 1 T__law_begin := fun base => def_of F__law_begin (o__law_begin base) (PySem.W.mg_of X G a__law_begin) b__law_begin
  have F__law_draw := fun_mk (st := s__law_draw) l__law_draw c__law_draw k__law_draw
  have b__law_draw := F__law_draw.binds (ps := ["_law_state", "_law_many"]) fun _ _ _ _ _ _ us hl => match us, hl with | [_, _], _ => rfl
  have o__law_draw := fun (base : Heap)  => ok__law_draw (P := l.prog) (w := w) (base := base) F__law_draw B L (D__law_mixed base)
  have D__law_draw : ∀ base : Heap, DefAt l.prog w K mg base "_law_draw" ["_law_state", "_law_many"] 2 T__law_draw := fun base => def_of F__law_draw (o__law_draw base) (PySem.W.mg_of X G a__law_draw) b__law_draw
  have F__law_of := fun_mk (st := s__law_of) l__law_of c__law_of k__law_of
  have b__law_of := F__law_of.binds (ps := ["_law_state", "_law_some"]) fun _ _ _ _ _ _ us hl => match us, hl with | [_, _], _ => rfl
  have o__law_of := fun (base : Heap)  => ok__law_of (P := l.prog) (w := w) (base := base) F__law_of B L (D__law_draw base)
  have D__law_of : ∀ base : Heap, DefAt l.prog w K mg base "_law_of" ["_law_state", "_law_some"] 3 T__law_of := fun base => def_of F__law_of (o__law_of base) (PySem.W.mg_of X G a__law_of) b__law_of
  have F__law_call := fun_mk (st := s__law_call) l__law_call c__law_call k__law_call
  have b__law_call := F__law_call.binds (ps := ["_law_state", "_law_most"]) fun _ _ _ _ _ _ us hl => match us, hl with | [_, _], _ => rfl
  have o__law_call := fun (base : Heap)  => ok__law_call (P := l.prog) (w := w) (base := base) F__law_call B L (D__law_draw base)
  have D__law_call : ∀ base : Heap, DefAt l.prog w K mg base "_law_call" ["_law_state", "_law_most"] 3 T__law_call := fun base => def_of F__law_call (o__law_call base) (PySem.W.mg_of X G a__law_call) b__law_call
  have F__law_things := fun_mk (st := s__law_things) l__law_things c__law_things k__law_things
  have b__law_things := F__law_things.binds (ps := ["_law_state", "_law_many", "_law_most"]) fun _ _ _ _ _ _ us hl => match us, hl with | [_, _, _], _ => rfl
  have o__law_things := fun (base : Heap)  => ok__law_things (P := l.prog) (w := w) (base := base) F__law_things B L (D__law_draw base) (D__law_call base)
  have D__law_things : ∀ base : Heap, DefAt l.prog w K mg base "_law_things" ["_law_state", "_law_many", "_law_most"] 4 T__law_things := fun base => def_of F__law_things (o__law_things base) (PySem.W.mg_of X G a__law_things) b__law_things
  have F__law_past := fun_mk (st := s__law_past) l__law_past c__law_past k__law_past
  have b__law_past := F__law_past.binds (ps := ["_law_state", "_law_many", "_law_few"]) fun _ _ _ _ _ _ us hl => match us, hl with | [_, _, _], _ => rfl
  have o__law_past := fun (base : Heap)  => ok__law_past (P := l.prog) (w := w) (base := base) F__law_past B L (D__law_things base) (D__law_of base) (D__law_call base) (D__law_draw base)
  have D__law_past : ∀ base : Heap, DefAt l.prog w K mg base "_law_past" ["_law_state", "_law_many", "_law_few"] 5 T__law_past := fun base => def_of F__law_past (o__law_past base) (PySem.W.mg_of X G a__law_past) b__law_past
  have F__law_line := fun_mk (st := s__law_line) l__law_line c__law_line k__law_line
  have b__law_line := F__law_line.binds (ps := ["_law_words"]) fun _ _ _ _ _ _ us hl => match us, hl with | [_], _ => rfl
  have o__law_line := fun (base : Heap)  => ok__law_line (P := l.prog) (w := w) (base := base) F__law_line B L
  have D__law_line : ∀ base : Heap, DefAt l.prog w K mg base "_law_line" ["_law_words"] 1 T__law_line := fun base => def_of F__law_line (o__law_line base) (PySem.W.mg_of X G a__law_line) b__law_line
  have F__law_text := fun_mk (st := s__law_text) l__law_text c__law_text k__law_text
  have b__law_text := F__law_text.binds (ps := ["_law_past_here"]) fun _ _ _ _ _ _ us hl => match us, hl with | [_], _ => rfl
  have o__law_text := fun (base : Heap)  => ok__law_text (P := l.prog) (w := w) (base := base) F__law_text B L (D__law_line base)
  have D__law_text : ∀ base : Heap, DefAt l.prog w K mg base "_law_text" ["_law_past_here"] 2 T__law_text := fun base => def_of F__law_text (o__law_text base) (PySem.W.mg_of X G a__law_text) b__law_text
  have F__law_right := fun_mk (st := s__law_right) l__law_right c__law_right k__law_right
  have b__law_right := F__law_right.binds (ps := ["_law_past_here"]) fun _ _ _ _ _ _ us hl => match us, hl with | [_], _ => rfl
  have o__law_right := fun (base : Heap)  => ok__law_right (P := l.prog) (w := w) (base := base) F__law_right B L (D__law_text base) (D_history_text base) (D_read_history base)
  have D__law_right : ∀ base : Heap, DefG l.prog w K mg base "_law_right" ["_law_past_here"] 7 T__law_right := fun base => ⟨⟨_, _, o__law_right base, PySem.W.mg_of X G a__law_right, k__law_right, b__law_right⟩⟩
  have F_law := fun_mk (st := s_law) l_law c_law k_law
  have o_law := fun (base : Heap)  => ok_law (P := l.prog) (w := w) (base := base) F_law B L (D__law_begin base) (D_history_text base) (D__law_right base) (D_read_history base) (D__law_past base) (D__law_of base)
  exact ⟨PySem.W.fnOf "law" "law" (defArgs s_law) (defBody s_law) (defScope s_law) .none kV_law dc_law pm_law an_law cd_law ct_law, fun s v => .of_eq rfl, fun base _ _ => o_law base⟩
end K33
open PySem PySem.W PyProof.Rows
set_option maxHeartbeats 0 in
theorem PySem.Challenge.cw_fewqueues_k33_whole_texts_of_histories_holds : PySem.Challenge.rw_fewqueues_k33_whole_texts_of_histories.Holds := by
  refine head33 ?_
  k_fill
  refine FQ.walkG (l := PySem.Challenge.rw_fewqueues_k33_whole_texts_of_histories) (k := 8) (x := "_law_script") (T := fun _ => K33.T_law) rfl rfl ⟨rfl, by decide, by decide⟩ (fun w h Y => PySem.W.kIn_of Y) ?F (fun w ns hl => ⟨ns, rfl, hl, fun _ => rfl⟩)
  case F =>
    intro w mg fa h KX G hmg
    refine' K33.all_mk KX G hmg ?z_isinstance ?z_len ?z_all ?z_min ?z_max ?z_int ?z_bool ?z_str ?z_tuple ?z_list ?z_range ?z_enumerate ?z_repr ?g_MOST_TICK ?g_MOST_THINGS ?g_MOST_EMPTIES ?g_MOST_FIGURES ?g_THING ?g_EMPTY_terms ?g_NEWLINE ?g_BLANK ?g_MINUS ?g_NAUGHT ?g_FIGURES ?g_TAKEN ?g_NEVER ?g_NOTHING ?aC_Words ?pg_Words ?hd_Words ?po_Words ?sa_Words ?mk_Words ?kc_Words ?n_Words_all_words ?n_Words_row ?n_Words_at ?n_Words_terms_read ?aC_Lines ?pg_Lines ?hd_Lines ?po_Lines ?sa_Lines ?mk_Lines ?kc_Lines ?n_Lines_things_read ?n_Lines_empties_read ?a_is_integer ?l_is_integer ?c_is_integer ?k_is_integer ?a_is_between ?l_is_between ?c_is_between ?k_is_between ?a_is_call ?l_is_call ?c_is_call ?k_is_call ?a_is_thing ?l_is_thing ?c_is_thing ?k_is_thing ?a_need_history ?l_need_history ?c_need_history ?k_need_history ?a_line_of ?l_line_of ?c_line_of ?k_line_of ?a_thing_line ?l_thing_line ?c_thing_line ?k_thing_line ?a_history_text ?l_history_text ?c_history_text ?k_history_text ?a_integer_in ?l_integer_in ?c_integer_in ?k_integer_in ?a_Words___init__ ?i_Words___init__ ?l_Words___init__ ?c_Words___init__ ?k_Words___init__ ?a_Words_next_word ?i_Words_next_word ?l_Words_next_word ?c_Words_next_word ?k_Words_next_word ?a_Words_word_of ?i_Words_word_of ?l_Words_word_of ?c_Words_word_of ?k_Words_word_of ?a_Words_integer ?i_Words_integer ?l_Words_integer ?c_Words_integer ?k_Words_integer ?a_Words_call ?i_Words_call ?l_Words_call ?c_Words_call ?k_Words_call ?a_Words_end ?i_Words_end ?l_Words_end ?c_Words_end ?k_Words_end ?a_Lines___init__ ?i_Lines___init__ ?l_Lines___init__ ?c_Lines___init__ ?k_Lines___init__ ?a_Lines_sorts ?i_Lines_sorts ?l_Lines_sorts ?c_Lines_sorts ?k_Lines_sorts ?a_Lines_read ?i_Lines_read ?l_Lines_read ?c_Lines_read ?k_Lines_read ?a_need_text ?l_need_text ?c_need_text ?k_need_text ?a_read_history ?l_read_history ?c_read_history ?k_read_history ?a__law_mixed ?l__law_mixed ?c__law_mixed ?k__law_mixed ?a__law_begin ?l__law_begin ?c__law_begin ?k__law_begin ?a__law_draw ?l__law_draw ?c__law_draw ?k__law_draw ?a__law_of ?l__law_of ?c__law_of ?k__law_of ?a__law_call ?l__law_call ?c__law_call ?k__law_call ?a__law_things ?l__law_things ?c__law_things ?k__law_things ?a__law_past ?l__law_past ?c__law_past ?k__law_past ?a__law_line ?l__law_line ?c__law_line ?k__law_line ?a__law_text ?l__law_text ?c__law_text ?k__law_text ?a__law_right ?l__law_right ?c__law_right ?k__law_right ?a_law ?l_law ?c_law ?k_law
    (case z_isinstance => k_is)
    (case z_len => k_is)
    (case z_all => k_is)
    (case z_min => k_is)
    (case z_max => k_is)
    (case z_int => k_is)
    (case z_bool => k_is)
    (case z_str => k_is)
    (case z_tuple => k_is)
    (case z_list => k_is)
    (case z_range => k_is)
    (case z_enumerate => k_is)
    (case z_repr => k_is)
    (case g_MOST_TICK => k_is)
    (case g_MOST_THINGS => k_is)
    (case g_MOST_EMPTIES => k_is)
    (case g_MOST_FIGURES => k_is)
    (case g_THING => k_is)
    (case g_EMPTY_terms => k_is)
    (case g_NEWLINE => k_is)
    (case g_BLANK => k_is)
    (case g_MINUS => k_is)
    (case g_NAUGHT => k_is)
    (case g_FIGURES => k_is)
    (case g_TAKEN => k_is)
    (case g_NEVER => k_is)
    (case g_NOTHING => k_is)
    (case aC_Words => k_is)
    (case pg_Words => k_is)
    (case hd_Words => k_is)
    (case po_Words => k_is)
    (case sa_Words => k_is)
    (case mk_Words => k_is)
    (case kc_Words => k_is)
    (case n_Words_all_words => k_is)
    (case n_Words_row => k_is)
    (case n_Words_at => k_is)
    (case n_Words_terms_read => k_is)
    (case aC_Lines => k_is)
    (case pg_Lines => k_is)
    (case hd_Lines => k_is)
    (case po_Lines => k_is)
    (case sa_Lines => k_is)
    (case mk_Lines => k_is)
    (case kc_Lines => k_is)
    (case n_Lines_things_read => k_is)
    (case n_Lines_empties_read => k_is)
    (case a_is_integer => k_is)
    (case l_is_integer => k_is)
    (case c_is_integer => k_is)
    (case k_is_integer => k_is)
    (case a_is_between => k_is)
    (case l_is_between => k_is)
    (case c_is_between => k_is)
    (case k_is_between => k_is)
    (case a_is_call => k_is)
    (case l_is_call => k_is)
    (case c_is_call => k_is)
    (case k_is_call => k_is)
    (case a_is_thing => k_is)
    (case l_is_thing => k_is)
    (case c_is_thing => k_is)
    (case k_is_thing => k_is)
    (case a_need_history => k_is)
    (case l_need_history => k_is)
    (case c_need_history => k_is)
    (case k_need_history => k_is)
    (case a_line_of => k_is)
    (case l_line_of => k_is)
    (case c_line_of => k_is)
    (case k_line_of => k_is)
    (case a_thing_line => k_is)
    (case l_thing_line => k_is)
    (case c_thing_line => k_is)
    (case k_thing_line => k_is)
    (case a_history_text => k_is)
    (case l_history_text => k_is)
    (case c_history_text => k_is)
    (case k_history_text => k_is)
    (case a_integer_in => k_is)
    (case l_integer_in => k_is)
    (case c_integer_in => k_is)
    (case k_integer_in => k_is)
    (case a_Words___init__ => k_is)
    (case i_Words___init__ => k_is)
    (case l_Words___init__ => k_is)
    (case c_Words___init__ => k_is)
    (case k_Words___init__ => k_is)
    (case a_Words_next_word => k_is)
    (case i_Words_next_word => k_is)
    (case l_Words_next_word => k_is)
    (case c_Words_next_word => k_is)
    (case k_Words_next_word => k_is)
    (case a_Words_word_of => k_is)
    (case i_Words_word_of => k_is)
    (case l_Words_word_of => k_is)
    (case c_Words_word_of => k_is)
    (case k_Words_word_of => k_is)
    (case a_Words_integer => k_is)
    (case i_Words_integer => k_is)
    (case l_Words_integer => k_is)
    (case c_Words_integer => k_is)
    (case k_Words_integer => k_is)
    (case a_Words_call => k_is)
    (case i_Words_call => k_is)
    (case l_Words_call => k_is)
    (case c_Words_call => k_is)
    (case k_Words_call => k_is)
    (case a_Words_end => k_is)
    (case i_Words_end => k_is)
    (case l_Words_end => k_is)
    (case c_Words_end => k_is)
    (case k_Words_end => k_is)
    (case a_Lines___init__ => k_is)
    (case i_Lines___init__ => k_is)
    (case l_Lines___init__ => k_is)
    (case c_Lines___init__ => k_is)
    (case k_Lines___init__ => k_is)
    (case a_Lines_sorts => k_is)
    (case i_Lines_sorts => k_is)
    (case l_Lines_sorts => k_is)
    (case c_Lines_sorts => k_is)
    (case k_Lines_sorts => k_is)
    (case a_Lines_read => k_is)
    (case i_Lines_read => k_is)
    (case l_Lines_read => k_is)
    (case c_Lines_read => k_is)
    (case k_Lines_read => k_is)
    (case a_need_text => k_is)
    (case l_need_text => k_is)
    (case c_need_text => k_is)
    (case k_need_text => k_is)
    (case a_read_history => k_is)
    (case l_read_history => k_is)
    (case c_read_history => k_is)
    (case k_read_history => k_is)
    (case a__law_mixed => k_is)
    (case l__law_mixed => k_is)
    (case c__law_mixed => k_is)
    (case k__law_mixed => k_is)
    (case a__law_begin => k_is)
    (case l__law_begin => k_is)
    (case c__law_begin => k_is)
    (case k__law_begin => k_is)
    (case a__law_draw => k_is)
    (case l__law_draw => k_is)
    (case c__law_draw => k_is)
    (case k__law_draw => k_is)
    (case a__law_of => k_is)
    (case l__law_of => k_is)
    (case c__law_of => k_is)
    (case k__law_of => k_is)
    (case a__law_call => k_is)
    (case l__law_call => k_is)
    (case c__law_call => k_is)
    (case k__law_call => k_is)
    (case a__law_things => k_is)
    (case l__law_things => k_is)
    (case c__law_things => k_is)
    (case k__law_things => k_is)
    (case a__law_past => k_is)
    (case l__law_past => k_is)
    (case c__law_past => k_is)
    (case k__law_past => k_is)
    (case a__law_line => k_is)
    (case l__law_line => k_is)
    (case c__law_line => k_is)
    (case k__law_line => k_is)
    (case a__law_text => k_is)
    (case l__law_text => k_is)
    (case c__law_text => k_is)
    (case k__law_text => k_is)
    (case a__law_right => k_is)
    (case l__law_right => k_is)
    (case c__law_right => k_is)
    (case k__law_right => k_is)
    (case a_law => k_is)
    (case l_law => k_is)
    (case c_law => k_is)
    (case k_law => k_is)

