import PyProof.Rows.All
import Wide.All
import OpenK.AllK
import Wide.FinOn
import HandS.ForMost
import HandS.ForExc
import KE.KDictKeyed
import KE.KeyNested
import HandS.CallSlots
import HandS.IsInst
import HandS.TryMany
import HandS.ExcIs
import PySem.Challenge.RW_routevan_k02_ways_lead
set_option Elab.async false
set_option linter.all false
set_option maxRecDepth 100000
set_option maxHeartbeats 4000000
set_option autoImplicit false
/-! ### Rv: what code does, told by data alone. Part A: weakest readings, data, the state of a def -/
namespace Rv
open PySem L2
abbrev St := L2.St

/-! #### weakest readings: the semantic ones, each the reading of its own syntax -/
def WE (X : Cx) (e : Expr) (σ : St) (H : Hp) (Q : VK) : Prop := ∀ (pins : List (Addr × Obj)) (s : Shared), Inv X pins σ H s → wpAny (model X.prog X.w) X.A (eval e X.env) (EP X pins σ Q) X.xe s
def WT (X : Cx) (e : Expr) (σ : St) (H : Hp) (Q : Bool → Hp → Prop) : Prop := ∀ (pins : List (Addr × Obj)) (s : Shared), Inv X pins σ H s → wpAny (model X.prog X.w) X.A (isTrue e X.env (eval e X.env)) (TP X pins σ Q) X.xe s
def WW (X : Cx) (e : Expr) (σ : St) (H : Hp) (Q : Bool → Hp → Prop) : Prop := ∀ (whole : Sem Value) (pins : List (Addr × Obj)) (s : Shared), Inv X pins σ H s → wpAny (model X.prog X.w) X.A (isTrue e X.env whole) (TP X pins σ Q) X.xe s
def WA (X : Cx) (es : List Expr) (σ : St) (H : Hp) (Q : List V → Hp → Prop) : Prop := ∀ (pos : Pos) (pins : List (Addr × Obj)) (s : Shared), Inv X pins σ H s → wpAny (model X.prog X.w) X.A (spliced (backTo pos (starEach es X.env))) (AP X pins σ Q) X.xe s
def WS (X : Cx) (st : Stmt) (D : Ends) (σ : St) (H : Hp) : Prop := ∀ (pins : List (Addr × Obj)) (s : Shared), Inv X pins σ H s → wpAny (model X.prog X.w) X.A (exec st X.env) (SP X pins D) X.xe s
def WB (X : Cx) (sts : List Stmt) (D : Ends) (σ : St) (H : Hp) : Prop := ∀ (pins : List (Addr × Obj)) (s : Shared), Inv X pins σ H s → wpAny (model X.prog X.w) X.A (execs sts X.env) (SP X pins D) X.xe s
section
variable {X : Cx} {e : Expr} {es : List Expr} {st : Stmt} {sts : List Stmt} {σ : St} {H : Hp}
theorem pe_we : PE X e (WE X e) := ⟨fun pins s _ _ _ I h => h pins s I⟩
theorem pt_wt : PT X e (WT X e) := ⟨fun pins s _ _ _ I h => h pins s I⟩
theorem pw_ww : PW X e (WW X e) := ⟨fun wh pins s _ _ _ I h => h wh pins s I⟩
theorem pa_wa : PA X es (WA X es) := ⟨fun pos pins s _ _ _ I h => h pos pins s I⟩
theorem ps_ws : PS X st (WS X st) := ⟨fun pins s _ _ _ I h => h pins s I⟩
theorem pss_wb : PSs X sts (WB X sts) := ⟨fun pins s _ _ _ I h => h pins s I⟩
theorem we {t : TE} {Q : VK} (p : PE X e t) (h : t σ H Q) : WE X e σ H Q := fun pins s I => p.run pins s σ H Q I h
theorem wt {t : TT} {Q : Bool → Hp → Prop} (p : PT X e t) (h : t σ H Q) : WT X e σ H Q := fun pins s I => p.run pins s σ H Q I h
theorem ww {t : TT} {Q : Bool → Hp → Prop} (p : PW X e t) (h : t σ H Q) : WW X e σ H Q := fun wh pins s I => p.run wh pins s σ H Q I h
theorem wa {t : TA} {Q : List V → Hp → Prop} (p : PA X es t) (h : t σ H Q) : WA X es σ H Q := fun pos pins s I => p.run pos pins s σ H Q I h
theorem ws {t : TS} {D : Ends} (p : PS X st t) (h : t D σ H) : WS X st D σ H := fun pins s I => p.run pins s σ H D I h
theorem wb {t : TS} {D : Ends} (p : PSs X sts t) (h : t D σ H) : WB X sts D σ H := fun pins s I => p.run pins s σ H D I h
end

/-! #### data -/
inductive D where
  | non
  | bl (b : Bool)
  | int (i : Int)
  | str (s : Str)
  | tup (l : List D)
  | lst (l : List D)
  | day (r : D) (h s : Int) (l : List D)
  | dic (kvs : List (D × D))

/-- the facts of the text that data lean on -/
structure Md where
  P : Program
  w : World
  K : PySem.W.Frag
  C : Addr
abbrev md (X : Cx) (C : Addr) : Md := ⟨X.prog, X.w, X.K, C⟩

/-- a dict whose keys are nested tuples, its values objects -/
def dN (P : Program) (w : World) (d : Addr) (xs : List (NestedKey × Addr × Addr)) : HO := .ext fun h => ∃ o es ep, h.get? d = some o ∧ o.ExactDict ∧ o.data = .dict es ep ∧
  es.toList = xs.map (fun x => entryOfKey (nestedKind P w) (x.1, x.2.1, Value.ref x.2.2)) ∧ (xs.map (·.1)).Nodup ∧ (d == sysModules) = false ∧ xs.length ≤ sizeLine
mutual
/-- the key of a datum -/
def nk : D → NestedKey
  | .int i => .num i
  | .str s => .text s
  | .tup l => .tup (nks l)
  | _ => .none
def nks : List D → List NestedKey
  | [] => []
  | d :: l => nk d :: nks l
end
def dayF (r h s l : V) : List (Str × V) := putF "stops" l (putF "start" s (putF "home" h (putF "road" r [])))
mutual
inductive Rep (M : Md) (G : Hp) : V → D → Prop
  | non : Rep M G .non .non
  | bl (b : Bool) : Rep M G (.bl b) (.bl b)
  | int (i : Int) : Rep M G (.int i) (.int i)
  | str (s : Str) : Rep M G (.str s) (.str s)
  | tup {a : Addr} {xs : List V} {l : List D} (h : SqT M.K G a xs) (r : Reps M G xs l) : Rep M G (.ref a) (.tup l)
  | lst {a : Addr} {xs : List V} {l : List D} (h : SqL M.K G a xs) (r : Reps M G xs l) : Rep M G (.ref a) (.lst l)
  | day {a dx : Addr} {vr vl : V} {r : D} {i j : Int} {l : List D} (h : G a = some (.ins M.C dx (dayF vr (.int i) (.int j) vl))) (rr : Rep M G vr r) (rl : Rep M G vl (.lst l)) : Rep M G (.ref a) (.day r i j l)
  | dic {a : Addr} {xs : List (NestedKey × Addr × Addr)} {kvs : List (D × D)} (h : Rd G a (dN M.P M.w a xs)) (r : RepE M G xs kvs) : Rep M G (.ref a) (.dic kvs)
inductive Reps (M : Md) (G : Hp) : List V → List D → Prop
  | nil : Reps M G [] []
  | cons {v : V} {vs : List V} {d : D} {l : List D} (h : Rep M G v d) (r : Reps M G vs l) : Reps M G (v :: vs) (d :: l)
inductive RepE (M : Md) (G : Hp) : List (NestedKey × Addr × Addr) → List (D × D) → Prop
  | nil : RepE M G [] []
  | cons {x : NestedKey × Addr × Addr} {xs : List (NestedKey × Addr × Addr)} {k v : D} {kvs : List (D × D)} (hk : x.1 = nk k) (h1 : Rep M G (.ref x.2.1) k) (h2 : Rep M G (.ref x.2.2) v) (r : RepE M G xs kvs) : RepE M G (x :: xs) ((k, v) :: kvs)
end
/-- the heap grows -/
def Ex (H H' : Hp) : Prop := ∀ a o, H a = some o → H' a = some o
theorem Ex.refl (H : Hp) : Ex H H := fun _ _ h => h
theorem Ex.trans {H H1 H2 : Hp} (a : Ex H H1) (b : Ex H1 H2) : Ex H H2 := fun x o h => b x o (a x o h)
theorem Ex.new {H : Hp} {p : Addr} {o : HO} (h : H p = none) : Ex H (upd H p o) := fun a u e => by
  rw [upd_ne (ne_of_none e h)]
  exact e
theorem Ex.mut {H H' : Hp} {p : Addr} {o : HO} (e : Ex H H') (h : H p = none) : Ex H (upd H' p o) := fun a u ha => by
  rw [upd_ne (ne_of_none ha h)]
  exact e a u ha
theorem Ex.free {H H' : Hp} (e : Ex H H') {p : Addr} (h : H' p = none) : H p = none := by
  cases q : H p with
  | none => rfl
  | some o =>
    rw [e p o q] at h
    cases h
theorem Ex.rd {H H' : Hp} {a : Addr} {u : HO} (e : Ex H H') (h : Rd H a u) : Rd H' a u := by
  rcases h with h | ⟨o, h⟩
  · exact Or.inl (e a _ h)
  · exact Or.inr ⟨o, e a _ h⟩
theorem Ex.sl {K : PySem.W.Frag} {H H' : Hp} {a : Addr} {xs : List V} (e : Ex H H') (h : SqL K H a xs) : SqL K H' a xs := by
  rcases h with h | h
  · exact Or.inl (e.rd h)
  · exact Or.inr h
theorem Ex.st {K : PySem.W.Frag} {H H' : Hp} {a : Addr} {xs : List V} (e : Ex H H') (h : SqT K H a xs) : SqT K H' a xs := by
  rcases h with h | h
  · exact Or.inl (e.rd h)
  · exact Or.inr h
section
variable {M : Md} {G G' : Hp}
mutual
theorem Rep.mono (e : Ex G G') : ∀ {v : V} {d : D}, Rep M G v d → Rep M G' v d
  | _, _, .non => .non
  | _, _, .bl b => .bl b
  | _, _, .int i => .int i
  | _, _, .str s => .str s
  | _, _, .tup h r => .tup (e.st h) (Reps.mono e r)
  | _, _, .lst h r => .lst (e.sl h) (Reps.mono e r)
  | _, _, .day h rr rl => .day (e _ _ h) (Rep.mono e rr) (Rep.mono e rl)
  | _, _, .dic h r => .dic (e.rd h) (RepE.mono e r)
theorem Reps.mono (e : Ex G G') : ∀ {vs : List V} {l : List D}, Reps M G vs l → Reps M G' vs l
  | _, _, .nil => .nil
  | _, _, .cons h r => .cons (Rep.mono e h) (Reps.mono e r)
theorem RepE.mono (e : Ex G G') : ∀ {xs : List (NestedKey × Addr × Addr)} {kvs : List (D × D)}, RepE M G xs kvs → RepE M G' xs kvs
  | _, _, .nil => .nil
  | _, _, .cons hk h1 h2 r => .cons hk (Rep.mono e h1) (Rep.mono e h2) (RepE.mono e r)
end
theorem Reps.length : ∀ {vs : List V} {l : List D}, Reps M G vs l → vs.length = l.length
  | _, _, .nil => rfl
  | _, _, .cons _ r => congrArg (· + 1) r.length
theorem Reps.get : ∀ {vs : List V} {l : List D} {i : Nat} {d : D}, Reps M G vs l → l[i]? = some d → ∃ v, vs[i]? = some v ∧ Rep M G v d
  | _, _, _, _, .nil, e => by simp at e
  | _, _, 0, d, .cons (d := d') h _, e => by
    have e' : d' = d := by simpa using e
    exact ⟨_, rfl, e' ▸ h⟩
  | _, _, i + 1, d, .cons _ r, e => by
    obtain ⟨v, h1, h2⟩ := Reps.get (i := i) (d := d) r (by simpa using e)
    exact ⟨v, by simpa using h1, h2⟩
theorem Reps.getV : ∀ {vs : List V} {l : List D} {i : Nat} {v : V}, Reps M G vs l → vs[i]? = some v → ∃ d, l[i]? = some d ∧ Rep M G v d
  | _, _, _, _, .nil, e => by simp at e
  | _, _, 0, v, .cons (v := v') h _, e => by
    have e' : v' = v := by simpa using e
    exact ⟨_, rfl, e' ▸ h⟩
  | _, _, i + 1, v, .cons _ r, e => by
    obtain ⟨d, h1, h2⟩ := Reps.getV (i := i) (v := v) r (by simpa using e)
    exact ⟨d, by simpa using h1, h2⟩
theorem Reps.append : ∀ {vs ws : List V} {l m : List D}, Reps M G vs l → Reps M G ws m → Reps M G (vs ++ ws) (l ++ m)
  | _, _, _, _, .nil, s => s
  | _, _, _, _, .cons h r, s => .cons h (r.append s)
theorem Reps.take : ∀ {vs : List V} {l : List D} (n : Nat), Reps M G vs l → Reps M G (vs.take n) (l.take n)
  | _, _, 0, _ => .nil
  | _, _, _ + 1, .nil => .nil
  | _, _, n + 1, .cons h r => .cons h (Reps.take n r)
theorem Reps.drop : ∀ {vs : List V} {l : List D} (n : Nat), Reps M G vs l → Reps M G (vs.drop n) (l.drop n)
  | _, _, 0, r => r
  | _, _, _ + 1, .nil => .nil
  | _, _, n + 1, .cons _ r => Reps.drop n r
theorem Reps.ints : ∀ {vs : List V} {ns : List Int}, Reps M G vs (ns.map D.int) → vs = ns.map V.int
  | _, [], h => by cases h; rfl
  | _, n :: ns, h => by
    cases h with
    | cons h r =>
      cases h
      rw [Reps.ints (ns := ns) r]
      rfl
theorem Reps.of_ints : ∀ (ns : List Int), Reps M G (ns.map V.int) (ns.map D.int)
  | [] => .nil
  | n :: ns => .cons (.int n) (Reps.of_ints ns)
end

/-! #### the state of a def: what stands still (G), the heap (H), the slots -/
/-- an object that the def alone holds -/
inductive Ow where
  | lst (l : List D)
  | dic (kvs : List (D × D))
  | seen (ks : List Key)
def OwnAt (M : Md) (G H : Hp) (p : Addr) : Ow → Prop
  | .lst l => ∃ xs, H p = some (.lst xs) ∧ Reps M G xs l
  | .dic kvs => ∃ xs, H p = some (dN M.P M.w p xs) ∧ RepE M G xs kvs
  | .seen ks => ∃ kvs : List (Key × V), H p = some (.dK kvs) ∧ kvs.map (·.1) = ks ∧ ks.Nodup
inductive Sl where
  | un
  | sh (d : D)
  | ow (o : Ow)
  | raw (v : V)
abbrev DEnv := List Sl

/-- growth: the heap's, what stands still grows by new objects alone -/
structure Grow (G0 H0 G H : Hp) : Prop where
  hh : Ex H0 H
  gg : Ex G0 G
  gh : Ex G H
  nw : ∀ p, G0 p = none → H0 p ≠ none → G p = none
theorem Grow.refl {G H : Hp} (h : Ex G H) : Grow G H G H := ⟨Ex.refl H, Ex.refl G, h, fun _ h _ => h⟩
theorem Grow.trans {G0 H0 G1 H1 G2 H2 : Hp} (a : Grow G0 H0 G1 H1) (b : Grow G1 H1 G2 H2) : Grow G0 H0 G2 H2 :=
  ⟨a.hh.trans b.hh, a.gg.trans b.gg, b.gh, fun p h1 h2 => b.nw p (a.nw p h1 h2) fun e => by
    cases q : H0 p with
    | none => exact h2 q
    | some o =>
      rw [a.hh p o q] at e
      cases e⟩
/-- a new object that stands still -/
theorem Grow.add {G H : Hp} (h : Ex G H) {p : Addr} {o : HO} (n : H p = none) : Grow G H (upd G p o) (upd H p o) := by
  have ng := h.free n
  refine ⟨Ex.new n, Ex.new ng, fun a u e => ?_, fun q h1 h2 => ?_⟩
  · by_cases ha : a = p
    · subst ha
      rw [upd_same] at e ⊢
      exact e
    · rw [upd_ne ha] at e ⊢
      exact h a u e
  · have : q ≠ p := fun z => h2 (z ▸ n)
    rw [upd_ne this]
    exact h1
/-- a new object that the def holds alone -/
theorem Grow.own {G H : Hp} (h : Ex G H) {p : Addr} {o : HO} (n : H p = none) : Grow G H G (upd H p o) :=
  ⟨Ex.new n, Ex.refl G, h.trans (Ex.new n), fun _ h _ => h⟩

/-- the bases: the heap at the entry, what is wanted of exceptions -/
structure Bs where
  G0 : Hp
  H0 : Hp
  E : St → XK
  ex : DEnv → Addr → Prop

def SlOk (M : Md) (B : Bs) (σ : St) (G H : Hp) (i : Nat) : Sl → Prop
  | .un => True
  | .sh d => ∃ v, σ[i]? = some (some v) ∧ Rep M G v d
  | .ow o => ∃ p, σ[i]? = some (some (.ref p)) ∧ B.H0 p = none ∧ G p = none ∧ OwnAt M G H p o
  | .raw v => σ[i]? = some (some v)
def isOw : Sl → Bool
  | .ow _ => true
  | _ => false
/-- R: what stood still at the last loop's beginning -/
structure Bel (B : Bs) (R : Hp) : Prop where
  gg : Ex B.G0 R
  nw : ∀ p, B.G0 p = none → B.H0 p ≠ none → R p = none
structure Fit (M : Md) (B : Bs) (R : Hp) (σ : St) (G H : Hp) (δ : DEnv) : Prop where
  bel : Bel B R
  len : σ.length = δ.length
  grow : Grow R B.H0 G H
  slot : ∀ (i : Nat) (s : Sl), δ[i]? = some s → SlOk M B σ G H i s
  dist : ∀ (i j : Nat) (a b : Ow) (p : Addr), i ≠ j → δ[i]? = some (.ow a) → δ[j]? = some (.ow b) → σ[i]? = some (some (.ref p)) → σ[j]? ≠ some (some (.ref p))
section
variable {M : Md} {B : Bs} {R : Hp} {σ : St} {G H G' H' : Hp} {δ : DEnv}
theorem OwnAt.grow {p : Addr} {o : Ow} (g : Grow G H G' H') (h : OwnAt M G H p o) : OwnAt M G' H' p o := by
  cases o with
  | lst l => obtain ⟨xs, a, b⟩ := h; exact ⟨xs, g.hh _ _ a, b.mono g.gg⟩
  | dic kvs => obtain ⟨xs, a, b⟩ := h; exact ⟨xs, g.hh _ _ a, b.mono g.gg⟩
  | seen ks => obtain ⟨xs, a, b⟩ := h; exact ⟨xs, g.hh _ _ a, b⟩
theorem OwnAt.some {p : Addr} {o : Ow} (h : OwnAt M G H p o) : H p ≠ none := by
  cases o with
  | lst l => obtain ⟨xs, a, b⟩ := h; rw [a]; exact fun z => nomatch z
  | dic kvs => obtain ⟨xs, a, b⟩ := h; rw [a]; exact fun z => nomatch z
  | seen ks => obtain ⟨xs, a, b⟩ := h; rw [a]; exact fun z => nomatch z
theorem Fit.go (N : Fit M B R σ G H δ) (g : Grow G H G' H') : Fit M B R σ G' H' δ := by
  refine ⟨N.bel, N.len, N.grow.trans g, fun i s e => ?_, N.dist⟩
  have q := N.slot i s e
  cases s with
  | un => trivial
  | sh d => obtain ⟨v, a, b⟩ := q; exact ⟨v, a, b.mono g.gg⟩
  | raw v => exact q
  | ow o =>
    obtain ⟨p, a, b, c, d⟩ := q
    exact ⟨p, a, b, g.nw p c d.some, d.grow g⟩
/-- all the growth since the entry -/
theorem Fit.all (N : Fit M B R σ G H δ) : Grow B.G0 B.H0 G H := ⟨N.grow.hh, N.bel.gg.trans N.grow.gg, N.grow.gh, fun p h1 h2 => N.grow.nw p (N.bel.nw p h1 h2) h2⟩
theorem Fit.up (N : Fit M B R σ G H δ) : Bel B G := ⟨N.bel.gg.trans N.grow.gg, N.all.nw⟩
/-- a new root -/
theorem Fit.root (N : Fit M B R σ G H δ) : Fit M B G σ G H δ := ⟨N.up, N.len, ⟨N.grow.hh, Ex.refl G, N.grow.gh, fun _ h _ => h⟩, N.slot, N.dist⟩
theorem Fit.gh (N : Fit M B R σ G H δ) : Ex G H := N.grow.gh
theorem Fit.self (N : Fit M B R σ G H δ) : Grow G H G H := Grow.refl N.gh
/-- the old root again -/
theorem Fit.unroot {σ' : St} {δ' : DEnv} (N0 : Fit M B R σ G H δ) (N : Fit M B G σ' G' H' δ') : Fit M B R σ' G' H' δ' :=
  ⟨N0.bel, N.len, ⟨N.grow.hh, N0.grow.gg.trans N.grow.gg, N.grow.gh, fun p h1 h2 => N.grow.nw p (N0.grow.nw p h1 h2) h2⟩, N.slot, N.dist⟩
theorem Fit.sh (N : Fit M B R σ G H δ) {i : Nat} {d : D} (e : δ[i]? = some (.sh d)) : ∃ v, σ[i]? = some (some v) ∧ Rep M G v d := N.slot i _ e
theorem set_get {α : Type} {l : List α} {i j : Nat} {a b : α} (e : (l.set i a)[j]? = some b) : (i = j ∧ b = a ∧ i < l.length) ∨ (i ≠ j ∧ l[j]? = some b) := by
  rw [List.getElem?_set] at e
  split at e
  · rename_i h
    split at e
    · rename_i h2
      exact .inl ⟨h, (Option.some.inj e).symm, h2⟩
    · cases e
  · rename_i h
    exact .inr ⟨h, e⟩
theorem Fit.setSh (N : Fit M B R σ G H δ) {i : Nat} {v : V} {d : D} (r : Rep M G v d) : Fit M B R (σ.set i (some v)) G H (δ.set i (.sh d)) := by
  refine ⟨N.bel, by rw [List.length_set, List.length_set, N.len], N.grow, fun j s e => ?_, fun j k a b p hjk h1 h2 h3 h4 => ?_⟩
  · rcases set_get e with ⟨h1, h2, h3⟩ | ⟨h1, h2⟩
    · subst h1 h2
      exact ⟨v, List.getElem?_set_self (by rw [N.len]; exact h3), r⟩
    · have q := N.slot j s h2
      cases s with
      | un => trivial
      | sh d => obtain ⟨v, a, b⟩ := q; exact ⟨v, by rw [List.getElem?_set_ne h1]; exact a, b⟩
      | ow o => obtain ⟨p, a, b⟩ := q; exact ⟨p, by rw [List.getElem?_set_ne h1]; exact a, b⟩
      | raw v =>
        show _ = _
        rw [List.getElem?_set_ne h1]
        exact q
  · rcases set_get h1 with ⟨_, h, _⟩ | ⟨n1, h1⟩
    · cases h
    · rcases set_get h2 with ⟨_, h, _⟩ | ⟨n2, h2⟩
      · cases h
      · rw [List.getElem?_set_ne n1] at h3
        rw [List.getElem?_set_ne n2] at h4
        exact N.dist j k a b p hjk h1 h2 h3 h4
theorem Fit.setUn (N : Fit M B R σ G H δ) {i : Nat} {x : Option V} : Fit M B R (σ.set i x) G H (δ.set i .un) := by
  refine ⟨N.bel, by rw [List.length_set, List.length_set, N.len], N.grow, fun j s e => ?_, fun j k a b p hjk h1 h2 h3 h4 => ?_⟩
  · rcases set_get e with ⟨h1, h2, h3⟩ | ⟨h1, h2⟩
    · subst h1 h2
      trivial
    · have q := N.slot j s h2
      cases s with
      | un => trivial
      | sh d => obtain ⟨v, a, b⟩ := q; exact ⟨v, by rw [List.getElem?_set_ne h1]; exact a, b⟩
      | ow o => obtain ⟨p, a, b⟩ := q; exact ⟨p, by rw [List.getElem?_set_ne h1]; exact a, b⟩
      | raw v =>
        show _ = _
        rw [List.getElem?_set_ne h1]
        exact q
  · rcases set_get h1 with ⟨_, h, _⟩ | ⟨n1, h1⟩
    · cases h
    · rcases set_get h2 with ⟨_, h, _⟩ | ⟨n2, h2⟩
      · cases h
      · rw [List.getElem?_set_ne n1] at h3
        rw [List.getElem?_set_ne n2] at h4
        exact N.dist j k a b p hjk h1 h2 h3 h4
theorem Fit.setRaw (N : Fit M B R σ G H δ) {i : Nat} {v : V} : Fit M B R (σ.set i (some v)) G H (δ.set i (.raw v)) := by
  refine ⟨N.bel, by rw [List.length_set, List.length_set, N.len], N.grow, fun j s e => ?_, fun j k a b p hjk h1 h2 h3 h4 => ?_⟩
  · rcases set_get e with ⟨h1, h2, h3⟩ | ⟨h1, h2⟩
    · subst h1 h2
      exact List.getElem?_set_self (by rw [N.len]; exact h3)
    · have q := N.slot j s h2
      cases s with
      | un => trivial
      | sh d => obtain ⟨v, a, b⟩ := q; exact ⟨v, by rw [List.getElem?_set_ne h1]; exact a, b⟩
      | ow o => obtain ⟨p, a, b⟩ := q; exact ⟨p, by rw [List.getElem?_set_ne h1]; exact a, b⟩
      | raw v =>
        show _ = _
        rw [List.getElem?_set_ne h1]
        exact q
  · rcases set_get h1 with ⟨_, h, _⟩ | ⟨n1, h1⟩
    · cases h
    · rcases set_get h2 with ⟨_, h, _⟩ | ⟨n2, h2⟩
      · cases h
      · rw [List.getElem?_set_ne n1] at h3
        rw [List.getElem?_set_ne n2] at h4
        exact N.dist j k a b p hjk h1 h2 h3 h4
/-- a slot takes a new object that the def holds alone -/
theorem Fit.setOw (N : Fit M B R σ G H δ) {i : Nat} {p : Addr} {o : Ow} (g : Grow G H G' H') (n : H p = none) (n' : G' p = none) (r : OwnAt M G' H' p o) : Fit M B R (σ.set i (some (.ref p))) G' H' (δ.set i (.ow o)) := by
  have N' := N.go g
  have ne : ∀ (j : Nat) (a : Ow), δ[j]? = some (.ow a) → σ[j]? ≠ some (some (.ref p)) := fun j a e z => by
    obtain ⟨q, h1, _, _, h4⟩ := N.slot j _ e
    rw [h1] at z
    have : q = p := by simpa using z
    subst this
    exact h4.some n
  refine ⟨N.bel, by rw [List.length_set, List.length_set, N.len], N'.grow, fun j s e => ?_, fun j k a b q hjk h1 h2 h3 h4 => ?_⟩
  · rcases set_get e with ⟨h1, h2, h3⟩ | ⟨h1, h2⟩
    · subst h1 h2
      exact ⟨p, List.getElem?_set_self (by rw [N.len]; exact h3), N.grow.hh.free n, n', r⟩
    · have q := N'.slot j s h2
      cases s with
      | un => trivial
      | sh d => obtain ⟨v, a, b⟩ := q; exact ⟨v, by rw [List.getElem?_set_ne h1]; exact a, b⟩
      | ow o => obtain ⟨p, a, b⟩ := q; exact ⟨p, by rw [List.getElem?_set_ne h1]; exact a, b⟩
      | raw v =>
        show _ = _
        rw [List.getElem?_set_ne h1]
        exact q
  · rcases set_get h1 with ⟨e1, _, l1⟩ | ⟨n1, h1⟩
    · subst e1
      rcases set_get h2 with ⟨e2, _, _⟩ | ⟨n2, h2⟩
      · exact hjk e2
      · rw [List.getElem?_set_self (by rw [N.len]; exact l1)] at h3
        rw [List.getElem?_set_ne n2] at h4
        have : p = q := by simpa using h3
        subst this
        exact ne k _ h2 h4
    · rw [List.getElem?_set_ne n1] at h3
      rcases set_get h2 with ⟨e2, _, l2⟩ | ⟨n2, h2⟩
      · subst e2
        rw [List.getElem?_set_self (by rw [N.len]; exact l2)] at h4
        have : p = q := by simpa using h4
        subst this
        exact ne j _ h1 h3
      · rw [List.getElem?_set_ne n2] at h4
        exact N.dist j k a b q hjk h1 h2 h3 h4
/-- the object of an own slot changes -/
theorem Fit.write (N : Fit M B R σ G H δ) {i : Nat} {p : Addr} {a o : Ow} {u : HO} (e : δ[i]? = some (.ow a)) (es : σ[i]? = some (some (.ref p))) (r : OwnAt M G (upd H p u) p o) : Fit M B R σ G (upd H p u) (δ.set i (.ow o)) := by
  obtain ⟨q, h1, h2, h3, h4⟩ := N.slot i _ e
  have : q = p := by rw [h1] at es; simpa using es
  subst this
  refine ⟨N.bel, by rw [List.length_set, N.len], ⟨N.grow.hh.mut h2, N.grow.gg, N.gh.mut h3, N.grow.nw⟩, fun j s ej => ?_, fun j k a b q hjk g1 g2 g3 g4 => ?_⟩
  · rcases set_get ej with ⟨g1, g2, g3⟩ | ⟨g1, g2⟩
    · subst g1 g2
      exact ⟨q, es, h2, h3, r⟩
    · have z := N.slot j s g2
      cases s with
      | un => trivial
      | sh d => exact z
      | raw v => exact z
      | ow o' =>
        obtain ⟨p', a', b', c', d'⟩ := z
        have np : p' ≠ q := fun z => N.dist i j _ _ q g1 e g2 es (by rw [← z]; exact a')
        refine ⟨p', a', b', c', ?_⟩
        cases o' with
        | lst l => obtain ⟨xs, x1, x2⟩ := d'; exact ⟨xs, by rw [upd_ne np]; exact x1, x2⟩
        | dic kvs => obtain ⟨xs, x1, x2⟩ := d'; exact ⟨xs, by rw [upd_ne np]; exact x1, x2⟩
        | seen ks => obtain ⟨xs, x1, x2⟩ := d'; exact ⟨xs, by rw [upd_ne np]; exact x1, x2⟩
  · rcases set_get g1 with ⟨e1, _, l1⟩ | ⟨n1, g1⟩
    · subst e1
      rcases set_get g2 with ⟨e2, _, _⟩ | ⟨n2, g2⟩
      · exact hjk e2
      · exact N.dist i k _ _ q hjk e g2 g3 g4
    · rcases set_get g2 with ⟨e2, _, l2⟩ | ⟨n2, g2⟩
      · subst e2
        exact N.dist j i _ _ q n1.symm g1 e g3 g4
      · exact N.dist j k a b q hjk g1 g2 g3 g4
end
end Rv

/-! ### Part B: what an expression comes to -/
namespace Rv
open PySem L2

/-- what a place in the code knows -/
structure XOk (X : Cx) (C : Addr) (B : Bs) (k : Nat) : Prop where
  calm : X.calm = true
  nd : X.N.Nodup
  hr : Room k X.A
  tk : Takes X (fun cls d σ H => B.E σ cls d H)
  po : PassesOwn (model X.prog X.w) X.A X.env X.xe
  hex : ∀ (R : Hp) (δ : DEnv) (σ : St) (G H H' : Hp) (c : Addr), B.ex δ c → Fit (md X C) B R σ G H δ → Ex H H' → B.E σ (.ref c) none H'

/-- e comes to the datum d, which stands still -/
structure DE (X : Cx) (C : Addr) (B : Bs) (δ : DEnv) (e : Expr) (d : D) : Prop where
  run : ∀ (R : Hp) (σ : St) (G H : Hp) (Q : VK), Fit (md X C) B R σ G H δ →
  (∀ v G' H', Grow G H G' H' → Rep (md X C) G' v d → Q v H') → WE X e σ H Q
/-- e comes to d, as it stands now -/
structure DW (X : Cx) (C : Addr) (B : Bs) (δ : DEnv) (e : Expr) (d : D) : Prop where
  run : ∀ (R : Hp) (σ : St) (G H : Hp) (Q : VK), Fit (md X C) B R σ G H δ →
  (∀ v G' H', Grow G H G' H' → Rep (md X C) H' v d → Q v H') → WE X e σ H Q
/-- e comes to a list (its items stand still) -/
structure DL (X : Cx) (C : Addr) (B : Bs) (δ : DEnv) (e : Expr) (l : List D) : Prop where
  run : ∀ (R : Hp) (σ : St) (G H : Hp) (Q : VK), Fit (md X C) B R σ G H δ →
  (∀ p xs G' H', Grow G H G' H' → SqL X.K H' p xs → Reps (md X C) G' xs l → Q (.ref p) H') → WE X e σ H Q
/-- e comes to a dict with tuple keys (its entries stand still) -/
structure DM (X : Cx) (C : Addr) (B : Bs) (δ : DEnv) (e : Expr) (kvs : List (D × D)) : Prop where
  run : ∀ (R : Hp) (σ : St) (G H : Hp) (Q : VK), Fit (md X C) B R σ G H δ →
  (∀ p xs G' H', Grow G H G' H' → Rd H' p (dN X.prog X.w p xs) → RepE (md X C) G' xs kvs → Q (.ref p) H') → WE X e σ H Q
/-- e comes to a new object -/
structure DO (X : Cx) (C : Addr) (B : Bs) (δ : DEnv) (e : Expr) (o : Ow) : Prop where
  run : ∀ (R : Hp) (σ : St) (G H : Hp) (Q : VK), Fit (md X C) B R σ G H δ →
  (∀ p G' H', Grow G H G' H' → H p = none → G' p = none → OwnAt (md X C) G' H' p o → Q (.ref p) H') → WE X e σ H Q
/-- e raises what may be raised -/
structure DX (X : Cx) (C : Addr) (B : Bs) (δ : DEnv) (e : Expr) : Prop where
  run : ∀ (R : Hp) (σ : St) (G H : Hp) (Q : VK), Fit (md X C) B R σ G H δ → WE X e σ H Q
structure DT (X : Cx) (C : Addr) (B : Bs) (δ : DEnv) (e : Expr) (b : Bool) : Prop where
  run : ∀ (R : Hp) (σ : St) (G H : Hp) (Q : Bool → Hp → Prop), Fit (md X C) B R σ G H δ →
  (∀ G' H', Grow G H G' H' → Q b H') → WT X e σ H Q
structure DTW (X : Cx) (C : Addr) (B : Bs) (δ : DEnv) (e : Expr) (b : Bool) : Prop where
  run : ∀ (R : Hp) (σ : St) (G H : Hp) (Q : Bool → Hp → Prop), Fit (md X C) B R σ G H δ →
  (∀ G' H', Grow G H G' H' → Q b H') → WW X e σ H Q
/-- arguments; they stand still, or as they stand now -/
structure DA (X : Cx) (C : Addr) (B : Bs) (δ : DEnv) (es : List Expr) (l : List D) : Prop where
  run : ∀ (R : Hp) (σ : St) (G H : Hp) (Q : List V → Hp → Prop), Fit (md X C) B R σ G H δ →
  (∀ vs G' H', Grow G H G' H' → Reps (md X C) G' vs l → Q vs H') → WA X es σ H Q
structure DAW (X : Cx) (C : Addr) (B : Bs) (δ : DEnv) (es : List Expr) (l : List D) : Prop where
  run : ∀ (R : Hp) (σ : St) (G H : Hp) (Q : List V → Hp → Prop), Fit (md X C) B R σ G H δ →
  (∀ vs G' H', Grow G H G' H' → Reps (md X C) H' vs l → Q vs H') → WA X es σ H Q

def D.flat : D → Bool
  | .non | .bl _ | .int _ | .str _ => true
  | _ => false
theorem Rep.flat {M : Md} {G G' : Hp} {v : V} {d : D} (h : Rep M G v d) (f : d.flat = true) : Rep M G' v d := by
  cases h with
  | non => exact .non
  | bl b => exact .bl b
  | int i => exact .int i
  | str s => exact .str s
  | tup _ _ => exact absurd f Bool.false_ne_true
  | lst _ _ => exact absurd f Bool.false_ne_true
  | day _ _ _ => exact absurd f Bool.false_ne_true
  | dic _ _ => exact absurd f Bool.false_ne_true
theorem Rep.i {M : Md} {G : Hp} {v : V} {i : Int} (h : Rep M G v (.int i)) : v = .int i := by cases h; rfl
theorem Rep.s {M : Md} {G : Hp} {v : V} {i : Str} (h : Rep M G v (.str i)) : v = .str i := by cases h; rfl
theorem Rep.b {M : Md} {G : Hp} {v : V} {i : Bool} (h : Rep M G v (.bl i)) : v = .bl i := by cases h; rfl
theorem Rep.t {M : Md} {G : Hp} {v : V} {l : List D} (h : Rep M G v (.tup l)) : ∃ a xs, v = .ref a ∧ SqT M.K G a xs ∧ Reps M G xs l := by cases h with | tup h r => exact ⟨_, _, rfl, h, r⟩
theorem Rep.l {M : Md} {G : Hp} {v : V} {l : List D} (h : Rep M G v (.lst l)) : ∃ a xs, v = .ref a ∧ SqL M.K G a xs ∧ Reps M G xs l := by cases h with | lst h r => exact ⟨_, _, rfl, h, r⟩
theorem Rep.m {M : Md} {G : Hp} {v : V} {l : List (D × D)} (h : Rep M G v (.dic l)) : ∃ a xs, v = .ref a ∧ Rd G a (dN M.P M.w a xs) ∧ RepE M G xs l := by cases h with | dic h r => exact ⟨_, _, rfl, h, r⟩

section
variable {X : Cx} {C : Addr} {B : Bs} {δ : DEnv} {e a b c : Expr} {es : List Expr} {d da db : D} {pos : Pos} {k : Nat}
theorem DE.w (h : DE X C B δ e d) : DW X C B δ e d := ⟨fun R σ G H Q N q => h.run R σ G H Q N fun v G' H' g r => q v G' H' g (r.mono g.gh)⟩
theorem DW.s (h : DW X C B δ e d) (f : d.flat = true) : DE X C B δ e d := ⟨fun R σ G H Q N q => h.run R σ G H Q N fun v G' H' g r => q v G' H' g (r.flat f)⟩
theorem DE.l {l : List D} (h : DE X C B δ e (.lst l)) : DL X C B δ e l := ⟨fun R σ G H Q N q => h.run R σ G H Q N fun v G' H' g r => by
  obtain ⟨a, xs, rfl, hs, hr⟩ := r.l
  exact q _ _ G' H' g (g.gh.sl hs) hr⟩
theorem DL.w {l : List D} (h : DL X C B δ e l) : DW X C B δ e (.lst l) := ⟨fun R σ G H Q N q => h.run R σ G H Q N fun p xs G' H' g r1 r2 => q _ G' H' g (.lst r1 (r2.mono g.gh))⟩
theorem DE.m {l : List (D × D)} (h : DE X C B δ e (.dic l)) : DM X C B δ e l := ⟨fun R σ G H Q N q => h.run R σ G H Q N fun v G' H' g r => by
  obtain ⟨a, xs, rfl, hs, hr⟩ := r.m
  exact q _ _ G' H' g (g.gh.rd hs) hr⟩
theorem DM.w {l : List (D × D)} (h : DM X C B δ e l) : DW X C B δ e (.dic l) := ⟨fun R σ G H Q N q => h.run R σ G H Q N fun p xs G' H' g r1 r2 => q _ G' H' g (.dic r1 (r2.mono g.gh))⟩
/-- a new object made known -/
theorem Grow.publish {G H G' H' : Hp} (g : Grow G H G' H') {p : Addr} {o : HO} (n : H p = none) (n' : G' p = none) (h : H' p = some o) : Grow G H (upd G' p o) H' := by
  have ng := g.gg.free n'
  refine ⟨g.hh, fun a u e => ?_, fun a u e => ?_, fun q h1 h2 => ?_⟩
  · rw [upd_ne (ne_of_none e ng)]
    exact g.gg a u e
  · by_cases ha : a = p
    · subst ha
      rw [upd_same] at e
      cases e
      exact h
    · rw [upd_ne ha] at e
      exact g.gh a u e
  · have nq : q ≠ p := fun z => by subst z; exact h2 n
    rw [upd_ne nq]
    exact g.nw q h1 h2
theorem DO.s {l : List D} (h : DO X C B δ e (.lst l)) : DE X C B δ e (.lst l) := ⟨fun R σ G H Q N q => h.run R σ G H Q N fun p G' H' g n n' r => by
  obtain ⟨xs, h1, h2⟩ := r
  exact q _ (upd G' p (.lst xs)) H' (g.publish n n' h1) (.lst (.of upd_same) (h2.mono (Ex.new n')))⟩
theorem DO.m {l : List (D × D)} (h : DO X C B δ e (.dic l)) : DE X C B δ e (.dic l) := ⟨fun R σ G H Q N q => h.run R σ G H Q N fun p G' H' g n n' r => by
  obtain ⟨xs, h1, h2⟩ := r
  exact q _ (upd G' p (dN X.prog X.w p xs)) H' (g.publish n n' h1) (.dic (.inl upd_same) (h2.mono (Ex.new n')))⟩
theorem DO.l {l : List D} (h : DO X C B δ e (.lst l)) : DL X C B δ e l := h.s.l
theorem DE.eq {d' : D} (h : DE X C B δ e d) (q : d = d') : DE X C B δ e d' := q ▸ h
theorem DT.eq {b b' : Bool} (h : DT X C B δ e b) (q : b = b') : DT X C B δ e b' := q ▸ h

/-! names and constants -/
theorem de_var (i : Nat) {x : Str} (h : δ[i]? = some (.sh d)) (hN : X.N[i]? = some x := by rfl) (hv : Vis X.env.scope x := by first | exact Or.inl rfl | exact Or.inr (Or.inl rfl) | exact Or.inr (Or.inr rfl))
    (hd : (x == ("__debug__" : Str)) = false := by decide) (hcd : (x == ("__classdict__" : Str)) = false := by decide) : DE X C B δ (.Name x pos) d := ⟨fun R σ G H Q N q => by
  obtain ⟨v, h1, h2⟩ := N.sh h
  exact we (pe_var hN hv hd hcd) ⟨v, h1, q v G H N.self h2⟩⟩
theorem dl_own (i : Nat) {l : List D} {x : Str} (h : δ[i]? = some (.ow (.lst l))) (hN : X.N[i]? = some x := by rfl) (hv : Vis X.env.scope x := by first | exact Or.inl rfl | exact Or.inr (Or.inl rfl) | exact Or.inr (Or.inr rfl))
    (hd : (x == ("__debug__" : Str)) = false := by decide) (hcd : (x == ("__classdict__" : Str)) = false := by decide) : DL X C B δ (.Name x pos) l := ⟨fun R σ G H Q N q => by
  obtain ⟨p, h1, h2, h3, xs, h4, h5⟩ := N.slot i _ h
  exact we (pe_var hN hv hd hcd) ⟨_, h1, q p xs G H N.self (.of h4) h5⟩⟩
theorem dm_own (i : Nat) {l : List (D × D)} {x : Str} (h : δ[i]? = some (.ow (.dic l))) (hN : X.N[i]? = some x := by rfl) (hv : Vis X.env.scope x := by first | exact Or.inl rfl | exact Or.inr (Or.inl rfl) | exact Or.inr (Or.inr rfl))
    (hd : (x == ("__debug__" : Str)) = false := by decide) (hcd : (x == ("__classdict__" : Str)) = false := by decide) : DM X C B δ (.Name x pos) l := ⟨fun R σ G H Q N q => by
  obtain ⟨p, h1, h2, h3, xs, h4, h5⟩ := N.slot i _ h
  exact we (pe_var hN hv hd hcd) ⟨_, h1, q p xs G H N.self (.inl h4) h5⟩⟩
theorem de_int {i : Int} {j : Nat} : DE X C B δ (.Constant (.int i) j pos) (.int i) := ⟨fun R σ G H Q N q => we pe_int (q _ G H N.self (.int i))⟩
theorem de_bl {i : Bool} {j : Nat} : DE X C B δ (.Constant (.bool i) j pos) (.bl i) := ⟨fun R σ G H Q N q => we pe_bl (q _ G H N.self (.bl i))⟩
theorem de_non {j : Nat} : DE X C B δ (.Constant .none j pos) .non := ⟨fun R σ G H Q N q => we pe_non (q _ G H N.self .non)⟩
theorem de_str {s : Str} {j : Nat} : DE X C B δ (.Constant (.str s) j pos) (.str s) := ⟨fun R σ G H Q N q => we pe_str (q _ G H N.self (.str s))⟩
theorem de_globI {x : Str} {i : Int} {t : Tok} (hm : X.mg x = some (.int i t)) (hg : Gl X x := by rfl) (hd : (x == ("__debug__" : Str)) = false := by decide) : DE X C B δ (.Name x pos) (.int i) := ⟨fun R σ G H Q N q =>
  we (pe_glob (v := .int i) hg hm ⟨t, rfl⟩ hd) (q (.int i) G H N.self (.int i))⟩
theorem de_globS {x : Str} {i : Str} {t : Tok} (hm : X.mg x = some (.str i t)) (hg : Gl X x := by rfl) (hd : (x == ("__debug__" : Str)) = false := by decide) : DE X C B δ (.Name x pos) (.str i) := ⟨fun R σ G H Q N q =>
  we (pe_glob (v := .str i) hg hm ⟨t, rfl⟩ hd) (q (.str i) G H N.self (.str i))⟩

/-! two expressions in a row -/
theorem d2 (ha : DE X C B δ a da) (hb : DE X C B δ b db) {r : R2} {R : Hp} {σ : St} {G H : Hp} {Q : VK} (N : Fit (md X C) B R σ G H δ)
    (h : ∀ x y G' H', Grow G H G' H' → Rep (md X C) G' x da → Rep (md X C) G' y db → r x y H' Q) : tOp r (WE X a) (WE X b) σ H Q :=
  ha.run R σ G H _ N fun x G1 H1 g1 r1 => hb.run R σ G1 H1 _ (N.go g1) fun y G2 H2 g2 r2 => h x y G2 H2 (g1.trans g2) (r1.mono g2.gg) r2
/-- an operation on two ints -/
theorem de_ii {op : Operator} {r : R2} {i j : Int} (ho : OpR X (binaryOp op) r) (ha : DE X C B δ a (.int i)) (hb : DE X C B δ b (.int j)) (hr : ∀ (H : Hp) (Q : VK), (∀ v, Rep (md X C) H v d → Q v H) → r (.int i) (.int j) H Q) (f : d.flat = true) :
    DE X C B δ (.BinOp a op b pos) d := ⟨fun R σ G H Q N q =>
  we (pe_op ho pe_we pe_we) (d2 ha hb N fun x y G' H' g r1 r2 => by
    obtain rfl := r1.i
    obtain rfl := r2.i
    exact hr H' Q fun v rv => q v G' H' g (rv.flat f))⟩
theorem de_add {i j : Int} (ha : DE X C B δ a (.int i)) (hb : DE X C B δ b (.int j)) : DE X C B δ (.BinOp a .Add b pos) (.int (i + j)) := de_ii op_add ha hb (fun H Q q => ⟨i, j, rfl, rfl, q _ (.int _)⟩) rfl
theorem de_sub {i j : Int} (ha : DE X C B δ a (.int i)) (hb : DE X C B δ b (.int j)) : DE X C B δ (.BinOp a .Sub b pos) (.int (i - j)) := de_ii op_sub ha hb (fun H Q q => ⟨i, j, rfl, rfl, q _ (.int _)⟩) rfl
theorem de_mul {i j : Int} (ha : DE X C B δ a (.int i)) (hb : DE X C B δ b (.int j)) (h : CMul i j) : DE X C B δ (.BinOp a .Mult b pos) (.int (i * j)) := de_ii op_mul ha hb (fun H Q q => ⟨i, j, rfl, rfl, h, q _ (.int _)⟩) rfl
theorem de_fdiv {i j : Int} (ha : DE X C B δ a (.int i)) (hb : DE X C B δ b (.int j)) (h : CDiv i j := by exact ⟨by decide, by decide⟩) : DE X C B δ (.BinOp a .FloorDiv b pos) (.int (i / j)) := de_ii op_fdiv ha hb (fun H Q q => ⟨i, j, rfl, rfl, h, q _ (.int _)⟩) rfl
theorem de_mod {i j : Int} (ha : DE X C B δ a (.int i)) (hb : DE X C B δ b (.int j)) (h : 0 < j := by decide) : DE X C B δ (.BinOp a .Mod b pos) (.int (i % j)) := de_ii op_mod ha hb (fun H Q q => ⟨i, j, rfl, rfl, h, q _ (.int _)⟩) rfl
theorem de_pow {i j : Int} (ha : DE X C B δ a (.int i)) (hb : DE X C B δ b (.int j)) (h : CPow i j := by exact ⟨by decide, by decide, by decide⟩) : DE X C B δ (.BinOp a .Pow b pos) (.int (i ^ j.toNat)) := de_ii op_pow ha hb (fun H Q q => ⟨i, j, rfl, rfl, h, q _ (.int _)⟩) rfl
theorem de_powc {i j z : Int} (ha : DE X C B δ a (.int i)) (hb : DE X C B δ b (.int j)) (h : CPow i j) (e : i ^ j.toNat = z) : DE X C B δ (.BinOp a .Pow b pos) (.int z) := e ▸ de_pow ha hb h
theorem de_neg {i : Int} (ha : DE X C B δ a (.int i)) : DE X C B δ (.UnaryOp .USub a pos) (.int (-i)) := ⟨fun R σ G H Q N q =>
  we (pe_un un_neg pe_we) (ha.run R σ G H _ N fun x G' H' g r => by
    obtain rfl := r.i
    exact ⟨i, rfl, q _ G' H' g (.int _)⟩)⟩
theorem de_adds {s t : Str} (ha : DE X C B δ a (.str s)) (hb : DE X C B δ b (.str t)) (h : s.length + t.length ≤ sizeLine) : DE X C B δ (.BinOp a .Add b pos) (.str (s ++ t)) := ⟨fun R σ G H Q N q =>
  we (pe_op op_add_str pe_we pe_we) (d2 ha hb N fun x y G' H' g r1 r2 => by
    obtain rfl := r1.s
    obtain rfl := r2.s
    exact ⟨s, t, rfl, rfl, h, q _ G' H' g (.str _)⟩)⟩

/-! comparisons -/
/-- a comparison's answer -/
def DC (X : Cx) (C : Addr) (B : Bs) (δ : DEnv) (op : CmpOp) (a b : Expr) (k : Bool) : Prop := ∃ r : R2, OpR X (compareOp op) r ∧ behindInMarks op b = false ∧
  ∀ (R : Hp) (σ : St) (G H : Hp) (Q : VK), Fit (md X C) B R σ G H δ → (∀ G' H', Grow G H G' H' → Q (.bl k) H') → tOp r (WE X a) (WE X b) σ H Q
theorem DC.v {op : CmpOp} {k : Bool} (h : DC X C B δ op a b k) : DE X C B δ (.Compare a [op] [b] pos) (.bl k) := ⟨fun R σ G H Q N q => by
  obtain ⟨r, h1, h2, h3⟩ := h
  exact we (pe_cmpR h1 pe_we pe_we h2) (h3 R σ G H Q N fun G' H' g => q _ G' H' g (.bl k))⟩
theorem DC.t {op : CmpOp} {k : Bool} (h : DC X C B δ op a b k) : DT X C B δ (.Compare a [op] [b] pos) k := ⟨fun R σ G H Q N q => by
  obtain ⟨r, h1, h2, h3⟩ := h
  exact wt (pt_cmpR h1 pe_we pe_we h2) (h3 R σ G H _ N fun G' H' g => ⟨k, rfl, q G' H' g⟩)⟩
theorem dc_ii {op : CmpOp} {p : Int → Int → Bool} {i j : Int} (ho : OpR X (compareOp op) (rI0 fun i j => .bl (p i j))) (ha : DE X C B δ a (.int i)) (hb : DE X C B δ b (.int j)) (hn : op ≠ .In := by decide) (hn2 : op ≠ .NotIn := by decide) : DC X C B δ op a b (p i j) :=
  ⟨_, ho, nomark b hn hn2, fun R σ G H Q N q => d2 ha hb N fun x y G' H' g r1 r2 => by
    obtain rfl := r1.i
    obtain rfl := r2.i
    exact ⟨i, j, rfl, rfl, q G' H' g⟩⟩
theorem dc_lt {i j : Int} (ha : DE X C B δ a (.int i)) (hb : DE X C B δ b (.int j)) : DC X C B δ .Lt a b (decide (i < j)) := dc_ii op_lt ha hb
theorem dc_le {i j : Int} (ha : DE X C B δ a (.int i)) (hb : DE X C B δ b (.int j)) : DC X C B δ .LtE a b (decide (i ≤ j)) := dc_ii op_le ha hb
theorem dc_gt {i j : Int} (ha : DE X C B δ a (.int i)) (hb : DE X C B δ b (.int j)) : DC X C B δ .Gt a b (decide (j < i)) := dc_ii (p := fun i j => decide (j < i)) op_gt ha hb
theorem dc_ge {i j : Int} (ha : DE X C B δ a (.int i)) (hb : DE X C B δ b (.int j)) : DC X C B δ .GtE a b (decide (j ≤ i)) := dc_ii (p := fun i j => decide (j ≤ i)) op_ge ha hb
theorem dec_vint {i j : Int} : decide (V.int i = V.int j) = decide (i = j) := by
  by_cases h : i = j
  · subst h; simp
  · rw [decide_eq_false h, decide_eq_false fun z => h (V.int.inj z)]
theorem dec_vstr {i j : Str} : decide (V.str i = V.str j) = decide (i = j) := by
  by_cases h : i = j
  · subst h; simp
  · rw [decide_eq_false h, decide_eq_false fun z => h (V.str.inj z)]
theorem dec_vbl {i j : Bool} : decide (V.bl i = V.bl j) = decide (i = j) := by
  by_cases h : i = j
  · subst h; simp
  · rw [decide_eq_false h, decide_eq_false fun z => h (V.bl.inj z)]
theorem dc_eqI {i j : Int} (ha : DE X C B δ a (.int i)) (hb : DE X C B δ b (.int j)) : DC X C B δ .Eq a b (decide (i = j)) :=
  ⟨_, op_eq, nomark b, fun R σ G H Q N q => d2 ha hb N fun x y G' H' g r1 r2 => by
    obtain rfl := r1.i
    obtain rfl := r2.i
    exact ⟨rfl, by rw [dec_vint]; exact q G' H' g⟩⟩
theorem dc_neI {i j : Int} (ha : DE X C B δ a (.int i)) (hb : DE X C B δ b (.int j)) : DC X C B δ .NotEq a b (!decide (i = j)) :=
  ⟨_, op_ne, nomark b, fun R σ G H Q N q => d2 ha hb N fun x y G' H' g r1 r2 => by
    obtain rfl := r1.i
    obtain rfl := r2.i
    exact ⟨rfl, by rw [dec_vint]; exact q G' H' g⟩⟩
theorem dc_eqS {i j : Str} (ha : DE X C B δ a (.str i)) (hb : DE X C B δ b (.str j)) : DC X C B δ .Eq a b (decide (i = j)) :=
  ⟨_, op_eq, nomark b, fun R σ G H Q N q => d2 ha hb N fun x y G' H' g r1 r2 => by
    obtain rfl := r1.s
    obtain rfl := r2.s
    exact ⟨rfl, by rw [dec_vstr]; exact q G' H' g⟩⟩
theorem dc_neS {i j : Str} (ha : DE X C B δ a (.str i)) (hb : DE X C B δ b (.str j)) : DC X C B δ .NotEq a b (!decide (i = j)) :=
  ⟨_, op_ne, nomark b, fun R σ G H Q N q => d2 ha hb N fun x y G' H' g r1 r2 => by
    obtain rfl := r1.s
    obtain rfl := r2.s
    exact ⟨rfl, by rw [dec_vstr]; exact q G' H' g⟩⟩
theorem dc_eqB {i j : Bool} (ha : DE X C B δ a (.bl i)) (hb : DE X C B δ b (.bl j)) : DC X C B δ .Eq a b (decide (i = j)) :=
  ⟨_, op_eq, nomark b, fun R σ G H Q N q => d2 ha hb N fun x y G' H' g r1 r2 => by
    obtain rfl := r1.b
    obtain rfl := r2.b
    exact ⟨rfl, by rw [dec_vbl]; exact q G' H' g⟩⟩
def D.isN : D → Bool
  | .non => true
  | _ => false
theorem Rep.isN {M : Md} {G : Hp} {v : V} {d : D} (h : Rep M G v d) : decide (v = .non) = d.isN := by
  cases h <;> rfl
theorem dc_isN {j : Nat} {pos2 : Pos} (ha : DW X C B δ a d) : DC X C B δ .Is a (.Constant .none j pos2) d.isN :=
  ⟨_, op_isN, nomark _, fun R σ G H Q N q => ha.run R σ G H _ N fun x G1 H1 g1 r1 => we pe_non (by
    show V.non = V.non ∧ Q (.bl (decide (x = .non))) H1
    rw [r1.isN]
    exact ⟨rfl, q G1 H1 g1⟩)⟩
theorem dc_notN {j : Nat} {pos2 : Pos} (ha : DW X C B δ a d) : DC X C B δ .IsNot a (.Constant .none j pos2) (!d.isN) :=
  ⟨_, op_notN, nomark _, fun R σ G H Q N q => ha.run R σ G H _ N fun x G1 H1 g1 r1 => we pe_non (by
    show V.non = V.non ∧ Q (.bl (!decide (x = .non))) H1
    rw [r1.isN]
    exact ⟨rfl, q G1 H1 g1⟩)⟩

/-! tests -/
theorem DE.t {k : Bool} (h : DE X C B δ e (.bl k)) (he : ∀ whole, isTrue e X.env whole = (do let v ← whole; standAt e.pos; holding [v] (truthy v)) := by intro _; rfl) : DT X C B δ e k := ⟨fun R σ G H Q N q =>
  wt (pt_val pe_we he) (h.run R σ G H _ N fun v G' H' g r => by
    obtain rfl := r.b
    exact ⟨k, rfl, q G' H' g⟩)⟩
theorem dt_not {k : Bool} (h : DT X C B δ a k) : DT X C B δ (.UnaryOp .Not a pos) (!k) := ⟨fun R σ G H Q N q =>
  wt (pt_not pt_wt) (h.run R σ G H _ N fun G' H' g => q G' H' g)⟩
theorem de_not {k : Bool} (h : DE X C B δ a (.bl k)) : DE X C B δ (.UnaryOp .Not a pos) (.bl (!k)) := ⟨fun R σ G H Q N q =>
  we (pe_not pe_we) (h.run R σ G H _ N fun v G' H' g r => by
    obtain rfl := r.b
    exact ⟨k, rfl, q _ G' H' g (.bl _)⟩)⟩
theorem DTW.t {k : Bool} (h : DTW X C B δ e k) : DT X C B δ e k := ⟨fun R σ G H Q N q => wt pw_ww.pt (h.run R σ G H Q N q)⟩
theorem tw_and1 {k : Bool} (h : DT X C B δ a k) : DTW X C B δ (.BoolOp .And [a] pos) k := ⟨fun R σ G H Q N q => ww (pw_and1 pt_wt) (h.run R σ G H Q N q)⟩
theorem tw_or1 {k : Bool} (h : DT X C B δ a k) : DTW X C B δ (.BoolOp .Or [a] pos) k := ⟨fun R σ G H Q N q => ww (pw_or1 pt_wt) (h.run R σ G H Q N q)⟩
theorem tw_and {k m : Bool} (h : DT X C B δ a k) (h2 : k = true → DTW X C B δ (.BoolOp .And (b :: es) pos) m) : DTW X C B δ (.BoolOp .And (a :: b :: es) pos) (k && m) := ⟨fun R σ G H Q N q =>
  ww (pw_and pt_wt pw_ww) (h.run R σ G H _ N fun G1 H1 g1 => by
    cases k with
    | true => exact (h2 rfl).run R σ G1 H1 Q (N.go g1) fun G2 H2 g2 => q G2 H2 (g1.trans g2)
    | false => exact q G1 H1 g1)⟩
theorem tw_or {k m : Bool} (h : DT X C B δ a k) (h2 : k = false → DTW X C B δ (.BoolOp .Or (b :: es) pos) m) : DTW X C B δ (.BoolOp .Or (a :: b :: es) pos) (k || m) := ⟨fun R σ G H Q N q =>
  ww (pw_or pt_wt pw_ww) (h.run R σ G H _ N fun G1 H1 g1 => by
    cases k with
    | false => exact (h2 rfl).run R σ G1 H1 Q (N.go g1) fun G2 H2 g2 => q G2 H2 (g1.trans g2)
    | true => exact q G1 H1 g1)⟩
/-- and, or as values (truth values) -/
theorem de_one {op : BoolOp} (h : DE X C B δ a d) : DE X C B δ (.BoolOp op [a] pos) d := ⟨fun R σ G H Q N q => we (pe_one pe_we) (h.run R σ G H Q N q)⟩
theorem de_and {k m : Bool} (h : DE X C B δ a (.bl k)) (h2 : k = true → DE X C B δ (.BoolOp .And (b :: es) pos) (.bl m)) : DE X C B δ (.BoolOp .And (a :: b :: es) pos) (.bl (k && m)) := ⟨fun R σ G H Q N q =>
  we (pe_and pe_we pe_we) (h.run R σ G H _ N fun v G1 H1 g1 r1 => by
    obtain rfl := r1.b
    refine ⟨k, rfl, ?_⟩
    cases k with
    | true => exact (h2 rfl).run R σ G1 H1 Q (N.go g1) fun v G2 H2 g2 r2 => q v G2 H2 (g1.trans g2) r2
    | false => exact q _ G1 H1 g1 (.bl false))⟩
theorem de_or {k m : Bool} (h : DE X C B δ a (.bl k)) (h2 : k = false → DE X C B δ (.BoolOp .Or (b :: es) pos) (.bl m)) : DE X C B δ (.BoolOp .Or (a :: b :: es) pos) (.bl (k || m)) := ⟨fun R σ G H Q N q =>
  we (pe_or pe_we pe_we) (h.run R σ G H _ N fun v G1 H1 g1 r1 => by
    obtain rfl := r1.b
    refine ⟨k, rfl, ?_⟩
    cases k with
    | false => exact (h2 rfl).run R σ G1 H1 Q (N.go g1) fun v G2 H2 g2 r2 => q v G2 H2 (g1.trans g2) r2
    | true => exact q _ G1 H1 g1 (.bl true))⟩
theorem de_ife {k : Bool} (hc : DT X C B δ c k) (h1 : k = true → DE X C B δ a d) (h2 : k = false → DE X C B δ b d) : DE X C B δ (.IfExp c a b pos) d := ⟨fun R σ G H Q N q =>
  we (pe_ifExp pt_wt pe_we pe_we) (hc.run R σ G H _ N fun G1 H1 g1 => by
    cases k with
    | true => exact (h1 rfl).run R σ G1 H1 Q (N.go g1) fun v G2 H2 g2 r2 => q v G2 H2 (g1.trans g2) r2
    | false => exact (h2 rfl).run R σ G1 H1 Q (N.go g1) fun v G2 H2 g2 r2 => q v G2 H2 (g1.trans g2) r2)⟩

/-! arguments, displays -/
theorem da_nil : DA X C B δ [] [] := ⟨fun R σ G H Q N q => wa pa_nil (q [] G H N.self .nil)⟩
theorem da_cons {l : List D} (h : DE X C B δ e d) (hr : DA X C B δ es l) (hs : starEach (e :: es) X.env = (false, eval e X.env) :: starEach es X.env := by rfl) : DA X C B δ (e :: es) (d :: l) := ⟨fun R σ G H Q N q =>
  wa (pa_cons pe_we pa_wa hs) (h.run R σ G H _ N fun v G1 H1 g1 r1 => hr.run R σ G1 H1 _ (N.go g1) fun vs G2 H2 g2 r2 => q _ G2 H2 (g1.trans g2) (.cons (r1.mono g2.gg) r2))⟩
theorem dw_nil : DAW X C B δ [] [] := ⟨fun R σ G H Q N q => wa pa_nil (q [] G H N.self .nil)⟩
theorem dw_cons {l : List D} (h : DW X C B δ e d) (hr : DAW X C B δ es l) (hs : starEach (e :: es) X.env = (false, eval e X.env) :: starEach es X.env := by rfl) : DAW X C B δ (e :: es) (d :: l) := ⟨fun R σ G H Q N q =>
  wa (pa_cons pe_we pa_wa hs) (h.run R σ G H _ N fun v G1 H1 g1 r1 => hr.run R σ G1 H1 _ (N.go g1) fun vs G2 H2 g2 r2 => q _ G2 H2 (g1.trans g2) (.cons (r1.mono g2.hh) r2))⟩
theorem DA.w {l : List D} (h : DA X C B δ es l) : DAW X C B δ es l := ⟨fun R σ G H Q N q => h.run R σ G H Q N fun v G' H' g r => q v G' H' g (r.mono g.gh)⟩
theorem small {n : Nat} (h : n ≤ 1000) : n ≤ sizeLine := Nat.le_of_lt (small1000 h)
theorem de_tup {l : List D} {x1 : _} (h : DA X C B δ es l) (hl : l.length ≤ sizeLine := by exact small (Nat.le_of_ble_eq_true rfl)) : DE X C B δ (.Tuple es x1 pos) (.tup l) := ⟨fun R σ G H Q N q =>
  we (pe_tup pa_wa) (h.run R σ G H _ N fun vs G1 H1 g1 r1 => ⟨by rw [r1.length]; exact hl, fun p hp =>
    q _ (upd G1 p (.tup vs)) _ (g1.trans (Grow.add g1.gh hp)) (.tup (.of upd_same) (r1.mono (Ex.new (g1.gh.free hp))))⟩)⟩
theorem do_lst {l : List D} (h : DA X C B δ es l) (hl : l.length ≤ sizeLine := by exact small (Nat.le_of_ble_eq_true rfl)) : DO X C B δ (.List es pos) (.lst l) := ⟨fun R σ G H Q N q =>
  we (pe_lst pa_wa) (h.run R σ G H _ N fun vs G1 H1 g1 r1 => ⟨by rw [r1.length]; exact hl, fun p hp =>
    q p G1 _ (g1.trans (Grow.own g1.gh hp)) (g1.hh.free hp) (g1.gh.free hp) ⟨vs, upd_same, r1⟩⟩)⟩
/-! items -/
theorem atI_map {M : Md} {G : Hp} {xs : List V} {l : List D} {i : Int} (r : Reps M G xs l) (h : atI l i = some d) : ∃ v, atI xs i = some v ∧ Rep M G v d := by
  unfold atI at h ⊢
  rw [r.length]
  cases q : ixN l.length i with
  | none =>
    rw [q] at h
    cases h
  | some j =>
    rw [q] at h
    obtain ⟨v, h1, h2⟩ := r.get (i := j) h
    exact ⟨v, h1, h2⟩
theorem atI_get {α : Type} {l : List α} {i : Int} (h0 : 0 ≤ i) (h : i < (l.length : Int)) {x : α} (hx : l[i.toNat]? = some x) : atI l i = some x := by
  have e : i = (i.toNat : Int) := by omega
  rw [e]
  exact atI_nat hx
theorem de_ixL {l : List D} {i : Int} (ha : DL X C B δ a l) (hb : DE X C B δ b (.int i)) (h : atI l i = some d) (hs : PlainIx b := by exact fun _ _ => rfl) : DE X C B δ (.Subscript a b pos) d := ⟨fun R σ G H Q N q =>
  we (pe_ix ix_list pe_we pe_we hs) (ha.run R σ G H _ N fun p xs G1 H1 g1 r1 r2 => hb.run R σ G1 H1 _ (N.go g1) fun y G2 H2 g2 r3 => by
    obtain rfl := r3.i
    obtain ⟨v, h1, h2⟩ := atI_map r2 h
    exact ⟨p, xs, i, v, rfl, rfl, g2.hh.sl r1, h1, q v G2 H2 (g1.trans g2) (h2.mono g2.gg)⟩)⟩
theorem de_ixT {l : List D} {i : Int} (ha : DE X C B δ a (.tup l)) (hb : DE X C B δ b (.int i)) (h : atI l i = some d) (hs : PlainIx b := by exact fun _ _ => rfl) : DE X C B δ (.Subscript a b pos) d := ⟨fun R σ G H Q N q =>
  we (pe_ix ix_tup pe_we pe_we hs) (d2 (r := rIxT X.K) ha hb N fun x y G' H' g r1 r2 => by
    obtain rfl := r2.i
    obtain ⟨p, xs, rfl, s, r⟩ := r1.t
    · obtain ⟨v, h1, h2⟩ := atI_map r h
      exact ⟨_, _, i, v, rfl, rfl, g.gh.st s, h1, q v G' H' g h2⟩)⟩
theorem de_ixS {s : Str} {i : Int} {c : Nat} (ha : DE X C B δ a (.str s)) (hb : DE X C B δ b (.int i)) (hl : s.length ≤ sizeLine) (h : atI s.cps.toList i = some c) (hs : PlainIx b := by exact fun _ _ => rfl) : DE X C B δ (.Subscript a b pos) (.str ⟨#[c]⟩) := ⟨fun R σ G H Q N q =>
  we (pe_ix ix_str pe_we pe_we hs) (d2 (r := rIxS) ha hb N fun x y G' H' g r1 r2 => by
    obtain rfl := r2.i
    obtain rfl := r1.s
    exact ⟨s, i, c, rfl, rfl, hl, h, q _ G' H' g (.str _)⟩)⟩

/-! chains of two comparisons of ints -/
theorem dt_chain {op op' : CmpOp} {p p' : Int → Int → Bool} {i j z : Int} (ho : OpR X (compareOp op) (rI0 fun i j => .bl (p i j))) (ho' : OpR X (compareOp op') (rI0 fun i j => .bl (p' i j)))
    (ha : DE X C B δ a (.int i)) (hb : DE X C B δ b (.int j)) (hc : DE X C B δ c (.int z)) (hm : lastMarks [op, op'] [b, c] = false) : DT X C B δ (.Compare a [op, op'] [b, c] pos) (p i j && p' j z) := ⟨fun R σ G H Q N q =>
  wt (pt_chain ho ho' pe_we pe_we pe_we hm) (ha.run R σ G H _ N fun x G1 H1 g1 r1 => hb.run R σ G1 H1 _ (N.go g1) fun y G2 H2 g2 r2 => by
    obtain rfl := r1.i
    obtain rfl := r2.i
    refine ⟨i, j, rfl, rfl, p i j, rfl, ?_⟩
    revert q
    cases p i j with
    | true =>
      intro q
      refine hc.run R σ G2 H2 _ (N.go (g1.trans g2)) fun w G3 H3 g3 r3 => ?_
      obtain rfl := r3.i
      exact ⟨j, z, rfl, rfl, _, rfl, q G3 H3 ((g1.trans g2).trans g3)⟩
    | false =>
      intro q
      exact ⟨false, rfl, q G2 H2 (g1.trans g2)⟩)⟩
theorem dt_le_lt {i j z : Int} (ha : DE X C B δ a (.int i)) (hb : DE X C B δ b (.int j)) (hc : DE X C B δ c (.int z)) (hm : lastMarks [.LtE, .Lt] [b, c] = false := by with_unfolding_all rfl) : DT X C B δ (.Compare a [.LtE, .Lt] [b, c] pos) (decide (i ≤ j) && decide (j < z)) := dt_chain op_le op_lt ha hb hc hm
theorem dt_le_le {i j z : Int} (ha : DE X C B δ a (.int i)) (hb : DE X C B δ b (.int j)) (hc : DE X C B δ c (.int z)) (hm : lastMarks [.LtE, .LtE] [b, c] = false := by with_unfolding_all rfl) : DT X C B δ (.Compare a [.LtE, .LtE] [b, c] pos) (decide (i ≤ j) && decide (j ≤ z)) := dt_chain op_le op_le ha hb hc hm
end

/-! #### calls of defs -/
inductive Out where
  | ok (d : D)
  | own (o : Ow)
  | err (c : Addr)
def OutOk (M : Md) (G H : Hp) (Q : VK) (E : XK) : Out → Prop
  | .ok d => ∀ v G' H', Grow G H G' H' → Rep M G' v d → Q v H'
  | .own o => ∀ p G' H', Grow G H G' H' → H p = none → G' p = none → OwnAt M G' H' p o → Q (.ref p) H'
  | .err c => ∀ H', Ex H H' → E (.ref c) none H'
/-- the promise of a def: of the arguments a, where they are as told, it hands back the datum told -/
def spD {α : Type} (M : Md) (n : Nat) (enc : α → List D) (pre : α → Prop) (res : α → Out) : Sp := fun vs H Q E => ∃ (a : α) (G : Hp), Ex G H ∧ Reps M G vs (enc a) ∧ vs.length = n ∧ pre a ∧ OutOk M G H Q E (res a)
structure FnD (P : Program) (w : World) (K : PySem.W.Frag) (mg : Str → Option Value) (base : Heap) (C : Addr) (k : Nat) (name : Str) (ps : List Str) {α : Type} (enc : α → List D) (pre : α → Prop) (res : α → Out) : Prop where
  ex : ∃ (f : Addr) (fd : FuncData), FnOk P w K mg base (L2.CX P w) k f fd ps (spD ⟨P, w, K, C⟩ ps.length enc pre res) ∧ mg name = some (.ref f) ∧ PySem.W.keepIn K (.ref f) = true ∧ Binds K fd ps [] ∧
    ∃ (oc : Value) (od : Option Addr) (sl : Array (Option Value)), K.lookup f = some ⟨oc, od, .func fd, sl⟩
section
variable {X : Cx} {C : Addr} {B : Bs} {δ : DEnv} {e : Expr} {es : List Expr} {d : D} {pos p : Pos} {k k' : Nat} {name : Str} {ps : List Str} {α : Type} {enc : α → List D} {pre : α → Prop} {res : α → Out}
theorem FnD.call (F : FnD X.prog X.w X.K X.mg X.base C k' name ps enc pre res) (hx : XOk X C B k) (hk : k' ≤ k) (hg : Gl X name) (hdb : (name == ("__debug__" : Str)) = false) (he : starEach (e :: es) X.env = (false, eval e X.env) :: starEach es X.env)
    (hpl : (backTo pos (starEach es X.env)).any (·.1) = false) {σ : St} {H : Hp} {Q : VK} (h : WA X (e :: es) σ H fun vs H1 => spD (md X C) ps.length enc pre res vs H1 Q (B.E σ)) : WE X (.Call (.Name name p) (e :: es) [] pos) σ H Q := by
  obtain ⟨f, fd, h1, h2, h3, h4, _⟩ := F.ex
  exact we (pe_callS (E := B.E) h1 (hx.hr.mono hk) hg h2 h3 h4 (fun σ => passAt hx.tk σ) pa_wa hdb he hpl) h
theorem de_call (F : FnD X.prog X.w X.K X.mg X.base C k' name ps enc pre res) (hx : XOk X C B k) (a : α) (ha : DA X C B δ (e :: es) (enc a)) (hp : pre a) (hres : res a = .ok d) (hn : (enc a).length = ps.length := by rfl) (hk : k' ≤ k := by decide)
    (hg : Gl X name := by rfl) (hdb : (name == ("__debug__" : Str)) = false := by decide) (he : starEach (e :: es) X.env = (false, eval e X.env) :: starEach es X.env := by rfl) (hpl : (backTo pos (starEach es X.env)).any (·.1) = false := by rfl) :
    DE X C B δ (.Call (.Name name p) (e :: es) [] pos) d := ⟨fun R σ G H Q N q =>
  F.call hx hk hg hdb he hpl (ha.run R σ G H _ N fun vs G1 H1 g1 r1 => ⟨a, G1, g1.gh, r1, r1.length.trans hn, hp, by rw [hres]; exact fun v G' H' g r => q v G' H' (g1.trans g) r⟩)⟩
theorem do_call {o : Ow} (F : FnD X.prog X.w X.K X.mg X.base C k' name ps enc pre res) (hx : XOk X C B k) (a : α) (ha : DA X C B δ (e :: es) (enc a)) (hp : pre a) (hres : res a = .own o) (hn : (enc a).length = ps.length := by rfl) (hk : k' ≤ k := by decide)
    (hg : Gl X name := by rfl) (hdb : (name == ("__debug__" : Str)) = false := by decide) (he : starEach (e :: es) X.env = (false, eval e X.env) :: starEach es X.env := by rfl) (hpl : (backTo pos (starEach es X.env)).any (·.1) = false := by rfl) :
    DO X C B δ (.Call (.Name name p) (e :: es) [] pos) o := ⟨fun R σ G H Q N q =>
  F.call hx hk hg hdb he hpl (ha.run R σ G H _ N fun vs G1 H1 g1 r1 => ⟨a, G1, g1.gh, r1, r1.length.trans hn, hp, by rw [hres]; exact fun p G' H' g n n' r => q p G' H' (g1.trans g) (g1.hh.free n) n' r⟩)⟩
/-- .. of things as they stand now: an answer that hangs on no object -/
theorem de_callW (F : FnD X.prog X.w X.K X.mg X.base C k' name ps enc pre res) (hx : XOk X C B k) (a : α) (ha : DAW X C B δ (e :: es) (enc a)) (hp : pre a) (hres : res a = .ok d) (f : d.flat = true := by rfl) (hn : (enc a).length = ps.length := by rfl) (hk : k' ≤ k := by decide)
    (hg : Gl X name := by rfl) (hdb : (name == ("__debug__" : Str)) = false := by decide) (he : starEach (e :: es) X.env = (false, eval e X.env) :: starEach es X.env := by rfl) (hpl : (backTo pos (starEach es X.env)).any (·.1) = false := by rfl) :
    DE X C B δ (.Call (.Name name p) (e :: es) [] pos) d := ⟨fun R σ G H Q N q =>
  F.call hx hk hg hdb he hpl (ha.run R σ G H _ N fun vs G1 H1 g1 r1 => ⟨a, H1, Ex.refl _, r1, r1.length.trans hn, hp, by
    rw [hres]
    exact fun v G' H' g r => q v G1 H' (g1.trans ⟨g.hh, Ex.refl _, g1.gh.trans g.hh, fun _ h _ => h⟩) (r.flat f)⟩)⟩
theorem dx_call {c : Addr} (F : FnD X.prog X.w X.K X.mg X.base C k' name ps enc pre res) (hx : XOk X C B k) (a : α) (ha : DAW X C B δ (e :: es) (enc a)) (hp : pre a) (hres : res a = .err c) (hc : B.ex δ c) (hn : (enc a).length = ps.length := by rfl) (hk : k' ≤ k := by decide)
    (hg : Gl X name := by rfl) (hdb : (name == ("__debug__" : Str)) = false := by decide) (he : starEach (e :: es) X.env = (false, eval e X.env) :: starEach es X.env := by rfl) (hpl : (backTo pos (starEach es X.env)).any (·.1) = false := by rfl) :
    DX X C B δ (.Call (.Name name p) (e :: es) [] pos) := ⟨fun R σ G H Q N =>
  F.call hx hk hg hdb he hpl (ha.run R σ G H _ N fun vs G1 H1 g1 r1 => ⟨a, H1, Ex.refl _, r1, r1.length.trans hn, hp, by
    rw [hres]
    exact fun H' g => hx.hex R δ σ G1 H1 H' c hc (N.go g1) g⟩)⟩
end
end Rv

/-! ### Part C: statements, defs -/
namespace Rv
open PySem L2

/-- what is wanted behind code -/
structure Post where
  rt : D → Prop
  rto : Ow → Prop := fun _ => False
  nx : DEnv → Prop
  bk : DEnv → Prop := fun _ => False
  ct : DEnv → Prop := fun _ => False
structure PostOk (M : Md) (B : Bs) (R : Hp) (P : Post) (D' : Ends) : Prop where
  rt : ∀ d v G H, P.rt d → Grow B.G0 B.H0 G H → Rep M G v d → D'.rt v H
  rto : ∀ o p G H, P.rto o → Grow B.G0 B.H0 G H → B.H0 p = none → G p = none → OwnAt M G H p o → D'.rt (.ref p) H
  nx : ∀ δ σ G H, P.nx δ → Fit M B R σ G H δ → D'.nx σ H
  bk : ∀ δ σ G H, P.bk δ → Fit M B R σ G H δ → D'.bk σ H
  ct : ∀ δ σ G H, P.ct δ → Fit M B R σ G H δ → D'.ct σ H
structure DS (X : Cx) (C : Addr) (B : Bs) (P : Post) (δ : DEnv) (st : Stmt) : Prop where
  run : ∀ (R : Hp) (D' : Ends), PostOk (md X C) B R P D' → ∀ (σ : St) (G H : Hp), Fit (md X C) B R σ G H δ → WS X st D' σ H
structure DB (X : Cx) (C : Addr) (B : Bs) (P : Post) (δ : DEnv) (sts : List Stmt) : Prop where
  run : ∀ (R : Hp) (D' : Ends), PostOk (md X C) B R P D' → ∀ (σ : St) (G H : Hp), Fit (md X C) B R σ G H δ → WB X sts D' σ H
section
variable {X : Cx} {C : Addr} {B : Bs} {P : Post} {δ : DEnv} {st : Stmt} {sts b1 b2 : List Stmt} {e c : Expr} {d : D} {o : Ow} {pos : Pos} {k : Nat}
theorem db_nil (h : P.nx δ) : DB X C B P δ [] := ⟨fun R D' pk σ G H N => wb pss_nil (pk.nx δ σ G H h N)⟩
theorem db_cons (h : DS X C B { P with nx := fun δ' => DB X C B P δ' sts } δ st) : DB X C B P δ (st :: sts) := ⟨fun R D' pk σ G H N =>
  wb (pss_cons ps_ws pss_wb) (h.run R { D' with nx := fun σ' H' => WB X sts D' σ' H' } ⟨pk.rt, pk.rto, fun δ' σ' G' H' hb N' => hb.run R D' pk σ' G' H' N', pk.bk, pk.ct⟩ σ G H N)⟩
theorem db_one (h : DS X C B P δ st) : DB X C B P δ [st] := ⟨fun R D' pk σ G H N => wb (pss_one ps_ws) (h.run R D' pk σ G H N)⟩
/-- a statement, then the rest from whatever R tells -/
theorem db_seq (R : DEnv → Prop) (h : DS X C B { P with nx := R } δ st) (h2 : ∀ δ', R δ' → DB X C B P δ' sts) : DB X C B P δ (st :: sts) := ⟨fun R D' pk σ G H N =>
  wb (pss_cons ps_ws pss_wb) (h.run R { D' with nx := fun σ' H' => WB X sts D' σ' H' } ⟨pk.rt, pk.rto, fun δ' σ' G' H' hb N' => (h2 δ' hb).run R D' pk σ' G' H' N', pk.bk, pk.ct⟩ σ G H N)⟩
theorem db_cut {P' : Post} (h : DB X C B P' δ sts) (h1 : ∀ d, P'.rt d → P.rt d) (h2 : ∀ d, P'.rto d → P.rto d) (h3 : ∀ d, P'.nx d → P.nx d) (h4 : ∀ d, P'.bk d → P.bk d) (h5 : ∀ d, P'.ct d → P.ct d) : DB X C B P δ sts := ⟨fun R D' pk =>
  h.run R D' ⟨fun d v G H q => pk.rt d v G H (h1 _ q), fun d v G H q => pk.rto d v G H (h2 _ q), fun d v G H q => pk.nx d v G H (h3 _ q), fun d v G H q => pk.bk d v G H (h4 _ q), fun d v G H q => pk.ct d v G H (h5 _ q)⟩⟩
/-- an own list that is known from here on -/
theorem db_pub (i : Nat) {l : List D} (hi : δ[i]? = some (.ow (.lst l))) (h : DB X C B P (δ.set i (.sh (.lst l))) sts) : DB X C B P δ sts := ⟨fun R D' pk σ G H N => by
  obtain ⟨p, h1, h2, h3, xs, h4, h5⟩ := N.slot i _ hi
  have hx := Ex.new (o := .lst xs) h3
  refine h.run R D' pk σ (upd G p (.lst xs)) H ⟨N.bel, by rw [List.length_set, N.len], ⟨N.grow.hh, N.grow.gg.trans hx, fun a u e => ?_, fun q g1 g2 => ?_⟩, fun j s ej => ?_, fun j m a b q hjm g1 g2 g3 g4 => ?_⟩
  · by_cases ha : a = p
    · subst ha
      rw [upd_same] at e
      cases e
      exact h4
    · rw [upd_ne ha] at e
      exact N.gh a u e
  · have : q ≠ p := fun z => by subst z; exact g2 h2
    rw [upd_ne this]
    exact N.grow.nw q g1 g2
  · rcases set_get ej with ⟨g1, g2, g3⟩ | ⟨g1, g2⟩
    · subst g1 g2
      exact ⟨_, h1, .lst (.of upd_same) (h5.mono hx)⟩
    · have z := N.slot j s g2
      cases s with
      | un => trivial
      | sh d => obtain ⟨v, a, b⟩ := z; exact ⟨v, a, b.mono hx⟩
      | raw v => exact z
      | ow o' =>
        obtain ⟨p', a', b', c', d'⟩ := z
        have np : p' ≠ p := fun z => N.dist i j _ _ p g1 hi g2 h1 (by rw [← z]; exact a')
        refine ⟨p', a', b', by rw [upd_ne np]; exact c', ?_⟩
        cases o' with
        | lst l => obtain ⟨xs, x1, x2⟩ := d'; exact ⟨xs, x1, x2.mono hx⟩
        | dic kvs => obtain ⟨xs, x1, x2⟩ := d'; exact ⟨xs, x1, x2.mono hx⟩
        | seen ks => exact d'
  · rcases set_get g1 with ⟨_, h, _⟩ | ⟨n1, g1⟩
    · cases h
    · rcases set_get g2 with ⟨_, h, _⟩ | ⟨n2, g2⟩
      · cases h
      · exact N.dist j m a b q hjm g1 g2 g3 g4⟩
theorem db_pubD (i : Nat) {l : List (D × D)} (hi : δ[i]? = some (.ow (.dic l))) (h : DB X C B P (δ.set i (.sh (.dic l))) sts) : DB X C B P δ sts := ⟨fun R D' pk σ G H N => by
  obtain ⟨p, h1, h2, h3, xs, h4, h5⟩ := N.slot i _ hi
  have hx := Ex.new (o := dN X.prog X.w p xs) h3
  refine h.run R D' pk σ (upd G p (dN X.prog X.w p xs)) H ⟨N.bel, by rw [List.length_set, N.len], ⟨N.grow.hh, N.grow.gg.trans hx, fun a u e => ?_, fun q g1 g2 => ?_⟩, fun j s ej => ?_, fun j m a b q hjm g1 g2 g3 g4 => ?_⟩
  · by_cases ha : a = p
    · subst ha
      rw [upd_same] at e
      cases e
      exact h4
    · rw [upd_ne ha] at e
      exact N.gh a u e
  · have : q ≠ p := fun z => by subst z; exact g2 h2
    rw [upd_ne this]
    exact N.grow.nw q g1 g2
  · rcases set_get ej with ⟨g1, g2, g3⟩ | ⟨g1, g2⟩
    · subst g1 g2
      exact ⟨_, h1, .dic (.inl upd_same) (h5.mono hx)⟩
    · have z := N.slot j s g2
      cases s with
      | un => trivial
      | sh d => obtain ⟨v, a, b⟩ := z; exact ⟨v, a, b.mono hx⟩
      | raw v => exact z
      | ow o' =>
        obtain ⟨p', a', b', c', d'⟩ := z
        have np : p' ≠ p := fun z => N.dist i j _ _ p g1 hi g2 h1 (by rw [← z]; exact a')
        refine ⟨p', a', b', by rw [upd_ne np]; exact c', ?_⟩
        cases o' with
        | lst l => obtain ⟨xs, x1, x2⟩ := d'; exact ⟨xs, x1, x2.mono hx⟩
        | dic kvs => obtain ⟨xs, x1, x2⟩ := d'; exact ⟨xs, x1, x2.mono hx⟩
        | seen ks => exact d'
  · rcases set_get g1 with ⟨_, h, _⟩ | ⟨n1, g1⟩
    · cases h
    · rcases set_get g2 with ⟨_, h, _⟩ | ⟨n2, g2⟩
      · cases h
      · exact N.dist j m a b q hjm g1 g2 g3 g4⟩

/-! x = e -/
theorem ds_setN (hn : X.N.Nodup) (i : Nat) {x : Str} {pos' : Pos} (he : DE X C B δ e d) (h : P.nx (δ.set i (.sh d))) (hi : X.N[i]? = some x := by rfl) (hl : Loc X.env.scope x := by first | exact Or.inl rfl | exact Or.inr rfl)
    (hs : swapsWith e (some (.Name x pos')) pos.line X.env = pure false := by rfl) (hf : X.fn x = true ∨ X.env.scope.names.lookup x = some .local := by first | exact .inl rfl | exact .inr rfl) : DS X C B P δ (.Assign [.Name x pos'] e pos) := ⟨fun R D' pk σ G H N =>
  ws (ps_set (i := i) hn hi hl pe_we hs hf) (he.run R σ G H _ N fun v G' H' g r => pk.nx _ _ G' H' h ((N.go g).setSh r))⟩
theorem ds_set (hx : XOk X C B k) (i : Nat) {x : Str} {pos' : Pos} (he : DE X C B δ e d) (h : P.nx (δ.set i (.sh d))) (hi : X.N[i]? = some x := by rfl) (hl : Loc X.env.scope x := by first | exact Or.inl rfl | exact Or.inr rfl)
    (hs : swapsWith e (some (.Name x pos')) pos.line X.env = pure false := by rfl) (hf : X.fn x = true ∨ X.env.scope.names.lookup x = some .local := by first | exact .inl rfl | exact .inr rfl) : DS X C B P δ (.Assign [.Name x pos'] e pos) := ds_setN hx.nd i he h hi hl hs hf
theorem ds_setON (hn : X.N.Nodup) (i : Nat) {x : Str} {pos' : Pos} (he : DO X C B δ e o) (h : P.nx (δ.set i (.ow o))) (hi : X.N[i]? = some x := by rfl) (hl : Loc X.env.scope x := by first | exact Or.inl rfl | exact Or.inr rfl)
    (hs : swapsWith e (some (.Name x pos')) pos.line X.env = pure false := by rfl) (hf : X.fn x = true ∨ X.env.scope.names.lookup x = some .local := by first | exact .inl rfl | exact .inr rfl) : DS X C B P δ (.Assign [.Name x pos'] e pos) := ⟨fun R D' pk σ G H N =>
  ws (ps_set (i := i) hn hi hl pe_we hs hf) (he.run R σ G H _ N fun p G' H' g n n' r => pk.nx _ _ G' H' h (N.setOw g n n' r))⟩
theorem ds_setO (hx : XOk X C B k) (i : Nat) {x : Str} {pos' : Pos} (he : DO X C B δ e o) (h : P.nx (δ.set i (.ow o))) (hi : X.N[i]? = some x := by rfl) (hl : Loc X.env.scope x := by first | exact Or.inl rfl | exact Or.inr rfl)
    (hs : swapsWith e (some (.Name x pos')) pos.line X.env = pure false := by rfl) (hf : X.fn x = true ∨ X.env.scope.names.lookup x = some .local := by first | exact .inl rfl | exact .inr rfl) : DS X C B P δ (.Assign [.Name x pos'] e pos) := ds_setON hx.nd i he h hi hl hs hf
theorem ds_setX (hx : XOk X C B k) {x : Str} {pos' : Pos} (he : DX X C B δ e) {i : Nat} (hi : X.N[i]? = some x) (hl : Loc X.env.scope x := by first | exact Or.inl rfl | exact Or.inr rfl)
    (hs : swapsWith e (some (.Name x pos')) pos.line X.env = pure false := by rfl) (hf : X.fn x = true ∨ X.env.scope.names.lookup x = some .local := by first | exact .inl rfl | exact .inr rfl) : DS X C B P δ (.Assign [.Name x pos'] e pos) := ⟨fun R D' pk σ G H N =>
  ws (ps_set (i := i) hx.nd hi hl pe_we hs hf) (he.run R σ G H _ N)⟩
theorem db_set (hx : XOk X C B k) (i : Nat) {x : Str} {pos' : Pos} (he : DE X C B δ e d) (h : DB X C B P (δ.set i (.sh d)) sts) (hi : X.N[i]? = some x := by rfl) (hl : Loc X.env.scope x := by first | exact Or.inl rfl | exact Or.inr rfl)
    (hs : swapsWith e (some (.Name x pos')) pos.line X.env = pure false := by rfl) (hf : X.fn x = true ∨ X.env.scope.names.lookup x = some .local := by first | exact .inl rfl | exact .inr rfl) : DB X C B P δ (.Assign [.Name x pos'] e pos :: sts) := db_cons (ds_set hx i he h hi hl hs hf)
theorem db_setO (hx : XOk X C B k) (i : Nat) {x : Str} {pos' : Pos} (he : DO X C B δ e o) (h : DB X C B P (δ.set i (.ow o)) sts) (hi : X.N[i]? = some x := by rfl) (hl : Loc X.env.scope x := by first | exact Or.inl rfl | exact Or.inr rfl)
    (hs : swapsWith e (some (.Name x pos')) pos.line X.env = pure false := by rfl) (hf : X.fn x = true ∨ X.env.scope.names.lookup x = some .local := by first | exact .inl rfl | exact .inr rfl) : DB X C B P δ (.Assign [.Name x pos'] e pos :: sts) := db_cons (ds_setO hx i he h hi hl hs hf)
/-! e alone; return; if; pass -/
theorem ds_expr (he : DW X C B δ e d) (h : P.nx δ) (hs : swapsWith e none pos.line X.env = pure false := by rfl) : DS X C B P δ (.Expr e pos) := ⟨fun R D' pk σ G H N =>
  ws (ps_expr pe_we hs) (he.run R σ G H _ N fun v G' H' g r => pk.nx _ _ G' H' h (N.go g))⟩
theorem ds_exprX (he : DX X C B δ e) (hs : swapsWith e none pos.line X.env = pure false := by rfl) : DS X C B P δ (.Expr e pos) := ⟨fun R D' pk σ G H N => ws (ps_expr pe_we hs) (he.run R σ G H _ N)⟩
theorem ds_ret (he : DE X C B δ e d) (h : P.rt d) : DS X C B P δ (.Return (some e) pos) := ⟨fun R D' pk σ G H N =>
  ws (ps_ret pe_we) (he.run R σ G H _ N fun v G' H' g r => pk.rt d v G' H' h (N.all.trans g) r)⟩
theorem ds_retO (he : DO X C B δ e o) (h : P.rto o) : DS X C B P δ (.Return (some e) pos) := ⟨fun R D' pk σ G H N =>
  ws (ps_ret pe_we) (he.run R σ G H _ N fun p G' H' g n n' r => pk.rto o p G' H' h (N.all.trans g) (N.grow.hh.free n) n' r)⟩
theorem ds_retX (he : DX X C B δ e) : DS X C B P δ (.Return (some e) pos) := ⟨fun R D' pk σ G H N => ws (ps_ret pe_we) (he.run R σ G H _ N)⟩
/-- return x, an own list -/
theorem ds_retV (i : Nat) {x : Str} {pos' : Pos} (hi : δ[i]? = some (.ow o)) (h : P.rto o) (hN : X.N[i]? = some x := by rfl) (hv : Vis X.env.scope x := by first | exact Or.inl rfl | exact Or.inr (Or.inl rfl) | exact Or.inr (Or.inr rfl))
    (hd : (x == ("__debug__" : Str)) = false := by decide) (hcd : (x == ("__classdict__" : Str)) = false := by decide) : DS X C B P δ (.Return (some (.Name x pos')) pos) := ⟨fun R D' pk σ G H N => by
  obtain ⟨p, h1, h2, h3, h4⟩ := N.slot i _ hi
  exact ws (ps_ret (pe_var hN hv hd hcd)) ⟨_, h1, pk.rto o p G H h N.all h2 h3 h4⟩⟩
theorem ds_retN (h : P.rt .non) : DS X C B P δ (.Return none pos) := ⟨fun R D' pk σ G H N => ws ps_retN (pk.rt .non _ G H h N.all .non)⟩
theorem ds_if {b : Bool} (hc : DT X C B δ c b) (h1 : b = true → DB X C B P δ b1) (h2 : b = false → DB X C B P δ b2) : DS X C B P δ (.If c b1 b2 pos) := ⟨fun R D' pk σ G H N =>
  ws (ps_if pt_wt pss_wb pss_wb) (hc.run R σ G H _ N fun G' H' g => by
    cases b with
    | true => exact (h1 rfl).run R D' pk σ G' H' (N.go g)
    | false => exact (h2 rfl).run R D' pk σ G' H' (N.go g))⟩
theorem ds_pass (h : P.nx δ) : DS X C B P δ (.Pass pos) := ⟨fun R D' pk σ G H N => ws ps_pass (pk.nx δ σ G H h N)⟩
theorem ds_break (h : P.bk δ) : DS X C B P δ (.Break pos) := ⟨fun R D' pk σ G H N => ws ps_break (pk.bk δ σ G H h N)⟩
theorem ds_cont (h : P.ct δ) : DS X C B P δ (.Continue pos) := ⟨fun R D' pk σ G H N => ws ps_continue (pk.ct δ σ G H h N)⟩
/-- if without an else whose branch leaves -/
theorem db_ifr {b : Bool} (hc : DT X C B δ c b) (h1 : b = true → DB X C B { P with nx := fun _ => False } δ b1) (h2 : b = false → DB X C B P δ sts) : DB X C B P δ (.If c b1 [] pos :: sts) :=
  db_cons (ds_if hc (fun q => db_cut (h1 q) (fun _ z => z) (fun _ z => z) (fun _ z => z.elim) (fun _ z => z) (fun _ z => z)) fun q => db_nil (h2 q))
/-- if, what is known behind it told by both branches alike -/
theorem db_if {b : Bool} (R : DEnv → Prop) (hc : DT X C B δ c b) (h1 : b = true → DB X C B { P with nx := R } δ b1) (h2 : b = false → DB X C B { P with nx := R } δ b2) (h : ∀ δ', R δ' → DB X C B P δ' sts) : DB X C B P δ (.If c b1 b2 pos :: sts) :=
  db_seq R (ds_if hc h1 h2) h
/-- if c: x = e, of whole numbers -/
theorem db_ifI (hx : XOk X C B k) (i : Nat) {b : Bool} {x : Str} {pos' pos2 : Pos} {u v : Int} (hc : DT X C B δ c b) (hv : δ[i]? = some (.sh (.int v))) (he : b = true → DE X C B δ e (.int u)) (h : DB X C B P (δ.set i (.sh (.int (if b = true then u else v)))) sts) (hi : X.N[i]? = some x := by rfl) (hl : Loc X.env.scope x := by first | exact Or.inl rfl | exact Or.inr rfl)
    (hs : swapsWith e (some (.Name x pos')) pos2.line X.env = pure false := by rfl) (hf : X.fn x = true ∨ X.env.scope.names.lookup x = some .local := by first | exact .inl rfl | exact .inr rfl) : DB X C B P δ (.If c [.Assign [.Name x pos'] e pos2] [] pos :: sts) := by
  have hself : b = false → δ.set i (.sh (.int (if b = true then u else v))) = δ := fun q => by
    rw [q, if_neg Bool.false_ne_true]
    refine List.ext_getElem? fun j => ?_
    rw [List.getElem?_set]
    split
    · rename_i hj
      subst hj
      split
      · exact hv.symm
      · rename_i hlt
        rw [List.getElem?_eq_none_iff.mpr (by omega)] at hv
        cases hv
    · rfl
  refine db_seq (fun δ' => δ' = δ.set i (.sh (.int (if b = true then u else v)))) (ds_if hc (fun q => db_one (ds_set hx i (he q) (by rw [q, if_pos rfl]) hi hl hs hf)) fun q => db_nil (hself q).symm) fun δ' q => by rw [q]; exact h
/-! a list's own methods -/
theorem ds_append (i : Nat) {l : List D} {x : Str} {p1 p2 p3 : Pos} (hi : δ[i]? = some (.ow (.lst l))) (he : DE X C B δ e d) (hz : l.length < sizeLine) (h : P.nx (δ.set i (.ow (.lst (l ++ [d]))))) (hN : X.N[i]? = some x := by rfl) (hv : Vis X.env.scope x := by first | exact Or.inl rfl | exact Or.inr (Or.inl rfl) | exact Or.inr (Or.inr rfl))
    (hd : (x == ("__debug__" : Str)) = false := by decide) (hcd : (x == ("__classdict__" : Str)) = false := by decide)
    (hbase : attributeBase (.Name x p1) "append" X.env (eval (.Name x p1) X.env) = eval (.Name x p1) X.env := by rfl)
    (hfew : ((backTo p3 (starEach [e] X.env)).all (fun x => !x.1) && (backToKw p3 (keywordEach [] X.env)).all (fun x => x.1.isSome)
      && decide (([e] : List Expr).length + ([] : List Keyword).length + (if ([] : List Keyword).isEmpty then 0 else 1) < 30)) = true := by rfl)
    (hline : (p2.endLine == p3.line) = true := by rfl) (hs : starEach [e] X.env = (false, eval e X.env) :: starEach [] X.env := by rfl) (hplain : (backTo p3 (starEach [] X.env)).any (·.1) = false := by rfl)
    (hsw : swapsWith (.Call (.Attribute (.Name x p1) "append" p2) [e] [] p3) none pos.line X.env = pure false := by rfl) :
    DS X C B P δ (.Expr (.Call (.Attribute (.Name x p1) "append" p2) [e] [] p3) pos) := ⟨fun R D' pk σ G H N => by
  obtain ⟨p, h1, h2, h3, xs, h4, h5⟩ := N.slot i _ hi
  refine ws (ps_expr (pe_bm PySem.F.plainAttrs_list PySem.F.slot_list_append PySem.F.type_list_append mt_append (pe_var hN hv hd hcd) (pa_cons pe_we pa_nil hs) hbase hfew hline hs hplain) hsw) ⟨_, h1, .inl ⟨rfl, _, .of h4⟩, ?_⟩
  refine he.run R σ G H _ N fun v G' H' g r => ?_
  have h4' := g.hh p _ h4
  refine ⟨p, xs, v, rfl, rfl, h4', by rw [h5.length]; exact hz, pk.nx _ _ G' _ h ((N.go g).write hi h1 ⟨xs ++ [v], upd_same, (h5.mono g.gg).append (.cons r .nil)⟩)⟩⟩
/-! loops -/
def Post.loop (P : Post) (N : DEnv → Prop) : Post := { P with nx := N, ct := N, bk := P.nx }
theorem PostOk.loop {M : Md} {R G : Hp} {H : Hp} {σ : St} {D' : Ends} (N0 : Fit M B R σ G H δ) (pk : PostOk M B R P D') (J : DEnv → Prop) :
    PostOk M B G (P.loop J) { D' with nx := fun σ' H' => ∃ δ' G', J δ' ∧ Fit M B G σ' G' H' δ', ct := fun σ' H' => ∃ δ' G', J δ' ∧ Fit M B G σ' G' H' δ', bk := D'.nx } :=
  ⟨pk.rt, pk.rto, fun δ' σ' G' H' h N => ⟨δ', G', h, N⟩, fun δ' σ' G' H' h N => pk.nx δ' σ' G' H' h (N0.unroot N), fun δ' σ' G' H' h N => ⟨δ', G', h, N⟩⟩
/-- for x in a list that stands still -/
theorem ds_for (hx : XOk X C B k) (i : Nat) {x : Str} {pos' : Pos} {l : List D} {body : List Stmt} (J : Nat → DEnv → Prop) (he : DE X C B δ e (.lst l)) (h0 : J 0 δ)
    (hs : ∀ n d δ', l[n]? = some d → J n δ' → DB X C B (P.loop (J (n + 1))) (δ'.set i (.sh d)) body) (hd : ∀ δ', J l.length δ' → P.nx δ') (hi : X.N[i]? = some x := by rfl) (hl : Loc X.env.scope x := by first | exact Or.inl rfl | exact Or.inr rfl)
    (hf : X.fn x = true ∨ X.env.scope.names.lookup x = some .local := by first | exact .inl rfl | exact .inr rfl) (hfs : ∀ x, foldedSetIterable e X.env x = pure x := by intro _; rfl) : DS X C B P δ (.For (.Name x pos') e body [] pos) := ⟨fun R D' pk σ G H N =>
  ws (ps_for hx.po hx.calm (pi_list pe_we) (pg_name (i := i) hx.nd hi hl hf) pss_wb hfs) (he.run R σ G H _ N fun v G1 H1 g1 r1 => by
    obtain ⟨a, xs, rfl, hq, rs⟩ := r1.l
    have N1 := N.go g1
    refine ⟨a, rfl, ⟨xs, g1.gh.sl hq⟩, for_list (K := X.K) (a := a) (xs := xs) (fun n σ' H' => ∃ δ' G', J n δ' ∧ Fit (md X C) B G1 σ' G' H' δ') ⟨δ, G1, h0, N1.root⟩ (fun n σ' H' _ ⟨δ', G', _, N'⟩ => (N'.grow.gg.trans N'.gh).sl hq) (fun n v σ' H' hv ⟨δ', G', hJ, N'⟩ => ?_) fun σ' H' ⟨δ', G', hJ, N'⟩ => ?_⟩
    · obtain ⟨d, h1, h2⟩ := rs.getV hv
      exact (hs n d δ' h1 hJ).run G1 _ (PostOk.loop N1 pk (J (n + 1))) _ G' H' (N'.setSh (h2.mono N'.grow.gg))
    · rw [rs.length] at hJ
      exact pk.nx δ' σ' G' H' (hd δ' hJ) (N1.unroot N'))⟩
/-- for x in a tuple -/
theorem ds_forT (hx : XOk X C B k) (i : Nat) {x : Str} {pos' : Pos} {l : List D} {body : List Stmt} (J : Nat → DEnv → Prop) (he : DE X C B δ e (.tup l)) (h0 : J 0 δ)
    (hs : ∀ n d δ', l[n]? = some d → J n δ' → DB X C B (P.loop (J (n + 1))) (δ'.set i (.sh d)) body) (hd : ∀ δ', J l.length δ' → P.nx δ') (hi : X.N[i]? = some x := by rfl) (hl : Loc X.env.scope x := by first | exact Or.inl rfl | exact Or.inr rfl)
    (hf : X.fn x = true ∨ X.env.scope.names.lookup x = some .local := by first | exact .inl rfl | exact .inr rfl) (hfs : ∀ x, foldedSetIterable e X.env x = pure x := by intro _; rfl) : DS X C B P δ (.For (.Name x pos') e body [] pos) := ⟨fun R D' pk σ G H N =>
  ws (ps_for hx.po hx.calm (pi_tup pe_we) (pg_name (i := i) hx.nd hi hl hf) pss_wb hfs) (he.run R σ G H _ N fun v G1 H1 g1 r1 => by
    obtain ⟨a, xs, rfl, hq, rs⟩ := r1.t
    have N1 := N.go g1
    refine ⟨a, rfl, ⟨xs, g1.gh.st hq⟩, for_tup (K := X.K) (a := a) (xs := xs) (fun n σ' H' => ∃ δ' G', J n δ' ∧ Fit (md X C) B G1 σ' G' H' δ') ⟨δ, G1, h0, N1.root⟩ (fun n σ' H' _ ⟨δ', G', _, N'⟩ => (N'.grow.gg.trans N'.gh).st hq) (fun n v σ' H' hv ⟨δ', G', hJ, N'⟩ => ?_) fun σ' H' ⟨δ', G', hJ, N'⟩ => ?_⟩
    · obtain ⟨d, h1, h2⟩ := rs.getV hv
      exact (hs n d δ' h1 hJ).run G1 _ (PostOk.loop N1 pk (J (n + 1))) _ G' H' (N'.setSh (h2.mono N'.grow.gg))
    · rw [rs.length] at hJ
      exact pk.nx δ' σ' G' H' (hd δ' hJ) (N1.unroot N'))⟩
/-- for x in range(m) -/
theorem ds_for1 (hx : XOk X C B k) (i : Nat) {x : Str} {pos' p1 p2 : Pos} {m : Int} {body : List Stmt} (hm : X.mg "range" = none) (J : Nat → DEnv → Prop) (he : DE X C B δ e (.int m)) (hb1 : -(2 ^ 62) ≤ m) (hb2 : m < 2 ^ 62) (h0 : J 0 δ)
    (hs : ∀ (n : Nat) δ', n < m.toNat → J n δ' → DB X C B (P.loop (J (n + 1))) (δ'.set i (.sh (.int (n : Int)))) body) (hd : ∀ δ', J m.toNat δ' → P.nx δ') (hi : X.N[i]? = some x := by rfl) (hl : Loc X.env.scope x := by first | exact Or.inl rfl | exact Or.inr rfl)
    (hg : Gl X "range" := by rfl) (hse : starEach [e] X.env = [(false, eval e X.env)] := by rfl)
    (hf : X.fn x = true ∨ X.env.scope.names.lookup x = some .local := by first | exact .inl rfl | exact .inr rfl) (hfs : ∀ x, foldedSetIterable (.Call (.Name "range" p1) [e] [] p2) X.env x = pure x := by intro _; rfl) : DS X C B P δ (.For (.Name x pos') (.Call (.Name "range" p1) [e] [] p2) body [] pos) := ⟨fun R D' pk σ G H N =>
  ws (ps_for hx.po hx.calm (pi_range1 hg hm (pa_cons pe_we pa_nil hse) hse) (pg_name (i := i) hx.nd hi hl hf) pss_wb hfs) (he.run R σ G H _ N fun v G1 H1 g1 r1 => by
    obtain rfl := r1.i
    have N1 := N.go g1
    refine ⟨m, rfl, hb1, hb2, for_range (lo := 0) (n := m.toNat) (fun n σ' H' => ∃ δ' G', J n δ' ∧ Fit (md X C) B G1 σ' G' H' δ') ⟨δ, G1, h0, N1.root⟩ (fun n σ' H' hn ⟨δ', G', hJ, N'⟩ => ?_) fun σ' H' ⟨δ', G', hJ, N'⟩ => ?_⟩
    · refine (hs n δ' hn hJ).run G1 _ (PostOk.loop N1 pk (J (n + 1))) _ G' H' (N'.setSh ?_)
      rw [Int.zero_add]
      exact .int _
    · exact pk.nx δ' σ' G' H' (hd δ' hJ) (N1.unroot N'))⟩
/-- for x in range(lo, hi) -/
theorem ds_for2 (hx : XOk X C B k) (i : Nat) {x : Str} {pos' p1 p2 : Pos} {e2 : Expr} {lo m : Int} {body : List Stmt} (hm : X.mg "range" = none) (J : Nat → DEnv → Prop) (he : DE X C B δ e (.int lo)) (he2 : DE X C B δ e2 (.int m)) (hb : -(2 ^ 62) ≤ lo ∧ lo < 2 ^ 62 ∧ -(2 ^ 62) ≤ m ∧ m < 2 ^ 62) (h0 : J 0 δ)
    (hs : ∀ (n : Nat) δ', n < (m - lo).toNat → J n δ' → DB X C B (P.loop (J (n + 1))) (δ'.set i (.sh (.int (lo + (n : Int))))) body) (hd : ∀ δ', J (m - lo).toNat δ' → P.nx δ') (hi : X.N[i]? = some x := by rfl) (hl : Loc X.env.scope x := by first | exact Or.inl rfl | exact Or.inr rfl)
    (hg : Gl X "range" := by rfl) (hse : starEach [e, e2] X.env = [(false, eval e X.env), (false, eval e2 X.env)] := by rfl) (hse2 : starEach [e2] X.env = [(false, eval e2 X.env)] := by rfl)
    (hf : X.fn x = true ∨ X.env.scope.names.lookup x = some .local := by first | exact .inl rfl | exact .inr rfl) (hfs : ∀ x, foldedSetIterable (.Call (.Name "range" p1) [e, e2] [] p2) X.env x = pure x := by intro _; rfl) : DS X C B P δ (.For (.Name x pos') (.Call (.Name "range" p1) [e, e2] [] p2) body [] pos) := ⟨fun R D' pk σ G H N =>
  ws (ps_for hx.po hx.calm (pi_range2 hg hm (pa_cons pe_we (pa_cons pe_we pa_nil hse2) (by rw [hse, hse2])) hse hse2) (pg_name (i := i) hx.nd hi hl hf) pss_wb hfs) (he.run R σ G H _ N fun v G0 H0 g0 r0 => he2.run R σ G0 H0 _ (N.go g0) fun v G1 H1 g1 r1 => by
    obtain rfl := r0.i
    obtain rfl := r1.i
    have N1 := N.go (g0.trans g1)
    refine ⟨lo, m, rfl, hb, for_range (lo := lo) (n := (m - lo).toNat) (fun n σ' H' => ∃ δ' G', J n δ' ∧ Fit (md X C) B G1 σ' G' H' δ') ⟨δ, G1, h0, N1.root⟩ (fun n σ' H' hn ⟨δ', G', hJ, N'⟩ => ?_) fun σ' H' ⟨δ', G', hJ, N'⟩ => ?_⟩
    · exact (hs n δ' hn hJ).run G1 _ (PostOk.loop N1 pk (J (n + 1))) _ G' H' (N'.setSh (.int _))
    · exact pk.nx δ' σ' G' H' (hd δ' hJ) (N1.unroot N'))⟩
/-- while c -/
theorem ds_while (hx : XOk X C B k) {body : List Stmt} (J : Nat → DEnv → Prop) (h0 : ∃ m, J m δ)
    (hs : ∀ m δ', J m δ' → ∃ b, DT X C B δ' c b ∧ (b = true → DB X C B (P.loop fun δ'' => ∃ m', m' < m ∧ J m' δ'') δ' body) ∧ (b = false → P.nx δ')) : DS X C B P δ (.While c body [] pos) := ⟨fun R D' pk σ G H N =>
  ws (ps_while hx.po pt_wt pss_wb) (by
    obtain ⟨m0, j0⟩ := h0
    refine ⟨fun m σ' H' => ∃ δ' G', J m δ' ∧ Fit (md X C) B G σ' G' H' δ', ⟨m0, δ, G, j0, N.root⟩, fun m σ' H' ⟨δ', G', hJ, N'⟩ => ?_⟩
    obtain ⟨b, h1, h2, h3⟩ := hs m δ' hJ
    refine h1.run G σ' G' H' _ N' fun G2 H2 g2 => ?_
    cases b with
    | true => exact ⟨_, fun σ3 H3 ⟨δ3, G3, ⟨m', h4, h5⟩, N3⟩ => ⟨m', h4, δ3, G3, h5, N3⟩, (h2 rfl).run G _ (PostOk.loop N pk (fun δ'' => ∃ m', m' < m ∧ J m' δ'')) σ' G2 H2 (N'.go g2)⟩
    | false => exact pk.nx δ' σ' G2 H2 (h3 rfl) (N.unroot (N'.go g2)))⟩
end

/-! #### defs -/
/-- an own exception class, raised -/
structure ExC (P : Program) (w : World) (K : PySem.W.Frag) (mg : Str → Option Value) (x : Str) (c : Addr) : Prop where
  g : mg x = some (.ref c)
  x : PySem.W.excIn K c [.type "ValueError", .type "Exception", .type "BaseException", .type "object"] "ValueError.__new__" = true
  k : PySem.W.keepIn K (.ref c) = true
  b : PySem.W.subIn K (.ref c) (.type "BaseException") = some true
  t : PySem.W.typeIn K (.ref c) = some (.type "type")
def postOf (r : Out) : Post := { rt := fun d => r = .ok d, rto := fun o => r = .own o, nx := fun _ => r = .ok .non }
section
variable {P : Program} {w : World} {K : PySem.W.Frag} {mg : Str → Option Value} {base : Heap} {C : Addr} {k : Nat} {name qual : Str} {st : Stmt} {N ps : List Str} {α : Type} {enc : α → List D} {pre : α → Prop} {res : α → Out}
theorem fn_d {f : Addr} {fd : FuncData} (F : Fun K name qual st f fd) (hm : mg name = some (.ref f)) (hb : Binds K fd ps []) (S : FnScope N ps (defScope st)) (hN : ps.length ≤ N.length)
    (body : ∀ (cdv : Value) (A : Around) (outer : List PySem.Env) (s : Shared) (H : Hp) (E : XK) (B : Bs) (a : α), pre a → XOk (cxOf (L2.CX P w) P w K mg base N qual (defScope st) f cdv A outer s H E) C B k → (∀ δ c, res a = .err c → B.ex δ c) →
      DB (cxOf (L2.CX P w) P w K mg base N qual (defScope st) f cdv A outer s H E) C B (postOf (res a)) ((enc a).map Sl.sh ++ List.replicate (N.length - ps.length) Sl.un) (defBody st)) :
    FnD P w K mg base C (k + 1) name ps enc pre res := by
  refine ⟨f, fd, F.okX S (fun vs H Q E ⟨a, G, _, _, h, _⟩ => h) (fun cdv A outer s H vs Q E hr h => ?_), hm, F.kp, hb, by obtain ⟨oc, od, kV, doc, pm, an, cdv, ct, osl, e, lk, hcd⟩ := F.ex; exact ⟨oc, od, osl, lk⟩⟩
  obtain ⟨a, G, hG, hR, hl, hp, ho⟩ := h
  have hx : XOk (cxOf (L2.CX P w) P w K mg base N qual (defScope st) f cdv A outer s H E) C ⟨G, H, fun _ => E, fun _ c => res a = .err c⟩ k :=
    ⟨rfl, S.nd, hr, takes_of rfl rfl rfl rfl, passes_of rfl, fun R δ σ G' H' H2 c hc N' e' => by
      have hc : res a = .err c := hc
      rw [hc] at ho
      exact ho H2 (N'.grow.hh.trans e')⟩
  refine ⟨_, pss_wb, (body cdv A outer s H E _ a hp hx (fun _ _ h => h)).run G _ ⟨fun d v G' H' q g r => ?_, fun o p G' H' q g n n' r => ?_, fun δ σ G' H' q N' => ?_, fun _ _ _ _ z => z.elim, fun _ _ _ _ z => z.elim⟩ (start N vs) G H ?_⟩
  · have q : res a = .ok d := q
    rw [q] at ho
    exact ho v G' H' g r
  · have q : res a = .own o := q
    rw [q] at ho
    exact ho p G' H' g n n' r
  · have q : res a = .ok .non := q
    rw [q] at ho
    exact ho .non G' H' N'.all .non
  · have hl' := hR.length
    refine ⟨⟨Ex.refl G, fun _ h _ => h⟩, ?_, Grow.refl hG, fun i sl e => ?_, fun i j o o' p _ e => ?_⟩
    · simp only [L2.start, List.length_append, List.length_map, List.length_replicate]
      omega
    · cases sl with
      | un => trivial
      | sh d =>
        rw [List.getElem?_append] at e
        split at e
        · rename_i hi
          rw [List.length_map] at hi
          rw [List.getElem?_map] at e
          cases q : (enc a)[i]? with
          | none =>
            rw [q] at e
            cases e
          | some d' =>
            rw [q] at e
            cases e
            obtain ⟨v, h1, h2⟩ := hR.get q
            refine ⟨v, ?_, h2⟩
            unfold L2.start
            rw [List.getElem?_append_left (by rw [List.length_map]; omega), List.getElem?_map, h1]
            rfl
        · rw [List.getElem?_replicate] at e
          split at e <;> cases e
      | ow o =>
        rw [List.getElem?_append] at e
        split at e
        · rw [List.getElem?_map] at e
          cases q : (enc a)[i]? with
          | none =>
            rw [q] at e
            cases e
          | some d' =>
            rw [q] at e
            cases e
        · rw [List.getElem?_replicate] at e
          split at e <;> cases e
      | raw v =>
        rw [List.getElem?_append] at e
        split at e
        · rw [List.getElem?_map] at e
          cases q : (enc a)[i]? with
          | none =>
            rw [q] at e
            cases e
          | some d' =>
            rw [q] at e
            cases e
        · rw [List.getElem?_replicate] at e
          split at e <;> cases e
    · rw [List.getElem?_append] at e
      split at e
      · rw [List.getElem?_map] at e
        cases q : (enc a)[i]? with
        | none =>
          rw [q] at e
          cases e
        | some d' =>
          rw [q] at e
          cases e
      · rw [List.getElem?_replicate] at e
        split at e <;> cases e
end
section
variable {X : Cx} {C : Addr} {B : Bs} {P : Post} {δ : DEnv} {k : Nat}
/-- raise Name("..") -/
theorem ds_raise {x m : Str} {j : Nat} {c : Addr} {p p2 p3 pos : Pos} (hx : XOk X C B k) (hc : ExC X.prog X.w X.K X.mg x c) (he : B.ex δ c) (hg : Gl X x := by rfl) (hdb : (x == ("__debug__" : Str)) = false := by decide) : DS X C B P δ (.Raise (some (.Call (.Name x p) [.Constant (.str m) j p2] [] p3)) none pos) := ⟨fun R D' pk σ G H N =>
  ws (ps_raise hx.calm hx.tk (pmk_own PySem.F.excBase_ValueError hc.x hc.g hc.k (raises_own hc.b hc.t) hg hdb)) (hx.hex R δ σ G H H c he N (Ex.refl H))⟩
end
end Rv

/-! ### Part D: built-in calls -/
namespace Rv
open PySem L2
/-- the built-in names that the text leaves alone -/
structure Bi (mg : Str → Option Value) : Prop where
  len : mg "len" = none
  abs : mg "abs" = none
  max : mg "max" = none
  min : mg "min" = none
  range : mg "range" = none
  isinstance : mg "isinstance" = none
  int : mg "int" = none
  bool : mg "bool" = none
  str : mg "str" = none
  list : mg "list" = none
  tuple : mg "tuple" = none
  dict : mg "dict" = none
  sorted : mg "sorted" = none
  set : mg "set" = none
  reversed : mg "reversed" = none
section
variable {X : Cx} {C : Addr} {B : Bs} {δ : DEnv} {e e2 e3 : Expr} {d : D} {p pos : Pos} {k : Nat}
/-- a built-in of one argument, of two -/
theorem b1 {x : Str} {id : String} {r : List V → Hp → VK → Prop} {σ : St} {H : Hp} {Q : VK} (hc : CallR X (.builtin id) r) (hg : Gl X x) (hm : X.mg x = none) (hv : bootBuiltins x = some (.builtin id)) (he : starEach [e] X.env = (false, eval e X.env) :: starEach [] X.env) (hn : x ≠ "__name__") (hdb : (x == ("__debug__" : Str)) = false)
    (h : WE X e σ H fun v H1 => r [v] H1 Q) : WE X (.Call (.Name x p) [e] [] pos) σ H Q := we (pe_callB hc hg hm hv (pa_cons pe_we pa_nil he) hn hdb he) h
theorem b2 {x : Str} {id : String} {r : List V → Hp → VK → Prop} {σ : St} {H : Hp} {Q : VK} (hc : CallR X (.builtin id) r) (hg : Gl X x) (hm : X.mg x = none) (hv : bootBuiltins x = some (.builtin id)) (he : starEach [e, e2] X.env = (false, eval e X.env) :: starEach [e2] X.env) (he2 : starEach [e2] X.env = (false, eval e2 X.env) :: starEach [] X.env) (hn : x ≠ "__name__") (hdb : (x == ("__debug__" : Str)) = false)
    (h : WE X e σ H fun v H1 => WE X e2 σ H1 fun v2 H2 => r [v, v2] H2 Q) : WE X (.Call (.Name x p) [e, e2] [] pos) σ H Q := we (pe_callB hc hg hm hv (pa_cons pe_we (pa_cons pe_we pa_nil he2) he) hn hdb he (by rw [he2]; rfl)) h
theorem t1 {x : Str} {id : String} {r : List V → Hp → VK → Prop} {σ : St} {H : Hp} {Q : VK} (hc : CallR X (.type id) r) (hg : Gl X x) (hm : X.mg x = none) (hv : bootBuiltins x = some (.type id)) (he : starEach [e] X.env = (false, eval e X.env) :: starEach [] X.env) (hn : x ≠ "__name__") (hdb : (x == ("__debug__" : Str)) = false)
    (h : WE X e σ H fun v H1 => r [v] H1 Q) : WE X (.Call (.Name x p) [e] [] pos) σ H Q := we (pe_callTy hc hg hm hv (pa_cons pe_we pa_nil he) hn hdb he) h
theorem de_lenL {l : List D} (T : Bi X.mg) (h : DL X C B δ e l) (hg : Gl X "len" := by rfl) (he : starEach [e] X.env = (false, eval e X.env) :: starEach [] X.env := by rfl) : DE X C B δ (.Call (.Name "len" p) [e] [] pos) (.int (l.length : Int)) := ⟨fun R σ G H Q N q =>
  b1 call_len_seq hg T.len PySem.boot_len he (by decide) (by decide) (h.run R σ G H _ N fun a xs G' H' g r1 r2 => ⟨a, xs, rfl, .inl r1, by rw [r2.length]; exact q _ G' H' g (.int _)⟩)⟩
theorem de_lenT {l : List D} (T : Bi X.mg) (h : DE X C B δ e (.tup l)) (hg : Gl X "len" := by rfl) (he : starEach [e] X.env = (false, eval e X.env) :: starEach [] X.env := by rfl) : DE X C B δ (.Call (.Name "len" p) [e] [] pos) (.int (l.length : Int)) := ⟨fun R σ G H Q N q =>
  b1 call_len_seq hg T.len PySem.boot_len he (by decide) (by decide) (h.run R σ G H _ N fun v G' H' g r => by
    obtain ⟨a, xs, rfl, r1, r2⟩ := r.t
    exact ⟨a, xs, rfl, .inr (g.gh.st r1), by rw [r2.length]; exact q _ G' H' g (.int _)⟩)⟩
theorem de_lenS {s : Str} (T : Bi X.mg) (h : DE X C B δ e (.str s)) (hz : s.length ≤ sizeLine) (hg : Gl X "len" := by rfl) (he : starEach [e] X.env = (false, eval e X.env) :: starEach [] X.env := by rfl) : DE X C B δ (.Call (.Name "len" p) [e] [] pos) (.int (s.length : Int)) := ⟨fun R σ G H Q N q =>
  b1 call_len hg T.len PySem.boot_len he (by decide) (by decide) (h.run R σ G H _ N fun v G' H' g r => by
    obtain rfl := r.s
    exact ⟨.str s, s.length, rfl, ⟨hz, rfl⟩, q _ G' H' g (.int _)⟩)⟩
def absI (i : Int) : Int := if i < 0 then -i else i
def maxI (i j : Int) : Int := if j > i then j else i
def minI (i j : Int) : Int := if j < i then j else i
theorem de_abs {i : Int} (T : Bi X.mg) (h : DE X C B δ e (.int i)) (hg : Gl X "abs" := by rfl) (he : starEach [e] X.env = (false, eval e X.env) :: starEach [] X.env := by rfl) : DE X C B δ (.Call (.Name "abs" p) [e] [] pos) (.int (absI i)) := ⟨fun R σ G H Q N q =>
  b1 call_abs hg T.abs (by decide +kernel) he (by decide) (by decide) (h.run R σ G H _ N fun v G' H' g r => by
    obtain rfl := r.i
    exact ⟨i, rfl, q _ G' H' g (.int _)⟩)⟩
theorem de_max {i j : Int} (T : Bi X.mg) (hx : XOk X C B k) (h : DE X C B δ e (.int i)) (h2 : DE X C B δ e2 (.int j)) (hg : Gl X "max" := by rfl) (he : starEach [e, e2] X.env = (false, eval e X.env) :: starEach [e2] X.env := by rfl) (he2 : starEach [e2] X.env = (false, eval e2 X.env) :: starEach [] X.env := by rfl) : DE X C B δ (.Call (.Name "max" p) [e, e2] [] pos) (.int (maxI i j)) := ⟨fun R σ G H Q N q =>
  b2 (call_max2 hx.calm) hg T.max (by decide +kernel) he he2 (by decide) (by decide) (h.run R σ G H _ N fun v G1 H1 g1 r1 => h2.run R σ G1 H1 _ (N.go g1) fun v2 G2 H2 g2 r2 => by
    obtain rfl := r1.i
    obtain rfl := r2.i
    exact ⟨i, j, rfl, q _ G2 H2 (g1.trans g2) (.int _)⟩)⟩
theorem de_min {i j : Int} (T : Bi X.mg) (hx : XOk X C B k) (h : DE X C B δ e (.int i)) (h2 : DE X C B δ e2 (.int j)) (hg : Gl X "min" := by rfl) (he : starEach [e, e2] X.env = (false, eval e X.env) :: starEach [e2] X.env := by rfl) (he2 : starEach [e2] X.env = (false, eval e2 X.env) :: starEach [] X.env := by rfl) : DE X C B δ (.Call (.Name "min" p) [e, e2] [] pos) (.int (minI i j)) := ⟨fun R σ G H Q N q =>
  b2 (call_min2 hx.calm) hg T.min (by decide +kernel) he he2 (by decide) (by decide) (h.run R σ G H _ N fun v G1 H1 g1 r1 => h2.run R σ G1 H1 _ (N.go g1) fun v2 G2 H2 g2 r2 => by
    obtain rfl := r1.i
    obtain rfl := r2.i
    exact ⟨i, j, rfl, q _ G2 H2 (g1.trans g2) (.int _)⟩)⟩
theorem de_intB {b : Bool} (T : Bi X.mg) (h : DE X C B δ e (.bl b)) (hg : Gl X "int" := by rfl) (he : starEach [e] X.env = (false, eval e X.env) :: starEach [] X.env := by rfl) : DE X C B δ (.Call (.Name "int" p) [e] [] pos) (.int (if b then 1 else 0)) := ⟨fun R σ G H Q N q =>
  t1 call_int1 hg T.int (by decide +kernel) he (by decide) (by decide) (h.run R σ G H _ N fun v G' H' g r => by
    obtain rfl := r.b
    exact .inr ⟨b, rfl, q _ G' H' g (.int _)⟩)⟩
/-! isinstance -/
/-- the class Day, as isinstance looks at it -/
structure DayCls (K : PySem.W.Frag) (C : Addr) : Prop where
  cl : Cls K C
  ha : PySem.W.findIn K (.ref C) "__class__" = some (some (.builtin "object.__class__"))
  hn : PySem.W.specialIn K (.builtin "object.__class__") "__get__" = some (some (.builtin "getset_descriptor.__get__"))
  ht : PySem.W.takesIn K (.builtin "object.__class__") = some true
  hm : PySem.W.mroIn K C (.type "object") = some true
def D.ty (C : Addr) : D → Value
  | .non => .type "NoneType"
  | .bl _ => .type "bool"
  | .int _ => .type "int"
  | .str _ => .type "str"
  | .tup _ => .type "tuple"
  | .lst _ => .type "list"
  | .day .. => .ref C
  | .dic _ => .type "dict"
def D.isDay : D → Bool
  | .day .. => true
  | _ => false
/-- a tracked dict with tuple keys, for isinstance -/
theorem dN_cls {P : Program} {w : World} {H : Hp} {h : Heap} {a : Addr} {xs : List (NestedKey × Addr × Addr)} (hk : HOk P w H h) (r : Rd H a (dN P w a xs)) : ∃ o, h.get? a = some o ∧ o.cls = .type "dict" := by
  obtain ⟨⟨o, es, ep, h1, h2, _⟩, _⟩ := r.ok hk
  exact ⟨o, h1, h2.1⟩
def rIsd (X : Cx) (C : Addr) (d : D) : List V → Hp → VK → Prop := fun xs H Q => ∃ (x c : V) (u : Value) (b : Bool), xs = [x, c] ∧ ClsV c u ∧ Rep (md X C) H x d ∧ (d.isDay = true → DayCls X.K C) ∧ PySem.W.kitOne X.K (d.ty C) u = some b ∧ Q (.bl b) H
theorem call_isd {d : D} : CallR X (.builtin "isinstance") (rIsd X C d) := by
  intro pins s σ H xs us Q I r h
  obtain ⟨x, c, u, b, rfl, k, rx, dc, e, q⟩ := h
  obtain ⟨u1, u2, rfl, r1, r2⟩ := vals2 r
  have e2 := k.eq r2
  subst e2
  have fin : ∀ {t : Value}, TyX X.K H x t → PySem.W.kitOne X.K t u2 = some b → wpAny (model X.prog X.w) X.A (PySem.call (.builtin "isinstance") [u1, u2]) (EP X pins σ Q) X.xe s := fun {t} ty e => by
    obtain ⟨P, Z, p, hx⟩ := kit_of I r1 ty
    exact PySem.W.kia_one Z I.kIn p e hx fun tk => ⟨.bl b, H, I.tok tk, rfl, q⟩
  cases rx with
  | non => exact fin (.base .non) e
  | bl y => exact fin (.base (.bl y)) e
  | int i => exact fin (.base (.int i)) e
  | str y => exact fin (.base (.str y)) e
  | tup hs hr =>
    rcases hs with (hs | ⟨o, hs⟩) | ⟨o, its, n, h1, h2, _⟩
    · exact fin (.base (.tup hs)) e
    · exact fin (.fTuple hs) e
    · exact fin (.kTuple h1 h2) e
  | lst hs hr =>
    rcases hs with (hs | ⟨o, hs⟩) | ⟨o, its, n, h1, h2, _⟩
    · exact fin (.base (.lst hs)) e
    · exact fin (.base (.frz hs)) e
    · exact fin (.kList h1 h2) e
  | day hs hr hl =>
    have z := dc rfl
    exact fin (.base (.ins hs z.cl z.ha z.hn z.ht z.hm)) e
  | dic hs hr =>
    cases (show u1 = Value.ref _ from r1)
    obtain ⟨o, h1, h2⟩ := dN_cls I.hok hs
    exact PySem.W.kia_one PySem.W.kitx_dict I.kIn ⟨o, h1, h2⟩ e (fun z => nomatch z) fun tk => ⟨.bl b, H, I.tok tk, rfl, q⟩
/-- isinstance(e, T), T a built-in type -/
theorem de_isi {b : Bool} {x : Str} {n : String} {p2 : Pos} (T : Bi X.mg) (h : DW X C B δ e d) (hx : X.mg x = none) (hv : bootBuiltins x = some (.type n)) (hb : PySem.W.kitOne X.K (d.ty C) (.type n) = some b) (hd : d.isDay = true → DayCls X.K C) (hgx : Gl X x := by rfl) (hg : Gl X "isinstance" := by rfl)
    (hn : x ≠ "__name__" := by decide) (hdb : (x == ("__debug__" : Str)) = false := by decide)
    (he : starEach [e, .Name x p2] X.env = (false, eval e X.env) :: starEach [.Name x p2] X.env := by rfl) (he2 : starEach [.Name x p2] X.env = (false, eval (.Name x p2) X.env) :: starEach [] X.env := by rfl) : DE X C B δ (.Call (.Name "isinstance" p) [e, .Name x p2] [] pos) (.bl b) := ⟨fun R σ G H Q N q =>
  b2 (call_isd (C := C) (d := d)) hg T.isinstance (by decide +kernel) he he2 (by decide) (by decide) (h.run R σ G H _ N fun v G' H' g r => we (pe_bltn (v := .ty n) hgx hx hv rfl hn hdb) ⟨v, .ty n, .type n, b, rfl, .ty n, r, hd, hb, q _ G' H' g (.bl _)⟩)⟩
/-- .. T the class at c -/
theorem de_isiC {b : Bool} {x : Str} {c : Addr} {p2 : Pos} (T : Bi X.mg) (h : DW X C B δ e d) (hx : X.mg x = some (.ref c)) (hb : PySem.W.kitOne X.K (d.ty C) (.ref c) = some b) (hd : d.isDay = true → DayCls X.K C) (hgx : Gl X x := by rfl) (hg : Gl X "isinstance" := by rfl)
    (hdb : (x == ("__debug__" : Str)) = false := by decide)
    (he : starEach [e, .Name x p2] X.env = (false, eval e X.env) :: starEach [.Name x p2] X.env := by rfl) (he2 : starEach [.Name x p2] X.env = (false, eval (.Name x p2) X.env) :: starEach [] X.env := by rfl) : DE X C B δ (.Call (.Name "isinstance" p) [e, .Name x p2] [] pos) (.bl b) := ⟨fun R σ G H Q N q =>
  b2 (call_isd (C := C) (d := d)) hg T.isinstance (by decide +kernel) he he2 (by decide) (by decide) (h.run R σ G H _ N fun v G' H' g r => we (pe_glob (v := .ref c) hgx hx rfl hdb) ⟨v, .ref c, .ref c, b, rfl, .own c, r, hd, hb, q _ G' H' g (.bl _)⟩)⟩
/-- what isinstance tells of built-in kinds -/
def D.kind : D → String
  | .non => "NoneType"
  | .bl _ => "bool"
  | .int _ => "int"
  | .str _ => "str"
  | .tup _ => "tuple"
  | .lst _ => "list"
  | .day .. => ""
  | .dic _ => "dict"
def isKind (a n : String) : Bool := a == n || (a == "bool" && n == "int")
def D.is (n : String) (d : D) : Bool := isKind d.kind n
theorem kit_all : ∀ a ∈ ["NoneType", "bool", "int", "str", "tuple", "list", "dict"], ∀ n ∈ ["int", "bool", "str", "tuple", "list", "dict"], kitB a n = some (isKind a n) := by decide +kernel
theorem kit_is {K : PySem.W.Frag} {n : String} (hn : n ∈ ["int", "bool", "str", "tuple", "list", "dict"]) (h : d.isDay = false) : PySem.W.kitOne K (d.ty C) (.type n) = some (d.is n) := by
  cases d with
  | day r i s l => cases h
  | non => exact kit_ty (kit_all "NoneType" (by decide) n hn)
  | bl b => exact kit_ty (kit_all "bool" (by decide) n hn)
  | int b => exact kit_ty (kit_all "int" (by decide) n hn)
  | str b => exact kit_ty (kit_all "str" (by decide) n hn)
  | tup b => exact kit_ty (kit_all "tuple" (by decide) n hn)
  | lst b => exact kit_ty (kit_all "list" (by decide) n hn)
  | dic b => exact kit_ty (kit_all "dict" (by decide) n hn)
theorem de_is {x : Str} {n : String} {p2 : Pos} (T : Bi X.mg) (h : DW X C B δ e d) (hx : X.mg x = none) (hv : bootBuiltins x = some (.type n)) (hk : n ∈ ["int", "bool", "str", "tuple", "list", "dict"]) (hd : d.isDay = false) (hgx : Gl X x := by rfl) (hg : Gl X "isinstance" := by rfl)
    (hn : x ≠ "__name__" := by decide) (hdb : (x == ("__debug__" : Str)) = false := by decide)
    (he : starEach [e, .Name x p2] X.env = (false, eval e X.env) :: starEach [.Name x p2] X.env := by rfl) (he2 : starEach [.Name x p2] X.env = (false, eval (.Name x p2) X.env) :: starEach [] X.env := by rfl) : DE X C B δ (.Call (.Name "isinstance" p) [e, .Name x p2] [] pos) (.bl (d.is n)) :=
  de_isi T h hx hv (kit_is hk hd) (fun z => by rw [hd] at z; cases z) hgx hg hn hdb he he2
end
end Rv

/-! ### Part E: try -/
namespace Rv
open PySem L2
/-- an own class, as except and isinstance look at it -/
structure OwnC (K : PySem.W.Frag) (mg : Str → Option Value) (x : Str) (c : Addr) : Prop where
  g : mg x = some (.ref c)
  i : PySem.W.isClsIn K c = true
  t : PySem.W.typeIn K (.ref c) = some (.type "type")
  b : PySem.W.subIn K (.ref c) (.type "BaseException") = some true
theorem cls_c {K : PySem.W.Frag} {mg : Str → Option Value} {x : Str} {c : Addr} {t : Value} {b : Bool} (h : OwnC K mg x c) (s : PySem.W.subIn K t (.ref c) = some b) : PySem.W.kitCls K t (.ref c) = some b := by
  show (if ((PySem.W.clsIn K c).isSome && PySem.W.typeIn K (.ref c) == some (.type "type")) = true then PySem.W.subIn K t (.ref c) else none) = some b
  rw [if_pos (by rw [show (PySem.W.clsIn K c).isSome = true from h.i, h.t]; rfl)]
  exact s
theorem kit_c {K : PySem.W.Frag} {mg : Str → Option Value} {x : Str} {c : Addr} {t : Value} {b : Bool} (h : OwnC K mg x c) (s : PySem.W.subIn K t (.ref c) = some b) (e : b = true ∨ (t == .ref c) = false) : PySem.W.kitOne K t (.ref c) = some b := by
  unfold PySem.W.kitOne
  split
  · rcases e with e | e
    · rw [e]
    · rename_i q
      rw [e] at q
      cases q
  · exact cls_c h s
theorem exm_c {K : PySem.W.Frag} {mg : Str → Option Value} {x : Str} {c : Addr} {t : Value} {b : Bool} (h : OwnC K mg x c) (s : PySem.W.subIn K t (.ref c) = some b) : PySem.W.exmOne K t (.ref c) = some b := by
  show (if (PySem.W.subIn K (.ref c) (.type "BaseException") == some true) = true then PySem.W.kitCls K t (.ref c) else none) = some b
  rw [if_pos (by rw [h.b]; rfl)]
  exact cls_c h s
theorem kit_t {K : PySem.W.Frag} {c : Addr} {n : String} {b : Bool} (s : PySem.W.subIn K (.ref c) (.type n) = some b) (e : PySem.W.kitMeta n = true) : PySem.W.kitOne K (.ref c) (.type n) = some b := by
  show (if (Value.ref c == Value.type n) = true then some true else (if PySem.W.kitMeta n = true then PySem.W.subIn K (.ref c) (.type n) else none)) = some b
  rw [if_neg (by intro z; cases z), if_pos e]
  exact s
/-- the handlers by their classes and suites -/
inductive HSyn (X : Cx) : List ExceptHandler → List (Addr × List Stmt) → Prop
  | nil : HSyn X [] []
  | cons {x : Str} {c : Addr} {b₀ : Stmt} {suite : List Stmt} {np pos' : Pos} {hds : List ExceptHandler} {l : List (Addr × List Stmt)} (hm : X.mg x = some (.ref c)) (r : HSyn X hds l) (hg : Gl X x := by rfl) (hdb : (x == ("__debug__" : Str)) = false := by decide) :
      HSyn X (.ExceptHandler (some (.Name x np)) none (b₀ :: suite) pos' :: hds) ((c, b₀ :: suite) :: l)
/-- the handlers do with an exception of the class c0 what is wanted -/
def HdOk (X : Cx) (C : Addr) (B : Bs) (P : Post) (δ : DEnv) (c0 : Addr) : List (Addr × List Stmt) → Prop
  | [] => B.ex δ c0
  | (c, sts) :: r => ∃ b, PySem.W.exmOne X.K (.ref c0) (.ref c) = some b ∧ (b = true → ∀ (a : Addr) (oe : Obj) (pn : List (Addr × Obj)), Zc (.ref c0) none oe → (∃ vs, oe.data = .fields vs) → DB (X.suite a ((a, oe) :: pn)) C B P δ sts) ∧ (b = false → HdOk X C B P δ c0 r)
def wSuite (X : Cx) (sts : List Stmt) : Addr → Value → Option Addr → TS := fun a cls d D' σ H => ∀ (oe : Obj) (pn : List (Addr × Obj)), Zc cls d oe → (∃ vs, oe.data = .fields vs) → WB (X.suite a ((a, oe) :: pn)) sts D' σ H
theorem HSyn.ok {X : Cx} : ∀ {hds : List ExceptHandler} {l : List (Addr × List Stmt)}, HSyn X hds l → HdsOk X hds (l.map fun p => (Value.ref p.1, wSuite X p.2))
  | _, _, .nil => .nil
  | _, _, .cons hm r hg hdb => .cons ⟨hg, hdb, .inl hm⟩ (fun a oe cls d pn hz hf => ⟨fun pins s σ H D' I h => h oe pn hz hf pins s I⟩) r.ok
section
variable {X : Cx} {C : Addr} {B : Bs} {P : Post} {δ : DEnv} {body : List Stmt} {pos : Pos} {k : Nat}
theorem Fit.rebase {M : Md} {R R' : Hp} {σ σ' : St} {G H G' H' : Hp} {δ' : DEnv} {E : St → XK} {ex : DEnv → Addr → Prop} (N0 : Fit M B R σ G H δ) (N : Fit M ⟨R, B.H0, E, ex⟩ R' σ' G' H' δ') : Fit M B R σ' G' H' δ' :=
  ⟨N0.bel, N.len, N.all, N.slot, N.dist⟩
theorem Fit.debase {M : Md} {R : Hp} {σ : St} {G H : Hp} {E : St → XK} {ex : DEnv → Addr → Prop} (N : Fit M B R σ G H δ) : Fit M ⟨R, B.H0, E, ex⟩ R σ G H δ :=
  ⟨⟨Ex.refl R, fun _ h _ => h⟩, N.len, N.grow, N.slot, N.dist⟩
theorem Grow.rebase {R : Hp} {G H : Hp} (b : Bel B R) (g : Grow R B.H0 G H) : Grow B.G0 B.H0 G H := ⟨g.hh, b.gg.trans g.gg, g.gh, fun p h1 h2 => g.nw p (b.nw p h1 h2) h2⟩
theorem PostOk.debase {M : Md} {R : Hp} {σ : St} {G H : Hp} {D' : Ends} {E : St → XK} {ex : DEnv → Addr → Prop} (N0 : Fit M B R σ G H δ) (pk : PostOk M B R P D') : PostOk M ⟨R, B.H0, E, ex⟩ R P D' :=
  ⟨fun d v G H q g r => pk.rt d v G H q (Grow.rebase N0.bel g) r, fun o p G H q g => pk.rto o p G H q (Grow.rebase N0.bel g), fun δ' σ' G' H' q N => pk.nx δ' σ' G' H' q (N0.rebase N), fun δ' σ' G' H' q N => pk.bk δ' σ' G' H' q (N0.rebase N), fun δ' σ' G' H' q N => pk.ct δ' σ' G' H' q (N0.rebase N)⟩
theorem hd_run {M0 : Hp} {R : Hp} {D' : Ends} {σ : St} {G H : Hp} {c0 : Addr} (hx : XOk X C B k) (pk : PostOk (md X C) B R P D') (N : Fit (md X C) B R σ G H δ) : ∀ (l : List (Addr × List Stmt)), HdOk X C B P δ c0 l →
    wMany X.K (fun cls d σ H => B.E σ cls d H) D' (l.map fun p => (Value.ref p.1, wSuite X p.2)) (.ref c0) none σ H
  | [], h => hx.hex R δ σ G H H c0 h N (Ex.refl H)
  | (c, sts) :: r, ⟨b, h1, h2, h3⟩ => ⟨b, h1, fun q a ha oe pn hz hf => (h2 q a oe pn hz hf).run R D' ⟨pk.rt, pk.rto, pk.nx, pk.bk, pk.ct⟩ σ G H N, fun q => hd_run (M0 := M0) hx pk N r (h3 q)⟩
/-- try: body except X: .. except Y: ..; phi: what the body may raise -/
theorem ds_try (hx : XOk X C B k) {h₀ : ExceptHandler} {hds : List ExceptHandler} {l : List (Addr × List Stmt)} (hh : HSyn X (h₀ :: hds) l) (φ : Addr → Prop) (hφ : ∀ c0, φ c0 → HdOk X C B P δ c0 l)
    (hb : ∀ (pn : List (Addr × Obj)) (xe : Value → Shared → Prop) (B' : Bs), XOk (X.tr pn xe) C B' k → (∀ c0, φ c0 → B'.ex δ c0) → DB (X.tr pn xe) C B' P δ body)
    (hs : X.stack = X.env :: X.outer := by rfl) (hf : X.env.frame = some X.env.locals := by rfl) : DS X C B P δ (.Try body (h₀ :: hds) [] [] pos) := ⟨fun R D' pk σ G H N => by
  refine ws (ps_try_many hs hf hx.tk (tb := fun W D' σ H => ∀ (pn : List (Addr × Obj)) (xe : Value → Shared → Prop), Takes (X.tr pn xe) W → PassesOwn (model X.prog X.w) X.A X.env xe → WB (X.tr pn xe) body D' σ H) (fun W pn xe tk po => ⟨fun pins s σ H D I h => h pn xe tk po pins s I⟩) hh.ok) ?_
  intro pn xe tk po
  have hx' : XOk (X.tr pn xe) C ⟨R, B.H0, fun σ cls d H => wMany X.K (fun cls d σ H => B.E σ cls d H) D' (l.map fun p => (Value.ref p.1, wSuite X p.2)) cls d σ H, fun δ' c0 => δ' = δ ∧ φ c0⟩ k :=
    ⟨hx.calm, hx.nd, hx.hr, tk, po, fun R' δ' σ' G' H' H2 c0 hc N' e' => by
      obtain ⟨rfl, hc⟩ := hc
      have N2 := N.rebase N'
      exact hd_run (M0 := R) hx pk (N2.go ⟨e', Ex.refl G', N2.gh.trans e', fun _ h _ => h⟩) l (hφ c0 hc)⟩
  exact (hb pn xe _ hx' fun c0 h => ⟨rfl, h⟩).run R D' (pk.debase N) σ G H N.debase⟩
/-- the class of a caught error, as isinstance looks at it: L2.ExcC -/
theorem de_isE {a c0 cv : Addr} {oe : Obj} {pn : List (Addr × Obj)} {b : Bool} {i : Nat} {x y : Str} {p pos2 p2 p3 : Pos} (T : Bi X.mg) (E : ExcC X.K c0) (hz : Zc (.ref c0) none oe) (hf : ∃ vs, oe.data = .fields vs) (hi : δ[i]? = some (.raw (.ref a))) (hm : X.mg y = some (.ref cv)) (hb : PySem.W.kitOne X.K (.ref c0) (.ref cv) = some b)
    (hN : X.N[i]? = some x := by rfl) (hv : Vis X.env.scope x := by first | exact Or.inl rfl | exact Or.inr (Or.inl rfl) | exact Or.inr (Or.inr rfl)) (hd : (x == ("__debug__" : Str)) = false := by decide) (hcd : (x == ("__classdict__" : Str)) = false := by decide) (hgy : Gl X y := by rfl) (hg : Gl X "isinstance" := by rfl) (hdb : (y == ("__debug__" : Str)) = false := by decide)
    (he : starEach [.Name x p3, .Name y p2] X.env = (false, eval (.Name x p3) X.env) :: starEach [.Name y p2] X.env := by rfl) (he2 : starEach [.Name y p2] X.env = (false, eval (.Name y p2) X.env) :: starEach [] X.env := by rfl) :
    DE (X.suite a ((a, oe) :: pn)) C B δ (.Call (.Name "isinstance" p) [.Name x p3, .Name y p2] [] pos2) (.bl b) := ⟨fun R σ G H Q N q =>
  b2 (X := X.suite a ((a, oe) :: pn)) (call_isE E hz hf) hg T.isinstance (by decide +kernel) he he2 (by decide) (by decide) (we (pe_var hN hv hd hcd) ⟨_, N.slot i _ hi, we (pe_glob (v := .ref cv) hgy hm rfl hdb) ⟨.ref cv, .ref cv, b, rfl, fun u h => h, hb, q _ G H N.self (.bl b)⟩⟩)⟩
/-- .. isinstance(error, ValueError) -/
theorem de_isEB {a c0 : Addr} {n : String} {oe : Obj} {pn : List (Addr × Obj)} {b : Bool} {i : Nat} {x y : Str} {p pos2 p2 p3 : Pos} (T : Bi X.mg) (E : ExcC X.K c0) (hz : Zc (.ref c0) none oe) (hf : ∃ vs, oe.data = .fields vs) (hi : δ[i]? = some (.raw (.ref a))) (hm : X.mg y = none) (hbt : bootBuiltins y = some (.type n)) (hb : PySem.W.kitOne X.K (.ref c0) (.type n) = some b)
    (hN : X.N[i]? = some x := by rfl) (hv : Vis X.env.scope x := by first | exact Or.inl rfl | exact Or.inr (Or.inl rfl) | exact Or.inr (Or.inr rfl)) (hd : (x == ("__debug__" : Str)) = false := by decide) (hcd : (x == ("__classdict__" : Str)) = false := by decide) (hgy : Gl X y := by rfl) (hg : Gl X "isinstance" := by rfl) (hn : y ≠ "__name__" := by decide) (hdb : (y == ("__debug__" : Str)) = false := by decide)
    (he : starEach [.Name x p3, .Name y p2] X.env = (false, eval (.Name x p3) X.env) :: starEach [.Name y p2] X.env := by rfl) (he2 : starEach [.Name y p2] X.env = (false, eval (.Name y p2) X.env) :: starEach [] X.env := by rfl) :
    DE (X.suite a ((a, oe) :: pn)) C B δ (.Call (.Name "isinstance" p) [.Name x p3, .Name y p2] [] pos2) (.bl b) := ⟨fun R σ G H Q N q =>
  b2 (X := X.suite a ((a, oe) :: pn)) (call_isE E hz hf) hg T.isinstance (by decide +kernel) he he2 (by decide) (by decide) (we (pe_var hN hv hd hcd) ⟨_, N.slot i _ hi, we (pe_bltn (v := .ty n) hgy hm hbt rfl hn hdb) ⟨.ty n, .type n, b, rfl, fun u h => h, hb, q _ G H N.self (.bl b)⟩⟩)⟩
/-- try: body except X as n: suite; phi: what the body may raise (all caught) -/
theorem ds_tryAs (hx : XOk X C B k) (i : Nat) {x n : Str} {c : Addr} {b₀ : Stmt} {suite : List Stmt} {np pos' : Pos} (hm : X.mg x = some (.ref c)) (φ : Addr → Prop) (hφ : ∀ c0, φ c0 → PySem.W.exmOne X.K (.ref c0) (.ref c) = some true ∧ ∀ (a : Addr) (oe : Obj) (pn : List (Addr × Obj)), Zc (.ref c0) none oe → (∃ vs, oe.data = .fields vs) →
      DB (X.suite a ((a, oe) :: pn)) C B { P with nx := fun δ' => P.nx (δ'.set i .un), bk := fun δ' => P.bk (δ'.set i .un), ct := fun δ' => P.ct (δ'.set i .un) } (δ.set i (.raw (.ref a))) (b₀ :: suite))
    (hb : ∀ (pn : List (Addr × Obj)) (xe : Value → Shared → Prop) (B' : Bs), XOk (X.tr pn xe) C B' k → (∀ c0, φ c0 → B'.ex δ c0) → DB (X.tr pn xe) C B' P δ body)
    (hg : Gl X x := by rfl) (hdb : (x == ("__debug__" : Str)) = false := by decide) (hi : X.N[i]? = some n := by rfl) (hl : X.env.kindOf n = some .local := by rfl)
    (hs : X.stack = X.env :: X.outer := by rfl) (hf : X.env.frame = some X.env.locals := by rfl) : DS X C B P δ (.Try body [.ExceptHandler (some (.Name x np)) (some n) (b₀ :: suite) pos'] [] [] pos) := ⟨fun R D' pk σ G H N => by
  refine ws (ps_try_as (i := i) hs hf hx.nd hi hl ⟨hg, hdb, .inl hm⟩ hx.tk (tb := fun W D' σ H => ∀ (pn : List (Addr × Obj)) (xe : Value → Shared → Prop), Takes (X.tr pn xe) W → PassesOwn (model X.prog X.w) X.A X.env xe → WB (X.tr pn xe) body D' σ H) (ts := wSuite X (b₀ :: suite)) (fun W pn xe tk po => ⟨fun pins s σ H D I h => h pn xe tk po pins s I⟩) (fun a oe cls d pn hz hf => ⟨fun pins s σ H D' I h => h oe pn hz hf pins s I⟩)) ?_
  intro pn xe tk po
  have hx' : XOk (X.tr pn xe) C ⟨R, B.H0, fun σ cls d H => wAs X.K (.ref c) i (wSuite X (b₀ :: suite)) (fun cls d σ H => B.E σ cls d H) D' cls d σ H, fun δ' c0 => δ' = δ ∧ φ c0⟩ k :=
    ⟨hx.calm, hx.nd, hx.hr, tk, po, fun R' δ' σ' G' H' H2 c0 hc N' e' => by
      obtain ⟨rfl, hc⟩ := hc
      obtain ⟨h1, h2⟩ := hφ c0 hc
      have N2 := N.rebase N'
      have N3 := N2.go ⟨e', Ex.refl G', N2.gh.trans e', fun _ h _ => h⟩
      refine ⟨true, h1, fun _ a ha oe pn hz hf => ?_, fun q => nomatch q⟩
      exact (h2 a oe pn hz hf).run R { nx := fun σ' H' => D'.nx (σ'.set i none) H', rt := D'.rt, bk := fun σ' H' => D'.bk (σ'.set i none) H', ct := fun σ' H' => D'.ct (σ'.set i none) H' } ⟨pk.rt, pk.rto, fun δ2 σ2 G2 H3 q N4 => pk.nx _ _ G2 H3 q N4.setUn, fun δ2 σ2 G2 H3 q N4 => pk.bk _ _ G2 H3 q N4.setUn, fun δ2 σ2 G2 H3 q N4 => pk.ct _ _ G2 H3 q N4.setUn⟩ _ G' H2 N3.setRaw⟩
  exact (hb pn xe _ hx' fun c0 h => ⟨rfl, h⟩).run R D' (pk.debase N) σ G H N.debase⟩
end
end Rv

/-! ### what the laws draw from a script -/
namespace Rv
open PySem L2
theorem at_ints {ns : List Int} {i : Int} (h0 : 0 ≤ i) (h : i < (ns.length : Int)) : atI (ns.map D.int) i = some (.int (ns.getD i.toNat 0)) := by
  have hl : i.toNat < ns.length := by omega
  refine atI_get h0 (by rw [List.length_map]; exact h) ?_
  rw [List.getElem?_map, List.getD_eq_getElem?_getD, List.getElem?_eq_getElem hl]
  rfl
theorem at_strs {ns : List Str} {i : Int} (h0 : 0 ≤ i) (h : i < (ns.length : Int)) : atI (ns.map D.str) i = some (.str (ns.getD i.toNat Str.empty)) := by
  have hl : i.toNat < ns.length := by omega
  refine atI_get h0 (by rw [List.length_map]; exact h) ?_
  rw [List.getElem?_map, List.getD_eq_getElem?_getD, List.getElem?_eq_getElem hl]
  rfl
/-- an item of a menu -/
def sel (l : List Int) (i : Int) : Int := l.getD i.toNat 0
def cellAt (ns : List Int) (k : Int) : Int := if ns.length = 0 then k else ns.getD (k % (ns.length : Int)).toNat 0 + 3 * (k / (ns.length : Int))
def wide (c b : Int) : Int := c * 48271000000007 % 1000000000000037 % b
theorem wide_nn {c b : Int} (h : 0 < b) : 0 ≤ wide c b := Int.emod_nonneg _ (by omega)
theorem wide_lt {c b : Int} (h : 0 < b) : wide c b < b := Int.emod_lt_of_pos _ h
theorem wide_small (c : Int) : -(2 ^ 64) < wide c 1000000000000000 ∧ wide c 1000000000000000 < 2 ^ 64 := by
  have h1 := wide_nn (c := c) (b := 1000000000000000) (by decide)
  have h2 := wide_lt (c := c) (b := 1000000000000000) (by decide)
  omega
structure Road where
  ring : Bool
  len : Int
def Road.d (r : Road) : D := .tup [.str (if r.ring then "ring" else "line"), .int r.len]
theorem is_ring (b : Bool) : decide ((if b = true then Str.ofString "ring" else Str.ofString "line") = Str.ofString "ring") = b := by cases b <;> rfl
theorem is_line (b : Bool) : decide ((if b = true then Str.ofString "ring" else Str.ofString "line") = Str.ofString "line") = !b := by cases b <;> rfl
def Road.many (r : Road) : Int := if r.ring then r.len else r.len + 1
def Road.ok (r : Road) : Prop := 1 ≤ r.len ∧ r.len ≤ 1000000000
def lenBy (c : Int) : Int :=
  if decide (c / 2 % 25 = 3) = true then sel [1, 2, 3, 1000000000] (c / 50 % 4) else if decide (c / 2 % 5 = 1) = true then 1 + wide (c / 10) 1000000000 else 1 + c / 2 % 30
def roadBy (c : Int) : Road := ⟨decide (c % 2 = 1), lenBy c⟩
theorem mod4 (c : Int) : c % 4 = 0 ∨ c % 4 = 1 ∨ c % 4 = 2 ∨ c % 4 = 3 := by omega
theorem mod3 (c : Int) : c % 3 = 0 ∨ c % 3 = 1 ∨ c % 3 = 2 := by omega
theorem mod2 (c : Int) : c % 2 = 0 ∨ c % 2 = 1 := by omega
theorem roadBy_ok (c : Int) : (roadBy c).ok := by
  unfold Road.ok roadBy lenBy
  dsimp only
  split
  · rcases mod4 (c / 50) with h | h | h | h <;> rw [h] <;> decide
  · split
    · have h1 := wide_nn (c := c / 10) (b := 1000000000) (by decide)
      have h2 := wide_lt (c := c / 10) (b := 1000000000) (by decide)
      omega
    · omega
theorem road_word {c : Int} : atI [D.str "line", D.str "ring"] (c % 2) = some (.str (if (roadBy c).ring then "ring" else "line")) := by
  unfold roadBy
  rcases mod2 c with h | h <;> rw [h] <;> rfl
theorem Road.many_pos {r : Road} (h : r.ok) : 1 ≤ r.many := by
  obtain ⟨h1, h2⟩ := h
  unfold Road.many
  split <;> omega
def placeBy (r : Road) (c : Int) : Int := if c % 7 = 0 then sel [0, r.many - 1, r.many / 2] (c / 7 % 3) else wide (c / 7) r.many
/-- a place of the road -/
def Road.has (r : Road) (p : Int) : Prop := 0 ≤ p ∧ p < r.many
theorem placeBy_ok {r : Road} (h : r.ok) (c : Int) : r.has (placeBy r c) := by
  have h1 := Road.many_pos h
  unfold placeBy Road.has
  split
  · rcases mod3 (c / 7) with e | e | e <;> rw [e]
    · show 0 ≤ (0 : Int) ∧ (0 : Int) < r.many
      omega
    · show 0 ≤ r.many - 1 ∧ r.many - 1 < r.many
      omega
    · show 0 ≤ r.many / 2 ∧ r.many / 2 < r.many
      omega
  · exact ⟨wide_nn (by omega), wide_lt (by omega)⟩
/-! #### roads -/
def wayM (r : Road) (a b : Int) : Int := if r.ring then (if 2 * ((b - a) % r.len) ≤ r.len then (b - a) % r.len else (b - a) % r.len - r.len) else b - a
def apartM (r : Road) (a b : Int) : Int := absI (wayM r a b)
theorem maxI_def (i j : Int) : maxI i j = max i j := by
  unfold maxI
  split <;> omega
theorem minI_def (i j : Int) : minI i j = min i j := by
  unfold minI
  split <;> omega
/-- the shortest way, told by the gap -/
theorem apartM_eq {r : Road} {a b : Int} (ha : r.has a) (hb : r.has b) : apartM r a b = if r.ring = true ∧ r.len - (max a b - min a b) < max a b - min a b then r.len - (max a b - min a b) else max a b - min a b := by
  obtain ⟨a1, a2⟩ := ha
  obtain ⟨b1, b2⟩ := hb
  unfold apartM wayM absI
  unfold Road.many at a2 b2
  cases r with
  | mk ring len =>
    cases ring with
    | false =>
      simp only [Bool.false_eq_true, if_false, false_and] at *
      split <;> omega
    | true =>
      simp only [if_true, true_and] at *
      by_cases hab : a ≤ b
      · rw [Int.emod_eq_of_lt (by omega) (by omega)]
        repeat' split
        all_goals omega
      · have e : (b - a) % len = b - a + len := by
          rw [← Int.add_emod_right]
          exact Int.emod_eq_of_lt (by omega) (by omega)
        rw [e]
        repeat' split
        all_goals omega
end Rv

namespace Rv
open PySem L2
/-! ### the text -/
def top (i : Nat) : Stmt := PySem.Challenge.pw_routevan_k02_ways_lead.main.body.getD i (.Pass ⟨0, 0, 0, 0⟩)
/-- where a def of the top stands -/
structure TopD (K : PySem.W.Frag) (mg : Str → Option Value) (x : Str) (st : Stmt) (ps : List Str) : Prop where
  ex : ∃ (f : Addr) (fd : FuncData), Fun K x x st f fd ∧ mg x = some (.ref f) ∧ Binds K fd ps []
structure Tx (K : PySem.W.Frag) (mg : Str → Option Value) (C : Addr) : Prop where
  bi : Bi mg
/-- what is known of the errors' classes -/
structure Er (P : Program) (w : World) (K : PySem.W.Frag) (mg : Str → Option Value) (off route : Addr) : Prop where
  xo : ExC P w K mg "OffRoad" off
  co : OwnC K mg "OffRoad" off
  cr : OwnC K mg "RouteError" route
  s1 : PySem.W.subIn K (.ref off) (.ref off) = some true
  s2 : PySem.W.subIn K (.ref off) (.ref route) = some true
  s3 : PySem.W.subIn K (.ref off) (.type "ValueError") = some true
  ve : mg "ValueError" = none
  ic : ExcC K off
def placeM (off : Addr) (r : Road) (p : Int) : Out := if 0 ≤ p ∧ p < r.many then .ok (.int p) else .err off
def movedM (off : Addr) (r : Road) (p b : Int) : Out := if r.ring then .ok (.int ((p + b) % r.len)) else placeM off r (p + b)
section
variable {P : Program} {w : World} {K : PySem.W.Frag} {mg : Str → Option Value} {base : Heap} {C : Addr} {off route : Addr}
abbrev s_sure_place : Stmt := top 4
theorem sc_sure_place : FnScope ["road", "place", "last"] ["road", "place"] (defScope s_sure_place) := ⟨rfl, rfl, rfl, by decide +kernel, rfl, by decide +kernel, by decide +kernel⟩
abbrev s_moved : Stmt := top 6
theorem sc_moved : FnScope ["road", "place", "by"] ["road", "place", "by"] (defScope s_moved) := ⟨rfl, rfl, rfl, by decide +kernel, rfl, by decide +kernel, by decide +kernel⟩
theorem f_sure_place (T_sure_place : TopD K mg "sure_place" s_sure_place ["road", "place"]) (Eo : ExC P w K mg "OffRoad" off) : FnD P w K mg base C 1 "sure_place" ["road", "place"] (fun a : Road × Int => [a.1.d, .int a.2]) (fun _ => True) (fun a => placeM off a.1 a.2) := by
  obtain ⟨f, fd, F, hm, hb⟩ := T_sure_place.ex
  refine fn_d F hm hb sc_sure_place (by decide) fun cdv A outer s H E B a hp hx hB => ?_
  obtain ⟨⟨ring, len⟩, p⟩ := a
  dsimp only at hp hB ⊢
  refine db_set hx 2 (de_ixT (de_var 0 rfl) de_int rfl) ?_
  refine db_ifI hx 2 (DC.t (dc_eqS (de_ixT (de_var 0 rfl) de_int rfl) de_str)) rfl (fun _ => (de_sub (de_ixT (de_var 0 rfl) de_int rfl) de_int)) ?_
  rw [is_ring]
  refine db_ifr (dt_not (dt_le_le de_int (de_var 1 rfl) (de_var 2 rfl))) (fun h => ?_) (fun h => ?_)
  · refine db_one (ds_raise hx Eo (hB _ _ ?_))
    unfold placeM Road.many
    rw [if_neg]
    intro q
    cases ring <;> simp at h q <;> omega
  · refine db_one (ds_ret (de_var 1 rfl) ?_)
    show placeM _ _ _ = _
    unfold placeM Road.many
    rw [if_pos]
    cases ring <;> simp at h ⊢ <;> omega
theorem f_moved (T_moved : TopD K mg "moved" s_moved ["road", "place", "by"]) (Eo : ExC P w K mg "OffRoad" off) (F_sure_place : FnD P w K mg base C 1 "sure_place" ["road", "place"] (fun a : Road × Int => [a.1.d, .int a.2]) (fun _ => True) (fun a => placeM off a.1 a.2)) :
    FnD P w K mg base C 2 "moved" ["road", "place", "by"] (fun a : Road × Int × Int => [a.1.d, .int a.2.1, .int a.2.2]) (fun a => 0 < a.1.len) (fun a => movedM off a.1 a.2.1 a.2.2) := by
  obtain ⟨f, fd, F, hm, hb⟩ := T_moved.ex
  refine fn_d F hm hb sc_moved (by decide) fun cdv A outer s H E B a hp hx hB => ?_
  obtain ⟨⟨ring, len⟩, p, b⟩ := a
  dsimp only at hp hB ⊢
  refine db_ifr (DC.t (dc_eqS (de_ixT (de_var 0 rfl) de_int rfl) de_str)) (fun h => ?_) (fun h => ?_)
  · refine db_one (ds_ret (de_mod (de_add (de_var 1 rfl) (de_var 2 rfl)) (de_ixT (de_var 0 rfl) de_int rfl) hp) ?_)
    rw [is_ring] at h
    subst h
    rfl
  · rw [is_ring] at h
    subst h
    cases q : placeM off ⟨false, len⟩ (p + b) with
    | ok d => exact db_one (ds_ret (de_call F_sure_place hx ((⟨false, len⟩, p + b)) (da_cons (de_var 0 rfl) (da_cons (de_add (de_var 1 rfl) (de_var 2 rfl)) da_nil)) trivial q) q)
    | own o =>
      unfold placeM at q
      split at q <;> cases q
    | err c => exact db_one (ds_retX (dx_call F_sure_place hx (⟨false, len⟩, p + b) (dw_cons (DE.w (de_var 0 rfl)) (dw_cons (DE.w (de_add (de_var 1 rfl) (de_var 2 rfl))) dw_nil)) trivial q (hB _ _ q)))
/-! #### roads.py -/
abbrev s_way : Stmt := top 5
theorem sc_way : FnScope ["road", "one", "other", "up"] ["road", "one", "other"] (defScope s_way) := ⟨rfl, rfl, rfl, by decide +kernel, rfl, by decide +kernel, by decide +kernel⟩
theorem f_way (T_way : TopD K mg "way" s_way ["road", "one", "other"]) : FnD P w K mg base C 1 "way" ["road", "one", "other"] (fun a : Road × Int × Int => [a.1.d, .int a.2.1, .int a.2.2]) (fun a => 0 < a.1.len) (fun a => .ok (.int (wayM a.1 a.2.1 a.2.2))) := by
  obtain ⟨f, fd, F, hm, hb⟩ := T_way.ex
  refine fn_d F hm hb sc_way (by decide) fun cdv A outer s H E B a hp hx hB => ?_
  obtain ⟨⟨ring, len⟩, x, y⟩ := a
  refine db_ifr (DC.t (dc_eqS (de_ixT (de_var 0 rfl) de_int rfl) de_str)) (fun h => ?_) (fun h => ?_)
  · refine db_one (ds_ret (de_sub (de_var 2 rfl) (de_var 1 rfl)) ?_)
    cases ring
    · rfl
    · cases h
  · obtain rfl : ring = true := by
      cases ring
      · cases h
      · rfl
    refine db_set hx 3 (de_mod (de_sub (de_var 2 rfl) (de_var 1 rfl)) (de_ixT (de_var 0 rfl) de_int rfl) hp) ?_
    refine db_ifr (DC.t (dc_le (de_mul de_int (de_var 3 rfl) (.inl ⟨by decide, by decide⟩)) (de_ixT (de_var 0 rfl) de_int rfl))) (fun h2 => ?_) (fun h2 => ?_)
    · refine db_one (ds_ret (de_var 3 rfl) ?_)
      show Out.ok _ = Out.ok _
      simp only [wayM, if_true]
      rw [if_pos (of_decide_eq_true h2)]
    · refine db_one (ds_ret (de_sub (de_var 3 rfl) (de_ixT (de_var 0 rfl) de_int rfl)) ?_)
      show Out.ok _ = Out.ok _
      simp only [wayM, if_true]
      rw [if_neg (of_decide_eq_false h2)]
/-! #### what the law draws -/
abbrev s_cell_at : Stmt := top 8
theorem sc_cell_at : FnScope ["_law_script", "_law_k"] ["_law_script", "_law_k"] (defScope s_cell_at) := ⟨rfl, rfl, rfl, by decide +kernel, rfl, by decide +kernel, by decide +kernel⟩
abbrev s_wide : Stmt := top 9
theorem sc_wide : FnScope ["_law_cell", "_law_bound"] ["_law_cell", "_law_bound"] (defScope s_wide) := ⟨rfl, rfl, rfl, by decide +kernel, rfl, by decide +kernel, by decide +kernel⟩
abbrev s_road_by : Stmt := top 11
theorem sc_road_by : FnScope ["_law_cell", "_law_length"] ["_law_cell"] (defScope s_road_by) := ⟨rfl, rfl, rfl, by decide +kernel, rfl, by decide +kernel, by decide +kernel⟩
abbrev s_places : Stmt := top 12
theorem sc_places : FnScope ["_law_road"] ["_law_road"] (defScope s_places) := ⟨rfl, rfl, rfl, by decide +kernel, rfl, by decide +kernel, by decide +kernel⟩
abbrev s_place_by : Stmt := top 13
theorem sc_place_by : FnScope ["_law_road", "_law_cell", "_law_many"] ["_law_road", "_law_cell"] (defScope s_place_by) := ⟨rfl, rfl, rfl, by decide +kernel, rfl, by decide +kernel, by decide +kernel⟩
theorem f_cell_at (T_cell_at : TopD K mg "_law_cell_at" s_cell_at ["_law_script", "_law_k"]) (T : Tx K mg C) : FnD P w K mg base C 1 "_law_cell_at" ["_law_script", "_law_k"] (fun a : List Int × Int => [.lst (a.1.map .int), .int a.2]) (fun a => a.1.length ≤ 63) (fun a => .ok (.int (cellAt a.1 a.2))) := by
  obtain ⟨f, fd, F, hm, hb⟩ := T_cell_at.ex
  refine fn_d F hm hb sc_cell_at (by decide) fun cdv A outer s H E B a hp hx hB => ?_
  obtain ⟨ns, k⟩ := a
  dsimp only at hp ⊢
  have hp : ns.length ≤ 63 := hp
  have e : ((ns.map D.int).length : Int) = (ns.length : Int) := by rw [List.length_map]
  refine db_ifr (DC.t (dc_eqI (de_lenL T.bi (DE.l (de_var 0 rfl))) de_int)) (fun h => ?_) (fun h => ?_)
  · refine db_one (ds_ret (de_var 1 rfl) ?_)
    have h := of_decide_eq_true h
    show Out.ok _ = Out.ok _
    rw [cellAt, if_pos (by omega)]
  · have h := of_decide_eq_false h
    have h0 : 0 < ((ns.map D.int).length : Int) := by omega
    refine db_one (ds_ret (de_add (de_ixL (DE.l (de_var 0 rfl)) (de_mod (de_var 1 rfl) (de_lenL T.bi (DE.l (de_var 0 rfl))) h0) (at_ints (Int.emod_nonneg _ (by omega)) (by rw [e]; exact Int.emod_lt_of_pos _ (by omega)))) (de_mul de_int (de_fdiv (de_var 1 rfl) (de_lenL T.bi (DE.l (de_var 0 rfl))) (⟨h0, by omega⟩)) (.inl ⟨by decide, by decide⟩))) ?_)
    show Out.ok _ = Out.ok _
    rw [cellAt, if_neg (by omega), e]
theorem f_wide (T_wide : TopD K mg "_law_wide" s_wide ["_law_cell", "_law_bound"]) : FnD P w K mg base C 1 "_law_wide" ["_law_cell", "_law_bound"] (fun a : Int × Int => [.int a.1, .int a.2]) (fun a => 0 < a.2) (fun a => .ok (.int (wide a.1 a.2))) := by
  obtain ⟨f, fd, F, hm, hb⟩ := T_wide.ex
  refine fn_d F hm hb sc_wide (by decide) fun cdv A outer s H E B a hp hx hB => ?_
  obtain ⟨c, b⟩ := a
  exact db_one (ds_ret (de_mod (de_mod (de_mul (de_var 0 rfl) de_int (.inr ⟨by decide, by decide⟩)) de_int) (de_var 1 rfl) hp) rfl)
abbrev FWide (P : Program) (w : World) (K : PySem.W.Frag) (mg : Str → Option Value) (base : Heap) (C : Addr) : Prop := FnD P w K mg base C 1 "_law_wide" ["_law_cell", "_law_bound"] (fun a : Int × Int => [.int a.1, .int a.2]) (fun a => 0 < a.2) (fun a => .ok (.int (wide a.1 a.2)))
theorem f_road_by (T_road_by : TopD K mg "_law_road_by" s_road_by ["_law_cell"]) (F_wide : FWide P w K mg base C) : FnD P w K mg base C 2 "_law_road_by" ["_law_cell"] (fun c : Int => [.int c]) (fun _ => True) (fun c => .ok (roadBy c).d) := by
  obtain ⟨f, fd, F, hm, hb⟩ := T_road_by.ex
  refine fn_d F hm hb sc_road_by (by decide) fun cdv A outer s H E B c hp hx hB => ?_
  refine db_set hx 1 (de_add de_int (de_mod (de_fdiv (de_var 0 rfl) de_int) de_int)) ?_
  refine db_ifI hx 1 (DC.t (dc_eqI (de_mod (de_fdiv (de_var 0 rfl) de_int) de_int) de_int)) rfl (fun _ => (de_add de_int (de_call F_wide hx ((c / 10, 1000000000)) (da_cons (de_fdiv (de_var 0 rfl) de_int) (da_cons (de_powc (z := 1000000000) de_int de_int ⟨by decide, by decide, by decide⟩ (by decide +kernel)) da_nil)) ((by show (0 : Int) < 1000000000; decide)) rfl))) ?_
  refine db_ifI hx 1 (DC.t (dc_eqI (de_mod (de_fdiv (de_var 0 rfl) de_int) de_int) de_int)) rfl (fun _ => (de_ixL (DO.l (do_lst (da_cons de_int (da_cons de_int (da_cons de_int (da_cons (de_powc (z := 1000000000) de_int de_int ⟨by decide, by decide, by decide⟩ (by decide +kernel)) da_nil)))))) (de_mod (de_fdiv (de_var 0 rfl) de_int) de_int) (at_ints (ns := [1, 2, 3, 1000000000]) (by omega) (by show _ < (4 : Int); omega)))) ?_
  exact db_one (ds_ret (de_tup (da_cons (de_ixL (DO.l (do_lst (da_cons de_str (da_cons de_str da_nil)))) (de_mod (de_var 0 rfl) de_int) road_word) (da_cons (de_var 1 rfl) da_nil))) rfl)
theorem f_places (T_places : TopD K mg "_law_places" s_places ["_law_road"]) : FnD P w K mg base C 1 "_law_places" ["_law_road"] (fun r : Road => [r.d]) (fun _ => True) (fun r => .ok (.int r.many)) := by
  obtain ⟨f, fd, F, hm, hb⟩ := T_places.ex
  refine fn_d F hm hb sc_places (by decide) fun cdv A outer s H E B r hp hx hB => ?_
  obtain ⟨ring, len⟩ := r
  refine db_ifr (DC.t (dc_eqS (de_ixT (de_var 0 rfl) de_int rfl) de_str)) (fun h => ?_) (fun h => ?_)
  · refine db_one (ds_ret (de_add (de_ixT (de_var 0 rfl) de_int rfl) de_int) ?_)
    cases ring
    · rfl
    · cases h
  · refine db_one (ds_ret (de_ixT (de_var 0 rfl) de_int rfl) ?_)
    cases ring
    · cases h
    · rfl
theorem f_place_by (T_place_by : TopD K mg "_law_place_by" s_place_by ["_law_road", "_law_cell"]) (F_wide : FWide P w K mg base C) (F_places : FnD P w K mg base C 1 "_law_places" ["_law_road"] (fun r : Road => [r.d]) (fun _ => True) (fun r => .ok (.int r.many))) :
    FnD P w K mg base C 2 "_law_place_by" ["_law_road", "_law_cell"] (fun a : Road × Int => [a.1.d, .int a.2]) (fun a => a.1.ok) (fun a => .ok (.int (placeBy a.1 a.2))) := by
  obtain ⟨f, fd, F, hm, hb⟩ := T_place_by.ex
  refine fn_d F hm hb sc_place_by (by decide) fun cdv A outer s H E B a hp hx hB => ?_
  obtain ⟨r, c⟩ := a
  have hp : r.ok := hp
  have hm := Road.many_pos hp
  refine db_set hx 2 (de_call F_places hx r (da_cons (de_var 0 rfl) da_nil) trivial rfl) ?_
  refine db_ifr (DC.t (dc_eqI (de_mod (de_var 1 rfl) de_int) de_int)) (fun h => ?_) (fun h => ?_)
  · refine db_one (ds_ret (de_ixL (DO.l (do_lst (da_cons de_int (da_cons (de_sub (de_var 2 rfl) de_int) (da_cons (de_fdiv (de_var 2 rfl) de_int) da_nil))))) (de_mod (de_fdiv (de_var 1 rfl) de_int) de_int) (at_ints (ns := [0, r.many - 1, r.many / 2]) (by omega) (by show _ < (3 : Int); omega))) ?_)
    show Out.ok _ = Out.ok _
    rw [placeBy, if_pos (of_decide_eq_true h)]
    rfl
  · refine db_one (ds_ret (de_call F_wide hx ((c / 7, r.many)) (da_cons (de_fdiv (de_var 1 rfl) de_int) (da_cons (de_var 2 rfl) da_nil)) (by show 0 < r.many; omega) rfl) ?_)
    show Out.ok _ = Out.ok _
    rw [placeBy, if_neg (of_decide_eq_false h)]
abbrev s_whole : Stmt := top 10
theorem sc_whole : FnScope ["_law_found"] ["_law_found"] (defScope s_whole) := ⟨rfl, rfl, rfl, by decide +kernel, rfl, by decide +kernel, by decide +kernel⟩
theorem f_whole (T_whole : TopD K mg "_law_whole" s_whole ["_law_found"]) (T : Tx K mg C) : FnD P w K mg base C 1 "_law_whole" ["_law_found"] (fun d : D => [d]) (fun d => d.isDay = false) (fun d => .ok (.bl (d.is "int" && !d.is "bool"))) := by
  obtain ⟨f, fd, F, hm, hb⟩ := T_whole.ex
  refine fn_d F hm hb sc_whole (by decide) fun cdv A outer s H E B d hp hx hB => ?_
  exact db_one (ds_ret (de_and (de_is T.bi (DE.w (de_var 0 rfl)) T.bi.int (by decide +kernel) (by decide) hp) (fun hc1 => (de_one (de_not (de_is T.bi (DE.w (de_var 0 rfl)) T.bi.bool (by decide +kernel) (by decide) hp))))) rfl)
def acrossM (r : Road) (one other c : Int) : Int := if c % 4 = 1 ∧ r.ring = true ∧ r.len % 2 = 0 then (one + r.len / 2) % r.len else other
def lawWay (r : Road) (one other : Int) : Int :=
  let g := other - one
  let g1 := if (r.ring && decide (2 * g > r.len)) = true then g - r.len else g
  if (r.ring && decide (2 * g1 ≤ -r.len)) = true then g1 + r.len else g1
def stepsM (c : Int) : Int := if c % 3 = 0 then wide (c / 18) 1000000000000000 * sel [1, 1000000000000007, 1000000000000000000000000000000000000000000000000000000000000] (c / 6 % 3) * (1 - 2 * (c / 3 % 2)) else c / 3 % 81 - 40
def triedM (o : Out) : D := match o with
  | .ok d => d
  | _ => .non
theorem way_law {r : Road} {a b : Int} (ha : r.has a) (hb : r.has b) : lawWay r a b = wayM r a b := by
  obtain ⟨a1, a2⟩ := ha
  obtain ⟨b1, b2⟩ := hb
  unfold lawWay wayM
  unfold Road.many at a2 b2
  cases r with
  | mk ring len =>
    cases ring with
    | false => simp
    | true =>
      simp only [if_true, Bool.true_and, decide_eq_true_eq] at *
      by_cases hab : a ≤ b
      · rw [Int.emod_eq_of_lt (a := b - a) (by omega) (by omega)]
        repeat' split
        all_goals omega
      · have e : (b - a) % len = b - a + len := by
          rw [← Int.add_emod_right]
          exact Int.emod_eq_of_lt (by omega) (by omega)
        rw [e]
        repeat' split
        all_goals omega
theorem moved_way {off : Addr} {r : Road} {a b : Int} (ha : r.has a) (hb : r.has b) : movedM off r a (wayM r a b) = .ok (.int b) := by
  obtain ⟨a1, a2⟩ := ha
  obtain ⟨b1, b2⟩ := hb
  unfold movedM wayM placeM
  unfold Road.many at *
  cases r with
  | mk ring len =>
    cases ring with
    | false =>
      simp only [Bool.false_eq_true, if_false] at *
      rw [show a + (b - a) = b by omega, if_pos ⟨b1, b2⟩]
    | true =>
      simp only [if_true] at *
      have key : ∀ z : Int, (a + ((b - a) % len - z * len)) % len = b := fun z => by
        have h := Int.emod_def (b - a) len
        have e : a + ((b - a) % len - z * len) = b + len * (-((b - a) / len) - z) := by
          rw [Int.mul_sub, Int.mul_neg, Int.mul_comm z len]
          omega
        rw [e, Int.add_mul_emod_self_left]
        exact Int.emod_eq_of_lt b1 b2
      split
      · have := key 0
        rw [Int.zero_mul, Int.sub_zero] at this
        rw [this]
      · have := key 1
        rw [Int.one_mul] at this
        rw [this]
theorem across_ok {r : Road} {a b c : Int} (hr : r.ok) (ha : r.has a) (hb : r.has b) : r.has (acrossM r a b c) := by
  unfold acrossM
  split
  · rename_i h
    obtain ⟨h1, h2, h3⟩ := h
    have := hr.1
    unfold Road.has Road.many
    rw [if_pos h2]
    exact ⟨Int.emod_nonneg _ (by omega), Int.emod_lt_of_pos _ (by omega)⟩
  · exact hb
abbrev s_across : Stmt := top 14
theorem sc_across : FnScope ["_law_road", "_law_one", "_law_other", "_law_cell"] ["_law_road", "_law_one", "_law_other", "_law_cell"] (defScope s_across) := ⟨rfl, rfl, rfl, by decide +kernel, rfl, by decide +kernel, by decide +kernel⟩
abbrev s_way_ : Stmt := top 15
theorem sc_way_ : FnScope ["_law_road", "_law_one", "_law_other", "_law_gap"] ["_law_road", "_law_one", "_law_other"] (defScope s_way_) := ⟨rfl, rfl, rfl, by decide +kernel, rfl, by decide +kernel, by decide +kernel⟩
abbrev s_steps : Stmt := top 16
theorem sc_steps : FnScope ["_law_cell"] ["_law_cell"] (defScope s_steps) := ⟨rfl, rfl, rfl, by decide +kernel, rfl, by decide +kernel, by decide +kernel⟩
abbrev s_moved_by_class : Stmt := top 17
theorem sc_moved_by_class : FnScope ["_law_road", "_law_place", "_law_by"] ["_law_road", "_law_place", "_law_by"] (defScope s_moved_by_class) := ⟨rfl, rfl, rfl, by decide +kernel, rfl, by decide +kernel, by decide +kernel⟩
abbrev s_moved_by_base : Stmt := top 18
theorem sc_moved_by_base : FnScope ["_law_road", "_law_place", "_law_by", "error"] ["_law_road", "_law_place", "_law_by"] (defScope s_moved_by_base) := ⟨rfl, rfl, rfl, by decide +kernel, rfl, by decide +kernel, by decide +kernel⟩
abbrev s_law : Stmt := top 19
theorem sc_law : FnScope ["_law_script", "_law_road", "_law_one", "_law_other", "_law_found", "_law_by", "_law_due", "_law_again"] ["_law_script"] (defScope s_law) := ⟨rfl, rfl, rfl, by decide +kernel, rfl, by decide +kernel, by decide +kernel⟩
theorem f_across (T_across : TopD K mg "_law_across" s_across ["_law_road", "_law_one", "_law_other", "_law_cell"]) : FnD P w K mg base C 1 "_law_across" ["_law_road", "_law_one", "_law_other", "_law_cell"] (fun a : Road × Int × Int × Int => [a.1.d, .int a.2.1, .int a.2.2.1, .int a.2.2.2]) (fun a => a.1.ok) (fun a => .ok (.int (acrossM a.1 a.2.1 a.2.2.1 a.2.2.2))) := by
  obtain ⟨f, fd, F, hm, hb⟩ := T_across.ex
  refine fn_d F hm hb sc_across (by decide) fun cdv A outer s H E B a hp hx hB => ?_
  obtain ⟨r, x, y, c⟩ := a
  dsimp only at hp ⊢
  have h1 := hp.1
  refine db_ifr (DTW.t (tw_and (DC.t (dc_eqI (de_mod (de_var 3 rfl) de_int) de_int)) (fun hc2 => (tw_and (DC.t (dc_eqS (de_ixT (de_var 0 rfl) de_int rfl) de_str)) (fun hc3 => (tw_and1 (DC.t (dc_eqI (de_mod (de_ixT (de_var 0 rfl) de_int rfl) de_int) de_int)))))))) (fun h => ?_) (fun h => ?_)
  · refine db_one (ds_ret (de_mod (de_add (de_var 1 rfl) (de_fdiv (de_ixT (de_var 0 rfl) de_int rfl) de_int)) (de_ixT (de_var 0 rfl) de_int rfl) (by omega)) ?_)
    rw [is_ring] at h
    simp only [Bool.and_eq_true, decide_eq_true_eq] at h
    show Out.ok _ = Out.ok _
    rw [acrossM, if_pos h]
  · refine db_one (ds_ret (de_var 2 rfl) ?_)
    rw [is_ring] at h
    show Out.ok _ = Out.ok _
    rw [acrossM, if_neg]
    intro q
    simp [q.1, q.2.1, q.2.2] at h
theorem f_lway (T_way_ : TopD K mg "_law_way" s_way_ ["_law_road", "_law_one", "_law_other"]) : FnD P w K mg base C 1 "_law_way" ["_law_road", "_law_one", "_law_other"] (fun a : Road × Int × Int => [a.1.d, .int a.2.1, .int a.2.2]) (fun _ => True) (fun a => .ok (.int (lawWay a.1 a.2.1 a.2.2))) := by
  obtain ⟨f, fd, F, hm, hb⟩ := T_way_.ex
  refine fn_d F hm hb sc_way_ (by decide) fun cdv A outer s H E B a hp hx hB => ?_
  obtain ⟨r, x, y⟩ := a
  dsimp only at hp ⊢
  refine db_set hx 3 (de_sub (de_var 2 rfl) (de_var 1 rfl)) ?_
  refine db_ifI hx 3 (DTW.t (tw_and (DC.t (dc_eqS (de_ixT (de_var 0 rfl) de_int rfl) de_str)) (fun hc4 => (tw_and1 (DC.t (dc_gt (de_mul de_int (de_var 3 rfl) (.inl ⟨by decide, by decide⟩)) (de_ixT (de_var 0 rfl) de_int rfl))))))) rfl (fun _ => (de_sub (de_var 3 rfl) (de_ixT (de_var 0 rfl) de_int rfl))) ?_
  refine db_ifI hx 3 (DTW.t (tw_and (DC.t (dc_eqS (de_ixT (de_var 0 rfl) de_int rfl) de_str)) (fun hc5 => (tw_and1 (DC.t (dc_le (de_mul de_int (de_var 3 rfl) (.inl ⟨by decide, by decide⟩)) (de_neg (de_ixT (de_var 0 rfl) de_int rfl)))))))) rfl (fun _ => (de_add (de_var 3 rfl) (de_ixT (de_var 0 rfl) de_int rfl))) ?_
  refine db_one (ds_ret (de_var 3 rfl) ?_)
  rw [is_ring]
  rfl
theorem f_steps (T_steps : TopD K mg "_law_steps" s_steps ["_law_cell"]) (F_wide : FWide P w K mg base C) : FnD P w K mg base C 2 "_law_steps" ["_law_cell"] (fun c : Int => [.int c]) (fun _ => True) (fun c => .ok (.int (stepsM c))) := by
  obtain ⟨f, fd, F, hm, hb⟩ := T_steps.ex
  refine fn_d F hm hb sc_steps (by decide) fun cdv A outer s H E B c hp hx hB => ?_
  refine db_ifr (DC.t (dc_eqI (de_mod (de_var 0 rfl) de_int) de_int)) (fun h => ?_) (fun h => ?_)
  · refine db_one (ds_ret (de_mul (de_mul (de_call F_wide hx ((c / 18, 1000000000000000)) (da_cons (de_fdiv (de_var 0 rfl) de_int) (da_cons (de_powc (z := 1000000000000000) de_int de_int ⟨by decide, by decide, by decide⟩ (by decide +kernel)) da_nil)) ((by show (0 : Int) < 1000000000000000; decide)) rfl) (de_ixL (DO.l (do_lst (da_cons de_int (da_cons (de_add (de_powc (z := 1000000000000000) de_int de_int ⟨by decide, by decide, by decide⟩ (by decide +kernel)) de_int) (da_cons (de_powc (z := 1000000000000000000000000000000000000000000000000000000000000) de_int de_int ⟨by decide, by decide, by decide⟩ (by decide +kernel)) da_nil))))) (de_mod (de_fdiv (de_var 0 rfl) de_int) de_int) (at_ints (ns := [1, 1000000000000000 + 7, 1000000000000000000000000000000000000000000000000000000000000]) (by omega) (by show _ < (3 : Int); omega))) ((.inl (wide_small _)))) (de_sub de_int (de_mul de_int (de_mod (de_fdiv (de_var 0 rfl) de_int) de_int) (.inl ⟨by decide, by decide⟩))) ((.inr ⟨by omega, by omega⟩))) ?_)
    show Out.ok _ = Out.ok _
    rw [stepsM, if_pos (of_decide_eq_true h)]
    rfl
  · refine db_one (ds_ret (de_sub (de_mod (de_fdiv (de_var 0 rfl) de_int) de_int) de_int) ?_)
    show Out.ok _ = Out.ok _
    rw [stepsM, if_neg (of_decide_eq_false h)]
abbrev FMoved (P : Program) (w : World) (K : PySem.W.Frag) (mg : Str → Option Value) (base : Heap) (C off : Addr) : Prop := FnD P w K mg base C 2 "moved" ["road", "place", "by"] (fun a : Road × Int × Int => [a.1.d, .int a.2.1, .int a.2.2]) (fun a => 0 < a.1.len) (fun a => movedM off a.1 a.2.1 a.2.2)
theorem moved_cases (off : Addr) (r : Road) (p b : Int) : (∃ z, movedM off r p b = .ok (.int z)) ∨ movedM off r p b = .err off := by
  unfold movedM placeM
  repeat' split
  all_goals first
    | exact .inl ⟨_, rfl⟩
    | exact .inr rfl
theorem f_moved_by_class (T_moved_by_class : TopD K mg "_law_moved_by_class" s_moved_by_class ["_law_road", "_law_place", "_law_by"]) (Q : Er P w K mg off route) (F_moved : FMoved P w K mg base C off) : FnD P w K mg base C 3 "_law_moved_by_class" ["_law_road", "_law_place", "_law_by"] (fun a : Road × Int × Int => [a.1.d, .int a.2.1, .int a.2.2]) (fun a => 0 < a.1.len) (fun a => .ok (triedM (movedM off a.1 a.2.1 a.2.2))) := by
  obtain ⟨f, fd, F, hm, hb⟩ := T_moved_by_class.ex
  refine fn_d F hm hb sc_moved_by_class (by decide) fun cdv A outer s H E B a hp hx hB => ?_
  obtain ⟨r, p, b⟩ := a
  dsimp only at hp ⊢
  rcases moved_cases off r p b with ⟨z, e⟩ | e
  · refine db_one (ds_try hx (.cons Q.xo.g .nil) (fun _ => False) (fun _ z => z.elim) fun pn xe B' hx _ => ?_)
    exact db_one (ds_ret (de_call F_moved hx ((r, p, b)) (da_cons (de_var 0 rfl) (da_cons (de_var 1 rfl) (da_cons (de_var 2 rfl) da_nil))) hp e) (by rw [e]; rfl))
  · refine db_one (ds_try hx (.cons Q.xo.g .nil) (fun c => c = off) (fun c hc => ?_) fun pn xe B' hx hB' => ?_)
    · subst hc
      exact ⟨true, exm_c Q.co Q.s1, fun _ a oe pn _ _ => db_one (ds_ret de_non (by rw [e]; rfl)), fun q => nomatch q⟩
    · exact db_one (ds_retX (dx_call F_moved hx (r, p, b) (dw_cons (DE.w (de_var 0 rfl)) (dw_cons (DE.w (de_var 1 rfl)) (dw_cons (DE.w (de_var 2 rfl)) dw_nil))) hp e (hB' _ rfl)))
theorem f_moved_by_base (T_moved_by_base : TopD K mg "_law_moved_by_base" s_moved_by_base ["_law_road", "_law_place", "_law_by"]) (T : Tx K mg C) (Q : Er P w K mg off route) (F_moved : FMoved P w K mg base C off) : FnD P w K mg base C 3 "_law_moved_by_base" ["_law_road", "_law_place", "_law_by"] (fun a : Road × Int × Int => [a.1.d, .int a.2.1, .int a.2.2]) (fun a => 0 < a.1.len) (fun a => .ok (triedM (movedM off a.1 a.2.1 a.2.2))) := by
  obtain ⟨f, fd, F, hm, hb⟩ := T_moved_by_base.ex
  refine fn_d F hm hb sc_moved_by_base (by decide) fun cdv A outer s H E B a hp hx hB => ?_
  obtain ⟨r, p, b⟩ := a
  dsimp only at hp ⊢
  rcases moved_cases off r p b with ⟨z, e⟩ | e
  · refine db_one (ds_tryAs hx 3 Q.cr.g (fun _ => False) (fun _ z => z.elim) fun pn xe B' hx _ => ?_)
    exact db_one (ds_ret (de_call F_moved hx ((r, p, b)) (da_cons (de_var 0 rfl) (da_cons (de_var 1 rfl) (da_cons (de_var 2 rfl) da_nil))) hp e) (by rw [e]; rfl))
  · refine db_one (ds_tryAs hx 3 Q.cr.g (fun c => c = off) (fun c hc => ?_) fun pn xe B' hx hB' => ?_)
    · subst hc
      refine ⟨exm_c Q.cr Q.s2, fun a oe pn hz hf => ?_⟩
      refine db_ifr (DE.t (de_isEB (i := 3) T.bi Q.ic hz hf rfl Q.ve (by decide +kernel) (kit_t Q.s3 (by decide +kernel)))) (fun _ => ?_) (fun q => nomatch q)
      exact db_one (ds_ret de_non (by rw [e]; rfl))
    · exact db_one (ds_retX (dx_call F_moved hx (r, p, b) (dw_cons (DE.w (de_var 0 rfl)) (dw_cons (DE.w (de_var 1 rfl)) (dw_cons (DE.w (de_var 2 rfl)) dw_nil))) hp e (hB' _ rfl)))
theorem f_law (T_law : TopD K mg "law" s_law ["_law_script"]) (T : Tx K mg C)
    (F_cell_at : FnD P w K mg base C 1 "_law_cell_at" ["_law_script", "_law_k"] (fun a : List Int × Int => [.lst (a.1.map .int), .int a.2]) (fun a => a.1.length ≤ 63) (fun a => .ok (.int (cellAt a.1 a.2))))
    (F_road_by : FnD P w K mg base C 2 "_law_road_by" ["_law_cell"] (fun c : Int => [.int c]) (fun _ => True) (fun c => .ok (roadBy c).d))
    (F_place_by : FnD P w K mg base C 2 "_law_place_by" ["_law_road", "_law_cell"] (fun a : Road × Int => [a.1.d, .int a.2]) (fun a => a.1.ok) (fun a => .ok (.int (placeBy a.1 a.2))))
    (F_whole : FnD P w K mg base C 1 "_law_whole" ["_law_found"] (fun d : D => [d]) (fun d => d.isDay = false) (fun d => .ok (.bl (d.is "int" && !d.is "bool"))))
    (F_way : FnD P w K mg base C 1 "way" ["road", "one", "other"] (fun a : Road × Int × Int => [a.1.d, .int a.2.1, .int a.2.2]) (fun a => 0 < a.1.len) (fun a => .ok (.int (wayM a.1 a.2.1 a.2.2))))
    (F_across : FnD P w K mg base C 1 "_law_across" ["_law_road", "_law_one", "_law_other", "_law_cell"] (fun a : Road × Int × Int × Int => [a.1.d, .int a.2.1, .int a.2.2.1, .int a.2.2.2]) (fun a => a.1.ok) (fun a => .ok (.int (acrossM a.1 a.2.1 a.2.2.1 a.2.2.2))))
    (F_way_ : FnD P w K mg base C 1 "_law_way" ["_law_road", "_law_one", "_law_other"] (fun a : Road × Int × Int => [a.1.d, .int a.2.1, .int a.2.2]) (fun _ => True) (fun a => .ok (.int (lawWay a.1 a.2.1 a.2.2))))
    (F_steps : FnD P w K mg base C 2 "_law_steps" ["_law_cell"] (fun c : Int => [.int c]) (fun _ => True) (fun c => .ok (.int (stepsM c))))
    (F_moved : FMoved P w K mg base C off)
    (F_moved_by_class : FnD P w K mg base C 3 "_law_moved_by_class" ["_law_road", "_law_place", "_law_by"] (fun a : Road × Int × Int => [a.1.d, .int a.2.1, .int a.2.2]) (fun a => 0 < a.1.len) (fun a => .ok (triedM (movedM off a.1 a.2.1 a.2.2))))
    (F_moved_by_base : FnD P w K mg base C 3 "_law_moved_by_base" ["_law_road", "_law_place", "_law_by"] (fun a : Road × Int × Int => [a.1.d, .int a.2.1, .int a.2.2]) (fun a => 0 < a.1.len) (fun a => .ok (triedM (movedM off a.1 a.2.1 a.2.2)))) :
    FnD P w K mg base C 4 "law" ["_law_script"] (fun ns : List Int => [.lst (ns.map .int)]) (fun ns => ns.length ≤ 63) (fun _ => .ok (.bl true)) := by
  obtain ⟨f, fd, F, hm, hb⟩ := T_law.ex
  refine fn_d F hm hb sc_law (by decide) fun cdv A outer s H E B ns hp hx hB => ?_
  refine db_set hx 1 (de_call F_road_by hx (cellAt ns 0) (da_cons (de_call F_cell_at hx ((ns, 0)) (da_cons (de_var 0 rfl) (da_cons de_int da_nil)) hp rfl) da_nil) trivial rfl) ?_
  generalize hr : roadBy (cellAt ns 0) = r
  have rok : r.ok := hr ▸ roadBy_ok _
  have rl : 0 < r.len := by have := rok.1; omega
  refine db_set hx 2 (de_call F_place_by hx ((r, cellAt ns 1)) (da_cons (de_var 1 rfl) (da_cons (de_call F_cell_at hx ((ns, 1)) (da_cons (de_var 0 rfl) (da_cons de_int da_nil)) hp rfl) da_nil)) rok rfl) ?_
  refine db_set hx 3 (de_call F_across hx ((r, placeBy r (cellAt ns 1), placeBy r (cellAt ns 2), cellAt ns 3)) (da_cons (de_var 1 rfl) (da_cons (de_var 2 rfl) (da_cons (de_call F_place_by hx ((r, cellAt ns 2)) (da_cons (de_var 1 rfl) (da_cons (de_call F_cell_at hx ((ns, 2)) (da_cons (de_var 0 rfl) (da_cons de_int da_nil)) hp rfl) da_nil)) rok rfl) (da_cons (de_call F_cell_at hx ((ns, 3)) (da_cons (de_var 0 rfl) (da_cons de_int da_nil)) hp rfl) da_nil)))) rok rfl) ?_
  dsimp only
  have ha := placeBy_ok rok (cellAt ns 1)
  have hb := across_ok (c := cellAt ns 3) rok ha (placeBy_ok rok (cellAt ns 2))
  generalize acrossM r (placeBy r (cellAt ns 1)) (placeBy r (cellAt ns 2)) (cellAt ns 3) = b at hb ⊢
  generalize placeBy r (cellAt ns 1) = a at ha ⊢
  refine db_set hx 4 (de_call F_way hx ((r, a, b)) (da_cons (de_var 1 rfl) (da_cons (de_var 2 rfl) (da_cons (de_var 3 rfl) da_nil))) rl rfl) ?_
  dsimp only
  refine db_ifr (DTW.t (tw_or (dt_not (DE.t (de_call F_whole hx (((.int (wayM r a b)))) (da_cons (de_var 4 rfl) da_nil) rfl rfl))) (fun hc6 => (tw_or (DC.t (dc_neI (de_var 4 rfl) (de_call F_way_ hx ((r, a, b)) (da_cons (de_var 1 rfl) (da_cons (de_var 2 rfl) (da_cons (de_var 3 rfl) da_nil))) trivial rfl))) (fun hc7 => (tw_or1 (DC.t (dc_neI (de_call F_moved hx ((r, a, wayM r a b)) (da_cons (de_var 1 rfl) (da_cons (de_var 2 rfl) (da_cons (de_var 4 rfl) da_nil))) rl (moved_way ha hb)) (de_var 3 rfl))))))))) (fun h => ?_) (fun _ => ?_)
  · simp [D.is, D.kind, isKind, way_law ha hb] at h
  · refine db_set hx 5 (de_call F_steps hx (cellAt ns 4) (da_cons (de_call F_cell_at hx ((ns, 4)) (da_cons (de_var 0 rfl) (da_cons de_int da_nil)) hp rfl) da_nil) trivial rfl) ?_
    generalize stepsM (cellAt ns 4) = z
    refine db_set hx 6 (de_add (de_var 2 rfl) (de_var 5 rfl)) ?_
    refine db_ifI hx 6 (DC.t (dc_eqS (de_ixT (de_var 1 rfl) de_int rfl) de_str)) rfl (fun _ => (de_mod (de_var 6 rfl) (de_ixT (de_var 1 rfl) de_int rfl) rl)) ?_
    rw [is_ring]
    cases hring : r.ring with
    | true =>
      have em : movedM off r a z = .ok (.int ((a + z) % r.len)) := by rw [movedM, if_pos hring]
      rw [if_pos rfl]
      refine db_set hx 4 (de_call F_moved_by_class hx ((r, a, z)) (da_cons (de_var 1 rfl) (da_cons (de_var 2 rfl) (da_cons (de_var 5 rfl) da_nil))) rl (by rw [em])) ?_
      refine db_set hx 7 (de_call F_moved_by_base hx ((r, a, z)) (da_cons (de_var 1 rfl) (da_cons (de_var 2 rfl) (da_cons (de_var 5 rfl) da_nil))) rl (by rw [em])) ?_
      refine db_ifr (DTW.t (tw_and (DC.t (dc_eqS (de_ixT (de_var 1 rfl) de_int rfl) de_str)) (fun hc8 => (tw_and1 (dt_not (dt_le_le de_int (de_var 6 rfl) (de_ixT (de_var 1 rfl) de_int rfl))))))) (fun h => ?_) (fun _ => ?_)
      · rw [is_line, hring] at h
        cases h
      · refine db_one (ds_ret (de_and (de_call F_whole hx ((.int ((a + z) % r.len))) (da_cons (de_var 4 rfl) da_nil) rfl rfl) (fun hc9 => (de_and (DC.v (dc_eqI (de_var 4 rfl) (de_var 6 rfl))) (fun hc10 => (de_one (DC.v (dc_eqI (de_var 7 rfl) (de_var 6 rfl)))))))) ?_)
        show Out.ok _ = Out.ok _
        simp [D.is, D.kind, isKind]
    | false =>
      rw [if_neg Bool.false_ne_true]
      by_cases hz : 0 ≤ a + z ∧ a + z < r.many
      · have em : movedM off r a z = .ok (.int (a + z)) := by rw [movedM, if_neg (by rw [hring]; decide), placeM, if_pos hz]
        refine db_set hx 4 (de_call F_moved_by_class hx ((r, a, z)) (da_cons (de_var 1 rfl) (da_cons (de_var 2 rfl) (da_cons (de_var 5 rfl) da_nil))) rl (by rw [em])) ?_
        refine db_set hx 7 (de_call F_moved_by_base hx ((r, a, z)) (da_cons (de_var 1 rfl) (da_cons (de_var 2 rfl) (da_cons (de_var 5 rfl) da_nil))) rl (by rw [em])) ?_
        unfold Road.many at hz
        rw [hring] at hz
        refine db_ifr (DTW.t (tw_and (DC.t (dc_eqS (de_ixT (de_var 1 rfl) de_int rfl) de_str)) (fun hc11 => (tw_and1 (dt_not (dt_le_le de_int (de_var 6 rfl) (de_ixT (de_var 1 rfl) de_int rfl))))))) (fun h => ?_) (fun _ => ?_)
        · rw [is_line, hring] at h
          simp at h hz
          omega
        · refine db_one (ds_ret (de_and (de_call F_whole hx ((.int (a + z))) (da_cons (de_var 4 rfl) da_nil) rfl rfl) (fun hc12 => (de_and (DC.v (dc_eqI (de_var 4 rfl) (de_var 6 rfl))) (fun hc13 => (de_one (DC.v (dc_eqI (de_var 7 rfl) (de_var 6 rfl)))))))) ?_)
          show Out.ok _ = Out.ok _
          simp [D.is, D.kind, isKind]
      · have em : movedM off r a z = .err off := by rw [movedM, if_neg (by rw [hring]; decide), placeM, if_neg hz]
        refine db_set hx 4 (de_call F_moved_by_class hx ((r, a, z)) (da_cons (de_var 1 rfl) (da_cons (de_var 2 rfl) (da_cons (de_var 5 rfl) da_nil))) rl (by rw [em])) ?_
        refine db_set hx 7 (de_call F_moved_by_base hx ((r, a, z)) (da_cons (de_var 1 rfl) (da_cons (de_var 2 rfl) (da_cons (de_var 5 rfl) da_nil))) rl (by rw [em])) ?_
        unfold Road.many at hz
        rw [hring] at hz
        refine db_ifr (DTW.t (tw_and (DC.t (dc_eqS (de_ixT (de_var 1 rfl) de_int rfl) de_str)) (fun hc14 => (tw_and1 (dt_not (dt_le_le de_int (de_var 6 rfl) (de_ixT (de_var 1 rfl) de_int rfl))))))) (fun _ => ?_) (fun h => ?_)
        · exact db_one (ds_ret (de_and (DC.v (dc_isN (DE.w (de_var 4 rfl)))) (fun hc15 => (de_one (DC.v (dc_isN (DE.w (de_var 7 rfl))))))) rfl)
        · rw [is_line, hring] at h
          simp at h hz
          omega
/-! ### the end -/
theorem topd {h : Heap} {x : Str} {st : Stmt} {ps : List Str} {f : Addr} {od an : Option Addr} {sl : Array (Option Value)} {oc kV dc pm cd ct : Value} (X : K.In h) (G : h.Ns mainGlobals mg)
    (a : PySem.W.nsIn K mainGlobals x = some (some (.ref f))) (l : K.lookup f = some ⟨oc, od, .func (PySem.W.fnOf x x (defArgs st) (defBody st) (defScope st) .none kV dc pm an cd ct), sl⟩) (c : PySem.W.codeIn K cd x = true) (k : PySem.W.keepIn K (.ref f) = true)
    (hb : ∀ (kV doc pm : Value) (an : Option Addr) (cdv ct : Value) (us : List Value), us.length = ps.length → bindArgs (PySem.W.fnOf x x (defArgs st) (defBody st) (defScope st) .none kV doc pm an cdv ct) ⟨us, []⟩ = pure (ps.zip us)) : TopD K mg x st ps :=
  ⟨f, _, fun_mk l c k, PySem.W.mg_of X G a, (fun_mk l c k).binds hb⟩
/-- the law's promise -/
def spLaw (K : PySem.W.Frag) : Sp := fun vs H Q _ => ∃ (a : Addr) (ns : List Int), vs = [.ref a] ∧ SqL K H a (ns.map V.int) ∧ ns.length ≤ 63 ∧ ∀ H', Q (.bl true) H'
theorem law_end {k : Nat} (F : FnD P w K mg base C k "law" ["_law_script"] (fun ns : List Int => [.lst (ns.map .int)]) (fun ns => ns.length ≤ 63) (fun _ => .ok (.bl true))) {fa : Addr} (hfa : mg "law" = some (.ref fa)) {fd : FuncData} (L : Fun K "law" "law" s_law fa fd) :
    FnOk P w K mg base (L2.CX P w) k fa fd ["_law_script"] (spLaw K) := by
  obtain ⟨f, fd', h1, h2, h3, h4, oc, od, sl, lk⟩ := F.ex
  rw [hfa] at h2
  cases h2
  obtain ⟨oc', od', kV, doc, pm, an, cdv, ct, osl, e, lk', hcd⟩ := L.ex
  rw [lk] at lk'
  cases lk'
  exact h1.imp fun vs H Q E ⟨a, ns, e, hs, hl, q⟩ => by
    subst e
    exact ⟨ns, H, Ex.refl H, .cons (.lst hs (Reps.of_ints ns)) .nil, rfl, hl, fun v G' H' _ r => by
      obtain rfl := r.b
      exact q H'⟩
theorem law_binds {f : Addr} {fd : FuncData} (F : Fun K "law" "law" s_law f fd) (s : Shared) (v : Value) : BindsTo s fd ⟨[v], []⟩ [("_law_script", v)] := by
  obtain ⟨oc, od, kV, doc, pm, an, cdv, ct, osl, rfl, lk, hcd⟩ := F.ex
  exact .of_eq rfl
theorem walk {l : PySem.W.OpenLaw} {q : Program} {loose : List Str} {XP : (Str → Option Value) → Heap → Prop} {YP : World → Heap → Prop} {d : DefRec} {K : Params → PySem.W.Frag} (hn : l.most = some 63) (hdf : d.params.defaults = [])
    (hY : ∀ (w : World) (h : Heap), YP w h → (K w.params).In h)
    (F : ∀ (w : World) (mg : Str → Option Value) (fa : Addr) (h : Heap), (K w.params).In h → h.Ns mainGlobals mg → mg d.name = some (.ref fa) →
      ∃ fd : FuncData, (∀ (s : Shared) (u : Value), BindsTo s fd ⟨[u], []⟩ [("_law_script", u)]) ∧ ∀ base : Heap, (K w.params).In base → base.Ns mainGlobals mg → FnOk l.prog w (K w.params) mg base (L2.CX l.prog w) 4 fa fd ["_law_script"] (spLaw (K w.params))) :
    PySem.W.WalkO q loose XP YP l.row.toRowW d [] (fun f vs => PySem.call f vs) :=
  L2.walk_of (n := 63) (k := 4) (x := "_law_script") (CX := fun w => L2.CX l.prog w) (sp := fun w => spLaw (K w.params)) hn (by decide) hdf ⟨rfl, by decide, by decide⟩ hY F (fun _ _ a ns hl _ hS => ⟨a, ns, rfl, hS, hl, fun _ => rfl⟩) fun _ _ _ _ _ z => by
    obtain ⟨_, _, _, _, _, _, _, _, _, _, _, _, z⟩ := z
    exact z
theorem all_mk {l : PySem.W.OpenLaw} {h : Heap} {fa : Addr} (X : K.In h) (G : h.Ns mainGlobals mg) (hfa : mg "law" = some (.ref fa))
    (T_sure_place : TopD K mg "sure_place" s_sure_place ["road", "place"]) (T_way : TopD K mg "way" s_way ["road", "one", "other"]) (T_moved : TopD K mg "moved" s_moved ["road", "place", "by"]) (T_cell_at : TopD K mg "_law_cell_at" s_cell_at ["_law_script", "_law_k"]) (T_wide : TopD K mg "_law_wide" s_wide ["_law_cell", "_law_bound"]) (T_whole : TopD K mg "_law_whole" s_whole ["_law_found"]) (T_road_by : TopD K mg "_law_road_by" s_road_by ["_law_cell"]) (T_places : TopD K mg "_law_places" s_places ["_law_road"]) (T_place_by : TopD K mg "_law_place_by" s_place_by ["_law_road", "_law_cell"]) (T_across : TopD K mg "_law_across" s_across ["_law_road", "_law_one", "_law_other", "_law_cell"]) (T_way_ : TopD K mg "_law_way" s_way_ ["_law_road", "_law_one", "_law_other"]) (T_steps : TopD K mg "_law_steps" s_steps ["_law_cell"]) (T_moved_by_class : TopD K mg "_law_moved_by_class" s_moved_by_class ["_law_road", "_law_place", "_law_by"]) (T_moved_by_base : TopD K mg "_law_moved_by_base" s_moved_by_base ["_law_road", "_law_place", "_law_by"]) (T_law : TopD K mg "law" s_law ["_law_script"]) (bi : Bi mg) (Q : Er l.prog w K mg off route) :
    ∃ fd : FuncData, (∀ (s : Shared) (v : Value), BindsTo s fd ⟨[v], []⟩ [("_law_script", v)]) ∧ ∀ base : Heap, K.In base → base.Ns mainGlobals mg → FnOk l.prog w K mg base (L2.CX l.prog w) 4 fa fd ["_law_script"] (spLaw K) := by
  have T : Tx K mg 0 := ⟨bi⟩
  obtain ⟨f, fd, F, hm, hb⟩ := id T_law.ex
  rw [hfa] at hm
  cases hm
  refine ⟨fd, law_binds F, fun base _ _ => ?_⟩
  have F_way : FnD l.prog w K mg base 0 1 _ _ _ _ _ := f_way T_way
  have F_cell_at : FnD l.prog w K mg base 0 1 _ _ _ _ _ := f_cell_at T_cell_at T
  have F_wide : FnD l.prog w K mg base 0 1 _ _ _ _ _ := f_wide T_wide
  have F_road_by : FnD l.prog w K mg base 0 2 _ _ _ _ _ := f_road_by T_road_by F_wide
  have F_places : FnD l.prog w K mg base 0 1 _ _ _ _ _ := f_places T_places
  have F_place_by : FnD l.prog w K mg base 0 2 _ _ _ _ _ := f_place_by T_place_by F_wide F_places
  have F_whole : FnD l.prog w K mg base 0 1 _ _ _ _ _ := f_whole T_whole T
  have F_sure_place : FnD l.prog w K mg base 0 1 _ _ _ _ _ := f_sure_place T_sure_place Q.xo
  have F_moved : FnD l.prog w K mg base 0 2 _ _ _ _ _ := f_moved T_moved Q.xo F_sure_place
  have F_across : FnD l.prog w K mg base 0 1 _ _ _ _ _ := f_across T_across
  have F_way_ : FnD l.prog w K mg base 0 1 _ _ _ _ _ := f_lway T_way_
  have F_steps : FnD l.prog w K mg base 0 2 _ _ _ _ _ := f_steps T_steps F_wide
  have F_c : FnD l.prog w K mg base 0 3 _ _ _ _ _ := f_moved_by_class T_moved_by_class Q F_moved
  have F_b : FnD l.prog w K mg base 0 3 _ _ _ _ _ := f_moved_by_base T_moved_by_base T Q F_moved
  exact law_end (f_law T_law T F_cell_at F_road_by F_place_by F_whole F_way F_across F_way_ F_steps F_moved F_c F_b) hfa F
end
end Rv
open PySem PySem.W PyProof.Rows
set_option maxRecDepth 100000 in
set_option maxHeartbeats 0 in
theorem PySem.Challenge.cw_routevan_k02_ways_lead_holds : PySem.Challenge.rw_routevan_k02_ways_lead.Holds := by
  w_on; o_law; k_head; (case hw => w_witness2)
  k_fill
  refine Rv.walk (l := PySem.Challenge.rw_routevan_k02_ways_lead) rfl rfl (fun w h Y => PySem.W.kIn_of Y) ?F
  case F =>
    intro w mg fa h KX G hmg
    refine' Rv.all_mk KX G hmg (Rv.topd (st := Rv.s_sure_place) KX G ?a_sure_place ?l_sure_place ?c_sure_place ?k_sure_place (fun _ _ _ _ _ _ us hl => match us, hl with | [_, _], _ => rfl)) (Rv.topd (st := Rv.s_way) KX G ?a_way ?l_way ?c_way ?k_way (fun _ _ _ _ _ _ us hl => match us, hl with | [_, _, _], _ => rfl)) (Rv.topd (st := Rv.s_moved) KX G ?a_moved ?l_moved ?c_moved ?k_moved (fun _ _ _ _ _ _ us hl => match us, hl with | [_, _, _], _ => rfl)) (Rv.topd (st := Rv.s_cell_at) KX G ?a_cell_at ?l_cell_at ?c_cell_at ?k_cell_at (fun _ _ _ _ _ _ us hl => match us, hl with | [_, _], _ => rfl)) (Rv.topd (st := Rv.s_wide) KX G ?a_wide ?l_wide ?c_wide ?k_wide (fun _ _ _ _ _ _ us hl => match us, hl with | [_, _], _ => rfl)) (Rv.topd (st := Rv.s_whole) KX G ?a_whole ?l_whole ?c_whole ?k_whole (fun _ _ _ _ _ _ us hl => match us, hl with | [_], _ => rfl)) (Rv.topd (st := Rv.s_road_by) KX G ?a_road_by ?l_road_by ?c_road_by ?k_road_by (fun _ _ _ _ _ _ us hl => match us, hl with | [_], _ => rfl)) (Rv.topd (st := Rv.s_places) KX G ?a_places ?l_places ?c_places ?k_places (fun _ _ _ _ _ _ us hl => match us, hl with | [_], _ => rfl)) (Rv.topd (st := Rv.s_place_by) KX G ?a_place_by ?l_place_by ?c_place_by ?k_place_by (fun _ _ _ _ _ _ us hl => match us, hl with | [_, _], _ => rfl)) (Rv.topd (st := Rv.s_across) KX G ?a_across ?l_across ?c_across ?k_across (fun _ _ _ _ _ _ us hl => match us, hl with | [_, _, _, _], _ => rfl)) (Rv.topd (st := Rv.s_way_) KX G ?a_way_ ?l_way_ ?c_way_ ?k_way_ (fun _ _ _ _ _ _ us hl => match us, hl with | [_, _, _], _ => rfl)) (Rv.topd (st := Rv.s_steps) KX G ?a_steps ?l_steps ?c_steps ?k_steps (fun _ _ _ _ _ _ us hl => match us, hl with | [_], _ => rfl)) (Rv.topd (st := Rv.s_moved_by_class) KX G ?a_moved_by_class ?l_moved_by_class ?c_moved_by_class ?k_moved_by_class (fun _ _ _ _ _ _ us hl => match us, hl with | [_, _, _], _ => rfl)) (Rv.topd (st := Rv.s_moved_by_base) KX G ?a_moved_by_base ?l_moved_by_base ?c_moved_by_base ?k_moved_by_base (fun _ _ _ _ _ _ us hl => match us, hl with | [_, _, _], _ => rfl)) (Rv.topd (st := Rv.s_law) KX G ?a_law ?l_law ?c_law ?k_law (fun _ _ _ _ _ _ us hl => match us, hl with | [_], _ => rfl)) ⟨PySem.W.mg_none_of KX G ?z_len, PySem.W.mg_none_of KX G ?z_abs, PySem.W.mg_none_of KX G ?z_max, PySem.W.mg_none_of KX G ?z_min, PySem.W.mg_none_of KX G ?z_range, PySem.W.mg_none_of KX G ?z_isinstance, PySem.W.mg_none_of KX G ?z_int, PySem.W.mg_none_of KX G ?z_bool, PySem.W.mg_none_of KX G ?z_str, PySem.W.mg_none_of KX G ?z_list, PySem.W.mg_none_of KX G ?z_tuple, PySem.W.mg_none_of KX G ?z_dict, PySem.W.mg_none_of KX G ?z_sorted, PySem.W.mg_none_of KX G ?z_set, PySem.W.mg_none_of KX G ?z_reversed⟩ ⟨⟨PySem.W.mg_of KX G ?g_off, ?x_off, ?k_off, ?b_off, ?t_off⟩, ⟨PySem.W.mg_of KX G ?g_off2, ?h1, ?h2, ?h3⟩, ⟨PySem.W.mg_of KX G ?g_route, ?h4, ?h5, ?h6⟩, ?s1, ?s2, ?s3, PySem.W.mg_none_of KX G ?z_ve, ⟨?i1, ?i2, ?i3, ?i4, ?i5, ?i6, ?i7, ?i8⟩⟩
    (case a_sure_place => k_is); (case l_sure_place => k_is); (case c_sure_place => k_is); (case k_sure_place => k_is)
    (case a_way => k_is); (case l_way => k_is); (case c_way => k_is); (case k_way => k_is)
    (case a_moved => k_is); (case l_moved => k_is); (case c_moved => k_is); (case k_moved => k_is)
    (case a_cell_at => k_is); (case l_cell_at => k_is); (case c_cell_at => k_is); (case k_cell_at => k_is)
    (case a_wide => k_is); (case l_wide => k_is); (case c_wide => k_is); (case k_wide => k_is)
    (case a_whole => k_is); (case l_whole => k_is); (case c_whole => k_is); (case k_whole => k_is)
    (case a_road_by => k_is); (case l_road_by => k_is); (case c_road_by => k_is); (case k_road_by => k_is)
    (case a_places => k_is); (case l_places => k_is); (case c_places => k_is); (case k_places => k_is)
    (case a_place_by => k_is); (case l_place_by => k_is); (case c_place_by => k_is); (case k_place_by => k_is)
    (case a_across => k_is); (case l_across => k_is); (case c_across => k_is); (case k_across => k_is)
    (case a_way_ => k_is); (case l_way_ => k_is); (case c_way_ => k_is); (case k_way_ => k_is)
    (case a_steps => k_is); (case l_steps => k_is); (case c_steps => k_is); (case k_steps => k_is)
    (case a_moved_by_class => k_is); (case l_moved_by_class => k_is); (case c_moved_by_class => k_is); (case k_moved_by_class => k_is)
    (case a_moved_by_base => k_is); (case l_moved_by_base => k_is); (case c_moved_by_base => k_is); (case k_moved_by_base => k_is)
    (case a_law => k_is); (case l_law => k_is); (case c_law => k_is); (case k_law => k_is)
    (case z_len => k_is); (case z_abs => k_is); (case z_max => k_is); (case z_min => k_is)
    (case z_range => k_is); (case z_isinstance => k_is); (case z_int => k_is); (case z_bool => k_is)
    (case z_str => k_is); (case z_list => k_is); (case z_tuple => k_is); (case z_dict => k_is)
    (case z_sorted => k_is); (case z_set => k_is); (case z_reversed => k_is); (case g_off => k_is)
    (case x_off => k_exc); (case k_off => k_is); (case b_off => k_is); (case t_off => k_is)
    (case g_off2 => k_is); (case h1 => k_is); (case h2 => k_is); (case h3 => k_is)
    (case g_route => k_is); (case h4 => k_is); (case h5 => k_is); (case h6 => k_is)
    (case s1 => k_is); (case s2 => k_is); (case s3 => k_is); (case z_ve => k_is)
    (case i1 => k_is); (case i2 => k_is); (case i3 => k_is); (case i4 => k_is)
    (case i5 => k_is); (case i6 => k_is); (case i7 => k_is); (case i8 => k_is)
