import PyProof.Rows.All
import Wide.All
import OpenK.AllK
import Wide.FinOn
import HandS.ForMost
import HandS.ForExc
import KE.KDictKeyed
import KE.KeyNested
import HandS.CallSlots
import HandS.IsInst
import HandS.TryMany
import HandS.ExcIs
import HandS.RevRange
import HandS.Conv
import HandS.Style
import HandS.TupAny
import HandS.SetFor
import KE.KDictWalk
import KE.KDictCopyH
import HandS.TupLen
import HandS.TupSets
import HandS.Strs
import PyProof.Rows.SortShell
import HandS.SortKw
import KE.DatumOrd
import KE.KDictOf
import KE.KEqDict
import HandS.Finally
import HandS.Text
import HandS.Codes
import HandS.TupLe
import HandS.ReplaceLit
import HandS.Flt
import KE.OsSetLaws
import PySem.Challenge.RW_routevan_k14_asked_in_turn
set_option Elab.async false
set_option linter.all false
set_option maxRecDepth 100000
set_option maxHeartbeats 4000000
set_option autoImplicit false
/-! ### Rv: what code does, told by data alone. Part A: weakest readings, data, the state of a def -/
namespace Rv
open PySem L2
abbrev St := L2.St

/-! #### weakest readings: the semantic ones, each the reading of its own syntax -/
def WE (X : Cx) (e : Expr) (σ : St) (H : Hp) (Q : VK) : Prop := ∀ (pins : List (Addr × Obj)) (s : Shared), Inv X pins σ H s → wpAny (model X.prog X.w) X.A (eval e X.env) (EP X pins σ Q) X.xe s
def WT (X : Cx) (e : Expr) (σ : St) (H : Hp) (Q : Bool → Hp → Prop) : Prop := ∀ (pins : List (Addr × Obj)) (s : Shared), Inv X pins σ H s → wpAny (model X.prog X.w) X.A (isTrue e X.env (eval e X.env)) (TP X pins σ Q) X.xe s
def WW (X : Cx) (e : Expr) (σ : St) (H : Hp) (Q : Bool → Hp → Prop) : Prop := ∀ (whole : Sem Value) (pins : List (Addr × Obj)) (s : Shared), Inv X pins σ H s → wpAny (model X.prog X.w) X.A (isTrue e X.env whole) (TP X pins σ Q) X.xe s
def WA (X : Cx) (es : List Expr) (σ : St) (H : Hp) (Q : List V → Hp → Prop) : Prop := ∀ (pos : Pos) (pins : List (Addr × Obj)) (s : Shared), Inv X pins σ H s → wpAny (model X.prog X.w) X.A (spliced (backTo pos (starEach es X.env))) (AP X pins σ Q) X.xe s
def WS (X : Cx) (st : Stmt) (D : Ends) (σ : St) (H : Hp) : Prop := ∀ (pins : List (Addr × Obj)) (s : Shared), Inv X pins σ H s → wpAny (model X.prog X.w) X.A (exec st X.env) (SP X pins D) X.xe s
def WB (X : Cx) (sts : List Stmt) (D : Ends) (σ : St) (H : Hp) : Prop := ∀ (pins : List (Addr × Obj)) (s : Shared), Inv X pins σ H s → wpAny (model X.prog X.w) X.A (execs sts X.env) (SP X pins D) X.xe s
section
variable {X : Cx} {e : Expr} {es : List Expr} {st : Stmt} {sts : List Stmt} {σ : St} {H : Hp}
theorem pe_we : PE X e (WE X e) := ⟨fun pins s _ _ _ I h => h pins s I⟩
theorem pt_wt : PT X e (WT X e) := ⟨fun pins s _ _ _ I h => h pins s I⟩
theorem pw_ww : PW X e (WW X e) := ⟨fun wh pins s _ _ _ I h => h wh pins s I⟩
theorem pa_wa : PA X es (WA X es) := ⟨fun pos pins s _ _ _ I h => h pos pins s I⟩
theorem ps_ws : PS X st (WS X st) := ⟨fun pins s _ _ _ I h => h pins s I⟩
theorem pss_wb : PSs X sts (WB X sts) := ⟨fun pins s _ _ _ I h => h pins s I⟩
theorem we {t : TE} {Q : VK} (p : PE X e t) (h : t σ H Q) : WE X e σ H Q := fun pins s I => p.run pins s σ H Q I h
theorem wt {t : TT} {Q : Bool → Hp → Prop} (p : PT X e t) (h : t σ H Q) : WT X e σ H Q := fun pins s I => p.run pins s σ H Q I h
theorem ww {t : TT} {Q : Bool → Hp → Prop} (p : PW X e t) (h : t σ H Q) : WW X e σ H Q := fun wh pins s I => p.run wh pins s σ H Q I h
theorem wa {t : TA} {Q : List V → Hp → Prop} (p : PA X es t) (h : t σ H Q) : WA X es σ H Q := fun pos pins s I => p.run pos pins s σ H Q I h
theorem ws {t : TS} {D : Ends} (p : PS X st t) (h : t D σ H) : WS X st D σ H := fun pins s I => p.run pins s σ H D I h
theorem wb {t : TS} {D : Ends} (p : PSs X sts t) (h : t D σ H) : WB X sts D σ H := fun pins s I => p.run pins s σ H D I h
end

/-! #### data -/
inductive D where
  | non
  | bl (b : Bool)
  | int (i : Int)
  | str (s : Str)
  | tup (l : List D)
  | lst (l : List D)
  | scr (l : List D)
  | day (r : D) (h s : Int) (l : List D)
  | dic (kvs : List (D × D))

/-- the facts of the text that data lean on -/
structure Md where
  P : Program
  w : World
  K : PySem.W.Frag
  C : Addr
abbrev md (X : Cx) (C : Addr) : Md := ⟨X.prog, X.w, X.K, C⟩

/-- a dict whose keys are nested tuples, its values objects -/
def dN (P : Program) (w : World) (d : Addr) (xs : List (NestedKey × Addr × Addr)) (ep : Nat) : HO := .ext fun h => ∃ o es, h.get? d = some o ∧ o.ExactDict ∧ o.data = .dict es ep ∧
  es.toList = xs.map (fun x => entryOfKey (nestedKind P w) (x.1, x.2.1, Value.ref x.2.2)) ∧ (xs.map (·.1)).Nodup ∧ (d == sysModules) = false ∧ xs.length ≤ sizeLine
mutual
/-- the key of a datum -/
def nk : D → NestedKey
  | .int i => .num i
  | .str s => .text s
  | .tup l => .tup (nks l)
  | _ => .none
def nks : List D → List NestedKey
  | [] => []
  | d :: l => nk d :: nks l
end
def dayF (r h s l : V) : List (Str × V) := putF "stops" l (putF "start" s (putF "home" h (putF "road" r [])))
mutual
inductive Rep (M : Md) (G : Hp) : V → D → Prop
  | non : Rep M G .non .non
  | bl (b : Bool) : Rep M G (.bl b) (.bl b)
  | int (i : Int) : Rep M G (.int i) (.int i)
  | str (s : Str) : Rep M G (.str s) (.str s)
  | tup {a : Addr} {xs : List V} {l : List D} (h : SqT M.K G a xs) (r : Reps M G xs l) : Rep M G (.ref a) (.tup l)
  | lst {a : Addr} {xs : List V} {l : List D} (h : G a = some (.lst xs)) (r : Reps M G xs l) : Rep M G (.ref a) (.lst l)
  | scr {a : Addr} {xs : List V} {l : List D} (h : SqL M.K G a xs) (r : Reps M G xs l) : Rep M G (.ref a) (.scr l)
  | day {a dx : Addr} {vr vl : V} {r : D} {i j : Int} {l : List D} (h : G a = some (.ins M.C dx (dayF vr (.int i) (.int j) vl))) (rr : Rep M G vr r) (rl : Rep M G vl (.lst l)) : Rep M G (.ref a) (.day r i j l)
  | dic {a : Addr} {xs : List (NestedKey × Addr × Addr)} {ep : Nat} {kvs : List (D × D)} (h : G a = some (dN M.P M.w a xs ep)) (r : RepE M G xs kvs) : Rep M G (.ref a) (.dic kvs)
inductive Reps (M : Md) (G : Hp) : List V → List D → Prop
  | nil : Reps M G [] []
  | cons {v : V} {vs : List V} {d : D} {l : List D} (h : Rep M G v d) (r : Reps M G vs l) : Reps M G (v :: vs) (d :: l)
inductive RepE (M : Md) (G : Hp) : List (NestedKey × Addr × Addr) → List (D × D) → Prop
  | nil : RepE M G [] []
  | cons {x : NestedKey × Addr × Addr} {xs : List (NestedKey × Addr × Addr)} {k v : D} {kvs : List (D × D)} (hk : x.1 = nk k) (h1 : Rep M G (.ref x.2.1) k) (h2 : Rep M G (.ref x.2.2) v) (r : RepE M G xs kvs) : RepE M G (x :: xs) ((k, v) :: kvs)
end
/-- the heap grows -/
def Ex (H H' : Hp) : Prop := ∀ a o, H a = some o → H' a = some o
theorem Ex.refl (H : Hp) : Ex H H := fun _ _ h => h
theorem Ex.trans {H H1 H2 : Hp} (a : Ex H H1) (b : Ex H1 H2) : Ex H H2 := fun x o h => b x o (a x o h)
theorem Ex.new {H : Hp} {p : Addr} {o : HO} (h : H p = none) : Ex H (upd H p o) := fun a u e => by
  rw [upd_ne (ne_of_none e h)]
  exact e
theorem Ex.mut {H H' : Hp} {p : Addr} {o : HO} (e : Ex H H') (h : H p = none) : Ex H (upd H' p o) := fun a u ha => by
  rw [upd_ne (ne_of_none ha h)]
  exact e a u ha
theorem Ex.free {H H' : Hp} (e : Ex H H') {p : Addr} (h : H' p = none) : H p = none := by
  cases q : H p with
  | none => rfl
  | some o =>
    rw [e p o q] at h
    cases h
theorem Ex.rd {H H' : Hp} {a : Addr} {u : HO} (e : Ex H H') (h : Rd H a u) : Rd H' a u := by
  rcases h with h | ⟨o, h⟩
  · exact Or.inl (e a _ h)
  · exact Or.inr ⟨o, e a _ h⟩
theorem Ex.sl {K : PySem.W.Frag} {H H' : Hp} {a : Addr} {xs : List V} (e : Ex H H') (h : SqL K H a xs) : SqL K H' a xs := by
  rcases h with h | h
  · exact Or.inl (e.rd h)
  · exact Or.inr h
theorem Ex.st {K : PySem.W.Frag} {H H' : Hp} {a : Addr} {xs : List V} (e : Ex H H') (h : SqT K H a xs) : SqT K H' a xs := by
  rcases h with h | h
  · exact Or.inl (e.rd h)
  · exact Or.inr h
section
variable {M : Md} {G G' : Hp}
mutual
theorem Rep.mono (e : Ex G G') : ∀ {v : V} {d : D}, Rep M G v d → Rep M G' v d
  | _, _, .non => .non
  | _, _, .bl b => .bl b
  | _, _, .int i => .int i
  | _, _, .str s => .str s
  | _, _, .tup h r => .tup (e.st h) (Reps.mono e r)
  | _, _, .lst h r => .lst (e _ _ h) (Reps.mono e r)
  | _, _, .scr h r => .scr (e.sl h) (Reps.mono e r)
  | _, _, .day h rr rl => .day (e _ _ h) (Rep.mono e rr) (Rep.mono e rl)
  | _, _, .dic h r => .dic (e _ _ h) (RepE.mono e r)
theorem Reps.mono (e : Ex G G') : ∀ {vs : List V} {l : List D}, Reps M G vs l → Reps M G' vs l
  | _, _, .nil => .nil
  | _, _, .cons h r => .cons (Rep.mono e h) (Reps.mono e r)
theorem RepE.mono (e : Ex G G') : ∀ {xs : List (NestedKey × Addr × Addr)} {kvs : List (D × D)}, RepE M G xs kvs → RepE M G' xs kvs
  | _, _, .nil => .nil
  | _, _, .cons hk h1 h2 r => .cons hk (Rep.mono e h1) (Rep.mono e h2) (RepE.mono e r)
end
theorem Reps.length : ∀ {vs : List V} {l : List D}, Reps M G vs l → vs.length = l.length
  | _, _, .nil => rfl
  | _, _, .cons _ r => congrArg (· + 1) r.length
theorem Reps.get : ∀ {vs : List V} {l : List D} {i : Nat} {d : D}, Reps M G vs l → l[i]? = some d → ∃ v, vs[i]? = some v ∧ Rep M G v d
  | _, _, _, _, .nil, e => by simp at e
  | _, _, 0, d, .cons (d := d') h _, e => by
    have e' : d' = d := by simpa using e
    exact ⟨_, rfl, e' ▸ h⟩
  | _, _, i + 1, d, .cons _ r, e => by
    obtain ⟨v, h1, h2⟩ := Reps.get (i := i) (d := d) r (by simpa using e)
    exact ⟨v, by simpa using h1, h2⟩
theorem Reps.getV : ∀ {vs : List V} {l : List D} {i : Nat} {v : V}, Reps M G vs l → vs[i]? = some v → ∃ d, l[i]? = some d ∧ Rep M G v d
  | _, _, _, _, .nil, e => by simp at e
  | _, _, 0, v, .cons (v := v') h _, e => by
    have e' : v' = v := by simpa using e
    exact ⟨_, rfl, e' ▸ h⟩
  | _, _, i + 1, v, .cons _ r, e => by
    obtain ⟨d, h1, h2⟩ := Reps.getV (i := i) (v := v) r (by simpa using e)
    exact ⟨d, by simpa using h1, h2⟩
theorem Reps.append : ∀ {vs ws : List V} {l m : List D}, Reps M G vs l → Reps M G ws m → Reps M G (vs ++ ws) (l ++ m)
  | _, _, _, _, .nil, s => s
  | _, _, _, _, .cons h r, s => .cons h (r.append s)
theorem Reps.take : ∀ {vs : List V} {l : List D} (n : Nat), Reps M G vs l → Reps M G (vs.take n) (l.take n)
  | _, _, 0, _ => .nil
  | _, _, _ + 1, .nil => .nil
  | _, _, n + 1, .cons h r => .cons h (Reps.take n r)
theorem Reps.drop : ∀ {vs : List V} {l : List D} (n : Nat), Reps M G vs l → Reps M G (vs.drop n) (l.drop n)
  | _, _, 0, r => r
  | _, _, _ + 1, .nil => .nil
  | _, _, n + 1, .cons _ r => Reps.drop n r
theorem Reps.ints : ∀ {vs : List V} {ns : List Int}, Reps M G vs (ns.map D.int) → vs = ns.map V.int
  | _, [], h => by cases h; rfl
  | _, n :: ns, h => by
    cases h with
    | cons h r =>
      cases h
      rw [Reps.ints (ns := ns) r]
      rfl
theorem Reps.of_ints : ∀ (ns : List Int), Reps M G (ns.map V.int) (ns.map D.int)
  | [] => .nil
  | n :: ns => .cons (.int n) (Reps.of_ints ns)
end

/-! #### the state of a def: what stands still (G), the heap (H), the slots -/
/-- an object that the def alone holds -/
inductive Ow where
  | lst (l : List D)
  | dic (kvs : List (D × D))
  | seen (ks : List Int)
  | ins (x : Addr) (fs : List (Str × D))
inductive RepF (M : Md) (G : Hp) : List (Str × V) → List (Str × D) → Prop
  | nil : RepF M G [] []
  | cons {f : Str} {v : V} {d : D} {vs : List (Str × V)} {fs : List (Str × D)} (h : Rep M G v d) (r : RepF M G vs fs) : RepF M G ((f, v) :: vs) ((f, d) :: fs)
theorem RepF.mono {M : Md} {G G' : Hp} (e : Ex G G') : ∀ {vs : List (Str × V)} {fs : List (Str × D)}, RepF M G vs fs → RepF M G' vs fs
  | _, _, .nil => .nil
  | _, _, .cons h r => .cons (h.mono e) (RepF.mono e r)
def OwnAt (M : Md) (G H : Hp) (p : Addr) : Ow → Prop
  | .lst l => ∃ xs, H p = some (.lst xs) ∧ Reps M G xs l
  | .dic kvs => ∃ xs ep, H p = some (dN M.P M.w p xs ep) ∧ RepE M G xs kvs
  | .seen ks => ∃ kvs : List (Key × V), H p = some (.dK kvs) ∧ kvs.map (·.1) = ks.map Sum.inl ∧ ks.Nodup
  | .ins x fs => p = x ∧ ∃ dx vs, H p = some (.ins M.C dx vs) ∧ RepF M G vs fs
/-- an item of a list or tuple: it stands still, or is a list at q that the def alone holds -/
inductive Itm where
  | st (d : D)
  | ow (q : Addr) (l : List D)
/-- what is known of a slot: nothing; a datum that stands still; .. that stood at the entry; an own object; .. at p, just u; a tuple or own list that holds own lists; a value -/
inductive Sl where
  | un
  | sh (d : D)
  | old (d : D)
  | ow (o : Ow)
  | fix (p : Addr) (u : HO) (o : Ow)
  | nest (a : Addr) (b : Bool) (its : List Itm)
  | raw (v : V)
abbrev DEnv := List Sl

/-- a tuple -/
def IsT (o : HO) : Prop := ∃ xs, o = .tup xs ∨ ∃ ob, o = .frz ob (.tup xs)
/-- what stands at p is none, or a tuple (which never changes) -/
def Free (G : Hp) (p : Addr) : Prop := ∀ o, G p = some o → IsT o
theorem Free.of {G : Hp} {p : Addr} (h : G p = none) : Free G p := fun o e => by
  rw [h] at e
  cases e
/-- growth: the heap's, what stands still grows by new objects and tuples alone -/
structure Grow (G0 H0 G H : Hp) : Prop where
  hh : Ex H0 H
  gg : Ex G0 G
  gh : Ex G H
  nw : ∀ p, Free G0 p → H0 p ≠ none → Free G p
theorem Grow.refl {G H : Hp} (h : Ex G H) : Grow G H G H := ⟨Ex.refl H, Ex.refl G, h, fun _ h _ => h⟩
theorem Ex.ne {H H1 : Hp} (e : Ex H H1) {p : Addr} (h : H p ≠ none) : H1 p ≠ none := fun z => by
  cases q : H p with
  | none => exact h q
  | some o =>
    rw [e p o q] at z
    cases z
theorem Grow.trans {G0 H0 G1 H1 G2 H2 : Hp} (a : Grow G0 H0 G1 H1) (b : Grow G1 H1 G2 H2) : Grow G0 H0 G2 H2 :=
  ⟨a.hh.trans b.hh, a.gg.trans b.gg, b.gh, fun p h1 h2 => b.nw p (a.nw p h1 h2) (a.hh.ne h2)⟩
/-- a new object that stands still -/
theorem Grow.add {G H : Hp} (h : Ex G H) {p : Addr} {o : HO} (n : H p = none) : Grow G H (upd G p o) (upd H p o) := by
  have ng := h.free n
  refine ⟨Ex.new n, Ex.new ng, fun a u e => ?_, fun q h1 h2 => ?_⟩
  · by_cases ha : a = p
    · subst ha
      rw [upd_same] at e ⊢
      exact e
    · rw [upd_ne ha] at e ⊢
      exact h a u e
  · have : q ≠ p := fun z => h2 (z ▸ n)
    intro o e
    rw [upd_ne this] at e
    exact h1 o e
/-- a new object that the def holds alone -/
theorem Grow.own {G H : Hp} (h : Ex G H) {p : Addr} {o : HO} (n : H p = none) : Grow G H G (upd H p o) :=
  ⟨Ex.new n, Ex.refl G, h.trans (Ex.new n), fun _ h _ => h⟩
/-- only the heap grows -/
theorem Grow.heap {G H H' : Hp} (h : Ex G H) (e : Ex H H') : Grow G H G H' := ⟨e, Ex.refl G, h.trans e, fun _ h _ => h⟩

/-- the bases: the heap at the entry, what is wanted of exceptions -/
structure Bs where
  G0 : Hp
  H0 : Hp
  E : St → XK
  ex : DEnv → Addr → Prop

/-- an item of a list or tuple: it stands still, or is a list that the def alone holds -/
def ItsAt (M : Md) (H0 G H : Hp) : List V → List Itm → Prop
  | [], [] => True
  | v :: vs, .st d :: l => Rep M G v d ∧ ItsAt M H0 G H vs l
  | v :: vs, .ow q xs :: l => (v = .ref q ∧ H0 q = none ∧ G q = none ∧ OwnAt M G H q (.lst xs)) ∧ ItsAt M H0 G H vs l
  | _, _ => False
def itOwn : List Itm → List Addr
  | [] => []
  | .st _ :: l => itOwn l
  | .ow q _ :: l => q :: itOwn l
/-- what a slot's value is, by what is known of it -/
def SlOk (M : Md) (B : Bs) (x : Option (Option V)) (G H : Hp) : Sl → Prop
  | .un => True
  | .sh d => ∃ v, x = some (some v) ∧ Rep M G v d
  | .old d => ∃ v, x = some (some v) ∧ Rep M B.H0 v d
  | .ow o => ∃ p, x = some (some (.ref p)) ∧ B.H0 p = none ∧ G p = none ∧ OwnAt M G H p o
  | .fix p u o => x = some (some (.ref p)) ∧ B.H0 p = none ∧ G p = none ∧ H p = some u ∧ OwnAt M G H p o
  | .nest a b its => x = some (some (.ref a)) ∧ (itOwn its).Nodup ∧ (b = true → a ∉ itOwn its) ∧ ∃ vs, ItsAt M B.H0 G H vs its ∧ (if b = true then B.H0 a = none ∧ G a = none ∧ H a = some (.lst vs) else SqT M.K G a vs)
  | .raw v => x = some (some v)
/-- the objects that a slot alone holds -/
def Sl.owns (x : Option (Option V)) (p : Addr) : Sl → Prop
  | .ow _ => x = some (some (.ref p))
  | .fix q _ _ => q = p
  | .nest a b its => (b = true ∧ a = p) ∨ p ∈ itOwn its
  | _ => False
/-- R: what stood still at the last loop's beginning -/
structure Bel (B : Bs) (R : Hp) : Prop where
  gg : Ex B.G0 R
  nw : ∀ p, Free B.G0 p → B.H0 p ≠ none → Free R p
structure Fit (M : Md) (B : Bs) (R : Hp) (σ : St) (G H : Hp) (δ : DEnv) : Prop where
  bel : Bel B R
  len : σ.length = δ.length
  grow : Grow R B.H0 G H
  slot : ∀ (i : Nat) (s : Sl), δ[i]? = some s → SlOk M B σ[i]? G H s
  dist : ∀ (i j : Nat) (a b : Sl) (p : Addr), i ≠ j → δ[i]? = some a → δ[j]? = some b → a.owns σ[i]? p → ¬ b.owns σ[j]? p
section
variable {M : Md} {B : Bs} {R : Hp} {σ : St} {G H G' H' : Hp} {δ : DEnv}
theorem OwnAt.grow {p : Addr} {o : Ow} (g : Grow G H G' H') (h : OwnAt M G H p o) : OwnAt M G' H' p o := by
  cases o with
  | lst l => obtain ⟨xs, a, b⟩ := h; exact ⟨xs, g.hh _ _ a, b.mono g.gg⟩
  | dic kvs => obtain ⟨xs, ep, a, b⟩ := h; exact ⟨xs, ep, g.hh _ _ a, b.mono g.gg⟩
  | seen ks => obtain ⟨xs, a, b⟩ := h; exact ⟨xs, g.hh _ _ a, b⟩
  | ins x fs => obtain ⟨ex, dx, xs, a, b⟩ := h; exact ⟨ex, dx, xs, g.hh _ _ a, b.mono g.gg⟩
theorem OwnAt.notT {p : Addr} {o : Ow} (h : OwnAt M G H p o) : ∃ u, H p = some u ∧ ¬ IsT u := by
  cases o with
  | lst l => obtain ⟨xs, a, b⟩ := h; exact ⟨_, a, fun ⟨_, z⟩ => by rcases z with z | ⟨_, z⟩ <;> cases z⟩
  | dic kvs => obtain ⟨xs, ep, a, b⟩ := h; exact ⟨_, a, fun ⟨_, z⟩ => by rcases z with z | ⟨_, z⟩ <;> cases z⟩
  | seen ks => obtain ⟨xs, a, b⟩ := h; exact ⟨_, a, fun ⟨_, z⟩ => by rcases z with z | ⟨_, z⟩ <;> cases z⟩
  | ins x fs => obtain ⟨ex, dx, xs, a, b⟩ := h; exact ⟨_, a, fun ⟨_, z⟩ => by rcases z with z | ⟨_, z⟩ <;> cases z⟩
theorem OwnAt.some {p : Addr} {o : Ow} (h : OwnAt M G H p o) : H p ≠ none := by
  obtain ⟨u, a, _⟩ := h.notT
  rw [a]
  exact fun z => nomatch z
/-- what the def alone holds stays out of what stands still -/
theorem Grow.out {p : Addr} {u : HO} (g : Grow G H G' H') (h : G p = none) (hu : H p = some u) (nt : ¬ IsT u) : G' p = none := by
  cases e : G' p with
  | none => rfl
  | some o =>
    have h1 := g.nw p (.of h) (by rw [hu]; exact fun z => nomatch z) o e
    have h2 := g.gh p o e
    rw [g.hh p u hu] at h2
    cases h2
    exact absurd h1 nt
theorem OwnAt.out {p : Addr} {o : Ow} (g : Grow G H G' H') (n : G p = none) (h : OwnAt M G H p o) : G' p = none := by
  obtain ⟨u, a, b⟩ := h.notT
  exact g.out n a b
theorem ItsAt.go {H0 : Hp} (g : Grow G H G' H') : ∀ {vs : List V} {l : List Itm}, ItsAt M H0 G H vs l → ItsAt M H0 G' H' vs l
  | [], [], _ => trivial
  | v :: vs, .st d :: l, h => ⟨h.1.mono g.gg, ItsAt.go g h.2⟩
  | v :: vs, .ow q xs :: l, h => ⟨⟨h.1.1, h.1.2.1, h.1.2.2.2.out g h.1.2.2.1, h.1.2.2.2.grow g⟩, ItsAt.go g h.2⟩
  | [], .st _ :: _, h => False.elim h
  | [], .ow _ _ :: _, h => False.elim h
  | _ :: _, [], h => False.elim h
theorem ItsAt.own {H0 : Hp} {p : Addr} : ∀ {vs : List V} {l : List Itm}, ItsAt M H0 G H vs l → p ∈ itOwn l → H0 p = none ∧ G p = none ∧ ∃ xs, OwnAt M G H p (.lst xs)
  | [], [], _, hp => by cases hp
  | v :: vs, .st d :: l, h, hp => ItsAt.own h.2 hp
  | v :: vs, .ow q xs :: l, h, hp => by
    rcases List.mem_cons.mp hp with rfl | hp
    · exact ⟨h.1.2.1, h.1.2.2.1, xs, h.1.2.2.2⟩
    · exact ItsAt.own h.2 hp
  | [], .st _ :: _, h, _ => False.elim h
  | [], .ow _ _ :: _, h, _ => False.elim h
  | _ :: _, [], h, _ => False.elim h
theorem SlOk.go {x : Option (Option V)} {s : Sl} (g : Grow G H G' H') (h : SlOk M B x G H s) : SlOk M B x G' H' s := by
  cases s with
  | un => trivial
  | sh d => obtain ⟨v, a, b⟩ := h; exact ⟨v, a, b.mono g.gg⟩
  | old d => exact h
  | raw v => exact h
  | ow o => obtain ⟨p, a, b, c, d⟩ := h; exact ⟨p, a, b, d.out g c, d.grow g⟩
  | fix p u o => obtain ⟨a, b, c, e, d⟩ := h; exact ⟨a, b, d.out g c, g.hh _ _ e, d.grow g⟩
  | nest a t its =>
    obtain ⟨h1, h2, h5, vs, h3, h4⟩ := h
    refine ⟨h1, h2, h5, vs, h3.go g, ?_⟩
    split
    · rename_i q
      rw [if_pos q] at h4
      exact ⟨h4.1, g.out h4.2.1 h4.2.2 (fun ⟨_, z⟩ => by rcases z with z | ⟨_, z⟩ <;> cases z), g.hh _ _ h4.2.2⟩
    · rename_i q
      rw [if_neg q] at h4
      exact g.gg.st h4
/-- an object that a slot alone holds -/
theorem SlOk.own {x : Option (Option V)} {s : Sl} {p : Addr} (h : SlOk M B x G H s) (o : s.owns x p) : B.H0 p = none ∧ G p = none ∧ H p ≠ none := by
  cases s with
  | un => exact False.elim o
  | sh d => exact False.elim o
  | old d => exact False.elim o
  | raw v => exact False.elim o
  | ow o' =>
    obtain ⟨q, a, b, c, d⟩ := h
    have o : x = some (some (.ref p)) := o
    rw [a] at o
    obtain rfl : q = p := by simpa using o
    exact ⟨b, c, d.some⟩
  | fix q u o' =>
    obtain ⟨a, b, c, e, d⟩ := h
    obtain rfl : q = p := o
    exact ⟨b, c, d.some⟩
  | nest a t its =>
    obtain ⟨h1, h2, h5, vs, h3, h4⟩ := h
    rcases o with ⟨ht, rfl⟩ | o
    · rw [if_pos ht] at h4
      exact ⟨h4.1, h4.2.1, by rw [h4.2.2]; exact fun z => nomatch z⟩
    · obtain ⟨b, c, xs, d⟩ := h3.own o
      exact ⟨b, c, d.some⟩
theorem OwnAt.upd {p q : Addr} {u : HO} {o : Ow} (h : OwnAt M G H q o) (n : q ≠ p) : OwnAt M G (upd H p u) q o := by
  cases o with
  | lst l => obtain ⟨xs, x1, x2⟩ := h; exact ⟨xs, by rw [upd_ne n]; exact x1, x2⟩
  | dic kvs => obtain ⟨xs, ep, x1, x2⟩ := h; exact ⟨xs, ep, by rw [upd_ne n]; exact x1, x2⟩
  | seen ks => obtain ⟨xs, x1, x2⟩ := h; exact ⟨xs, by rw [upd_ne n]; exact x1, x2⟩
  | ins x fs => obtain ⟨ex, dx, xs, x1, x2⟩ := h; exact ⟨ex, dx, xs, by rw [upd_ne n]; exact x1, x2⟩
theorem ItsAt.upd {H0 : Hp} {p : Addr} {u : HO} : ∀ {vs : List V} {l : List Itm}, ItsAt M H0 G H vs l → p ∉ itOwn l → ItsAt M H0 G (upd H p u) vs l
  | [], [], _, _ => trivial
  | v :: vs, .st d :: l, h, n => ⟨h.1, ItsAt.upd h.2 n⟩
  | v :: vs, .ow q xs :: l, h, n => by
    have n' : p ≠ q ∧ p ∉ itOwn l := ⟨fun z => n (z ▸ List.mem_cons_self), fun z => n (List.mem_cons_of_mem _ z)⟩
    exact ⟨⟨h.1.1, h.1.2.1, h.1.2.2.1, h.1.2.2.2.upd (Ne.symm n'.1)⟩, ItsAt.upd h.2 n'.2⟩
  | [], .st _ :: _, h, _ => False.elim h
  | [], .ow _ _ :: _, h, _ => False.elim h
  | _ :: _, [], h, _ => False.elim h
theorem SlOk.upd {x : Option (Option V)} {s : Sl} {p : Addr} {u : HO} (h : SlOk M B x G H s) (n : ¬ s.owns x p) : SlOk M B x G (upd H p u) s := by
  cases s with
  | un => trivial
  | sh d => exact h
  | old d => exact h
  | raw v => exact h
  | ow o =>
    obtain ⟨q, a, b, c, d⟩ := h
    exact ⟨q, a, b, c, d.upd fun z => n (z ▸ a)⟩
  | fix q v o =>
    obtain ⟨a, b, c, e, d⟩ := h
    have nq : q ≠ p := n
    exact ⟨a, b, c, by rw [upd_ne nq]; exact e, d.upd nq⟩
  | nest a t its =>
    obtain ⟨h1, h2, h5, vs, h3, h4⟩ := h
    have n1 : ¬ (t = true ∧ a = p) := fun z => n (.inl z)
    refine ⟨h1, h2, h5, vs, h3.upd fun z => n (.inr z), ?_⟩
    split
    · rename_i q
      rw [if_pos q] at h4
      exact ⟨h4.1, h4.2.1, by rw [upd_ne (fun z => n1 ⟨q, z⟩)]; exact h4.2.2⟩
    · rename_i q
      rw [if_neg q] at h4
      exact h4
theorem Fit.go (N : Fit M B R σ G H δ) (g : Grow G H G' H') : Fit M B R σ G' H' δ :=
  ⟨N.bel, N.len, N.grow.trans g, fun i s e => (N.slot i s e).go g, N.dist⟩
/-- all the growth since the entry -/
theorem Fit.all (N : Fit M B R σ G H δ) : Grow B.G0 B.H0 G H := ⟨N.grow.hh, N.bel.gg.trans N.grow.gg, N.grow.gh, fun p h1 h2 => N.grow.nw p (N.bel.nw p h1 h2) h2⟩
theorem Fit.up (N : Fit M B R σ G H δ) : Bel B G := ⟨N.bel.gg.trans N.grow.gg, N.all.nw⟩
/-- a new root -/
theorem Fit.root (N : Fit M B R σ G H δ) : Fit M B G σ G H δ := ⟨N.up, N.len, ⟨N.grow.hh, Ex.refl G, N.grow.gh, fun _ h _ => h⟩, N.slot, N.dist⟩
theorem Fit.gh (N : Fit M B R σ G H δ) : Ex G H := N.grow.gh
theorem Fit.self (N : Fit M B R σ G H δ) : Grow G H G H := Grow.refl N.gh
/-- the old root again -/
theorem Fit.unroot {σ' : St} {δ' : DEnv} (N0 : Fit M B R σ G H δ) (N : Fit M B G σ' G' H' δ') : Fit M B R σ' G' H' δ' :=
  ⟨N0.bel, N.len, ⟨N.grow.hh, N0.grow.gg.trans N.grow.gg, N.grow.gh, fun p h1 h2 => N.grow.nw p (N0.grow.nw p h1 h2) h2⟩, N.slot, N.dist⟩
theorem Fit.sh (N : Fit M B R σ G H δ) {i : Nat} {d : D} (e : δ[i]? = some (.sh d)) : ∃ v, σ[i]? = some (some v) ∧ Rep M G v d := N.slot i _ e
theorem set_get {α : Type} {l : List α} {i j : Nat} {a b : α} (e : (l.set i a)[j]? = some b) : (i = j ∧ b = a ∧ i < l.length) ∨ (i ≠ j ∧ l[j]? = some b) := by
  rw [List.getElem?_set] at e
  split at e
  · rename_i h
    split at e
    · rename_i h2
      exact .inl ⟨h, (Option.some.inj e).symm, h2⟩
    · cases e
  · rename_i h
    exact .inr ⟨h, e⟩
/-- a slot anew -/
theorem Fit.put (N : Fit M B R σ G H δ) {i : Nat} {x : Option V} {s : Sl} (hs : SlOk M B (some x) G H s) (hd : ∀ (j : Nat) (t : Sl) (p : Addr), i ≠ j → δ[j]? = some t → s.owns (some x) p → ¬ t.owns σ[j]? p) : Fit M B R (σ.set i x) G H (δ.set i s) := by
  refine ⟨N.bel, by rw [List.length_set, List.length_set, N.len], N.grow, fun j t e => ?_, fun j k a b p hjk h1 h2 h3 h4 => ?_⟩
  · rcases set_get e with ⟨h1, h2, h3⟩ | ⟨h1, h2⟩
    · subst h1 h2
      rw [List.getElem?_set_self (by rw [N.len]; exact h3)]
      exact hs
    · rw [List.getElem?_set_ne h1]
      exact N.slot j t h2
  · rcases set_get h1 with ⟨e1, e2, l1⟩ | ⟨n1, k1⟩
    · subst e1 e2
      rcases set_get h2 with ⟨e3, _, _⟩ | ⟨n2, k2⟩
      · exact hjk e3
      · rw [List.getElem?_set_self (by rw [N.len]; exact l1)] at h3
        rw [List.getElem?_set_ne n2] at h4
        exact hd k b p n2 k2 h3 h4
    · rw [List.getElem?_set_ne n1] at h3
      rcases set_get h2 with ⟨e1, e2, l2⟩ | ⟨n2, k2⟩
      · subst e1 e2
        rw [List.getElem?_set_self (by rw [N.len]; exact l2)] at h4
        exact hd j a p n1 k1 h4 h3
      · rw [List.getElem?_set_ne n2] at h4
        exact N.dist j k a b p hjk k1 k2 h3 h4
theorem Fit.setSh (N : Fit M B R σ G H δ) {i : Nat} {v : V} {d : D} (r : Rep M G v d) : Fit M B R (σ.set i (some v)) G H (δ.set i (.sh d)) := N.put ⟨v, rfl, r⟩ fun _ _ _ _ _ z => False.elim z
theorem Fit.setUn (N : Fit M B R σ G H δ) {i : Nat} {x : Option V} : Fit M B R (σ.set i x) G H (δ.set i .un) := N.put trivial fun _ _ _ _ _ z => False.elim z
theorem Fit.setRaw (N : Fit M B R σ G H δ) {i : Nat} {v : V} : Fit M B R (σ.set i (some v)) G H (δ.set i (.raw v)) := N.put rfl fun _ _ _ _ _ z => False.elim z
/-- what is new is held by no slot -/
theorem Fit.fresh (N : Fit M B R σ G H δ) {p : Addr} (n : H p = none) {j : Nat} {t : Sl} (h : δ[j]? = some t) : ¬ t.owns σ[j]? p := fun z => ((N.slot j t h).own z).2.2 n
/-- a slot takes a new object that the def holds alone -/
theorem Fit.setOw (N : Fit M B R σ G H δ) {i : Nat} {p : Addr} {o : Ow} (g : Grow G H G' H') (n : H p = none) (n' : G' p = none) (r : OwnAt M G' H' p o) : Fit M B R (σ.set i (some (.ref p))) G' H' (δ.set i (.ow o)) := by
  refine (N.go g).put ⟨p, rfl, N.grow.hh.free n, n', r⟩ fun j t q hij h h2 => ?_
  have h2 : some (some (V.ref p)) = some (some (V.ref q)) := h2
  obtain rfl : p = q := by simpa using h2
  exact N.fresh n h
/-- a slot takes a list or tuple that holds new lists -/
theorem Fit.setNest (N : Fit M B R σ G H δ) {i : Nat} {a : Addr} {b : Bool} {its : List Itm} (g : Grow G H G' H') (n : ∀ p ∈ itOwn its, H p = none) (na : b = true → H a = none) (r : SlOk M B (some (some (.ref a))) G' H' (.nest a b its)) : Fit M B R (σ.set i (some (.ref a))) G' H' (δ.set i (.nest a b its)) := by
  refine (N.go g).put r fun j t q hij h h2 => ?_
  rcases h2 with ⟨h2, rfl⟩ | h2
  · exact N.fresh (na h2) h
  · exact N.fresh (n q h2) h
/-- what a slot is known to be, said otherwise -/
theorem Fit.say (N : Fit M B R σ G H δ) {i : Nat} {s t : Sl} (e : δ[i]? = some s) (ht : SlOk M B σ[i]? G H t) (ho : ∀ p, t.owns σ[i]? p → s.owns σ[i]? p) : Fit M B R σ G H (δ.set i t) := by
  refine ⟨N.bel, by rw [List.length_set, N.len], N.grow, fun j u ej => ?_, fun j k a b p hjk h1 h2 h3 h4 => ?_⟩
  · rcases set_get ej with ⟨h1, h2, h3⟩ | ⟨h1, h2⟩
    · subst h1 h2
      exact ht
    · exact N.slot j u h2
  · rcases set_get h1 with ⟨e1, e2, l1⟩ | ⟨n1, k1⟩
    · subst e1 e2
      rcases set_get h2 with ⟨e3, _, _⟩ | ⟨n2, k2⟩
      · exact hjk e3
      · exact N.dist i k _ _ p hjk e k2 (ho p h3) h4
    · rcases set_get h2 with ⟨e1, e2, l2⟩ | ⟨n2, k2⟩
      · subst e1 e2
        exact N.dist j i _ _ p n1.symm k1 e h3 (ho p h4)
      · exact N.dist j k a b p hjk k1 k2 h3 h4
/-- an object that slot i alone holds changes -/
theorem Fit.chg (N : Fit M B R σ G H δ) {i : Nat} {p : Addr} {s t : Sl} {u : HO} (e : δ[i]? = some s) (hp : s.owns σ[i]? p) (ht : SlOk M B σ[i]? G (upd H p u) t) (ho : ∀ q, t.owns σ[i]? q → s.owns σ[i]? q) : Fit M B R σ G (upd H p u) (δ.set i t) := by
  obtain ⟨h2, h3, h4⟩ := (N.slot i _ e).own hp
  refine ⟨N.bel, by rw [List.length_set, N.len], ⟨N.grow.hh.mut h2, N.grow.gg, N.gh.mut h3, N.grow.nw⟩, fun j v ej => ?_, fun j k a b q hjk h1 h2 h3 h4 => ?_⟩
  · rcases set_get ej with ⟨g1, g2, g3⟩ | ⟨g1, g2⟩
    · subst g1 g2
      exact ht
    · exact (N.slot j v g2).upd (N.dist i j _ _ p g1 e g2 hp)
  · rcases set_get h1 with ⟨e1, e2, l1⟩ | ⟨n1, k1⟩
    · subst e1 e2
      rcases set_get h2 with ⟨e3, _, _⟩ | ⟨n2, k2⟩
      · exact hjk e3
      · exact N.dist i k _ _ q hjk e k2 (ho q h3) h4
    · rcases set_get h2 with ⟨e1, e2, l2⟩ | ⟨n2, k2⟩
      · subst e1 e2
        exact N.dist j i _ _ q n1.symm k1 e h3 (ho q h4)
      · exact N.dist j k a b q hjk k1 k2 h3 h4
/-- the object of an own slot changes -/
theorem Fit.write (N : Fit M B R σ G H δ) {i : Nat} {p : Addr} {a o : Ow} {u : HO} (e : δ[i]? = some (.ow a)) (es : σ[i]? = some (some (.ref p))) (r : OwnAt M G (upd H p u) p o) : Fit M B R σ G (upd H p u) (δ.set i (.ow o)) := by
  obtain ⟨q, h1, h2, h3, h4⟩ := N.slot i _ e
  have : q = p := by rw [h1] at es; simpa using es
  subst this
  exact N.chg e h1 ⟨q, h1, h2, h3, r⟩ fun _ z => z
end
/-! #### data of tuples alone can be made known -/
mutual
def D.tp : D → Bool
  | .non | .bl _ | .int _ | .str _ => true
  | .tup l => tps l
  | _ => false
def tps : List D → Bool
  | [] => true
  | d :: l => d.tp && tps l
end
section
variable {M : Md} {G H : Hp}
mutual
theorem Rep.pub : ∀ {v : V} {d : D}, Rep M H v d → d.tp = true → ∀ {G : Hp}, Ex G H → ∃ G', Grow G H G' H ∧ Rep M G' v d
  | _, _, .non, _, G, e => ⟨G, Grow.refl e, .non⟩
  | _, _, .bl b, _, G, e => ⟨G, Grow.refl e, .bl b⟩
  | _, _, .int i, _, G, e => ⟨G, Grow.refl e, .int i⟩
  | _, _, .str i, _, G, e => ⟨G, Grow.refl e, .str i⟩
  | _, _, .tup (a := a) (xs := xs) (l := l) h r, q, G, e => by
    have q : tps l = true := q
    obtain ⟨G1, g1, r1⟩ := Reps.pub r q e
    have key : ∀ o : HO, H a = some o → IsT o → Grow G H (upd G1 a o) H ∧ Ex G1 (upd G1 a o) := fun o ho ht => by
      have ex : Ex G1 (upd G1 a o) := fun b u hb => by
        by_cases hab : b = a
        · subst hab
          rw [g1.gh b u hb] at ho
          cases ho
          exact upd_same
        · rw [upd_ne hab]
          exact hb
      refine ⟨⟨Ex.refl H, g1.gg.trans ex, fun b u hb => ?_, fun p h1 h2 => ?_⟩, ex⟩
      · by_cases hab : b = a
        · subst hab
          rw [upd_same] at hb
          cases hb
          exact ho
        · rw [upd_ne hab] at hb
          exact g1.gh b u hb
      · intro u hu
        by_cases hab : p = a
        · subst hab
          rw [upd_same] at hu
          cases hu
          exact ht
        · rw [upd_ne hab] at hu
          exact g1.nw p h1 h2 u hu
    rcases h with (h | ⟨ob, h⟩) | h
    · obtain ⟨k1, k2⟩ := key _ h ⟨xs, .inl rfl⟩
      exact ⟨_, k1, .tup (.of upd_same) (r1.mono k2)⟩
    · obtain ⟨k1, k2⟩ := key _ h ⟨xs, .inr ⟨ob, rfl⟩⟩
      exact ⟨_, k1, .tup (.inl (.inr ⟨ob, upd_same⟩)) (r1.mono k2)⟩
    · exact ⟨G1, g1, .tup (.inr h) r1⟩
  | _, _, .lst _ _, q, _, _ => by cases q
  | _, _, .scr _ _, q, _, _ => by cases q
  | _, _, .day _ _ _, q, _, _ => by cases q
  | _, _, .dic _ _, q, _, _ => by cases q
theorem Reps.pub : ∀ {vs : List V} {l : List D}, Reps M H vs l → tps l = true → ∀ {G : Hp}, Ex G H → ∃ G', Grow G H G' H ∧ Reps M G' vs l
  | _, _, .nil, _, G, e => ⟨G, Grow.refl e, .nil⟩
  | _, _, .cons (d := d) (l := l) h r, q, G, e => by
    have q : (d.tp && tps l) = true := q
    rw [Bool.and_eq_true] at q
    obtain ⟨G1, g1, r1⟩ := Rep.pub h q.1 e
    obtain ⟨G2, g2, r2⟩ := Reps.pub r q.2 g1.gh
    exact ⟨G2, g1.trans g2, .cons (r1.mono g2.gg) r2⟩
end
theorem RepE.pub : ∀ {xs : List (NestedKey × Addr × Addr)} {kvs : List (D × D)}, RepE M H xs kvs → (∀ p ∈ kvs, p.1.tp = true ∧ p.2.tp = true) → ∀ {G : Hp}, Ex G H → ∃ G', Grow G H G' H ∧ RepE M G' xs kvs
  | _, _, .nil, _, G, e => ⟨G, Grow.refl e, .nil⟩
  | _, _, .cons hk h1 h2 r, q, G, e => by
    obtain ⟨q1, q2⟩ := q _ List.mem_cons_self
    obtain ⟨G1, g1, r1⟩ := Rep.pub h1 q1 e
    obtain ⟨G2, g2, r2⟩ := Rep.pub h2 q2 g1.gh
    obtain ⟨G3, g3, r3⟩ := RepE.pub r (fun p hp => q p (List.mem_cons_of_mem _ hp)) g2.gh
    exact ⟨G3, (g1.trans g2).trans g3, .cons hk (r1.mono (g2.trans g3).gg) (r2.mono g3.gg) r3⟩
end
theorem tps_all {l : List D} : tps l = true ↔ ∀ d ∈ l, d.tp = true := by
  induction l with
  | nil => simp [tps]
  | cons a l ih => simp [tps, ih]
theorem tps_ints (l : List Int) : tps (l.map .int) = true := tps_all.mpr fun d hd => by
  obtain ⟨i, _, rfl⟩ := List.mem_map.mp hd
  rfl
end Rv

/-! ### Part B: what an expression comes to -/
namespace Rv
open PySem L2

/-- what a place in the code knows -/
structure XOk (X : Cx) (C : Addr) (B : Bs) (k : Nat) : Prop where
  calm : X.calm = true
  nd : X.N.Nodup
  hr : Room k X.A
  tk : X.stack = X.env :: X.outer → Takes X (fun cls d σ H => B.E σ cls d H)
  pa : ∀ σ : St, PassesAt (L2.CX X.prog X.w) X σ (B.E σ)
  po : X.stack = X.env :: X.outer → PassesOwn (model X.prog X.w) X.A X.env X.xe
  hex : ∀ (R : Hp) (δ : DEnv) (σ : St) (G H H' : Hp) (c : Addr), B.ex δ c → Fit (md X C) B R σ G H δ → Ex H H' → B.E σ (.ref c) none H'

/-- e comes to the datum d, which stands still -/
structure DE (X : Cx) (C : Addr) (B : Bs) (δ : DEnv) (e : Expr) (d : D) : Prop where
  run : ∀ (R : Hp) (σ : St) (G H : Hp) (Q : VK), Fit (md X C) B R σ G H δ →
  (∀ v G' H', Grow G H G' H' → Rep (md X C) G' v d → Q v H') → WE X e σ H Q
/-- e comes to d, as it stands now -/
structure DW (X : Cx) (C : Addr) (B : Bs) (δ : DEnv) (e : Expr) (d : D) : Prop where
  run : ∀ (R : Hp) (σ : St) (G H : Hp) (Q : VK), Fit (md X C) B R σ G H δ →
  (∀ v G' H', Grow G H G' H' → Rep (md X C) H' v d → Q v H') → WE X e σ H Q
/-- e comes to a list (its items stand still) -/
structure DL (X : Cx) (C : Addr) (B : Bs) (δ : DEnv) (e : Expr) (l : List D) : Prop where
  run : ∀ (R : Hp) (σ : St) (G H : Hp) (Q : VK), Fit (md X C) B R σ G H δ →
  (∀ p xs G' H', Grow G H G' H' → H' p = some (.lst xs) → Reps (md X C) G' xs l → Q (.ref p) H') → WE X e σ H Q
/-- e comes to a dict with tuple keys (its entries stand still) -/
structure DM (X : Cx) (C : Addr) (B : Bs) (δ : DEnv) (e : Expr) (kvs : List (D × D)) : Prop where
  run : ∀ (R : Hp) (σ : St) (G H : Hp) (Q : VK), Fit (md X C) B R σ G H δ →
  (∀ p xs ep G' H', Grow G H G' H' → H' p = some (dN X.prog X.w p xs ep) → RepE (md X C) G' xs kvs → Q (.ref p) H') → WE X e σ H Q
/-- e comes to a new object -/
structure DO (X : Cx) (C : Addr) (B : Bs) (δ : DEnv) (e : Expr) (o : Ow) : Prop where
  run : ∀ (R : Hp) (σ : St) (G H : Hp) (Q : VK), Fit (md X C) B R σ G H δ →
  (∀ p G' H', Grow G H G' H' → H p = none → G' p = none → OwnAt (md X C) G' H' p o → Q (.ref p) H') → WE X e σ H Q
/-- e raises what may be raised -/
structure DX (X : Cx) (C : Addr) (B : Bs) (δ : DEnv) (e : Expr) : Prop where
  run : ∀ (R : Hp) (σ : St) (G H : Hp) (Q : VK), Fit (md X C) B R σ G H δ → WE X e σ H Q
structure DT (X : Cx) (C : Addr) (B : Bs) (δ : DEnv) (e : Expr) (b : Bool) : Prop where
  run : ∀ (R : Hp) (σ : St) (G H : Hp) (Q : Bool → Hp → Prop), Fit (md X C) B R σ G H δ →
  (∀ G' H', Grow G H G' H' → Q b H') → WT X e σ H Q
structure DTW (X : Cx) (C : Addr) (B : Bs) (δ : DEnv) (e : Expr) (b : Bool) : Prop where
  run : ∀ (R : Hp) (σ : St) (G H : Hp) (Q : Bool → Hp → Prop), Fit (md X C) B R σ G H δ →
  (∀ G' H', Grow G H G' H' → Q b H') → WW X e σ H Q
/-- arguments; they stand still, or as they stand now -/
structure DA (X : Cx) (C : Addr) (B : Bs) (δ : DEnv) (es : List Expr) (l : List D) : Prop where
  run : ∀ (R : Hp) (σ : St) (G H : Hp) (Q : List V → Hp → Prop), Fit (md X C) B R σ G H δ →
  (∀ vs G' H', Grow G H G' H' → Reps (md X C) G' vs l → Q vs H') → WA X es σ H Q
structure DAW (X : Cx) (C : Addr) (B : Bs) (δ : DEnv) (es : List Expr) (l : List D) : Prop where
  run : ∀ (R : Hp) (σ : St) (G H : Hp) (Q : List V → Hp → Prop), Fit (md X C) B R σ G H δ →
  (∀ vs G' H', Grow G H G' H' → Reps (md X C) H' vs l → Q vs H') → WA X es σ H Q

def D.flat : D → Bool
  | .non | .bl _ | .int _ | .str _ => true
  | _ => false
theorem Rep.flat {M : Md} {G G' : Hp} {v : V} {d : D} (h : Rep M G v d) (f : d.flat = true) : Rep M G' v d := by
  cases h with
  | non => exact .non
  | bl b => exact .bl b
  | int i => exact .int i
  | str s => exact .str s
  | tup _ _ => exact absurd f Bool.false_ne_true
  | lst _ _ => exact absurd f Bool.false_ne_true
  | scr _ _ => exact absurd f Bool.false_ne_true
  | day _ _ _ => exact absurd f Bool.false_ne_true
  | dic _ _ => exact absurd f Bool.false_ne_true
theorem Rep.i {M : Md} {G : Hp} {v : V} {i : Int} (h : Rep M G v (.int i)) : v = .int i := by cases h; rfl
theorem Rep.s {M : Md} {G : Hp} {v : V} {i : Str} (h : Rep M G v (.str i)) : v = .str i := by cases h; rfl
theorem Rep.b {M : Md} {G : Hp} {v : V} {i : Bool} (h : Rep M G v (.bl i)) : v = .bl i := by cases h; rfl
theorem Rep.t {M : Md} {G : Hp} {v : V} {l : List D} (h : Rep M G v (.tup l)) : ∃ a xs, v = .ref a ∧ SqT M.K G a xs ∧ Reps M G xs l := by cases h with | tup h r => exact ⟨_, _, rfl, h, r⟩
theorem Rep.l {M : Md} {G : Hp} {v : V} {l : List D} (h : Rep M G v (.lst l)) : ∃ a xs, v = .ref a ∧ G a = some (.lst xs) ∧ Reps M G xs l := by cases h with | lst h r => exact ⟨_, _, rfl, h, r⟩
theorem Rep.sc {M : Md} {G : Hp} {v : V} {l : List D} (h : Rep M G v (.scr l)) : ∃ a xs, v = .ref a ∧ SqL M.K G a xs ∧ Reps M G xs l := by cases h with | scr h r => exact ⟨_, _, rfl, h, r⟩
theorem Rep.m {M : Md} {G : Hp} {v : V} {l : List (D × D)} (h : Rep M G v (.dic l)) : ∃ a xs ep, v = .ref a ∧ G a = some (dN M.P M.w a xs ep) ∧ RepE M G xs l := by cases h with | dic h r => exact ⟨_, _, _, rfl, h, r⟩

section
variable {X : Cx} {C : Addr} {B : Bs} {δ : DEnv} {e a b c : Expr} {es : List Expr} {d da db : D} {pos : Pos} {k : Nat}
theorem DE.w (h : DE X C B δ e d) : DW X C B δ e d := ⟨fun R σ G H Q N q => h.run R σ G H Q N fun v G' H' g r => q v G' H' g (r.mono g.gh)⟩
theorem DW.s (h : DW X C B δ e d) (f : d.flat = true) : DE X C B δ e d := ⟨fun R σ G H Q N q => h.run R σ G H Q N fun v G' H' g r => q v G' H' g (r.flat f)⟩
theorem DE.l {l : List D} (h : DE X C B δ e (.lst l)) : DL X C B δ e l := ⟨fun R σ G H Q N q => h.run R σ G H Q N fun v G' H' g r => by
  obtain ⟨a, xs, rfl, hs, hr⟩ := r.l
  exact q _ _ G' H' g (g.gh _ _ hs) hr⟩
theorem DL.w {l : List D} (h : DL X C B δ e l) : DW X C B δ e (.lst l) := ⟨fun R σ G H Q N q => h.run R σ G H Q N fun p xs G' H' g r1 r2 => q _ G' H' g (.lst r1 (r2.mono g.gh))⟩
theorem DE.m {l : List (D × D)} (h : DE X C B δ e (.dic l)) : DM X C B δ e l := ⟨fun R σ G H Q N q => h.run R σ G H Q N fun v G' H' g r => by
  obtain ⟨a, xs, ep, rfl, hs, hr⟩ := r.m
  exact q _ _ ep G' H' g (g.gh _ _ hs) hr⟩
theorem DM.w {l : List (D × D)} (h : DM X C B δ e l) : DW X C B δ e (.dic l) := ⟨fun R σ G H Q N q => h.run R σ G H Q N fun p xs ep G' H' g r1 r2 => q _ G' H' g (.dic r1 (r2.mono g.gh))⟩
/-- a new object made known -/
theorem Grow.publish {G H G' H' : Hp} (g : Grow G H G' H') {p : Addr} {o : HO} (n : H p = none) (n' : G' p = none) (h : H' p = some o) : Grow G H (upd G' p o) H' := by
  have ng := g.gg.free n'
  refine ⟨g.hh, fun a u e => ?_, fun a u e => ?_, fun q h1 h2 => ?_⟩
  · rw [upd_ne (ne_of_none e ng)]
    exact g.gg a u e
  · by_cases ha : a = p
    · subst ha
      rw [upd_same] at e
      cases e
      exact h
    · rw [upd_ne ha] at e
      exact g.gh a u e
  · have nq : q ≠ p := fun z => by subst z; exact h2 n
    intro u hu
    rw [upd_ne nq] at hu
    exact g.nw q h1 h2 u hu
/-- data of tuples alone: as they stand now they stand still -/
theorem DW.st {X : Cx} {C : Addr} {B : Bs} {δ : DEnv} {e : Expr} {d : D} (h : DW X C B δ e d) (f : d.tp = true := by rfl) : DE X C B δ e d := ⟨fun R σ G H Q N q => h.run R σ G H Q N fun v G' H' g r => by
  obtain ⟨G2, g2, r2⟩ := r.pub f g.gh
  exact q v G2 H' (g.trans g2) r2⟩
theorem DAW.st {X : Cx} {C : Addr} {B : Bs} {δ : DEnv} {es : List Expr} {l : List D} (h : DAW X C B δ es l) (f : tps l = true := by rfl) : DA X C B δ es l := ⟨fun R σ G H Q N q => h.run R σ G H Q N fun v G' H' g r => by
  obtain ⟨G2, g2, r2⟩ := r.pub f g.gh
  exact q v G2 H' (g.trans g2) r2⟩
theorem DO.s {l : List D} (h : DO X C B δ e (.lst l)) : DE X C B δ e (.lst l) := ⟨fun R σ G H Q N q => h.run R σ G H Q N fun p G' H' g n n' r => by
  obtain ⟨xs, h1, h2⟩ := r
  exact q _ (upd G' p (.lst xs)) H' (g.publish n n' h1) (.lst upd_same (h2.mono (Ex.new n')))⟩
theorem DO.m {l : List (D × D)} (h : DO X C B δ e (.dic l)) : DE X C B δ e (.dic l) := ⟨fun R σ G H Q N q => h.run R σ G H Q N fun p G' H' g n n' r => by
  obtain ⟨xs, ep, h1, h2⟩ := r
  exact q _ (upd G' p (dN X.prog X.w p xs ep)) H' (g.publish n n' h1) (.dic upd_same (h2.mono (Ex.new n')))⟩
theorem DO.l {l : List D} (h : DO X C B δ e (.lst l)) : DL X C B δ e l := h.s.l
theorem DE.eq {d' : D} (h : DE X C B δ e d) (q : d = d') : DE X C B δ e d' := q ▸ h
theorem DT.eq {b b' : Bool} (h : DT X C B δ e b) (q : b = b') : DT X C B δ e b' := q ▸ h

/-! names and constants -/
theorem de_var (i : Nat) {x : Str} (h : δ[i]? = some (.sh d)) (hN : X.N[i]? = some x := by rfl) (hv : Vis X.env.scope x := by first | exact Or.inl rfl | exact Or.inr (Or.inl rfl) | exact Or.inr (Or.inr rfl))
    (hd : (x == ("__debug__" : Str)) = false := by decide) (hcd : (x == ("__classdict__" : Str)) = false := by decide) : DE X C B δ (.Name x pos) d := ⟨fun R σ G H Q N q => by
  obtain ⟨v, h1, h2⟩ := N.sh h
  exact we (pe_var hN hv hd hcd) ⟨v, h1, q v G H N.self h2⟩⟩
theorem dl_own (i : Nat) {l : List D} {x : Str} (h : δ[i]? = some (.ow (.lst l))) (hN : X.N[i]? = some x := by rfl) (hv : Vis X.env.scope x := by first | exact Or.inl rfl | exact Or.inr (Or.inl rfl) | exact Or.inr (Or.inr rfl))
    (hd : (x == ("__debug__" : Str)) = false := by decide) (hcd : (x == ("__classdict__" : Str)) = false := by decide) : DL X C B δ (.Name x pos) l := ⟨fun R σ G H Q N q => by
  obtain ⟨p, h1, h2, h3, xs, h4, h5⟩ := N.slot i _ h
  exact we (pe_var hN hv hd hcd) ⟨_, h1, q p xs G H N.self h4 h5⟩⟩
theorem dm_own (i : Nat) {l : List (D × D)} {x : Str} (h : δ[i]? = some (.ow (.dic l))) (hN : X.N[i]? = some x := by rfl) (hv : Vis X.env.scope x := by first | exact Or.inl rfl | exact Or.inr (Or.inl rfl) | exact Or.inr (Or.inr rfl))
    (hd : (x == ("__debug__" : Str)) = false := by decide) (hcd : (x == ("__classdict__" : Str)) = false := by decide) : DM X C B δ (.Name x pos) l := ⟨fun R σ G H Q N q => by
  obtain ⟨p, h1, h2, h3, xs, ep, h4, h5⟩ := N.slot i _ h
  exact we (pe_var hN hv hd hcd) ⟨_, h1, q p xs ep G H N.self h4 h5⟩⟩
theorem dw_old (i : Nat) {d : D} {x : Str} (h : δ[i]? = some (.old d)) (hN : X.N[i]? = some x := by rfl) (hv : Vis X.env.scope x := by first | exact Or.inl rfl | exact Or.inr (Or.inl rfl) | exact Or.inr (Or.inr rfl))
    (hd : (x == ("__debug__" : Str)) = false := by decide) (hcd : (x == ("__classdict__" : Str)) = false := by decide) : DW X C B δ (.Name x pos) d := ⟨fun R σ G H Q N q => by
  obtain ⟨v, h1, h2⟩ := N.slot i _ h
  exact we (pe_var hN hv hd hcd) ⟨v, h1, q v G H N.self (h2.mono N.grow.hh)⟩⟩
theorem dl_fix (i : Nat) {p : Addr} {u : HO} {l : List D} {x : Str} (h : δ[i]? = some (.fix p u (.lst l))) (hN : X.N[i]? = some x := by rfl) (hv : Vis X.env.scope x := by first | exact Or.inl rfl | exact Or.inr (Or.inl rfl) | exact Or.inr (Or.inr rfl))
    (hd : (x == ("__debug__" : Str)) = false := by decide) (hcd : (x == ("__classdict__" : Str)) = false := by decide) : DL X C B δ (.Name x pos) l := ⟨fun R σ G H Q N q => by
  obtain ⟨h1, h2, h3, h6, xs, h4, h5⟩ := N.slot i _ h
  exact we (pe_var hN hv hd hcd) ⟨_, h1, q p xs G H N.self h4 h5⟩⟩
theorem dm_fix (i : Nat) {p : Addr} {u : HO} {l : List (D × D)} {x : Str} (h : δ[i]? = some (.fix p u (.dic l))) (hN : X.N[i]? = some x := by rfl) (hv : Vis X.env.scope x := by first | exact Or.inl rfl | exact Or.inr (Or.inl rfl) | exact Or.inr (Or.inr rfl))
    (hd : (x == ("__debug__" : Str)) = false := by decide) (hcd : (x == ("__classdict__" : Str)) = false := by decide) : DM X C B δ (.Name x pos) l := ⟨fun R σ G H Q N q => by
  obtain ⟨h1, h2, h3, h6, xs, ep, h4, h5⟩ := N.slot i _ h
  exact we (pe_var hN hv hd hcd) ⟨_, h1, q p xs ep G H N.self h4 h5⟩⟩
/-- the items of a list or tuple, as they stand now -/
def itD : Itm → D
  | .st d => d
  | .ow _ l => .lst l
theorem ItsAt.now {M : Md} {H0 G H : Hp} (e : Ex G H) : ∀ {vs : List V} {l : List Itm}, ItsAt M H0 G H vs l → Reps M H vs (l.map itD)
  | [], [], _ => .nil
  | v :: vs, .st d :: l, h => .cons (h.1.mono e) (ItsAt.now e h.2)
  | v :: vs, .ow q xs :: l, h => by
    obtain ⟨⟨rfl, _, _, ys, a, b⟩, h2⟩ := h
    exact .cons (.lst a (b.mono e)) (ItsAt.now e h2)
  | [], .st _ :: _, h => False.elim h
  | [], .ow _ _ :: _, h => False.elim h
  | _ :: _, [], h => False.elim h
/-- a list or tuple that holds own lists, as it stands now -/
theorem dw_nest (i : Nat) {a : Addr} {b : Bool} {its : List Itm} {x : Str} (h : δ[i]? = some (.nest a b its)) (hN : X.N[i]? = some x := by rfl) (hv : Vis X.env.scope x := by first | exact Or.inl rfl | exact Or.inr (Or.inl rfl) | exact Or.inr (Or.inr rfl))
    (hd : (x == ("__debug__" : Str)) = false := by decide) (hcd : (x == ("__classdict__" : Str)) = false := by decide) : DW X C B δ (.Name x pos) (if b = true then .lst (its.map itD) else .tup (its.map itD)) := ⟨fun R σ G H Q N q => by
  obtain ⟨h1, h2, h5, vs, h3, h4⟩ := N.slot i _ h
  refine we (pe_var hN hv hd hcd) ⟨_, h1, q _ G H N.self ?_⟩
  cases b with
  | true =>
    rw [if_pos rfl] at h4 ⊢
    exact .lst h4.2.2 (h3.now N.gh)
  | false =>
    rw [if_neg Bool.false_ne_true] at h4 ⊢
    exact .tup (N.gh.st h4) (h3.now N.gh)⟩
theorem de_int {i : Int} {j : Nat} : DE X C B δ (.Constant (.int i) j pos) (.int i) := ⟨fun R σ G H Q N q => we pe_int (q _ G H N.self (.int i))⟩
theorem de_bl {i : Bool} {j : Nat} : DE X C B δ (.Constant (.bool i) j pos) (.bl i) := ⟨fun R σ G H Q N q => we pe_bl (q _ G H N.self (.bl i))⟩
theorem de_non {j : Nat} : DE X C B δ (.Constant .none j pos) .non := ⟨fun R σ G H Q N q => we pe_non (q _ G H N.self .non)⟩
theorem de_str {s : Str} {j : Nat} : DE X C B δ (.Constant (.str s) j pos) (.str s) := ⟨fun R σ G H Q N q => we pe_str (q _ G H N.self (.str s))⟩
theorem de_globI {x : Str} {i : Int} {t : Tok} (hm : X.mg x = some (.int i t)) (hg : Gl X x := by rfl) (hd : (x == ("__debug__" : Str)) = false := by decide) : DE X C B δ (.Name x pos) (.int i) := ⟨fun R σ G H Q N q =>
  we (pe_glob (v := .int i) hg hm ⟨t, rfl⟩ hd) (q (.int i) G H N.self (.int i))⟩
theorem de_globS {x : Str} {i : Str} {t : Tok} (hm : X.mg x = some (.str i t)) (hg : Gl X x := by rfl) (hd : (x == ("__debug__" : Str)) = false := by decide) : DE X C B δ (.Name x pos) (.str i) := ⟨fun R σ G H Q N q =>
  we (pe_glob (v := .str i) hg hm ⟨t, rfl⟩ hd) (q (.str i) G H N.self (.str i))⟩

/-! two expressions in a row -/
theorem d2 (ha : DE X C B δ a da) (hb : DE X C B δ b db) {r : R2} {R : Hp} {σ : St} {G H : Hp} {Q : VK} (N : Fit (md X C) B R σ G H δ)
    (h : ∀ x y G' H', Grow G H G' H' → Rep (md X C) G' x da → Rep (md X C) G' y db → r x y H' Q) : tOp r (WE X a) (WE X b) σ H Q :=
  ha.run R σ G H _ N fun x G1 H1 g1 r1 => hb.run R σ G1 H1 _ (N.go g1) fun y G2 H2 g2 r2 => h x y G2 H2 (g1.trans g2) (r1.mono g2.gg) r2
/-- an operation on two ints -/
theorem de_ii {op : Operator} {r : R2} {i j : Int} (ho : OpR X (binaryOp op) r) (ha : DE X C B δ a (.int i)) (hb : DE X C B δ b (.int j)) (hr : ∀ (H : Hp) (Q : VK), (∀ v, Rep (md X C) H v d → Q v H) → r (.int i) (.int j) H Q) (f : d.flat = true) :
    DE X C B δ (.BinOp a op b pos) d := ⟨fun R σ G H Q N q =>
  we (pe_op ho pe_we pe_we) (d2 ha hb N fun x y G' H' g r1 r2 => by
    obtain rfl := r1.i
    obtain rfl := r2.i
    exact hr H' Q fun v rv => q v G' H' g (rv.flat f))⟩
theorem de_add {i j : Int} (ha : DE X C B δ a (.int i)) (hb : DE X C B δ b (.int j)) : DE X C B δ (.BinOp a .Add b pos) (.int (i + j)) := de_ii op_add ha hb (fun H Q q => ⟨i, j, rfl, rfl, q _ (.int _)⟩) rfl
theorem de_sub {i j : Int} (ha : DE X C B δ a (.int i)) (hb : DE X C B δ b (.int j)) : DE X C B δ (.BinOp a .Sub b pos) (.int (i - j)) := de_ii op_sub ha hb (fun H Q q => ⟨i, j, rfl, rfl, q _ (.int _)⟩) rfl
theorem de_mul {i j : Int} (ha : DE X C B δ a (.int i)) (hb : DE X C B δ b (.int j)) (h : CMul i j) : DE X C B δ (.BinOp a .Mult b pos) (.int (i * j)) := de_ii op_mul ha hb (fun H Q q => ⟨i, j, rfl, rfl, h, q _ (.int _)⟩) rfl
theorem de_fdiv {i j : Int} (ha : DE X C B δ a (.int i)) (hb : DE X C B δ b (.int j)) (h : CDiv i j := by exact ⟨by decide, by decide⟩) : DE X C B δ (.BinOp a .FloorDiv b pos) (.int (i / j)) := de_ii op_fdiv ha hb (fun H Q q => ⟨i, j, rfl, rfl, h, q _ (.int _)⟩) rfl
theorem de_mod {i j : Int} (ha : DE X C B δ a (.int i)) (hb : DE X C B δ b (.int j)) (h : 0 < j := by decide) : DE X C B δ (.BinOp a .Mod b pos) (.int (i % j)) := de_ii op_mod ha hb (fun H Q q => ⟨i, j, rfl, rfl, h, q _ (.int _)⟩) rfl
theorem de_pow {i j : Int} (ha : DE X C B δ a (.int i)) (hb : DE X C B δ b (.int j)) (h : CPow i j := by exact ⟨by decide, by decide, by decide⟩) : DE X C B δ (.BinOp a .Pow b pos) (.int (i ^ j.toNat)) := de_ii op_pow ha hb (fun H Q q => ⟨i, j, rfl, rfl, h, q _ (.int _)⟩) rfl
theorem de_powc {i j z : Int} (ha : DE X C B δ a (.int i)) (hb : DE X C B δ b (.int j)) (h : CPow i j) (e : i ^ j.toNat = z) : DE X C B δ (.BinOp a .Pow b pos) (.int z) := e ▸ de_pow ha hb h
theorem de_neg {i : Int} (ha : DE X C B δ a (.int i)) : DE X C B δ (.UnaryOp .USub a pos) (.int (-i)) := ⟨fun R σ G H Q N q =>
  we (pe_un un_neg pe_we) (ha.run R σ G H _ N fun x G' H' g r => by
    obtain rfl := r.i
    exact ⟨i, rfl, q _ G' H' g (.int _)⟩)⟩
theorem de_adds {s t : Str} (ha : DE X C B δ a (.str s)) (hb : DE X C B δ b (.str t)) (h : s.length + t.length ≤ sizeLine) : DE X C B δ (.BinOp a .Add b pos) (.str (s ++ t)) := ⟨fun R σ G H Q N q =>
  we (pe_op op_add_str pe_we pe_we) (d2 ha hb N fun x y G' H' g r1 r2 => by
    obtain rfl := r1.s
    obtain rfl := r2.s
    exact ⟨s, t, rfl, rfl, h, q _ G' H' g (.str _)⟩)⟩

/-! comparisons -/
/-- a comparison's answer -/
def DC (X : Cx) (C : Addr) (B : Bs) (δ : DEnv) (op : CmpOp) (a b : Expr) (k : Bool) : Prop := ∃ r : R2, OpR X (compareOp op) r ∧ behindInMarks op b = false ∧
  ∀ (R : Hp) (σ : St) (G H : Hp) (Q : VK), Fit (md X C) B R σ G H δ → (∀ G' H', Grow G H G' H' → Q (.bl k) H') → tOp r (WE X a) (WE X b) σ H Q
theorem DC.v {op : CmpOp} {k : Bool} (h : DC X C B δ op a b k) : DE X C B δ (.Compare a [op] [b] pos) (.bl k) := ⟨fun R σ G H Q N q => by
  obtain ⟨r, h1, h2, h3⟩ := h
  exact we (pe_cmpR h1 pe_we pe_we h2) (h3 R σ G H Q N fun G' H' g => q _ G' H' g (.bl k))⟩
theorem DC.t {op : CmpOp} {k : Bool} (h : DC X C B δ op a b k) : DT X C B δ (.Compare a [op] [b] pos) k := ⟨fun R σ G H Q N q => by
  obtain ⟨r, h1, h2, h3⟩ := h
  exact wt (pt_cmpR h1 pe_we pe_we h2) (h3 R σ G H _ N fun G' H' g => ⟨k, rfl, q G' H' g⟩)⟩
theorem dc_ii {op : CmpOp} {p : Int → Int → Bool} {i j : Int} (ho : OpR X (compareOp op) (rI0 fun i j => .bl (p i j))) (ha : DE X C B δ a (.int i)) (hb : DE X C B δ b (.int j)) (hn : op ≠ .In := by decide) (hn2 : op ≠ .NotIn := by decide) : DC X C B δ op a b (p i j) :=
  ⟨_, ho, nomark b hn hn2, fun R σ G H Q N q => d2 ha hb N fun x y G' H' g r1 r2 => by
    obtain rfl := r1.i
    obtain rfl := r2.i
    exact ⟨i, j, rfl, rfl, q G' H' g⟩⟩
theorem dc_lt {i j : Int} (ha : DE X C B δ a (.int i)) (hb : DE X C B δ b (.int j)) : DC X C B δ .Lt a b (decide (i < j)) := dc_ii op_lt ha hb
theorem dc_le {i j : Int} (ha : DE X C B δ a (.int i)) (hb : DE X C B δ b (.int j)) : DC X C B δ .LtE a b (decide (i ≤ j)) := dc_ii op_le ha hb
theorem dc_gt {i j : Int} (ha : DE X C B δ a (.int i)) (hb : DE X C B δ b (.int j)) : DC X C B δ .Gt a b (decide (j < i)) := dc_ii (p := fun i j => decide (j < i)) op_gt ha hb
theorem dc_ge {i j : Int} (ha : DE X C B δ a (.int i)) (hb : DE X C B δ b (.int j)) : DC X C B δ .GtE a b (decide (j ≤ i)) := dc_ii (p := fun i j => decide (j ≤ i)) op_ge ha hb
theorem dec_vint {i j : Int} : decide (V.int i = V.int j) = decide (i = j) := by
  by_cases h : i = j
  · subst h; simp
  · rw [decide_eq_false h, decide_eq_false fun z => h (V.int.inj z)]
theorem dec_vstr {i j : Str} : decide (V.str i = V.str j) = decide (i = j) := by
  by_cases h : i = j
  · subst h; simp
  · rw [decide_eq_false h, decide_eq_false fun z => h (V.str.inj z)]
theorem dec_vbl {i j : Bool} : decide (V.bl i = V.bl j) = decide (i = j) := by
  by_cases h : i = j
  · subst h; simp
  · rw [decide_eq_false h, decide_eq_false fun z => h (V.bl.inj z)]
theorem dc_eqI {i j : Int} (ha : DE X C B δ a (.int i)) (hb : DE X C B δ b (.int j)) : DC X C B δ .Eq a b (decide (i = j)) :=
  ⟨_, op_eq, nomark b, fun R σ G H Q N q => d2 ha hb N fun x y G' H' g r1 r2 => by
    obtain rfl := r1.i
    obtain rfl := r2.i
    exact ⟨rfl, by rw [dec_vint]; exact q G' H' g⟩⟩
theorem dc_neI {i j : Int} (ha : DE X C B δ a (.int i)) (hb : DE X C B δ b (.int j)) : DC X C B δ .NotEq a b (!decide (i = j)) :=
  ⟨_, op_ne, nomark b, fun R σ G H Q N q => d2 ha hb N fun x y G' H' g r1 r2 => by
    obtain rfl := r1.i
    obtain rfl := r2.i
    exact ⟨rfl, by rw [dec_vint]; exact q G' H' g⟩⟩
theorem dc_eqS {i j : Str} (ha : DE X C B δ a (.str i)) (hb : DE X C B δ b (.str j)) : DC X C B δ .Eq a b (decide (i = j)) :=
  ⟨_, op_eq, nomark b, fun R σ G H Q N q => d2 ha hb N fun x y G' H' g r1 r2 => by
    obtain rfl := r1.s
    obtain rfl := r2.s
    exact ⟨rfl, by rw [dec_vstr]; exact q G' H' g⟩⟩
theorem dc_neS {i j : Str} (ha : DE X C B δ a (.str i)) (hb : DE X C B δ b (.str j)) : DC X C B δ .NotEq a b (!decide (i = j)) :=
  ⟨_, op_ne, nomark b, fun R σ G H Q N q => d2 ha hb N fun x y G' H' g r1 r2 => by
    obtain rfl := r1.s
    obtain rfl := r2.s
    exact ⟨rfl, by rw [dec_vstr]; exact q G' H' g⟩⟩
theorem dc_eqB {i j : Bool} (ha : DE X C B δ a (.bl i)) (hb : DE X C B δ b (.bl j)) : DC X C B δ .Eq a b (decide (i = j)) :=
  ⟨_, op_eq, nomark b, fun R σ G H Q N q => d2 ha hb N fun x y G' H' g r1 r2 => by
    obtain rfl := r1.b
    obtain rfl := r2.b
    exact ⟨rfl, by rw [dec_vbl]; exact q G' H' g⟩⟩
def D.isN : D → Bool
  | .non => true
  | _ => false
theorem Rep.isN {M : Md} {G : Hp} {v : V} {d : D} (h : Rep M G v d) : decide (v = .non) = d.isN := by
  cases h <;> rfl
theorem dc_isN {j : Nat} {pos2 : Pos} (ha : DW X C B δ a d) : DC X C B δ .Is a (.Constant .none j pos2) d.isN :=
  ⟨_, op_isN, nomark _, fun R σ G H Q N q => ha.run R σ G H _ N fun x G1 H1 g1 r1 => we pe_non (by
    show V.non = V.non ∧ Q (.bl (decide (x = .non))) H1
    rw [r1.isN]
    exact ⟨rfl, q G1 H1 g1⟩)⟩
theorem dc_notN {j : Nat} {pos2 : Pos} (ha : DW X C B δ a d) : DC X C B δ .IsNot a (.Constant .none j pos2) (!d.isN) :=
  ⟨_, op_notN, nomark _, fun R σ G H Q N q => ha.run R σ G H _ N fun x G1 H1 g1 r1 => we pe_non (by
    show V.non = V.non ∧ Q (.bl (!decide (x = .non))) H1
    rw [r1.isN]
    exact ⟨rfl, q G1 H1 g1⟩)⟩

/-! tests -/
theorem DE.t {k : Bool} (h : DE X C B δ e (.bl k)) (he : ∀ whole, isTrue e X.env whole = (do let v ← whole; standAt e.pos; holding [v] (truthy v)) := by intro _; rfl) : DT X C B δ e k := ⟨fun R σ G H Q N q =>
  wt (pt_val pe_we he) (h.run R σ G H _ N fun v G' H' g r => by
    obtain rfl := r.b
    exact ⟨k, rfl, q G' H' g⟩)⟩
theorem dt_not {k : Bool} (h : DT X C B δ a k) : DT X C B δ (.UnaryOp .Not a pos) (!k) := ⟨fun R σ G H Q N q =>
  wt (pt_not pt_wt) (h.run R σ G H _ N fun G' H' g => q G' H' g)⟩
theorem de_not {k : Bool} (h : DE X C B δ a (.bl k)) : DE X C B δ (.UnaryOp .Not a pos) (.bl (!k)) := ⟨fun R σ G H Q N q =>
  we (pe_not pe_we) (h.run R σ G H _ N fun v G' H' g r => by
    obtain rfl := r.b
    exact ⟨k, rfl, q _ G' H' g (.bl _)⟩)⟩
theorem DTW.t {k : Bool} (h : DTW X C B δ e k) : DT X C B δ e k := ⟨fun R σ G H Q N q => wt pw_ww.pt (h.run R σ G H Q N q)⟩
theorem tw_and1 {k : Bool} (h : DT X C B δ a k) : DTW X C B δ (.BoolOp .And [a] pos) k := ⟨fun R σ G H Q N q => ww (pw_and1 pt_wt) (h.run R σ G H Q N q)⟩
theorem tw_or1 {k : Bool} (h : DT X C B δ a k) : DTW X C B δ (.BoolOp .Or [a] pos) k := ⟨fun R σ G H Q N q => ww (pw_or1 pt_wt) (h.run R σ G H Q N q)⟩
theorem tw_and {k m : Bool} (h : DT X C B δ a k) (h2 : k = true → DTW X C B δ (.BoolOp .And (b :: es) pos) m) : DTW X C B δ (.BoolOp .And (a :: b :: es) pos) (k && m) := ⟨fun R σ G H Q N q =>
  ww (pw_and pt_wt pw_ww) (h.run R σ G H _ N fun G1 H1 g1 => by
    cases k with
    | true => exact (h2 rfl).run R σ G1 H1 Q (N.go g1) fun G2 H2 g2 => q G2 H2 (g1.trans g2)
    | false => exact q G1 H1 g1)⟩
theorem tw_or {k m : Bool} (h : DT X C B δ a k) (h2 : k = false → DTW X C B δ (.BoolOp .Or (b :: es) pos) m) : DTW X C B δ (.BoolOp .Or (a :: b :: es) pos) (k || m) := ⟨fun R σ G H Q N q =>
  ww (pw_or pt_wt pw_ww) (h.run R σ G H _ N fun G1 H1 g1 => by
    cases k with
    | false => exact (h2 rfl).run R σ G1 H1 Q (N.go g1) fun G2 H2 g2 => q G2 H2 (g1.trans g2)
    | true => exact q G1 H1 g1)⟩
/-- and, or as values (truth values) -/
theorem de_one {op : BoolOp} (h : DE X C B δ a d) : DE X C B δ (.BoolOp op [a] pos) d := ⟨fun R σ G H Q N q => we (pe_one pe_we) (h.run R σ G H Q N q)⟩
theorem de_and {k m : Bool} (h : DE X C B δ a (.bl k)) (h2 : k = true → DE X C B δ (.BoolOp .And (b :: es) pos) (.bl m)) : DE X C B δ (.BoolOp .And (a :: b :: es) pos) (.bl (k && m)) := ⟨fun R σ G H Q N q =>
  we (pe_and pe_we pe_we) (h.run R σ G H _ N fun v G1 H1 g1 r1 => by
    obtain rfl := r1.b
    refine ⟨k, rfl, ?_⟩
    cases k with
    | true => exact (h2 rfl).run R σ G1 H1 Q (N.go g1) fun v G2 H2 g2 r2 => q v G2 H2 (g1.trans g2) r2
    | false => exact q _ G1 H1 g1 (.bl false))⟩
theorem de_or {k m : Bool} (h : DE X C B δ a (.bl k)) (h2 : k = false → DE X C B δ (.BoolOp .Or (b :: es) pos) (.bl m)) : DE X C B δ (.BoolOp .Or (a :: b :: es) pos) (.bl (k || m)) := ⟨fun R σ G H Q N q =>
  we (pe_or pe_we pe_we) (h.run R σ G H _ N fun v G1 H1 g1 r1 => by
    obtain rfl := r1.b
    refine ⟨k, rfl, ?_⟩
    cases k with
    | false => exact (h2 rfl).run R σ G1 H1 Q (N.go g1) fun v G2 H2 g2 r2 => q v G2 H2 (g1.trans g2) r2
    | true => exact q _ G1 H1 g1 (.bl true))⟩
theorem de_ife {k : Bool} (hc : DT X C B δ c k) (h1 : k = true → DE X C B δ a d) (h2 : k = false → DE X C B δ b d) : DE X C B δ (.IfExp c a b pos) d := ⟨fun R σ G H Q N q =>
  we (pe_ifExp pt_wt pe_we pe_we) (hc.run R σ G H _ N fun G1 H1 g1 => by
    cases k with
    | true => exact (h1 rfl).run R σ G1 H1 Q (N.go g1) fun v G2 H2 g2 r2 => q v G2 H2 (g1.trans g2) r2
    | false => exact (h2 rfl).run R σ G1 H1 Q (N.go g1) fun v G2 H2 g2 r2 => q v G2 H2 (g1.trans g2) r2)⟩

/-! arguments, displays -/
theorem da_nil : DA X C B δ [] [] := ⟨fun R σ G H Q N q => wa pa_nil (q [] G H N.self .nil)⟩
theorem da_cons {l : List D} (h : DE X C B δ e d) (hr : DA X C B δ es l) (hs : starEach (e :: es) X.env = (false, eval e X.env) :: starEach es X.env := by rfl) : DA X C B δ (e :: es) (d :: l) := ⟨fun R σ G H Q N q =>
  wa (pa_cons pe_we pa_wa hs) (h.run R σ G H _ N fun v G1 H1 g1 r1 => hr.run R σ G1 H1 _ (N.go g1) fun vs G2 H2 g2 r2 => q _ G2 H2 (g1.trans g2) (.cons (r1.mono g2.gg) r2))⟩
theorem dw_nil : DAW X C B δ [] [] := ⟨fun R σ G H Q N q => wa pa_nil (q [] G H N.self .nil)⟩
theorem dw_cons {l : List D} (h : DW X C B δ e d) (hr : DAW X C B δ es l) (hs : starEach (e :: es) X.env = (false, eval e X.env) :: starEach es X.env := by rfl) : DAW X C B δ (e :: es) (d :: l) := ⟨fun R σ G H Q N q =>
  wa (pa_cons pe_we pa_wa hs) (h.run R σ G H _ N fun v G1 H1 g1 r1 => hr.run R σ G1 H1 _ (N.go g1) fun vs G2 H2 g2 r2 => q _ G2 H2 (g1.trans g2) (.cons (r1.mono g2.hh) r2))⟩
theorem DA.w {l : List D} (h : DA X C B δ es l) : DAW X C B δ es l := ⟨fun R σ G H Q N q => h.run R σ G H Q N fun v G' H' g r => q v G' H' g (r.mono g.gh)⟩
theorem small {n : Nat} (h : n ≤ 1000) : n ≤ sizeLine := Nat.le_of_lt (small1000 h)
theorem de_tup {l : List D} {x1 : _} (h : DA X C B δ es l) (hl : l.length ≤ sizeLine := by exact small (Nat.le_of_ble_eq_true rfl)) : DE X C B δ (.Tuple es x1 pos) (.tup l) := ⟨fun R σ G H Q N q =>
  we (pe_tup pa_wa) (h.run R σ G H _ N fun vs G1 H1 g1 r1 => ⟨by rw [r1.length]; exact hl, fun p hp =>
    q _ (upd G1 p (.tup vs)) _ (g1.trans (Grow.add g1.gh hp)) (.tup (.of upd_same) (r1.mono (Ex.new (g1.gh.free hp))))⟩)⟩
theorem do_lst {l : List D} (h : DA X C B δ es l) (hl : l.length ≤ sizeLine := by exact small (Nat.le_of_ble_eq_true rfl)) : DO X C B δ (.List es pos) (.lst l) := ⟨fun R σ G H Q N q =>
  we (pe_lst pa_wa) (h.run R σ G H _ N fun vs G1 H1 g1 r1 => ⟨by rw [r1.length]; exact hl, fun p hp =>
    q p G1 _ (g1.trans (Grow.own g1.gh hp)) (g1.hh.free hp) (g1.gh.free hp) ⟨vs, upd_same, r1⟩⟩)⟩
/-- a list as it stands now, its items made known -/
theorem DW.l {l : List D} (h : DW X C B δ e (.lst l)) (f : tps l = true) : DL X C B δ e l := ⟨fun R σ G H Q N q => h.run R σ G H Q N fun v G' H' g r => by
  obtain ⟨a, xs, rfl, h1, h2⟩ := r.l
  obtain ⟨G2, g2, r2⟩ := h2.pub f g.gh
  exact q _ _ G2 H' (g.trans g2) h1 r2⟩
/-! items -/
theorem atI_map {M : Md} {G : Hp} {xs : List V} {l : List D} {i : Int} (r : Reps M G xs l) (h : atI l i = some d) : ∃ v, atI xs i = some v ∧ Rep M G v d := by
  unfold atI at h ⊢
  rw [r.length]
  cases q : ixN l.length i with
  | none =>
    rw [q] at h
    cases h
  | some j =>
    rw [q] at h
    obtain ⟨v, h1, h2⟩ := r.get (i := j) h
    exact ⟨v, h1, h2⟩
theorem atI_get {α : Type} {l : List α} {i : Int} (h0 : 0 ≤ i) (h : i < (l.length : Int)) {x : α} (hx : l[i.toNat]? = some x) : atI l i = some x := by
  have e : i = (i.toNat : Int) := by omega
  rw [e]
  exact atI_nat hx
theorem de_ixL {l : List D} {i : Int} (ha : DL X C B δ a l) (hb : DE X C B δ b (.int i)) (h : atI l i = some d) (hs : PlainIx b := by exact fun _ _ => rfl) : DE X C B δ (.Subscript a b pos) d := ⟨fun R σ G H Q N q =>
  we (pe_ix ix_list pe_we pe_we hs) (ha.run R σ G H _ N fun p xs G1 H1 g1 r1 r2 => hb.run R σ G1 H1 _ (N.go g1) fun y G2 H2 g2 r3 => by
    obtain rfl := r3.i
    obtain ⟨v, h1, h2⟩ := atI_map r2 h
    exact ⟨p, xs, i, v, rfl, rfl, .of (g2.hh _ _ r1), h1, q v G2 H2 (g1.trans g2) (h2.mono g2.gg)⟩)⟩
theorem de_ixSc {l : List D} {i : Int} (ha : DE X C B δ a (.scr l)) (hb : DE X C B δ b (.int i)) (h : atI l i = some d) (hs : PlainIx b := by exact fun _ _ => rfl) : DE X C B δ (.Subscript a b pos) d := ⟨fun R σ G H Q N q =>
  we (pe_ix ix_list pe_we pe_we hs) (d2 (r := rIxL X.K) ha hb N fun x y G' H' g r1 r2 => by
    obtain rfl := r2.i
    obtain ⟨p, xs, rfl, s, r⟩ := r1.sc
    obtain ⟨v, h1, h2⟩ := atI_map r h
    exact ⟨_, _, i, v, rfl, rfl, g.gh.sl s, h1, q v G' H' g h2⟩)⟩
theorem de_ixT {l : List D} {i : Int} (ha : DE X C B δ a (.tup l)) (hb : DE X C B δ b (.int i)) (h : atI l i = some d) (hs : PlainIx b := by exact fun _ _ => rfl) : DE X C B δ (.Subscript a b pos) d := ⟨fun R σ G H Q N q =>
  we (pe_ix ix_tup pe_we pe_we hs) (d2 (r := rIxT X.K) ha hb N fun x y G' H' g r1 r2 => by
    obtain rfl := r2.i
    obtain ⟨p, xs, rfl, s, r⟩ := r1.t
    · obtain ⟨v, h1, h2⟩ := atI_map r h
      exact ⟨_, _, i, v, rfl, rfl, g.gh.st s, h1, q v G' H' g h2⟩)⟩
theorem de_ixS {s : Str} {i : Int} {c : Nat} (ha : DE X C B δ a (.str s)) (hb : DE X C B δ b (.int i)) (hl : s.length ≤ sizeLine) (h : atI s.cps.toList i = some c) (hs : PlainIx b := by exact fun _ _ => rfl) : DE X C B δ (.Subscript a b pos) (.str ⟨#[c]⟩) := ⟨fun R σ G H Q N q =>
  we (pe_ix ix_str pe_we pe_we hs) (d2 (r := rIxS) ha hb N fun x y G' H' g r1 r2 => by
    obtain rfl := r2.i
    obtain rfl := r1.s
    exact ⟨s, i, c, rfl, rfl, hl, h, q _ G' H' g (.str _)⟩)⟩

/-- an item, as it stands now -/
theorem dw_ixT {l : List D} {i : Int} (ha : DW X C B δ a (.tup l)) (hb : DE X C B δ b (.int i)) (h : atI l i = some d) (hs : PlainIx b := by exact fun _ _ => rfl) : DW X C B δ (.Subscript a b pos) d := ⟨fun R σ G H Q N q =>
  we (pe_ix ix_tup pe_we pe_we hs) (ha.run R σ G H _ N fun x G1 H1 g1 r1 => hb.run R σ G1 H1 _ (N.go g1) fun y G2 H2 g2 r2 => by
    obtain rfl := r2.i
    obtain ⟨p, xs, rfl, s, r⟩ := (r1.mono g2.hh).t
    obtain ⟨v, h1, h2⟩ := atI_map r h
    exact ⟨_, _, i, v, rfl, rfl, s, h1, q v G2 H2 (g1.trans g2) h2⟩)⟩
theorem dw_ixL {l : List D} {i : Int} (ha : DW X C B δ a (.lst l)) (hb : DE X C B δ b (.int i)) (h : atI l i = some d) (hs : PlainIx b := by exact fun _ _ => rfl) : DW X C B δ (.Subscript a b pos) d := ⟨fun R σ G H Q N q =>
  we (pe_ix ix_list pe_we pe_we hs) (ha.run R σ G H _ N fun x G1 H1 g1 r1 => hb.run R σ G1 H1 _ (N.go g1) fun y G2 H2 g2 r2 => by
    obtain rfl := r2.i
    obtain ⟨p, xs, rfl, s, r⟩ := (r1.mono g2.hh).l
    obtain ⟨v, h1, h2⟩ := atI_map r h
    exact ⟨_, _, i, v, rfl, rfl, .of s, h1, q v G2 H2 (g1.trans g2) h2⟩)⟩
/-- a list display of things as they stand now -/
theorem dw_lst {l : List D} (h : DAW X C B δ es l) (hl : l.length ≤ sizeLine := by exact small (Nat.le_of_ble_eq_true rfl)) : DW X C B δ (.List es pos) (.lst l) := ⟨fun R σ G H Q N q =>
  we (pe_lst pa_wa) (h.run R σ G H _ N fun vs G1 H1 g1 r1 => ⟨by rw [r1.length]; exact hl, fun p hp =>
    q _ G1 _ (g1.trans (Grow.own g1.gh hp)) (.lst upd_same (r1.mono (Ex.new hp)))⟩)⟩
theorem dw_tup {l : List D} {x1 : _} (h : DAW X C B δ es l) (hl : l.length ≤ sizeLine := by exact small (Nat.le_of_ble_eq_true rfl)) : DW X C B δ (.Tuple es x1 pos) (.tup l) := ⟨fun R σ G H Q N q =>
  we (pe_tup pa_wa) (h.run R σ G H _ N fun vs G1 H1 g1 r1 => ⟨by rw [r1.length]; exact hl, fun p hp =>
    q _ G1 _ (g1.trans (Grow.own g1.gh hp)) (.tup (.of upd_same) (r1.mono (Ex.new hp)))⟩)⟩

/-! chains of two comparisons of ints -/
theorem dt_chain {op op' : CmpOp} {p p' : Int → Int → Bool} {i j z : Int} (ho : OpR X (compareOp op) (rI0 fun i j => .bl (p i j))) (ho' : OpR X (compareOp op') (rI0 fun i j => .bl (p' i j)))
    (ha : DE X C B δ a (.int i)) (hb : DE X C B δ b (.int j)) (hc : DE X C B δ c (.int z)) (hm : lastMarks [op, op'] [b, c] = false) : DT X C B δ (.Compare a [op, op'] [b, c] pos) (p i j && p' j z) := ⟨fun R σ G H Q N q =>
  wt (pt_chain ho ho' pe_we pe_we pe_we hm) (ha.run R σ G H _ N fun x G1 H1 g1 r1 => hb.run R σ G1 H1 _ (N.go g1) fun y G2 H2 g2 r2 => by
    obtain rfl := r1.i
    obtain rfl := r2.i
    refine ⟨i, j, rfl, rfl, p i j, rfl, ?_⟩
    revert q
    cases p i j with
    | true =>
      intro q
      refine hc.run R σ G2 H2 _ (N.go (g1.trans g2)) fun w G3 H3 g3 r3 => ?_
      obtain rfl := r3.i
      exact ⟨j, z, rfl, rfl, _, rfl, q G3 H3 ((g1.trans g2).trans g3)⟩
    | false =>
      intro q
      exact ⟨false, rfl, q G2 H2 (g1.trans g2)⟩)⟩
theorem dt_le_lt {i j z : Int} (ha : DE X C B δ a (.int i)) (hb : DE X C B δ b (.int j)) (hc : DE X C B δ c (.int z)) (hm : lastMarks [.LtE, .Lt] [b, c] = false := by with_unfolding_all rfl) : DT X C B δ (.Compare a [.LtE, .Lt] [b, c] pos) (decide (i ≤ j) && decide (j < z)) := dt_chain op_le op_lt ha hb hc hm
theorem dt_le_le {i j z : Int} (ha : DE X C B δ a (.int i)) (hb : DE X C B δ b (.int j)) (hc : DE X C B δ c (.int z)) (hm : lastMarks [.LtE, .LtE] [b, c] = false := by with_unfolding_all rfl) : DT X C B δ (.Compare a [.LtE, .LtE] [b, c] pos) (decide (i ≤ j) && decide (j ≤ z)) := dt_chain op_le op_le ha hb hc hm
end

/-! #### calls of defs -/
/-- an item of what is handed back: a datum, a new list -/
inductive Nw where
  | st (d : D)
  | ow (l : List D)
/-- the items as they are, with the addresses of the new lists -/
inductive NwIt : List Nw → List Itm → Prop
  | nil : NwIt [] []
  | st {d : D} {l : List Nw} {m : List Itm} (h : NwIt l m) : NwIt (.st d :: l) (.st d :: m)
  | ow {q : Addr} {xs : List D} {l : List Nw} {m : List Itm} (h : NwIt l m) : NwIt (.ow xs :: l) (.ow q xs :: m)
def nwD : Nw → D
  | .st d => d
  | .ow l => .lst l
theorem NwIt.d : ∀ {l : List Nw} {m : List Itm}, NwIt l m → m.map itD = l.map nwD
  | _, _, .nil => rfl
  | _, _, .st h => by rw [List.map_cons, List.map_cons, h.d]; rfl
  | _, _, .ow h => by rw [List.map_cons, List.map_cons, h.d]; rfl
/-- a tuple at a that holds new lists -/
def NestAt (M : Md) (H0 G H : Hp) (a : Addr) (its : List Itm) : Prop := (itOwn its).Nodup ∧ ∃ vs, ItsAt M H0 G H vs its ∧ SqT M.K G a vs
inductive Out where
  | ok (d : D)
  | own (o : Ow)
  | tow (l : List Nw)
  | err (c : Addr)
def OutOk (M : Md) (G H : Hp) (Q : VK) (E : XK) : Out → Prop
  | .ok d => ∀ v G' H', Grow G H G' H' → Rep M G' v d → Q v H'
  | .own o => ∀ p G' H', Grow G H G' H' → H p = none → G' p = none → OwnAt M G' H' p o → Q (.ref p) H'
  | .tow l => ∀ a its G' H', Grow G H G' H' → NwIt l its → NestAt M H G' H' a its → Q (.ref a) H'
  | .err c => ∀ H', Ex H H' → E (.ref c) none H'
/-- the promise of a def: of the arguments a, where they are as told, it hands back the datum told -/
def spD {α : Type} (M : Md) (n : Nat) (enc : α → List D) (pre : α → Prop) (res : α → Out) : Sp := fun vs H Q E => ∃ (a : α) (G : Hp), Ex G H ∧ Reps M G vs (enc a) ∧ vs.length = n ∧ pre a ∧ OutOk M G H Q E (res a)
structure FnD (P : Program) (w : World) (K : PySem.W.Frag) (mg : Str → Option Value) (base : Heap) (C : Addr) (k : Nat) (name : Str) (ps : List Str) {α : Type} (enc : α → List D) (pre : α → Prop) (res : α → Out) : Prop where
  ex : ∃ (f : Addr) (fd : FuncData), FnOk P w K mg base (L2.CX P w) k f fd ps (spD ⟨P, w, K, C⟩ ps.length enc pre res) ∧ mg name = some (.ref f) ∧ PySem.W.keepIn K (.ref f) = true ∧ Binds K fd ps [] ∧
    ∃ (oc : Value) (od : Option Addr) (sl : Array (Option Value)), K.lookup f = some ⟨oc, od, .func fd, sl⟩
section
variable {X : Cx} {C : Addr} {B : Bs} {δ : DEnv} {e : Expr} {es : List Expr} {d : D} {pos p : Pos} {k k' : Nat} {name : Str} {ps : List Str} {α : Type} {enc : α → List D} {pre : α → Prop} {res : α → Out}
theorem FnD.call (F : FnD X.prog X.w X.K X.mg X.base C k' name ps enc pre res) (hx : XOk X C B k) (hk : k' ≤ k) (hg : Gl X name) (hdb : (name == ("__debug__" : Str)) = false) (he : starEach (e :: es) X.env = (false, eval e X.env) :: starEach es X.env)
    (hpl : (backTo pos (starEach es X.env)).any (·.1) = false) {σ : St} {H : Hp} {Q : VK} (h : WA X (e :: es) σ H fun vs H1 => spD (md X C) ps.length enc pre res vs H1 Q (B.E σ)) : WE X (.Call (.Name name p) (e :: es) [] pos) σ H Q := by
  obtain ⟨f, fd, h1, h2, h3, h4, _⟩ := F.ex
  exact we (pe_callS (E := B.E) h1 (hx.hr.mono hk) hg h2 h3 h4 (fun σ => hx.pa σ) pa_wa hdb he hpl) h
theorem de_call (F : FnD X.prog X.w X.K X.mg X.base C k' name ps enc pre res) (hx : XOk X C B k) (a : α) (ha : DA X C B δ (e :: es) (enc a)) (hp : pre a) (hres : res a = .ok d) (hn : (enc a).length = ps.length := by rfl) (hk : k' ≤ k := by decide)
    (hg : Gl X name := by rfl) (hdb : (name == ("__debug__" : Str)) = false := by decide) (he : starEach (e :: es) X.env = (false, eval e X.env) :: starEach es X.env := by rfl) (hpl : (backTo pos (starEach es X.env)).any (·.1) = false := by rfl) :
    DE X C B δ (.Call (.Name name p) (e :: es) [] pos) d := ⟨fun R σ G H Q N q =>
  F.call hx hk hg hdb he hpl (ha.run R σ G H _ N fun vs G1 H1 g1 r1 => ⟨a, G1, g1.gh, r1, r1.length.trans hn, hp, by rw [hres]; exact fun v G' H' g r => q v G' H' (g1.trans g) r⟩)⟩
theorem do_call {o : Ow} (F : FnD X.prog X.w X.K X.mg X.base C k' name ps enc pre res) (hx : XOk X C B k) (a : α) (ha : DA X C B δ (e :: es) (enc a)) (hp : pre a) (hres : res a = .own o) (hn : (enc a).length = ps.length := by rfl) (hk : k' ≤ k := by decide)
    (hg : Gl X name := by rfl) (hdb : (name == ("__debug__" : Str)) = false := by decide) (he : starEach (e :: es) X.env = (false, eval e X.env) :: starEach es X.env := by rfl) (hpl : (backTo pos (starEach es X.env)).any (·.1) = false := by rfl) :
    DO X C B δ (.Call (.Name name p) (e :: es) [] pos) o := ⟨fun R σ G H Q N q =>
  F.call hx hk hg hdb he hpl (ha.run R σ G H _ N fun vs G1 H1 g1 r1 => ⟨a, G1, g1.gh, r1, r1.length.trans hn, hp, by rw [hres]; exact fun p G' H' g n n' r => q p G' H' (g1.trans g) (g1.hh.free n) n' r⟩)⟩
/-- .. of things as they stand now: an answer that hangs on no object -/
theorem de_callW (F : FnD X.prog X.w X.K X.mg X.base C k' name ps enc pre res) (hx : XOk X C B k) (a : α) (ha : DAW X C B δ (e :: es) (enc a)) (hp : pre a) (hres : res a = .ok d) (f : d.flat = true := by rfl) (hn : (enc a).length = ps.length := by rfl) (hk : k' ≤ k := by decide)
    (hg : Gl X name := by rfl) (hdb : (name == ("__debug__" : Str)) = false := by decide) (he : starEach (e :: es) X.env = (false, eval e X.env) :: starEach es X.env := by rfl) (hpl : (backTo pos (starEach es X.env)).any (·.1) = false := by rfl) :
    DE X C B δ (.Call (.Name name p) (e :: es) [] pos) d := ⟨fun R σ G H Q N q =>
  F.call hx hk hg hdb he hpl (ha.run R σ G H _ N fun vs G1 H1 g1 r1 => ⟨a, H1, Ex.refl _, r1, r1.length.trans hn, hp, by
    rw [hres]
    exact fun v G' H' g r => q v G1 H' (g1.trans ⟨g.hh, Ex.refl _, g1.gh.trans g.hh, fun _ h _ => h⟩) (r.flat f)⟩)⟩
/-- .. where the answer is made of tuples alone -/
theorem de_callT (F : FnD X.prog X.w X.K X.mg X.base C k' name ps enc pre res) (hx : XOk X C B k) (a : α) (ha : DAW X C B δ (e :: es) (enc a)) (hp : pre a) (hres : res a = .ok d) (f : d.tp = true := by rfl) (hn : (enc a).length = ps.length := by rfl) (hk : k' ≤ k := by decide)
    (hg : Gl X name := by rfl) (hdb : (name == ("__debug__" : Str)) = false := by decide) (he : starEach (e :: es) X.env = (false, eval e X.env) :: starEach es X.env := by rfl) (hpl : (backTo pos (starEach es X.env)).any (·.1) = false := by rfl) :
    DE X C B δ (.Call (.Name name p) (e :: es) [] pos) d := DW.st ⟨fun R σ G H Q N q =>
  F.call hx hk hg hdb he hpl (ha.run R σ G H _ N fun vs G1 H1 g1 r1 => ⟨a, H1, Ex.refl _, r1, r1.length.trans hn, hp, by
    rw [hres]
    exact fun v G' H' g r => q v G1 H' (g1.trans (Grow.heap g1.gh g.hh)) (r.mono g.gh)⟩)⟩ f
/-- what an own object's items are made of -/
def Ow.tp : Ow → Prop
  | .lst l => tps l = true
  | .dic kvs => ∀ p ∈ kvs, p.1.tp = true ∧ p.2.tp = true
  | .seen _ => True
  | .ins _ _ => False
theorem OwnAt.pub {M : Md} {G G' H : Hp} {p : Addr} {o : Ow} (h : OwnAt M G' H p o) (e' : Ex G' H) (t : o.tp) (e : Ex G H) (n : G p = none) : ∃ G2, Grow G H G2 H ∧ G2 p = none ∧ OwnAt M G2 H p o := by
  have key : ∀ G2, Grow G H G2 H → G2 p = none := fun G2 g => by
    obtain ⟨u, hu, nt⟩ := h.notT
    exact g.out n hu nt
  cases o with
  | lst l =>
    obtain ⟨xs, a, b⟩ := h
    obtain ⟨G2, g2, r2⟩ := (b.mono e').pub t e
    exact ⟨G2, g2, key G2 g2, xs, a, r2⟩
  | dic kvs =>
    obtain ⟨xs, ep, a, b⟩ := h
    obtain ⟨G2, g2, r2⟩ := (b.mono e').pub t e
    exact ⟨G2, g2, key G2 g2, xs, ep, a, r2⟩
  | seen ks =>
    obtain ⟨xs, a⟩ := h
    exact ⟨G, Grow.refl e, n, xs, a⟩
  | ins x fs => exact False.elim t
theorem do_callW {o : Ow} (F : FnD X.prog X.w X.K X.mg X.base C k' name ps enc pre res) (hx : XOk X C B k) (a : α) (ha : DAW X C B δ (e :: es) (enc a)) (hp : pre a) (hres : res a = .own o) (t : o.tp) (hn : (enc a).length = ps.length := by rfl) (hk : k' ≤ k := by decide)
    (hg : Gl X name := by rfl) (hdb : (name == ("__debug__" : Str)) = false := by decide) (he : starEach (e :: es) X.env = (false, eval e X.env) :: starEach es X.env := by rfl) (hpl : (backTo pos (starEach es X.env)).any (·.1) = false := by rfl) :
    DO X C B δ (.Call (.Name name p) (e :: es) [] pos) o := ⟨fun R σ G H Q N q =>
  F.call hx hk hg hdb he hpl (ha.run R σ G H _ N fun vs G1 H1 g1 r1 => ⟨a, H1, Ex.refl _, r1, r1.length.trans hn, hp, by
    rw [hres]
    exact fun p G' H' g n n' r => by
      have g2 := g1.trans (Grow.heap g1.gh g.hh)
      obtain ⟨G2, g3, n3, r3⟩ := r.pub g.gh t g2.gh (g1.gh.free n)
      exact q p G2 H' (g2.trans g3) (g1.hh.free n) n3 r3⟩)⟩
/-- e comes to a tuple that holds new lists -/
structure DN (X : Cx) (C : Addr) (B : Bs) (δ : DEnv) (e : Expr) (l : List Nw) : Prop where
  run : ∀ (R : Hp) (σ : St) (G H : Hp) (Q : VK), Fit (md X C) B R σ G H δ →
  (∀ a its G' H', Grow G H G' H' → NwIt l its → NestAt (md X C) H G' H' a its → Q (.ref a) H') → WE X e σ H Q
theorem ItsAt.base {M : Md} {H0 H0' G H : Hp} (e : ∀ p, H0 p = none → H0' p = none) : ∀ {vs : List V} {l : List Itm}, ItsAt M H0 G H vs l → ItsAt M H0' G H vs l
  | [], [], _ => trivial
  | v :: vs, .st d :: l, h => ⟨h.1, ItsAt.base e h.2⟩
  | v :: vs, .ow q xs :: l, h => ⟨⟨h.1.1, e q h.1.2.1, h.1.2.2⟩, ItsAt.base e h.2⟩
  | [], .st _ :: _, h => False.elim h
  | [], .ow _ _ :: _, h => False.elim h
  | _ :: _, [], h => False.elim h
theorem dn_call {l : List Nw} (F : FnD X.prog X.w X.K X.mg X.base C k' name ps enc pre res) (hx : XOk X C B k) (a : α) (ha : DA X C B δ (e :: es) (enc a)) (hp : pre a) (hres : res a = .tow l) (hn : (enc a).length = ps.length := by rfl) (hk : k' ≤ k := by decide)
    (hg : Gl X name := by rfl) (hdb : (name == ("__debug__" : Str)) = false := by decide) (he : starEach (e :: es) X.env = (false, eval e X.env) :: starEach es X.env := by rfl) (hpl : (backTo pos (starEach es X.env)).any (·.1) = false := by rfl) :
    DN X C B δ (.Call (.Name name p) (e :: es) [] pos) l := ⟨fun R σ G H Q N q =>
  F.call hx hk hg hdb he hpl (ha.run R σ G H _ N fun vs G1 H1 g1 r1 => ⟨a, G1, g1.gh, r1, r1.length.trans hn, hp, by
    rw [hres]
    exact fun b its G' H' g n ⟨n1, vs, n2, n3⟩ => q b its G' H' (g1.trans g) n ⟨n1, vs, n2.base (fun p hp => g1.hh.free hp), n3⟩⟩)⟩
theorem DN.w {l : List Nw} (h : DN X C B δ e l) : DW X C B δ e (.tup (l.map nwD)) := ⟨fun R σ G H Q N q => h.run R σ G H Q N fun a its G' H' g n ⟨n1, vs, n2, n3⟩ => by
  rw [← n.d] at q
  exact q _ G' H' g (.tup (g.gh.st n3) (n2.now g.gh))⟩
/-- .. made to stand still -/
theorem ItsAt.all {M : Md} {G H : Hp} : ∀ {vs : List V} {l : List Itm} {H0 : Hp}, ItsAt M H0 G H vs l → (itOwn l).Nodup → (∀ p ∈ itOwn l, H0 p = none) → ∀ {G0 : Hp}, Grow G0 H0 G H → ∃ G', Grow G0 H0 G' H ∧ Ex G G' ∧ Reps M G' vs (l.map itD)
  | [], [], _, _, _, _, G0, g => ⟨G, g, Ex.refl G, .nil⟩
  | v :: vs, .st d :: l, H0, h, hn, hp, G0, g => by
    obtain ⟨G1, g1, e1, r1⟩ := ItsAt.all h.2 hn hp g
    exact ⟨G1, g1, e1, .cons (h.1.mono e1) r1⟩
  | v :: vs, .ow q xs :: l, H0, h, hn, hp, G0, g => by
    obtain ⟨⟨rfl, h1, h2, ys, h3, h4⟩, h5⟩ := h
    have hn' : q ∉ itOwn l ∧ (itOwn l).Nodup := List.nodup_cons.mp hn
    have pub := g.publish h1 h2 h3
    have key : ∀ {vs : List V} {m : List Itm}, ItsAt M H0 G H vs m → q ∉ itOwn m → ItsAt M H0 (L2.upd G q (.lst ys)) H vs m := by
      intro vs m
      induction m generalizing vs with
      | nil =>
        intro h _
        cases vs with
        | nil => trivial
        | cons v vs => exact False.elim h
      | cons a m ih =>
        intro h hq
        cases vs with
        | nil => cases a <;> exact False.elim h
        | cons v vs =>
          cases a with
          | st d => exact ⟨h.1.mono (Ex.new h2), ih h.2 hq⟩
          | ow q' xs' =>
            have hq' : q ≠ q' ∧ q ∉ itOwn m := ⟨fun z => hq (z ▸ List.mem_cons_self), fun z => hq (List.mem_cons_of_mem _ z)⟩
            obtain ⟨⟨e1, e2, e3, zs, e4, e5⟩, e6⟩ := h
            exact ⟨⟨e1, e2, by rw [upd_ne (Ne.symm hq'.1)]; exact e3, zs, e4, e5.mono (Ex.new h2)⟩, ih e6 hq'.2⟩
    obtain ⟨G1, g1, e1, r1⟩ := ItsAt.all (key h5 hn'.1) hn'.2 (fun p hp' => hp p (List.mem_cons_of_mem _ hp')) pub
    exact ⟨G1, g1, (Ex.new h2).trans e1, .cons (.lst (e1 _ _ upd_same) ((h4.mono (Ex.new h2)).mono e1)) r1⟩
  | [], .st _ :: _, _, h, _, _, _, _ => False.elim h
  | [], .ow _ _ :: _, _, h, _, _, _, _ => False.elim h
  | _ :: _, [], _, h, _, _, _, _ => False.elim h
theorem ItsAt.news {M : Md} {H0 G H : Hp} : ∀ {vs : List V} {l : List Itm}, ItsAt M H0 G H vs l → ∀ p ∈ itOwn l, H0 p = none := fun h p hp => (h.own hp).1
theorem DN.s {l : List Nw} (h : DN X C B δ e l) : DE X C B δ e (.tup (l.map nwD)) := ⟨fun R σ G H Q N q => h.run R σ G H Q N fun a its G' H' g n ⟨n1, vs, n2, n3⟩ => by
  obtain ⟨G2, g2, e2, r2⟩ := n2.all n1 n2.news g
  rw [← n.d] at q
  exact q _ G2 H' g2 (.tup (e2.st n3) r2)⟩
theorem dx_call {c : Addr} (F : FnD X.prog X.w X.K X.mg X.base C k' name ps enc pre res) (hx : XOk X C B k) (a : α) (ha : DAW X C B δ (e :: es) (enc a)) (hp : pre a) (hres : res a = .err c) (hc : B.ex δ c) (hn : (enc a).length = ps.length := by rfl) (hk : k' ≤ k := by decide)
    (hg : Gl X name := by rfl) (hdb : (name == ("__debug__" : Str)) = false := by decide) (he : starEach (e :: es) X.env = (false, eval e X.env) :: starEach es X.env := by rfl) (hpl : (backTo pos (starEach es X.env)).any (·.1) = false := by rfl) :
    DX X C B δ (.Call (.Name name p) (e :: es) [] pos) := ⟨fun R σ G H Q N =>
  F.call hx hk hg hdb he hpl (ha.run R σ G H _ N fun vs G1 H1 g1 r1 => ⟨a, H1, Ex.refl _, r1, r1.length.trans hn, hp, by
    rw [hres]
    exact fun H' g => hx.hex R δ σ G1 H1 H' c hc (N.go g1) g⟩)⟩
end
end Rv

/-! ### Part C: statements, defs -/
namespace Rv
open PySem L2

/-- what is wanted behind code -/
structure Post where
  rt : D → Prop
  rto : Ow → Prop := fun _ => False
  rtn : List Nw → Prop := fun _ => False
  nx : DEnv → Prop
  bk : DEnv → Prop := fun _ => False
  ct : DEnv → Prop := fun _ => False
structure PostOk (M : Md) (B : Bs) (R : Hp) (P : Post) (D' : Ends) : Prop where
  rt : ∀ d v G H, P.rt d → Grow B.G0 B.H0 G H → Rep M G v d → D'.rt v H
  rto : ∀ o p G H, P.rto o → Grow B.G0 B.H0 G H → B.H0 p = none → G p = none → OwnAt M G H p o → D'.rt (.ref p) H
  rtn : ∀ l a its G H, P.rtn l → Grow B.G0 B.H0 G H → NwIt l its → NestAt M B.H0 G H a its → D'.rt (.ref a) H
  nx : ∀ δ σ G H, P.nx δ → Fit M B R σ G H δ → D'.nx σ H
  bk : ∀ δ σ G H, P.bk δ → Fit M B R σ G H δ → D'.bk σ H
  ct : ∀ δ σ G H, P.ct δ → Fit M B R σ G H δ → D'.ct σ H
structure DS (X : Cx) (C : Addr) (B : Bs) (P : Post) (δ : DEnv) (st : Stmt) : Prop where
  run : ∀ (R : Hp) (D' : Ends), PostOk (md X C) B R P D' → ∀ (σ : St) (G H : Hp), Fit (md X C) B R σ G H δ → WS X st D' σ H
structure DB (X : Cx) (C : Addr) (B : Bs) (P : Post) (δ : DEnv) (sts : List Stmt) : Prop where
  run : ∀ (R : Hp) (D' : Ends), PostOk (md X C) B R P D' → ∀ (σ : St) (G H : Hp), Fit (md X C) B R σ G H δ → WB X sts D' σ H
section
variable {X : Cx} {C : Addr} {B : Bs} {P : Post} {δ : DEnv} {st : Stmt} {sts b1 b2 : List Stmt} {e c : Expr} {d : D} {o : Ow} {pos : Pos} {k : Nat}
theorem db_nil (h : P.nx δ) : DB X C B P δ [] := ⟨fun R D' pk σ G H N => wb pss_nil (pk.nx δ σ G H h N)⟩
theorem db_cons (h : DS X C B { P with nx := fun δ' => DB X C B P δ' sts } δ st) : DB X C B P δ (st :: sts) := ⟨fun R D' pk σ G H N =>
  wb (pss_cons ps_ws pss_wb) (h.run R { D' with nx := fun σ' H' => WB X sts D' σ' H' } ⟨pk.rt, pk.rto, pk.rtn, fun δ' σ' G' H' hb N' => hb.run R D' pk σ' G' H' N', pk.bk, pk.ct⟩ σ G H N)⟩
theorem db_one (h : DS X C B P δ st) : DB X C B P δ [st] := ⟨fun R D' pk σ G H N => wb (pss_one ps_ws) (h.run R D' pk σ G H N)⟩
/-- a statement, then the rest from whatever R tells -/
theorem db_seq (R : DEnv → Prop) (h : DS X C B { P with nx := R } δ st) (h2 : ∀ δ', R δ' → DB X C B P δ' sts) : DB X C B P δ (st :: sts) := ⟨fun R D' pk σ G H N =>
  wb (pss_cons ps_ws pss_wb) (h.run R { D' with nx := fun σ' H' => WB X sts D' σ' H' } ⟨pk.rt, pk.rto, pk.rtn, fun δ' σ' G' H' hb N' => (h2 δ' hb).run R D' pk σ' G' H' N', pk.bk, pk.ct⟩ σ G H N)⟩
theorem db_cut {P' : Post} (h : DB X C B P' δ sts) (h1 : ∀ d, P'.rt d → P.rt d) (h2 : ∀ d, P'.rto d → P.rto d) (h3 : ∀ d, P'.nx d → P.nx d) (h4 : ∀ d, P'.bk d → P.bk d) (h5 : ∀ d, P'.ct d → P.ct d) (h6 : ∀ d, P'.rtn d → P.rtn d) : DB X C B P δ sts := ⟨fun R D' pk =>
  h.run R D' ⟨fun d v G H q => pk.rt d v G H (h1 _ q), fun d v G H q => pk.rto d v G H (h2 _ q), fun l a its G H q => pk.rtn l a its G H (h6 _ q), fun d v G H q => pk.nx d v G H (h3 _ q), fun d v G H q => pk.bk d v G H (h4 _ q), fun d v G H q => pk.ct d v G H (h5 _ q)⟩⟩
theorem ItsAt.gpub {M : Md} {H0 G H : Hp} {p : Addr} {u : HO} (n : G p = none) : ∀ {vs : List V} {l : List Itm}, ItsAt M H0 G H vs l → p ∉ itOwn l → ItsAt M H0 (L2.upd G p u) H vs l
  | [], [], _, _ => trivial
  | v :: vs, .st d :: l, h, q => ⟨h.1.mono (Ex.new n), ItsAt.gpub n h.2 q⟩
  | v :: vs, .ow q' xs :: l, h, q => by
    have q2 : p ≠ q' ∧ p ∉ itOwn l := ⟨fun z => q (z ▸ List.mem_cons_self), fun z => q (List.mem_cons_of_mem _ z)⟩
    obtain ⟨⟨e1, e2, e3, zs, e4, e5⟩, e6⟩ := h
    exact ⟨⟨e1, e2, by rw [upd_ne (Ne.symm q2.1)]; exact e3, zs, e4, e5.mono (Ex.new n)⟩, ItsAt.gpub n e6 q2.2⟩
  | [], .st _ :: _, h, _ => False.elim h
  | [], .ow _ _ :: _, h, _ => False.elim h
  | _ :: _, [], h, _ => False.elim h
theorem OwnAt.gmono {M : Md} {G G' H : Hp} {p : Addr} {o : Ow} (e : Ex G G') (h : OwnAt M G H p o) : OwnAt M G' H p o := by
  cases o with
  | lst l => obtain ⟨xs, x1, x2⟩ := h; exact ⟨xs, x1, x2.mono e⟩
  | dic kvs => obtain ⟨xs, ep, x1, x2⟩ := h; exact ⟨xs, ep, x1, x2.mono e⟩
  | seen ks => exact h
  | ins x fs => obtain ⟨ex, dx, xs, x1, x2⟩ := h; exact ⟨ex, dx, xs, x1, x2.mono e⟩
theorem SlOk.gpub {M : Md} {x : Option (Option V)} {G H : Hp} {s : Sl} {p : Addr} {u : HO} (n : G p = none) (h : SlOk M B x G H s) (no : ¬ s.owns x p) : SlOk M B x (L2.upd G p u) H s := by
  cases s with
  | un => trivial
  | sh d => obtain ⟨v, a, b⟩ := h; exact ⟨v, a, b.mono (Ex.new n)⟩
  | old d => exact h
  | raw v => exact h
  | ow o =>
    obtain ⟨q, a, b, c, d⟩ := h
    have nq : q ≠ p := fun z => no (z ▸ a)
    exact ⟨q, a, b, by rw [upd_ne nq]; exact c, d.gmono (Ex.new n)⟩
  | fix q v o =>
    obtain ⟨a, b, c, e, d⟩ := h
    have nq : q ≠ p := no
    exact ⟨a, b, by rw [upd_ne nq]; exact c, e, d.gmono (Ex.new n)⟩
  | nest a t its =>
    obtain ⟨h1, h2, h5, vs, h3, h4⟩ := h
    refine ⟨h1, h2, h5, vs, h3.gpub n fun z => no (.inr z), ?_⟩
    split
    · rename_i q
      rw [if_pos q] at h4
      exact ⟨h4.1, by rw [upd_ne (fun z => no (.inl ⟨q, z⟩))]; exact h4.2.1, h4.2.2⟩
    · rename_i q
      rw [if_neg q] at h4
      exact (Ex.new n).st h4
/-- what a slot alone holds is made known -/
theorem Fit.pub {M : Md} {R : Hp} {σ : St} {G H : Hp} (N : Fit M B R σ G H δ) {i : Nat} {p : Addr} {s t : Sl} {u : HO} (e : δ[i]? = some s) (hp : s.owns σ[i]? p) (hu : H p = some u) (ht : SlOk M B σ[i]? (upd G p u) H t) (ho : ∀ q, t.owns σ[i]? q → s.owns σ[i]? q) : Fit M B R σ (upd G p u) H (δ.set i t) := by
  obtain ⟨h2, h3, h4⟩ := (N.slot i _ e).own hp
  refine ⟨N.bel, by rw [List.length_set, N.len], ⟨N.grow.hh, N.grow.gg.trans (Ex.new h3), fun a v ea => ?_, fun q g1 g2 => ?_⟩, fun j v ej => ?_, fun j k a b q hjk h1 h2 h3 h4 => ?_⟩
  · by_cases ha : a = p
    · subst ha
      rw [upd_same] at ea
      cases ea
      exact hu
    · rw [upd_ne ha] at ea
      exact N.gh a v ea
  · have : q ≠ p := fun z => by subst z; exact g2 h2
    intro v hv
    rw [upd_ne this] at hv
    exact N.grow.nw q g1 g2 v hv
  · rcases set_get ej with ⟨g1, g2, g3⟩ | ⟨g1, g2⟩
    · subst g1 g2
      exact ht
    · exact (N.slot j v g2).gpub h3 (N.dist i j _ _ p g1 e g2 hp)
  · rcases set_get h1 with ⟨e1, e2, l1⟩ | ⟨n1, k1⟩
    · subst e1 e2
      rcases set_get h2 with ⟨e3, _, _⟩ | ⟨n2, k2⟩
      · exact hjk e3
      · exact N.dist i k _ _ q hjk e k2 (ho q h3) h4
    · rcases set_get h2 with ⟨e1, e2, l2⟩ | ⟨n2, k2⟩
      · subst e1 e2
        exact N.dist j i _ _ q n1.symm k1 e h3 (ho q h4)
      · exact N.dist j k a b q hjk k1 k2 h3 h4
/-- an own list that is known from here on -/
theorem db_pub (i : Nat) {l : List D} (hi : δ[i]? = some (.ow (.lst l))) (h : DB X C B P (δ.set i (.sh (.lst l))) sts) : DB X C B P δ sts := ⟨fun R D' pk σ G H N => by
  obtain ⟨p, h1, h2, h3, xs, h4, h5⟩ := N.slot i _ hi
  exact h.run R D' pk σ (upd G p (.lst xs)) H (N.pub hi h1 h4 ⟨_, h1, .lst upd_same (h5.mono (Ex.new h3))⟩ fun _ z => False.elim z)⟩
theorem db_pubD (i : Nat) {l : List (D × D)} (hi : δ[i]? = some (.ow (.dic l))) (h : DB X C B P (δ.set i (.sh (.dic l))) sts) : DB X C B P δ sts := ⟨fun R D' pk σ G H N => by
  obtain ⟨p, h1, h2, h3, xs, ep, h4, h5⟩ := N.slot i _ hi
  exact h.run R D' pk σ (upd G p (dN X.prog X.w p xs ep)) H (N.pub hi h1 h4 ⟨_, h1, .dic upd_same (h5.mono (Ex.new h3))⟩ fun _ z => False.elim z)⟩
/-- an own object, looked at just as it stands -/
theorem db_fix (i : Nat) {o : Ow} (hi : δ[i]? = some (.ow o)) (h : ∀ p u, DB X C B P (δ.set i (.fix p u o)) sts) : DB X C B P δ sts := ⟨fun R D' pk σ G H N => by
  obtain ⟨p, h1, h2, h3, h4⟩ := N.slot i _ hi
  obtain ⟨u, hu, _⟩ := h4.notT
  refine (h p u).run R D' pk σ G H (N.say hi ⟨h1, h2, h3, hu, h4⟩ fun q z => ?_)
  obtain rfl : p = q := z
  exact h1⟩
theorem db_unfix (i : Nat) {o : Ow} {p : Addr} {u : HO} (hi : δ[i]? = some (.fix p u o)) (h : DB X C B P (δ.set i (.ow o)) sts) : DB X C B P δ sts := ⟨fun R D' pk σ G H N => by
  obtain ⟨h1, h2, h3, hu, h4⟩ := N.slot i _ hi
  refine h.run R D' pk σ G H (N.say hi ⟨p, h1, h2, h3, h4⟩ fun q z => ?_)
  have z : σ[i]? = some (some (.ref q)) := z
  rw [h1] at z
  show p = q
  simpa using z⟩

/-! x = e -/
theorem ds_setN (hn : X.N.Nodup) (i : Nat) {x : Str} {pos' : Pos} (he : DE X C B δ e d) (h : P.nx (δ.set i (.sh d))) (hi : X.N[i]? = some x := by rfl) (hl : Loc X.env.scope x := by first | exact Or.inl rfl | exact Or.inr rfl)
    (hs : swapsWith e (some (.Name x pos')) pos.line X.env = pure false := by rfl) (hf : X.fn x = true ∨ X.env.scope.names.lookup x = some .local := by first | exact .inl rfl | exact .inr rfl) : DS X C B P δ (.Assign [.Name x pos'] e pos) := ⟨fun R D' pk σ G H N =>
  ws (ps_set (i := i) hn hi hl pe_we hs hf) (he.run R σ G H _ N fun v G' H' g r => pk.nx _ _ G' H' h ((N.go g).setSh r))⟩
theorem ds_set (hx : XOk X C B k) (i : Nat) {x : Str} {pos' : Pos} (he : DE X C B δ e d) (h : P.nx (δ.set i (.sh d))) (hi : X.N[i]? = some x := by rfl) (hl : Loc X.env.scope x := by first | exact Or.inl rfl | exact Or.inr rfl)
    (hs : swapsWith e (some (.Name x pos')) pos.line X.env = pure false := by rfl) (hf : X.fn x = true ∨ X.env.scope.names.lookup x = some .local := by first | exact .inl rfl | exact .inr rfl) : DS X C B P δ (.Assign [.Name x pos'] e pos) := ds_setN hx.nd i he h hi hl hs hf
theorem ds_setON (hn : X.N.Nodup) (i : Nat) {x : Str} {pos' : Pos} (he : DO X C B δ e o) (h : P.nx (δ.set i (.ow o))) (hi : X.N[i]? = some x := by rfl) (hl : Loc X.env.scope x := by first | exact Or.inl rfl | exact Or.inr rfl)
    (hs : swapsWith e (some (.Name x pos')) pos.line X.env = pure false := by rfl) (hf : X.fn x = true ∨ X.env.scope.names.lookup x = some .local := by first | exact .inl rfl | exact .inr rfl) : DS X C B P δ (.Assign [.Name x pos'] e pos) := ⟨fun R D' pk σ G H N =>
  ws (ps_set (i := i) hn hi hl pe_we hs hf) (he.run R σ G H _ N fun p G' H' g n n' r => pk.nx _ _ G' H' h (N.setOw g n n' r))⟩
theorem ds_setO (hx : XOk X C B k) (i : Nat) {x : Str} {pos' : Pos} (he : DO X C B δ e o) (h : P.nx (δ.set i (.ow o))) (hi : X.N[i]? = some x := by rfl) (hl : Loc X.env.scope x := by first | exact Or.inl rfl | exact Or.inr rfl)
    (hs : swapsWith e (some (.Name x pos')) pos.line X.env = pure false := by rfl) (hf : X.fn x = true ∨ X.env.scope.names.lookup x = some .local := by first | exact .inl rfl | exact .inr rfl) : DS X C B P δ (.Assign [.Name x pos'] e pos) := ds_setON hx.nd i he h hi hl hs hf
theorem ds_setX (hx : XOk X C B k) {x : Str} {pos' : Pos} (he : DX X C B δ e) {i : Nat} (hi : X.N[i]? = some x) (hl : Loc X.env.scope x := by first | exact Or.inl rfl | exact Or.inr rfl)
    (hs : swapsWith e (some (.Name x pos')) pos.line X.env = pure false := by rfl) (hf : X.fn x = true ∨ X.env.scope.names.lookup x = some .local := by first | exact .inl rfl | exact .inr rfl) : DS X C B P δ (.Assign [.Name x pos'] e pos) := ⟨fun R D' pk σ G H N =>
  ws (ps_set (i := i) hx.nd hi hl pe_we hs hf) (he.run R σ G H _ N)⟩
theorem db_set (hx : XOk X C B k) (i : Nat) {x : Str} {pos' : Pos} (he : DE X C B δ e d) (h : DB X C B P (δ.set i (.sh d)) sts) (hi : X.N[i]? = some x := by rfl) (hl : Loc X.env.scope x := by first | exact Or.inl rfl | exact Or.inr rfl)
    (hs : swapsWith e (some (.Name x pos')) pos.line X.env = pure false := by rfl) (hf : X.fn x = true ∨ X.env.scope.names.lookup x = some .local := by first | exact .inl rfl | exact .inr rfl) : DB X C B P δ (.Assign [.Name x pos'] e pos :: sts) := db_cons (ds_set hx i he h hi hl hs hf)
theorem db_setO (hx : XOk X C B k) (i : Nat) {x : Str} {pos' : Pos} (he : DO X C B δ e o) (h : DB X C B P (δ.set i (.ow o)) sts) (hi : X.N[i]? = some x := by rfl) (hl : Loc X.env.scope x := by first | exact Or.inl rfl | exact Or.inr rfl)
    (hs : swapsWith e (some (.Name x pos')) pos.line X.env = pure false := by rfl) (hf : X.fn x = true ∨ X.env.scope.names.lookup x = some .local := by first | exact .inl rfl | exact .inr rfl) : DB X C B P δ (.Assign [.Name x pos'] e pos :: sts) := db_cons (ds_setO hx i he h hi hl hs hf)
/-- x = e, a tuple that holds new lists -/
theorem ds_setNs (hx : XOk X C B k) (i : Nat) {l : List Nw} {x : Str} {pos' : Pos} (he : DN X C B δ e l) (h : ∀ a its, NwIt l its → P.nx (δ.set i (.nest a false its))) (hi : X.N[i]? = some x := by rfl) (hl : Loc X.env.scope x := by first | exact Or.inl rfl | exact Or.inr rfl)
    (hs : swapsWith e (some (.Name x pos')) pos.line X.env = pure false := by rfl) (hf : X.fn x = true ∨ X.env.scope.names.lookup x = some .local := by first | exact .inl rfl | exact .inr rfl) : DS X C B P δ (.Assign [.Name x pos'] e pos) := ⟨fun R D' pk σ G H N =>
  ws (ps_set (i := i) hx.nd hi hl pe_we hs hf) (he.run R σ G H _ N fun a its G' H' g n ⟨n1, vs, n2, n3⟩ => pk.nx _ _ G' H' (h a its n) (N.setNest g n2.news (fun z => nomatch z) ⟨rfl, n1, (fun z => nomatch z), vs, n2.base (fun p hp => N.grow.hh.free hp), n3⟩))⟩
/-! e alone; return; if; pass -/
theorem ds_expr (he : DW X C B δ e d) (h : P.nx δ) (hs : swapsWith e none pos.line X.env = pure false := by rfl) : DS X C B P δ (.Expr e pos) := ⟨fun R D' pk σ G H N =>
  ws (ps_expr pe_we hs) (he.run R σ G H _ N fun v G' H' g r => pk.nx _ _ G' H' h (N.go g))⟩
theorem ds_exprX (he : DX X C B δ e) (hs : swapsWith e none pos.line X.env = pure false := by rfl) : DS X C B P δ (.Expr e pos) := ⟨fun R D' pk σ G H N => ws (ps_expr pe_we hs) (he.run R σ G H _ N)⟩
theorem ds_ret (he : DE X C B δ e d) (h : P.rt d) : DS X C B P δ (.Return (some e) pos) := ⟨fun R D' pk σ G H N =>
  ws (ps_ret pe_we) (he.run R σ G H _ N fun v G' H' g r => pk.rt d v G' H' h (N.all.trans g) r)⟩
theorem ds_retO (he : DO X C B δ e o) (h : P.rto o) : DS X C B P δ (.Return (some e) pos) := ⟨fun R D' pk σ G H N =>
  ws (ps_ret pe_we) (he.run R σ G H _ N fun p G' H' g n n' r => pk.rto o p G' H' h (N.all.trans g) (N.grow.hh.free n) n' r)⟩
theorem ds_retNs {l : List Nw} (he : DN X C B δ e l) (h : P.rtn l) : DS X C B P δ (.Return (some e) pos) := ⟨fun R D' pk σ G H N =>
  ws (ps_ret pe_we) (he.run R σ G H _ N fun a its G' H' g n ⟨n1, vs, n2, n3⟩ => pk.rtn l a its G' H' h (N.all.trans g) n ⟨n1, vs, n2.base (fun p hp => N.grow.hh.free hp), n3⟩)⟩
/-- return (a, x, b), x an own list -/
theorem ds_retTow (i : Nat) {l : List D} {d1 d2 : D} {a b : Expr} {x : Str} {kk : Nat} {pos' pos2 : Pos} (hi : δ[i]? = some (.ow (.lst l))) (ha : DE X C B δ a d1) (hb : DE X C B δ b d2) (h : P.rtn [.st d1, .ow l, .st d2]) (hN : X.N[i]? = some x := by rfl) (hv : Vis X.env.scope x := by first | exact Or.inl rfl | exact Or.inr (Or.inl rfl) | exact Or.inr (Or.inr rfl))
    (hd : (x == ("__debug__" : Str)) = false := by decide) (hcd : (x == ("__classdict__" : Str)) = false := by decide)
    (hs1 : starEach [a, .Name x pos', b] X.env = (false, eval a X.env) :: starEach [.Name x pos', b] X.env := by rfl) (hs2 : starEach [.Name x pos', b] X.env = (false, eval (.Name x pos') X.env) :: starEach [b] X.env := by rfl) (hs3 : starEach [b] X.env = (false, eval b X.env) :: starEach [] X.env := by rfl) :
    DS X C B P δ (.Return (some (.Tuple [a, .Name x pos', b] kk pos2)) pos) := ⟨fun R D' pk σ G H N => by
  refine ws (ps_ret (pe_tup (pa_cons pe_we (pa_cons (pe_var hN hv hd hcd) (pa_cons pe_we pa_nil hs3) hs2) hs1))) ?_
  refine ha.run R σ G H _ N fun v1 G1 H1 g1 r1 => ?_
  obtain ⟨p, h1, h2, h3, xs, h4, h5⟩ := N.slot i _ hi
  refine ⟨_, h1, hb.run R σ G1 H1 _ (N.go g1) fun v2 G2 H2 g2 r2 => ?_⟩
  have N2 := (N.go g1).go g2
  obtain ⟨p', k1, k2, k3, ys, k4, k5⟩ := N2.slot i _ hi
  rw [h1] at k1
  obtain rfl : p = p' := by simpa using k1
  refine ⟨small (Nat.le_of_ble_eq_true rfl), fun t ht => ?_⟩
  have hg : Ex G2 (upd G2 t (.tup [v1, .ref p, v2])) := Ex.new (N2.gh.free ht)
  have tp : t ≠ p := fun z => by rw [z, k4] at ht; cases ht
  refine pk.rtn _ t [.st d1, .ow p l, .st d2] _ _ h (N2.all.trans (Grow.add N2.gh ht)) (.st (.ow (.st .nil))) ⟨List.nodup_cons.mpr ⟨List.not_mem_nil, List.nodup_nil⟩, [v1, .ref p, v2], ?_, .of upd_same⟩
  exact ⟨(r1.mono g2.gg).mono hg, ⟨rfl, k2, by rw [upd_ne (Ne.symm tp)]; exact k3, ys, by rw [upd_ne (Ne.symm tp)]; exact k4, k5.mono hg⟩, r2.mono hg, trivial⟩⟩
theorem ds_retX (he : DX X C B δ e) : DS X C B P δ (.Return (some e) pos) := ⟨fun R D' pk σ G H N => ws (ps_ret pe_we) (he.run R σ G H _ N)⟩
/-- return x, an own list -/
theorem ds_retV (i : Nat) {x : Str} {pos' : Pos} (hi : δ[i]? = some (.ow o)) (h : P.rto o) (hN : X.N[i]? = some x := by rfl) (hv : Vis X.env.scope x := by first | exact Or.inl rfl | exact Or.inr (Or.inl rfl) | exact Or.inr (Or.inr rfl))
    (hd : (x == ("__debug__" : Str)) = false := by decide) (hcd : (x == ("__classdict__" : Str)) = false := by decide) : DS X C B P δ (.Return (some (.Name x pos')) pos) := ⟨fun R D' pk σ G H N => by
  obtain ⟨p, h1, h2, h3, h4⟩ := N.slot i _ hi
  exact ws (ps_ret (pe_var hN hv hd hcd)) ⟨_, h1, pk.rto o p G H h N.all h2 h3 h4⟩⟩
theorem ds_retN (h : P.rt .non) : DS X C B P δ (.Return none pos) := ⟨fun R D' pk σ G H N => ws ps_retN (pk.rt .non _ G H h N.all .non)⟩
theorem ds_if {b : Bool} (hc : DT X C B δ c b) (h1 : b = true → DB X C B P δ b1) (h2 : b = false → DB X C B P δ b2) : DS X C B P δ (.If c b1 b2 pos) := ⟨fun R D' pk σ G H N =>
  ws (ps_if pt_wt pss_wb pss_wb) (hc.run R σ G H _ N fun G' H' g => by
    cases b with
    | true => exact (h1 rfl).run R D' pk σ G' H' (N.go g)
    | false => exact (h2 rfl).run R D' pk σ G' H' (N.go g))⟩
theorem ds_pass (h : P.nx δ) : DS X C B P δ (.Pass pos) := ⟨fun R D' pk σ G H N => ws ps_pass (pk.nx δ σ G H h N)⟩
theorem ds_break (h : P.bk δ) : DS X C B P δ (.Break pos) := ⟨fun R D' pk σ G H N => ws ps_break (pk.bk δ σ G H h N)⟩
theorem ds_cont (h : P.ct δ) : DS X C B P δ (.Continue pos) := ⟨fun R D' pk σ G H N => ws ps_continue (pk.ct δ σ G H h N)⟩
/-- if without an else whose branch leaves -/
theorem db_ifr {b : Bool} (hc : DT X C B δ c b) (h1 : b = true → DB X C B { P with nx := fun _ => False } δ b1) (h2 : b = false → DB X C B P δ sts) : DB X C B P δ (.If c b1 [] pos :: sts) :=
  db_cons (ds_if hc (fun q => db_cut (h1 q) (fun _ z => z) (fun _ z => z) (fun _ z => z.elim) (fun _ z => z) (fun _ z => z) (fun _ z => z)) fun q => db_nil (h2 q))
/-- if, what is known behind it told by both branches alike -/
theorem db_if {b : Bool} (R : DEnv → Prop) (hc : DT X C B δ c b) (h1 : b = true → DB X C B { P with nx := R } δ b1) (h2 : b = false → DB X C B { P with nx := R } δ b2) (h : ∀ δ', R δ' → DB X C B P δ' sts) : DB X C B P δ (.If c b1 b2 pos :: sts) :=
  db_seq R (ds_if hc h1 h2) h
/-- if c: x = e, of whole numbers -/
theorem db_ifI (hx : XOk X C B k) (i : Nat) {b : Bool} {x : Str} {pos' pos2 : Pos} {u v : Int} (hc : DT X C B δ c b) (hv : δ[i]? = some (.sh (.int v))) (he : b = true → DE X C B δ e (.int u)) (h : DB X C B P (δ.set i (.sh (.int (if b = true then u else v)))) sts) (hi : X.N[i]? = some x := by rfl) (hl : Loc X.env.scope x := by first | exact Or.inl rfl | exact Or.inr rfl)
    (hs : swapsWith e (some (.Name x pos')) pos2.line X.env = pure false := by rfl) (hf : X.fn x = true ∨ X.env.scope.names.lookup x = some .local := by first | exact .inl rfl | exact .inr rfl) : DB X C B P δ (.If c [.Assign [.Name x pos'] e pos2] [] pos :: sts) := by
  have hself : b = false → δ.set i (.sh (.int (if b = true then u else v))) = δ := fun q => by
    rw [q, if_neg Bool.false_ne_true]
    refine List.ext_getElem? fun j => ?_
    rw [List.getElem?_set]
    split
    · rename_i hj
      subst hj
      split
      · exact hv.symm
      · rename_i hlt
        rw [List.getElem?_eq_none_iff.mpr (by omega)] at hv
        cases hv
    · rfl
  refine db_seq (fun δ' => δ' = δ.set i (.sh (.int (if b = true then u else v)))) (ds_if hc (fun q => db_one (ds_set hx i (he q) (by rw [q, if_pos rfl]) hi hl hs hf)) fun q => db_nil (hself q).symm) fun δ' q => by rw [q]; exact h
/-! a list's own methods -/
theorem ds_append (i : Nat) {l : List D} {x : Str} {p1 p2 p3 : Pos} (hi : δ[i]? = some (.ow (.lst l))) (he : DE X C B δ e d) (hz : l.length < sizeLine) (h : P.nx (δ.set i (.ow (.lst (l ++ [d]))))) (hN : X.N[i]? = some x := by rfl) (hv : Vis X.env.scope x := by first | exact Or.inl rfl | exact Or.inr (Or.inl rfl) | exact Or.inr (Or.inr rfl))
    (hd : (x == ("__debug__" : Str)) = false := by decide) (hcd : (x == ("__classdict__" : Str)) = false := by decide)
    (hbase : attributeBase (.Name x p1) "append" X.env (eval (.Name x p1) X.env) = eval (.Name x p1) X.env := by rfl)
    (hfew : ((backTo p3 (starEach [e] X.env)).all (fun x => !x.1) && (backToKw p3 (keywordEach [] X.env)).all (fun x => x.1.isSome)
      && decide (([e] : List Expr).length + ([] : List Keyword).length + (if ([] : List Keyword).isEmpty then 0 else 1) < 30)) = true := by rfl)
    (hline : (p2.endLine == p3.line) = true := by rfl) (hs : starEach [e] X.env = (false, eval e X.env) :: starEach [] X.env := by rfl) (hplain : (backTo p3 (starEach [] X.env)).any (·.1) = false := by rfl)
    (hsw : swapsWith (.Call (.Attribute (.Name x p1) "append" p2) [e] [] p3) none pos.line X.env = pure false := by rfl) :
    DS X C B P δ (.Expr (.Call (.Attribute (.Name x p1) "append" p2) [e] [] p3) pos) := ⟨fun R D' pk σ G H N => by
  obtain ⟨p, h1, h2, h3, xs, h4, h5⟩ := N.slot i _ hi
  refine ws (ps_expr (pe_bm PySem.F.plainAttrs_list PySem.F.slot_list_append PySem.F.type_list_append mt_append (pe_var hN hv hd hcd) (pa_cons pe_we pa_nil hs) hbase hfew hline hs hplain) hsw) ⟨_, h1, .inl ⟨rfl, _, .of h4⟩, ?_⟩
  refine he.run R σ G H _ N fun v G' H' g r => ?_
  have h4' := g.hh p _ h4
  refine ⟨p, xs, v, rfl, rfl, h4', by rw [h5.length]; exact hz, pk.nx _ _ G' _ h ((N.go g).write hi h1 ⟨xs ++ [v], upd_same, (h5.mono g.gg).append (.cons r .nil)⟩)⟩⟩
/-! loops -/
def Post.loop (P : Post) (N : DEnv → Prop) : Post := { P with nx := N, ct := N, bk := P.nx }
theorem PostOk.loop {M : Md} {R G : Hp} {H : Hp} {σ : St} {D' : Ends} (N0 : Fit M B R σ G H δ) (pk : PostOk M B R P D') (J : DEnv → Prop) :
    PostOk M B G (P.loop J) { D' with nx := fun σ' H' => ∃ δ' G', J δ' ∧ Fit M B G σ' G' H' δ', ct := fun σ' H' => ∃ δ' G', J δ' ∧ Fit M B G σ' G' H' δ', bk := D'.nx } :=
  ⟨pk.rt, pk.rto, pk.rtn, fun δ' σ' G' H' h N => ⟨δ', G', h, N⟩, fun δ' σ' G' H' h N => pk.nx δ' σ' G' H' h (N0.unroot N), fun δ' σ' G' H' h N => ⟨δ', G', h, N⟩⟩
/-- while c -/
theorem ds_while (hx : XOk X C B k) {body : List Stmt} (J : Nat → DEnv → Prop) (h0 : ∃ m, J m δ)
    (hs : ∀ m δ', J m δ' → ∃ b, DT X C B δ' c b ∧ (b = true → DB X C B (P.loop fun δ'' => ∃ m', m' < m ∧ J m' δ'') δ' body) ∧ (b = false → P.nx δ')) (hst : X.stack = X.env :: X.outer := by rfl) : DS X C B P δ (.While c body [] pos) := ⟨fun R D' pk σ G H N =>
  ws (ps_while (hx.po hst) pt_wt pss_wb) (by
    obtain ⟨m0, j0⟩ := h0
    refine ⟨fun m σ' H' => ∃ δ' G', J m δ' ∧ Fit (md X C) B G σ' G' H' δ', ⟨m0, δ, G, j0, N.root⟩, fun m σ' H' ⟨δ', G', hJ, N'⟩ => ?_⟩
    obtain ⟨b, h1, h2, h3⟩ := hs m δ' hJ
    refine h1.run G σ' G' H' _ N' fun G2 H2 g2 => ?_
    cases b with
    | true => exact ⟨_, fun σ3 H3 ⟨δ3, G3, ⟨m', h4, h5⟩, N3⟩ => ⟨m', h4, δ3, G3, h5, N3⟩, (h2 rfl).run G _ (PostOk.loop N pk (fun δ'' => ∃ m', m' < m ∧ J m' δ'')) σ' G2 H2 (N'.go g2)⟩
    | false => exact pk.nx δ' σ' G2 H2 (h3 rfl) (N.unroot (N'.go g2)))⟩
end

theorem start_slot {l : List D} {n i : Nat} {s : Sl} (e : (l.map Sl.sh ++ List.replicate n Sl.un)[i]? = some s) : (∃ d, s = .sh d ∧ l[i]? = some d) ∨ s = .un := by
  rw [List.getElem?_append] at e
  split at e
  · rw [List.getElem?_map] at e
    obtain ⟨d, hd, rfl⟩ := Option.map_eq_some_iff.mp e
    exact .inl ⟨d, rfl, hd⟩
  · rw [List.getElem?_replicate] at e
    split at e <;> cases e
    exact .inr rfl
/-! #### defs -/
/-- an own exception class, raised -/
structure ExC (P : Program) (w : World) (K : PySem.W.Frag) (mg : Str → Option Value) (x : Str) (c : Addr) : Prop where
  g : mg x = some (.ref c)
  x : PySem.W.excIn K c [.type "ValueError", .type "Exception", .type "BaseException", .type "object"] "ValueError.__new__" = true
  k : PySem.W.keepIn K (.ref c) = true
  b : PySem.W.subIn K (.ref c) (.type "BaseException") = some true
  t : PySem.W.typeIn K (.ref c) = some (.type "type")
def postOf (r : Out) : Post := { rt := fun d => r = .ok d, rto := fun o => r = .own o, rtn := fun l => r = .tow l, nx := fun _ => r = .ok .non }
section
variable {P : Program} {w : World} {K : PySem.W.Frag} {mg : Str → Option Value} {base : Heap} {C : Addr} {k : Nat} {name qual : Str} {st : Stmt} {N ps : List Str} {α : Type} {enc : α → List D} {pre : α → Prop} {res : α → Out}
theorem fn_d {f : Addr} {fd : FuncData} (F : Fun K name qual st f fd) (hm : mg name = some (.ref f)) (hb : Binds K fd ps []) (S : FnScope N ps (defScope st)) (hN : ps.length ≤ N.length)
    (body : ∀ (cdv : Value) (A : Around) (outer : List PySem.Env) (s : Shared) (H : Hp) (E : XK) (B : Bs) (a : α), pre a → XOk (cxOf (L2.CX P w) P w K mg base N qual (defScope st) f cdv A outer s H E) C B k → (∀ δ c, res a = .err c → B.ex δ c) →
      DB (cxOf (L2.CX P w) P w K mg base N qual (defScope st) f cdv A outer s H E) C B (postOf (res a)) ((enc a).map Sl.sh ++ List.replicate (N.length - ps.length) Sl.un) (defBody st)) :
    FnD P w K mg base C (k + 1) name ps enc pre res := by
  refine ⟨f, fd, F.okX S (fun vs H Q E ⟨a, G, _, _, h, _⟩ => h) (fun cdv A outer s H vs Q E hr h => ?_), hm, F.kp, hb, by obtain ⟨oc, od, kV, doc, pm, an, cdv, ct, osl, e, lk, hcd⟩ := F.ex; exact ⟨oc, od, osl, lk⟩⟩
  obtain ⟨a, G, hG, hR, hl, hp, ho⟩ := h
  have hx : XOk (cxOf (L2.CX P w) P w K mg base N qual (defScope st) f cdv A outer s H E) C ⟨G, H, fun _ => E, fun _ c => res a = .err c⟩ k :=
    ⟨rfl, S.nd, hr, fun _ => takes_of rfl rfl rfl rfl, fun σ => passAt (W := fun cls d _ H => E cls d H) (takes_of rfl rfl rfl rfl) σ, fun _ => passes_of rfl, fun R δ σ G' H' H2 c hc N' e' => by
      have hc : res a = .err c := hc
      rw [hc] at ho
      exact ho H2 (N'.grow.hh.trans e')⟩
  refine ⟨_, pss_wb, (body cdv A outer s H E _ a hp hx (fun _ _ h => h)).run G _ ⟨fun d v G' H' q g r => ?_, fun o p G' H' q g n n' r => ?_, fun l b its G' H' q g n r => ?_, fun δ σ G' H' q N' => ?_, fun _ _ _ _ z => z.elim, fun _ _ _ _ z => z.elim⟩ (start N vs) G H ?_⟩
  · have q : res a = .ok d := q
    rw [q] at ho
    exact ho v G' H' g r
  · have q : res a = .own o := q
    rw [q] at ho
    exact ho p G' H' g n n' r
  · have q : res a = .tow l := q
    rw [q] at ho
    exact ho b its G' H' g n r
  · have q : res a = .ok .non := q
    rw [q] at ho
    exact ho .non G' H' N'.all .non
  · have hl' := hR.length
    refine ⟨⟨Ex.refl G, fun _ h _ => h⟩, ?_, Grow.refl hG, fun i sl e => ?_, fun i j o o' p _ e => ?_⟩
    · simp only [L2.start, List.length_append, List.length_map, List.length_replicate]
      omega
    · rcases start_slot e with ⟨d, rfl, hd⟩ | rfl
      · obtain ⟨v, h1, h2⟩ := hR.get hd
        refine ⟨v, ?_, h2⟩
        unfold L2.start
        have hi := (List.getElem?_eq_some_iff.mp h1).1
        rw [List.getElem?_append_left (by rw [List.length_map]; exact hi), List.getElem?_map, h1]
        rfl
      · trivial
    · intro _ ho
      rcases start_slot e with ⟨d, rfl, hd⟩ | rfl <;> exact False.elim ho
end
section
variable {X : Cx} {C : Addr} {B : Bs} {P : Post} {δ : DEnv} {k : Nat}
/-- raise Name("..") -/
theorem ds_raise {x m : Str} {j : Nat} {c : Addr} {p p2 p3 pos : Pos} (hx : XOk X C B k) (hc : ExC X.prog X.w X.K X.mg x c) (he : B.ex δ c) (hg : Gl X x := by rfl) (hdb : (x == ("__debug__" : Str)) = false := by decide) (hs : X.stack = X.env :: X.outer := by rfl) : DS X C B P δ (.Raise (some (.Call (.Name x p) [.Constant (.str m) j p2] [] p3)) none pos) := ⟨fun R D' pk σ G H N =>
  ws (ps_raise hx.calm (hx.tk hs) (pmk_own PySem.F.excBase_ValueError hc.x hc.g hc.k (raises_own hc.b hc.t) hg hdb)) (hx.hex R δ σ G H H c he N (Ex.refl H))⟩
end
end Rv

/-! ### Part D: built-in calls -/
namespace Rv
open PySem L2
/-- the built-in names that the text leaves alone -/
structure Bi (mg : Str → Option Value) : Prop where
  len : mg "len" = none
  abs : mg "abs" = none
  max : mg "max" = none
  min : mg "min" = none
  range : mg "range" = none
  isinstance : mg "isinstance" = none
  int : mg "int" = none
  bool : mg "bool" = none
  str : mg "str" = none
  list : mg "list" = none
  tuple : mg "tuple" = none
  dict : mg "dict" = none
  sorted : mg "sorted" = none
  set : mg "set" = none
  reversed : mg "reversed" = none
section
variable {X : Cx} {C : Addr} {B : Bs} {δ : DEnv} {e e2 e3 : Expr} {d : D} {p pos : Pos} {k : Nat}
/-- a built-in of one argument, of two -/
theorem b1 {x : Str} {id : String} {r : List V → Hp → VK → Prop} {σ : St} {H : Hp} {Q : VK} (hc : CallR X (.builtin id) r) (hg : Gl X x) (hm : X.mg x = none) (hv : bootBuiltins x = some (.builtin id)) (he : starEach [e] X.env = (false, eval e X.env) :: starEach [] X.env) (hn : x ≠ "__name__") (hdb : (x == ("__debug__" : Str)) = false)
    (h : WE X e σ H fun v H1 => r [v] H1 Q) : WE X (.Call (.Name x p) [e] [] pos) σ H Q := we (pe_callB hc hg hm hv (pa_cons pe_we pa_nil he) hn hdb he) h
theorem b2 {x : Str} {id : String} {r : List V → Hp → VK → Prop} {σ : St} {H : Hp} {Q : VK} (hc : CallR X (.builtin id) r) (hg : Gl X x) (hm : X.mg x = none) (hv : bootBuiltins x = some (.builtin id)) (he : starEach [e, e2] X.env = (false, eval e X.env) :: starEach [e2] X.env) (he2 : starEach [e2] X.env = (false, eval e2 X.env) :: starEach [] X.env) (hn : x ≠ "__name__") (hdb : (x == ("__debug__" : Str)) = false)
    (h : WE X e σ H fun v H1 => WE X e2 σ H1 fun v2 H2 => r [v, v2] H2 Q) : WE X (.Call (.Name x p) [e, e2] [] pos) σ H Q := we (pe_callB hc hg hm hv (pa_cons pe_we (pa_cons pe_we pa_nil he2) he) hn hdb he (by rw [he2]; rfl)) h
theorem t1 {x : Str} {id : String} {r : List V → Hp → VK → Prop} {σ : St} {H : Hp} {Q : VK} (hc : CallR X (.type id) r) (hg : Gl X x) (hm : X.mg x = none) (hv : bootBuiltins x = some (.type id)) (he : starEach [e] X.env = (false, eval e X.env) :: starEach [] X.env) (hn : x ≠ "__name__") (hdb : (x == ("__debug__" : Str)) = false)
    (h : WE X e σ H fun v H1 => r [v] H1 Q) : WE X (.Call (.Name x p) [e] [] pos) σ H Q := we (pe_callTy hc hg hm hv (pa_cons pe_we pa_nil he) hn hdb he) h
theorem de_lenL {l : List D} (T : Bi X.mg) (h : DL X C B δ e l) (hg : Gl X "len" := by rfl) (he : starEach [e] X.env = (false, eval e X.env) :: starEach [] X.env := by rfl) : DE X C B δ (.Call (.Name "len" p) [e] [] pos) (.int (l.length : Int)) := ⟨fun R σ G H Q N q =>
  b1 call_len_seq hg T.len PySem.boot_len he (by decide) (by decide) (h.run R σ G H _ N fun a xs G' H' g r1 r2 => ⟨a, xs, rfl, .inl (.of r1), by rw [r2.length]; exact q _ G' H' g (.int _)⟩)⟩
theorem de_lenSc {l : List D} (T : Bi X.mg) (h : DE X C B δ e (.scr l)) (hg : Gl X "len" := by rfl) (he : starEach [e] X.env = (false, eval e X.env) :: starEach [] X.env := by rfl) : DE X C B δ (.Call (.Name "len" p) [e] [] pos) (.int (l.length : Int)) := ⟨fun R σ G H Q N q =>
  b1 call_len_seq hg T.len PySem.boot_len he (by decide) (by decide) (h.run R σ G H _ N fun v G' H' g r => by
    obtain ⟨a, xs, rfl, r1, r2⟩ := r.sc
    exact ⟨a, xs, rfl, .inl (g.gh.sl r1), by rw [r2.length]; exact q _ G' H' g (.int _)⟩)⟩
theorem de_lenT {l : List D} (T : Bi X.mg) (h : DE X C B δ e (.tup l)) (hg : Gl X "len" := by rfl) (he : starEach [e] X.env = (false, eval e X.env) :: starEach [] X.env := by rfl) : DE X C B δ (.Call (.Name "len" p) [e] [] pos) (.int (l.length : Int)) := ⟨fun R σ G H Q N q =>
  b1 call_len_seq hg T.len PySem.boot_len he (by decide) (by decide) (h.run R σ G H _ N fun v G' H' g r => by
    obtain ⟨a, xs, rfl, r1, r2⟩ := r.t
    exact ⟨a, xs, rfl, .inr (g.gh.st r1), by rw [r2.length]; exact q _ G' H' g (.int _)⟩)⟩
theorem de_lenS {s : Str} (T : Bi X.mg) (h : DE X C B δ e (.str s)) (hz : s.length ≤ sizeLine) (hg : Gl X "len" := by rfl) (he : starEach [e] X.env = (false, eval e X.env) :: starEach [] X.env := by rfl) : DE X C B δ (.Call (.Name "len" p) [e] [] pos) (.int (s.length : Int)) := ⟨fun R σ G H Q N q =>
  b1 call_len hg T.len PySem.boot_len he (by decide) (by decide) (h.run R σ G H _ N fun v G' H' g r => by
    obtain rfl := r.s
    exact ⟨.str s, s.length, rfl, ⟨hz, rfl⟩, q _ G' H' g (.int _)⟩)⟩
def absI (i : Int) : Int := if i < 0 then -i else i
def maxI (i j : Int) : Int := if j > i then j else i
def minI (i j : Int) : Int := if j < i then j else i
theorem de_abs {i : Int} (T : Bi X.mg) (h : DE X C B δ e (.int i)) (hg : Gl X "abs" := by rfl) (he : starEach [e] X.env = (false, eval e X.env) :: starEach [] X.env := by rfl) : DE X C B δ (.Call (.Name "abs" p) [e] [] pos) (.int (absI i)) := ⟨fun R σ G H Q N q =>
  b1 call_abs hg T.abs (by decide +kernel) he (by decide) (by decide) (h.run R σ G H _ N fun v G' H' g r => by
    obtain rfl := r.i
    exact ⟨i, rfl, q _ G' H' g (.int _)⟩)⟩
theorem de_max {i j : Int} (T : Bi X.mg) (hx : XOk X C B k) (h : DE X C B δ e (.int i)) (h2 : DE X C B δ e2 (.int j)) (hg : Gl X "max" := by rfl) (he : starEach [e, e2] X.env = (false, eval e X.env) :: starEach [e2] X.env := by rfl) (he2 : starEach [e2] X.env = (false, eval e2 X.env) :: starEach [] X.env := by rfl) : DE X C B δ (.Call (.Name "max" p) [e, e2] [] pos) (.int (maxI i j)) := ⟨fun R σ G H Q N q =>
  b2 (call_max2 hx.calm) hg T.max (by decide +kernel) he he2 (by decide) (by decide) (h.run R σ G H _ N fun v G1 H1 g1 r1 => h2.run R σ G1 H1 _ (N.go g1) fun v2 G2 H2 g2 r2 => by
    obtain rfl := r1.i
    obtain rfl := r2.i
    exact ⟨i, j, rfl, q _ G2 H2 (g1.trans g2) (.int _)⟩)⟩
theorem de_min {i j : Int} (T : Bi X.mg) (hx : XOk X C B k) (h : DE X C B δ e (.int i)) (h2 : DE X C B δ e2 (.int j)) (hg : Gl X "min" := by rfl) (he : starEach [e, e2] X.env = (false, eval e X.env) :: starEach [e2] X.env := by rfl) (he2 : starEach [e2] X.env = (false, eval e2 X.env) :: starEach [] X.env := by rfl) : DE X C B δ (.Call (.Name "min" p) [e, e2] [] pos) (.int (minI i j)) := ⟨fun R σ G H Q N q =>
  b2 (call_min2 hx.calm) hg T.min (by decide +kernel) he he2 (by decide) (by decide) (h.run R σ G H _ N fun v G1 H1 g1 r1 => h2.run R σ G1 H1 _ (N.go g1) fun v2 G2 H2 g2 r2 => by
    obtain rfl := r1.i
    obtain rfl := r2.i
    exact ⟨i, j, rfl, q _ G2 H2 (g1.trans g2) (.int _)⟩)⟩
theorem de_intB {b : Bool} (T : Bi X.mg) (h : DE X C B δ e (.bl b)) (hg : Gl X "int" := by rfl) (he : starEach [e] X.env = (false, eval e X.env) :: starEach [] X.env := by rfl) : DE X C B δ (.Call (.Name "int" p) [e] [] pos) (.int (if b then 1 else 0)) := ⟨fun R σ G H Q N q =>
  t1 call_int1 hg T.int (by decide +kernel) he (by decide) (by decide) (h.run R σ G H _ N fun v G' H' g r => by
    obtain rfl := r.b
    exact .inr ⟨b, rfl, q _ G' H' g (.int _)⟩)⟩
/-! isinstance -/
/-- the class Day, as isinstance looks at it -/
structure DayCls (K : PySem.W.Frag) (C : Addr) : Prop where
  cl : Cls K C
  ha : PySem.W.findIn K (.ref C) "__class__" = some (some (.builtin "object.__class__"))
  hn : PySem.W.specialIn K (.builtin "object.__class__") "__get__" = some (some (.builtin "getset_descriptor.__get__"))
  ht : PySem.W.takesIn K (.builtin "object.__class__") = some true
  hm : PySem.W.mroIn K C (.type "object") = some true
def D.ty (C : Addr) : D → Value
  | .non => .type "NoneType"
  | .bl _ => .type "bool"
  | .int _ => .type "int"
  | .str _ => .type "str"
  | .tup _ => .type "tuple"
  | .lst _ => .type "list"
  | .scr _ => .type "list"
  | .day .. => .ref C
  | .dic _ => .type "dict"
def D.isDay : D → Bool
  | .day .. => true
  | _ => false
/-- a tracked dict with tuple keys, for isinstance -/
theorem dN_cls {P : Program} {w : World} {H : Hp} {h : Heap} {a : Addr} {xs : List (NestedKey × Addr × Addr)} {ep : Nat} (hk : HOk P w H h) (r : H a = some (dN P w a xs ep)) : ∃ o, h.get? a = some o ∧ o.cls = .type "dict" := by
  obtain ⟨⟨o, es, h1, h2, _⟩, _⟩ := hk a _ r
  exact ⟨o, h1, h2.1⟩
def rIsd (X : Cx) (C : Addr) (d : D) : List V → Hp → VK → Prop := fun xs H Q => ∃ (x c : V) (u : Value) (b : Bool), xs = [x, c] ∧ ClsV c u ∧ Rep (md X C) H x d ∧ (d.isDay = true → DayCls X.K C) ∧ PySem.W.kitOne X.K (d.ty C) u = some b ∧ Q (.bl b) H
theorem call_isd {d : D} : CallR X (.builtin "isinstance") (rIsd X C d) := by
  intro pins s σ H xs us Q I r h
  obtain ⟨x, c, u, b, rfl, k, rx, dc, e, q⟩ := h
  obtain ⟨u1, u2, rfl, r1, r2⟩ := vals2 r
  have e2 := k.eq r2
  subst e2
  have fin : ∀ {t : Value}, TyX X.K H x t → PySem.W.kitOne X.K t u2 = some b → wpAny (model X.prog X.w) X.A (PySem.call (.builtin "isinstance") [u1, u2]) (EP X pins σ Q) X.xe s := fun {t} ty e => by
    obtain ⟨P, Z, p, hx⟩ := kit_of I r1 ty
    exact PySem.W.kia_one Z I.kIn p e hx fun tk => ⟨.bl b, H, I.tok tk, rfl, q⟩
  cases rx with
  | non => exact fin (.base .non) e
  | bl y => exact fin (.base (.bl y)) e
  | int i => exact fin (.base (.int i)) e
  | str y => exact fin (.base (.str y)) e
  | tup hs hr =>
    rcases hs with (hs | ⟨o, hs⟩) | ⟨o, its, n, h1, h2, _⟩
    · exact fin (.base (.tup hs)) e
    · exact fin (.fTuple hs) e
    · exact fin (.kTuple h1 h2) e
  | lst hs hr => exact fin (.base (.lst hs)) e
  | scr hs hr =>
    rcases hs with (hs | ⟨o, hs⟩) | ⟨o, its, n, h1, h2, _⟩
    · exact fin (.base (.lst hs)) e
    · exact fin (.base (.frz hs)) e
    · exact fin (.kList h1 h2) e
  | day hs hr hl =>
    have z := dc rfl
    exact fin (.base (.ins hs z.cl z.ha z.hn z.ht z.hm)) e
  | dic hs hr =>
    cases (show u1 = Value.ref _ from r1)
    obtain ⟨o, h1, h2⟩ := dN_cls I.hok hs
    exact PySem.W.kia_one PySem.W.kitx_dict I.kIn ⟨o, h1, h2⟩ e (fun z => nomatch z) fun tk => ⟨.bl b, H, I.tok tk, rfl, q⟩
/-- isinstance(e, T), T a built-in type -/
theorem de_isi {b : Bool} {x : Str} {n : String} {p2 : Pos} (T : Bi X.mg) (h : DW X C B δ e d) (hx : X.mg x = none) (hv : bootBuiltins x = some (.type n)) (hb : PySem.W.kitOne X.K (d.ty C) (.type n) = some b) (hd : d.isDay = true → DayCls X.K C) (hgx : Gl X x := by rfl) (hg : Gl X "isinstance" := by rfl)
    (hn : x ≠ "__name__" := by decide) (hdb : (x == ("__debug__" : Str)) = false := by decide)
    (he : starEach [e, .Name x p2] X.env = (false, eval e X.env) :: starEach [.Name x p2] X.env := by rfl) (he2 : starEach [.Name x p2] X.env = (false, eval (.Name x p2) X.env) :: starEach [] X.env := by rfl) : DE X C B δ (.Call (.Name "isinstance" p) [e, .Name x p2] [] pos) (.bl b) := ⟨fun R σ G H Q N q =>
  b2 (call_isd (C := C) (d := d)) hg T.isinstance (by decide +kernel) he he2 (by decide) (by decide) (h.run R σ G H _ N fun v G' H' g r => we (pe_bltn (v := .ty n) hgx hx hv rfl hn hdb) ⟨v, .ty n, .type n, b, rfl, .ty n, r, hd, hb, q _ G' H' g (.bl _)⟩)⟩
/-- .. T the class at c -/
theorem de_isiC {b : Bool} {x : Str} {c : Addr} {p2 : Pos} (T : Bi X.mg) (h : DW X C B δ e d) (hx : X.mg x = some (.ref c)) (hb : PySem.W.kitOne X.K (d.ty C) (.ref c) = some b) (hd : d.isDay = true → DayCls X.K C) (hgx : Gl X x := by rfl) (hg : Gl X "isinstance" := by rfl)
    (hdb : (x == ("__debug__" : Str)) = false := by decide)
    (he : starEach [e, .Name x p2] X.env = (false, eval e X.env) :: starEach [.Name x p2] X.env := by rfl) (he2 : starEach [.Name x p2] X.env = (false, eval (.Name x p2) X.env) :: starEach [] X.env := by rfl) : DE X C B δ (.Call (.Name "isinstance" p) [e, .Name x p2] [] pos) (.bl b) := ⟨fun R σ G H Q N q =>
  b2 (call_isd (C := C) (d := d)) hg T.isinstance (by decide +kernel) he he2 (by decide) (by decide) (h.run R σ G H _ N fun v G' H' g r => we (pe_glob (v := .ref c) hgx hx rfl hdb) ⟨v, .ref c, .ref c, b, rfl, .own c, r, hd, hb, q _ G' H' g (.bl _)⟩)⟩
/-- what isinstance tells of built-in kinds -/
def D.kind : D → String
  | .non => "NoneType"
  | .bl _ => "bool"
  | .int _ => "int"
  | .str _ => "str"
  | .tup _ => "tuple"
  | .lst _ => "list"
  | .scr _ => "list"
  | .day .. => ""
  | .dic _ => "dict"
def isKind (a n : String) : Bool := a == n || (a == "bool" && n == "int")
def D.is (n : String) (d : D) : Bool := isKind d.kind n
theorem kit_all : ∀ a ∈ ["NoneType", "bool", "int", "str", "tuple", "list", "dict"], ∀ n ∈ ["int", "bool", "str", "tuple", "list", "dict"], kitB a n = some (isKind a n) := by decide +kernel
theorem kit_is {K : PySem.W.Frag} {n : String} (hn : n ∈ ["int", "bool", "str", "tuple", "list", "dict"]) (h : d.isDay = false) : PySem.W.kitOne K (d.ty C) (.type n) = some (d.is n) := by
  cases d with
  | day r i s l => cases h
  | non => exact kit_ty (kit_all "NoneType" (by decide) n hn)
  | bl b => exact kit_ty (kit_all "bool" (by decide) n hn)
  | int b => exact kit_ty (kit_all "int" (by decide) n hn)
  | str b => exact kit_ty (kit_all "str" (by decide) n hn)
  | tup b => exact kit_ty (kit_all "tuple" (by decide) n hn)
  | lst b => exact kit_ty (kit_all "list" (by decide) n hn)
  | scr b => exact kit_ty (kit_all "list" (by decide) n hn)
  | dic b => exact kit_ty (kit_all "dict" (by decide) n hn)
theorem de_is {x : Str} {n : String} {p2 : Pos} (T : Bi X.mg) (h : DW X C B δ e d) (hx : X.mg x = none) (hv : bootBuiltins x = some (.type n)) (hk : n ∈ ["int", "bool", "str", "tuple", "list", "dict"]) (hd : d.isDay = false) (hgx : Gl X x := by rfl) (hg : Gl X "isinstance" := by rfl)
    (hn : x ≠ "__name__" := by decide) (hdb : (x == ("__debug__" : Str)) = false := by decide)
    (he : starEach [e, .Name x p2] X.env = (false, eval e X.env) :: starEach [.Name x p2] X.env := by rfl) (he2 : starEach [.Name x p2] X.env = (false, eval (.Name x p2) X.env) :: starEach [] X.env := by rfl) : DE X C B δ (.Call (.Name "isinstance" p) [e, .Name x p2] [] pos) (.bl (d.is n)) :=
  de_isi T h hx hv (kit_is hk hd) (fun z => by rw [hd] at z; cases z) hgx hg hn hdb he he2
end
end Rv

/-! ### Part E: try -/
namespace Rv
open PySem L2
/-- an own class, as except and isinstance look at it -/
structure OwnC (K : PySem.W.Frag) (mg : Str → Option Value) (x : Str) (c : Addr) : Prop where
  g : mg x = some (.ref c)
  i : PySem.W.isClsIn K c = true
  t : PySem.W.typeIn K (.ref c) = some (.type "type")
  b : PySem.W.subIn K (.ref c) (.type "BaseException") = some true
theorem cls_c {K : PySem.W.Frag} {mg : Str → Option Value} {x : Str} {c : Addr} {t : Value} {b : Bool} (h : OwnC K mg x c) (s : PySem.W.subIn K t (.ref c) = some b) : PySem.W.kitCls K t (.ref c) = some b := by
  show (if ((PySem.W.clsIn K c).isSome && PySem.W.typeIn K (.ref c) == some (.type "type")) = true then PySem.W.subIn K t (.ref c) else none) = some b
  rw [if_pos (by rw [show (PySem.W.clsIn K c).isSome = true from h.i, h.t]; rfl)]
  exact s
theorem kit_c {K : PySem.W.Frag} {mg : Str → Option Value} {x : Str} {c : Addr} {t : Value} {b : Bool} (h : OwnC K mg x c) (s : PySem.W.subIn K t (.ref c) = some b) (e : b = true ∨ (t == .ref c) = false) : PySem.W.kitOne K t (.ref c) = some b := by
  unfold PySem.W.kitOne
  split
  · rcases e with e | e
    · rw [e]
    · rename_i q
      rw [e] at q
      cases q
  · exact cls_c h s
theorem exm_c {K : PySem.W.Frag} {mg : Str → Option Value} {x : Str} {c : Addr} {t : Value} {b : Bool} (h : OwnC K mg x c) (s : PySem.W.subIn K t (.ref c) = some b) : PySem.W.exmOne K t (.ref c) = some b := by
  show (if (PySem.W.subIn K (.ref c) (.type "BaseException") == some true) = true then PySem.W.kitCls K t (.ref c) else none) = some b
  rw [if_pos (by rw [h.b]; rfl)]
  exact cls_c h s
theorem kit_t {K : PySem.W.Frag} {c : Addr} {n : String} {b : Bool} (s : PySem.W.subIn K (.ref c) (.type n) = some b) (e : PySem.W.kitMeta n = true) : PySem.W.kitOne K (.ref c) (.type n) = some b := by
  show (if (Value.ref c == Value.type n) = true then some true else (if PySem.W.kitMeta n = true then PySem.W.subIn K (.ref c) (.type n) else none)) = some b
  rw [if_neg (by intro z; cases z), if_pos e]
  exact s
/-- the handlers by their classes and suites -/
inductive HSyn (X : Cx) : List ExceptHandler → List (Addr × List Stmt) → Prop
  | nil : HSyn X [] []
  | cons {x : Str} {c : Addr} {b₀ : Stmt} {suite : List Stmt} {np pos' : Pos} {hds : List ExceptHandler} {l : List (Addr × List Stmt)} (hm : X.mg x = some (.ref c)) (r : HSyn X hds l) (hg : Gl X x := by rfl) (hdb : (x == ("__debug__" : Str)) = false := by decide) :
      HSyn X (.ExceptHandler (some (.Name x np)) none (b₀ :: suite) pos' :: hds) ((c, b₀ :: suite) :: l)
/-- the handlers do with an exception of the class c0 what is wanted -/
def HdOk (X : Cx) (C : Addr) (B : Bs) (P : Post) (δ : DEnv) (c0 : Addr) : List (Addr × List Stmt) → Prop
  | [] => B.ex δ c0
  | (c, sts) :: r => ∃ b, PySem.W.exmOne X.K (.ref c0) (.ref c) = some b ∧ (b = true → ∀ (a : Addr) (oe : Obj) (pn : List (Addr × Obj)), Zc (.ref c0) none oe → (∃ vs, oe.data = .fields vs) → DB (X.suite a ((a, oe) :: pn)) C B P δ sts) ∧ (b = false → HdOk X C B P δ c0 r)
def wSuite (X : Cx) (sts : List Stmt) : Addr → Value → Option Addr → TS := fun a cls d D' σ H => ∀ (oe : Obj) (pn : List (Addr × Obj)), Zc cls d oe → (∃ vs, oe.data = .fields vs) → WB (X.suite a ((a, oe) :: pn)) sts D' σ H
theorem HSyn.ok {X : Cx} : ∀ {hds : List ExceptHandler} {l : List (Addr × List Stmt)}, HSyn X hds l → HdsOk X hds (l.map fun p => (Value.ref p.1, wSuite X p.2))
  | _, _, .nil => .nil
  | _, _, .cons hm r hg hdb => .cons ⟨hg, hdb, .inl hm⟩ (fun a oe cls d pn hz hf => ⟨fun pins s σ H D' I h => h oe pn hz hf pins s I⟩) r.ok
section
variable {X : Cx} {C : Addr} {B : Bs} {P : Post} {δ : DEnv} {body : List Stmt} {pos : Pos} {k : Nat}
theorem Fit.rebase {M : Md} {R R' : Hp} {σ σ' : St} {G H G' H' : Hp} {δ' : DEnv} {E : St → XK} {ex : DEnv → Addr → Prop} (N0 : Fit M B R σ G H δ) (N : Fit M ⟨R, B.H0, E, ex⟩ R' σ' G' H' δ') : Fit M B R σ' G' H' δ' :=
  ⟨N0.bel, N.len, N.all, N.slot, N.dist⟩
theorem Fit.debase {M : Md} {R : Hp} {σ : St} {G H : Hp} {E : St → XK} {ex : DEnv → Addr → Prop} (N : Fit M B R σ G H δ) : Fit M ⟨R, B.H0, E, ex⟩ R σ G H δ :=
  ⟨⟨Ex.refl R, fun _ h _ => h⟩, N.len, N.grow, N.slot, N.dist⟩
theorem Grow.rebase {R : Hp} {G H : Hp} (b : Bel B R) (g : Grow R B.H0 G H) : Grow B.G0 B.H0 G H := ⟨g.hh, b.gg.trans g.gg, g.gh, fun p h1 h2 => g.nw p (b.nw p h1 h2) h2⟩
theorem PostOk.debase {M : Md} {R : Hp} {σ : St} {G H : Hp} {D' : Ends} {E : St → XK} {ex : DEnv → Addr → Prop} (N0 : Fit M B R σ G H δ) (pk : PostOk M B R P D') : PostOk M ⟨R, B.H0, E, ex⟩ R P D' :=
  ⟨fun d v G H q g r => pk.rt d v G H q (Grow.rebase N0.bel g) r, fun o p G H q g => pk.rto o p G H q (Grow.rebase N0.bel g), fun l a its G H q g => pk.rtn l a its G H q (Grow.rebase N0.bel g), fun δ' σ' G' H' q N => pk.nx δ' σ' G' H' q (N0.rebase N), fun δ' σ' G' H' q N => pk.bk δ' σ' G' H' q (N0.rebase N), fun δ' σ' G' H' q N => pk.ct δ' σ' G' H' q (N0.rebase N)⟩
theorem hd_run {M0 : Hp} {R : Hp} {D' : Ends} {σ : St} {G H : Hp} {c0 : Addr} (hx : XOk X C B k) (pk : PostOk (md X C) B R P D') (N : Fit (md X C) B R σ G H δ) : ∀ (l : List (Addr × List Stmt)), HdOk X C B P δ c0 l →
    wMany X.K (fun cls d σ H => B.E σ cls d H) D' (l.map fun p => (Value.ref p.1, wSuite X p.2)) (.ref c0) none σ H
  | [], h => hx.hex R δ σ G H H c0 h N (Ex.refl H)
  | (c, sts) :: r, ⟨b, h1, h2, h3⟩ => ⟨b, h1, fun q a ha oe pn hz hf => (h2 q a oe pn hz hf).run R D' ⟨pk.rt, pk.rto, pk.rtn, pk.nx, pk.bk, pk.ct⟩ σ G H N, fun q => hd_run (M0 := M0) hx pk N r (h3 q)⟩
/-- try: body except X: .. except Y: ..; phi: what the body may raise -/
theorem ds_try (hx : XOk X C B k) {h₀ : ExceptHandler} {hds : List ExceptHandler} {l : List (Addr × List Stmt)} (hh : HSyn X (h₀ :: hds) l) (φ : Addr → Prop) (hφ : ∀ c0, φ c0 → HdOk X C B P δ c0 l)
    (hb : ∀ (pn : List (Addr × Obj)) (xe : Value → Shared → Prop) (B' : Bs), XOk (X.tr pn xe) C B' k → (∀ c0, φ c0 → B'.ex δ c0) → DB (X.tr pn xe) C B' P δ body)
    (hs : X.stack = X.env :: X.outer := by rfl) (hf : X.env.frame = some X.env.locals := by rfl) : DS X C B P δ (.Try body (h₀ :: hds) [] [] pos) := ⟨fun R D' pk σ G H N => by
  refine ws (ps_try_many hs hf (hx.tk hs) (tb := fun W D' σ H => ∀ (pn : List (Addr × Obj)) (xe : Value → Shared → Prop), Takes (X.tr pn xe) W → PassesOwn (model X.prog X.w) X.A X.env xe → WB (X.tr pn xe) body D' σ H) (fun W pn xe tk po => ⟨fun pins s σ H D I h => h pn xe tk po pins s I⟩) hh.ok) ?_
  intro pn xe tk po
  have hx' : XOk (X.tr pn xe) C ⟨R, B.H0, fun σ cls d H => wMany X.K (fun cls d σ H => B.E σ cls d H) D' (l.map fun p => (Value.ref p.1, wSuite X p.2)) cls d σ H, fun δ' c0 => δ' = δ ∧ φ c0⟩ k :=
    ⟨hx.calm, hx.nd, hx.hr, fun _ => tk, fun σ => passAt tk σ, fun _ => po, fun R' δ' σ' G' H' H2 c0 hc N' e' => by
      obtain ⟨rfl, hc⟩ := hc
      have N2 := N.rebase N'
      exact hd_run (M0 := R) hx pk (N2.go ⟨e', Ex.refl G', N2.gh.trans e', fun _ h _ => h⟩) l (hφ c0 hc)⟩
  exact (hb pn xe _ hx' fun c0 h => ⟨rfl, h⟩).run R D' (pk.debase N) σ G H N.debase⟩
/-- the class of a caught error, as isinstance looks at it: L2.ExcC -/
theorem de_isE {a c0 cv : Addr} {oe : Obj} {pn : List (Addr × Obj)} {b : Bool} {i : Nat} {x y : Str} {p pos2 p2 p3 : Pos} (T : Bi X.mg) (E : ExcC X.K c0) (hz : Zc (.ref c0) none oe) (hf : ∃ vs, oe.data = .fields vs) (hi : δ[i]? = some (.raw (.ref a))) (hm : X.mg y = some (.ref cv)) (hb : PySem.W.kitOne X.K (.ref c0) (.ref cv) = some b)
    (hN : X.N[i]? = some x := by rfl) (hv : Vis X.env.scope x := by first | exact Or.inl rfl | exact Or.inr (Or.inl rfl) | exact Or.inr (Or.inr rfl)) (hd : (x == ("__debug__" : Str)) = false := by decide) (hcd : (x == ("__classdict__" : Str)) = false := by decide) (hgy : Gl X y := by rfl) (hg : Gl X "isinstance" := by rfl) (hdb : (y == ("__debug__" : Str)) = false := by decide)
    (he : starEach [.Name x p3, .Name y p2] X.env = (false, eval (.Name x p3) X.env) :: starEach [.Name y p2] X.env := by rfl) (he2 : starEach [.Name y p2] X.env = (false, eval (.Name y p2) X.env) :: starEach [] X.env := by rfl) :
    DE (X.suite a ((a, oe) :: pn)) C B δ (.Call (.Name "isinstance" p) [.Name x p3, .Name y p2] [] pos2) (.bl b) := ⟨fun R σ G H Q N q =>
  b2 (X := X.suite a ((a, oe) :: pn)) (call_isE E hz hf) hg T.isinstance (by decide +kernel) he he2 (by decide) (by decide) (we (pe_var hN hv hd hcd) ⟨_, N.slot i _ hi, we (pe_glob (v := .ref cv) hgy hm rfl hdb) ⟨.ref cv, .ref cv, b, rfl, fun u h => h, hb, q _ G H N.self (.bl b)⟩⟩)⟩
/-- .. isinstance(error, ValueError) -/
theorem de_isEB {a c0 : Addr} {n : String} {oe : Obj} {pn : List (Addr × Obj)} {b : Bool} {i : Nat} {x y : Str} {p pos2 p2 p3 : Pos} (T : Bi X.mg) (E : ExcC X.K c0) (hz : Zc (.ref c0) none oe) (hf : ∃ vs, oe.data = .fields vs) (hi : δ[i]? = some (.raw (.ref a))) (hm : X.mg y = none) (hbt : bootBuiltins y = some (.type n)) (hb : PySem.W.kitOne X.K (.ref c0) (.type n) = some b)
    (hN : X.N[i]? = some x := by rfl) (hv : Vis X.env.scope x := by first | exact Or.inl rfl | exact Or.inr (Or.inl rfl) | exact Or.inr (Or.inr rfl)) (hd : (x == ("__debug__" : Str)) = false := by decide) (hcd : (x == ("__classdict__" : Str)) = false := by decide) (hgy : Gl X y := by rfl) (hg : Gl X "isinstance" := by rfl) (hn : y ≠ "__name__" := by decide) (hdb : (y == ("__debug__" : Str)) = false := by decide)
    (he : starEach [.Name x p3, .Name y p2] X.env = (false, eval (.Name x p3) X.env) :: starEach [.Name y p2] X.env := by rfl) (he2 : starEach [.Name y p2] X.env = (false, eval (.Name y p2) X.env) :: starEach [] X.env := by rfl) :
    DE (X.suite a ((a, oe) :: pn)) C B δ (.Call (.Name "isinstance" p) [.Name x p3, .Name y p2] [] pos2) (.bl b) := ⟨fun R σ G H Q N q =>
  b2 (X := X.suite a ((a, oe) :: pn)) (call_isE E hz hf) hg T.isinstance (by decide +kernel) he he2 (by decide) (by decide) (we (pe_var hN hv hd hcd) ⟨_, N.slot i _ hi, we (pe_bltn (v := .ty n) hgy hm hbt rfl hn hdb) ⟨.ty n, .type n, b, rfl, fun u h => h, hb, q _ G H N.self (.bl b)⟩⟩)⟩
/-- try: body except X as n: suite; phi: what the body may raise (all caught) -/
theorem ds_tryAs (hx : XOk X C B k) (i : Nat) {x n : Str} {c : Addr} {b₀ : Stmt} {suite : List Stmt} {np pos' : Pos} (hm : X.mg x = some (.ref c)) (φ : Addr → Prop) (hφ : ∀ c0, φ c0 → PySem.W.exmOne X.K (.ref c0) (.ref c) = some true ∧ ∀ (a : Addr) (oe : Obj) (pn : List (Addr × Obj)), Zc (.ref c0) none oe → (∃ vs, oe.data = .fields vs) →
      DB (X.suite a ((a, oe) :: pn)) C B { P with nx := fun δ' => P.nx (δ'.set i .un), bk := fun δ' => P.bk (δ'.set i .un), ct := fun δ' => P.ct (δ'.set i .un) } (δ.set i (.raw (.ref a))) (b₀ :: suite))
    (hb : ∀ (pn : List (Addr × Obj)) (xe : Value → Shared → Prop) (B' : Bs), XOk (X.tr pn xe) C B' k → (∀ c0, φ c0 → B'.ex δ c0) → DB (X.tr pn xe) C B' P δ body)
    (hg : Gl X x := by rfl) (hdb : (x == ("__debug__" : Str)) = false := by decide) (hi : X.N[i]? = some n := by rfl) (hl : X.env.kindOf n = some .local := by rfl)
    (hs : X.stack = X.env :: X.outer := by rfl) (hf : X.env.frame = some X.env.locals := by rfl) : DS X C B P δ (.Try body [.ExceptHandler (some (.Name x np)) (some n) (b₀ :: suite) pos'] [] [] pos) := ⟨fun R D' pk σ G H N => by
  refine ws (ps_try_as (i := i) hs hf hx.nd hi hl ⟨hg, hdb, .inl hm⟩ (hx.tk hs) (tb := fun W D' σ H => ∀ (pn : List (Addr × Obj)) (xe : Value → Shared → Prop), Takes (X.tr pn xe) W → PassesOwn (model X.prog X.w) X.A X.env xe → WB (X.tr pn xe) body D' σ H) (ts := wSuite X (b₀ :: suite)) (fun W pn xe tk po => ⟨fun pins s σ H D I h => h pn xe tk po pins s I⟩) (fun a oe cls d pn hz hf => ⟨fun pins s σ H D' I h => h oe pn hz hf pins s I⟩)) ?_
  intro pn xe tk po
  have hx' : XOk (X.tr pn xe) C ⟨R, B.H0, fun σ cls d H => wAs X.K (.ref c) i (wSuite X (b₀ :: suite)) (fun cls d σ H => B.E σ cls d H) D' cls d σ H, fun δ' c0 => δ' = δ ∧ φ c0⟩ k :=
    ⟨hx.calm, hx.nd, hx.hr, fun _ => tk, fun σ => passAt tk σ, fun _ => po, fun R' δ' σ' G' H' H2 c0 hc N' e' => by
      obtain ⟨rfl, hc⟩ := hc
      obtain ⟨h1, h2⟩ := hφ c0 hc
      have N2 := N.rebase N'
      have N3 := N2.go ⟨e', Ex.refl G', N2.gh.trans e', fun _ h _ => h⟩
      refine ⟨true, h1, fun _ a ha oe pn hz hf => ?_, fun q => nomatch q⟩
      exact (h2 a oe pn hz hf).run R { nx := fun σ' H' => D'.nx (σ'.set i none) H', rt := D'.rt, bk := fun σ' H' => D'.bk (σ'.set i none) H', ct := fun σ' H' => D'.ct (σ'.set i none) H' } ⟨pk.rt, pk.rto, pk.rtn, fun δ2 σ2 G2 H3 q N4 => pk.nx _ _ G2 H3 q N4.setUn, fun δ2 σ2 G2 H3 q N4 => pk.bk _ _ G2 H3 q N4.setUn, fun δ2 σ2 G2 H3 q N4 => pk.ct _ _ G2 H3 q N4.setUn⟩ _ G' H2 N3.setRaw⟩
  exact (hb pn xe _ hx' fun c0 h => ⟨rfl, h⟩).run R D' (pk.debase N) σ G H N.debase⟩
end
end Rv

/-! ### Part F: what is walked, comprehensions, lists and tuples -/
namespace Rv
open PySem L2
/-- J walks the data l, which stand still in G -/
structure Wk (M : Md) (J : It) (G : Hp) (Φ : Hp → Prop) (l : List D) : Prop where
  go : ∀ i H, Ex G H → Φ H → i < l.length → J.go i H
  stop : ∀ i H, Ex G H → Φ H → l.length ≤ i → J.stop i H
  yld : ∀ i H x H', Ex G H → Φ H → i < l.length → J.yld i H x H' → H' = H ∧ ∃ d, l[i]? = some d ∧ Rep M G x d
structure DI (X : Cx) (C : Addr) (B : Bs) (δ : DEnv) (tg iter : Expr) (l : List D) : Prop where
  ex : ∃ wi : TI, PI X tg iter wi ∧ ∀ (R : Hp) (σ : St) (G H : Hp) (Rr : It → Hp → Prop), Fit (md X C) B R σ G H δ → (∀ J G' H', Grow G H G' H' → Wk (md X C) J G' (Ex B.H0) l → Rr J H') → wi σ H Rr
/-- what a target does with a datum -/
structure DG (X : Cx) (C : Addr) (B : Bs) (tg : Expr) (u : D → DEnv → DEnv) (ok : D → Prop) : Prop where
  ex : ∃ g : TG, PG X tg g ∧ ∀ (R : Hp) (σ : St) (G H : Hp) (δ : DEnv) (x : V) (d : D) (Q : St → Hp → Prop), ok d → Fit (md X C) B R σ G H δ → Rep (md X C) G x d → (∀ σ', Fit (md X C) B R σ' G H (u d δ) → Q σ' H) → g x σ H Q
section
variable {X : Cx} {C : Addr} {B : Bs} {P : Post} {δ : DEnv} {tg e e2 e3 : Expr} {d : D} {pos : Pos} {k : Nat}
theorem lt_get {α : Type} {l : List α} {i : Nat} (h : i < l.length) : ∃ d, l[i]? = some d := ⟨l[i], List.getElem?_eq_getElem h⟩
theorem di_list {l : List D} (h : DE X C B δ e (.lst l)) : DI X C B δ tg e l := ⟨_, pi_list pe_we, fun R σ G H Rr N q => h.run R σ G H _ N fun v G1 H1 g r => by
  obtain ⟨a, xs, rfl, h1, h2⟩ := r.l
  have hl := h2.length
  refine ⟨a, rfl, ⟨xs, .of (g.gh _ _ h1)⟩, q _ G1 H1 g ⟨fun i H' e _ hi => ?_, fun i H' e _ hi => ⟨xs, .of (e _ _ h1), by omega⟩, fun i H' x H'' e _ hi y => ?_⟩⟩
  · obtain ⟨x, hx⟩ := lt_get (l := xs) (i := i) (by omega)
    exact ⟨xs, x, .of (e _ _ h1), hx⟩
  · obtain ⟨y1, y2⟩ := y
    exact ⟨y1, h2.getV (y2 xs (.of (e _ _ h1)))⟩⟩
theorem di_tup {l : List D} (h : DE X C B δ e (.tup l)) : DI X C B δ tg e l := ⟨_, pi_tup pe_we, fun R σ G H Rr N q => h.run R σ G H _ N fun v G1 H1 g r => by
  obtain ⟨a, xs, rfl, h1, h2⟩ := r.t
  have hl := h2.length
  refine ⟨a, rfl, ⟨xs, g.gh.st h1⟩, q _ G1 H1 g ⟨fun i H' e _ hi => ?_, fun i H' e _ hi => ⟨xs, e.st h1, by omega⟩, fun i H' x H'' e _ hi y => ?_⟩⟩
  · obtain ⟨x, hx⟩ := lt_get (l := xs) (i := i) (by omega)
    exact ⟨xs, x, e.st h1, hx⟩
  · obtain ⟨y1, y2⟩ := y
    exact ⟨y1, h2.getV (y2 xs (e.st h1))⟩⟩
/-- a list that stood at the entry, by its name -/
theorem di_old (i : Nat) {l : List D} {x : Str} (h : δ[i]? = some (.old (.lst l))) (f : tps l = true) (hN : X.N[i]? = some x := by rfl) (hv : Vis X.env.scope x := by first | exact Or.inl rfl | exact Or.inr (Or.inl rfl) | exact Or.inr (Or.inr rfl))
    (hd : (x == ("__debug__" : Str)) = false := by decide) (hcd : (x == ("__classdict__" : Str)) = false := by decide) : DI X C B δ tg (.Name x pos) l := ⟨_, pi_list (pe_var hN hv hd hcd), fun R σ G H Rr N q => by
  obtain ⟨v, h1, h2⟩ := N.slot i _ h
  obtain ⟨a, xs, rfl, h3, h4⟩ := h2.l
  have hl := h4.length
  obtain ⟨G1, g1, r1⟩ := (h4.mono N.grow.hh).pub f N.gh
  refine ⟨_, h1, a, rfl, ⟨xs, .of (N.grow.hh _ _ h3)⟩, q _ G1 H g1 ⟨fun i H' _ e hi => ?_, fun i H' _ e hi => ⟨xs, .of (e _ _ h3), by omega⟩, fun i H' x H'' e0 e hi y => ?_⟩⟩
  · obtain ⟨x, hx⟩ := lt_get (l := xs) (i := i) (by omega)
    exact ⟨xs, x, .of (e _ _ h3), hx⟩
  · obtain ⟨y1, y2⟩ := y
    exact ⟨y1, r1.getV (y2 xs (.of (e _ _ h3)))⟩⟩
/-- the numbers that range tells -/
def rng (lo : Int) (n : Nat) : List D := (List.range n).map fun i : Nat => D.int (lo + (i : Int))
def rngC (lo c : Int) (n : Nat) : List D := (List.range n).map fun i : Nat => D.int (lo + (i : Int) * c)
theorem rng_get {lo : Int} {n i : Nat} (h : i < n) : (rng lo n)[i]? = some (.int (lo + (i : Int))) := by
  unfold rng
  rw [List.getElem?_map, List.getElem?_range h]
  rfl
theorem rngC_get {lo c : Int} {n i : Nat} (h : i < n) : (rngC lo c n)[i]? = some (.int (lo + (i : Int) * c)) := by
  unfold rngC
  rw [List.getElem?_map, List.getElem?_range h]
  rfl
theorem rng_len (lo : Int) (n : Nat) : (rng lo n).length = n := by unfold rng; rw [List.length_map, List.length_range]
theorem rngC_len (lo c : Int) (n : Nat) : (rngC lo c n).length = n := by unfold rngC; rw [List.length_map, List.length_range]
theorem wk_r {M : Md} {G : Hp} {Φ : Hp → Prop} (lo : Int) (n : Nat) : Wk M (Itr lo n) G Φ (rng lo n) :=
  ⟨fun i H' _ _ hi => by rw [rng_len] at hi; exact hi, fun i H' _ _ hi => by rw [rng_len] at hi; exact hi, fun i H' x H'' _ _ hi y => by
    rw [rng_len] at hi
    obtain ⟨y1, rfl⟩ := y
    exact ⟨y1, _, rng_get hi, .int _⟩⟩
theorem wk_c {M : Md} {G : Hp} {Φ : Hp → Prop} (lo c : Int) (n : Nat) : Wk M (Itc lo c n) G Φ (rngC lo c n) :=
  ⟨fun i H' _ _ hi => by rw [rngC_len] at hi; exact hi, fun i H' _ _ hi => by rw [rngC_len] at hi; exact hi, fun i H' x H'' _ _ hi y => by
    rw [rngC_len] at hi
    obtain ⟨y1, rfl⟩ := y
    exact ⟨y1, _, rngC_get hi, .int _⟩⟩
theorem di_r1 {p : Pos} {m : Int} (T : Bi X.mg) (h : DE X C B δ e (.int m)) (b1 : -(2 ^ 62) ≤ m ∧ m < 2 ^ 62) (hg : Gl X "range" := by rfl) (hse : starEach [e] X.env = [(false, eval e X.env)] := by rfl) : DI X C B δ tg (.Call (.Name "range" p) [e] [] pos) (rng 0 m.toNat) :=
  ⟨_, pi_range1 hg T.range (pa_cons pe_we pa_nil hse) hse, fun R σ G H Rr N q => h.run R σ G H _ N fun v G1 H1 g r => by
    obtain rfl := r.i
    exact ⟨m, rfl, b1.1, b1.2, q _ G1 H1 g (wk_r 0 m.toNat)⟩⟩
theorem di_r2 {p : Pos} {lo m : Int} (T : Bi X.mg) (h : DE X C B δ e (.int lo)) (h2 : DE X C B δ e2 (.int m)) (b1 : -(2 ^ 62) ≤ lo ∧ lo < 2 ^ 62 ∧ -(2 ^ 62) ≤ m ∧ m < 2 ^ 62) (hg : Gl X "range" := by rfl) (hse : starEach [e, e2] X.env = [(false, eval e X.env), (false, eval e2 X.env)] := by rfl) (hse2 : starEach [e2] X.env = [(false, eval e2 X.env)] := by rfl) :
    DI X C B δ tg (.Call (.Name "range" p) [e, e2] [] pos) (rng lo (m - lo).toNat) :=
  ⟨_, pi_range2 hg T.range (pa_cons pe_we (pa_cons pe_we pa_nil hse2) (by rw [hse, hse2])) hse hse2, fun R σ G H Rr N q => h.run R σ G H _ N fun v G0 H0 g0 r0 => h2.run R σ G0 H0 _ (N.go g0) fun v G1 H1 g r => by
    obtain rfl := r0.i
    obtain rfl := r.i
    exact ⟨lo, m, rfl, b1, q _ G1 H1 (g0.trans g) (wk_r lo _)⟩⟩
/-! targets -/
theorem dg_name (hn : X.N.Nodup) (i : Nat) {x : Str} (hi : X.N[i]? = some x := by rfl) (hl : Loc X.env.scope x := by first | exact Or.inl rfl | exact Or.inr rfl) (hf : X.fn x = true ∨ X.env.scope.names.lookup x = some .local := by first | exact .inl rfl | exact .inr rfl) :
    DG X C B (.Name x pos) (fun d δ => δ.set i (.sh d)) (fun _ => True) := ⟨_, pg_name (i := i) hn hi hl hf, fun R σ G H δ x d Q _ N r q => q _ (N.setSh r)⟩
def set2 (i j : Nat) : D → DEnv → DEnv
  | .tup [a, b], δ => (δ.set i (.sh a)).set j (.sh b)
  | _, δ => δ
theorem dg_2 (hx : XOk X C B k) (i j : Nat) {x y : Str} {p1 p2 : Pos} {kk : Nat} (hi : X.N[i]? = some x := by rfl) (hl : Loc X.env.scope x := by first | exact Or.inl rfl | exact Or.inr rfl) (hf : X.fn x = true ∨ X.env.scope.names.lookup x = some .local := by first | exact .inl rfl | exact .inr rfl)
    (hj : X.N[j]? = some y := by rfl) (hl2 : Loc X.env.scope y := by first | exact Or.inl rfl | exact Or.inr rfl) (hf2 : X.fn y = true ∨ X.env.scope.names.lookup y = some .local := by first | exact .inl rfl | exact .inr rfl)
    (hs1 : (assignEach [.Name x p1, .Name y p2] X.env).map (·.2) = assign (.Name x p1) X.env :: (assignEach [.Name y p2] X.env).map (·.2) := by rfl) (hs2 : (assignEach [.Name y p2] X.env).map (·.2) = assign (.Name y p2) X.env :: (assignEach [] X.env).map (·.2) := by rfl)
    (hn2 : (assignEach [.Name x p1, .Name y p2] X.env).length = 2 := by rfl) (hst : (assignEach [.Name x p1, .Name y p2] X.env).findIdx? (·.1) = none := by rfl) :
    DG X C B (.Tuple [.Name x p1, .Name y p2] kk pos) (set2 i j) (fun d => ∃ a b, d = .tup [a, b]) :=
  ⟨_, pg_tup hx.calm (pgs_cons (pg_name (i := i) hx.nd hi hl hf) (pgs_cons (pg_name (i := j) hx.nd hj hl2 hf2) pgs_nil hs2) hs1) hn2 hst, fun R σ G H δ x d Q ⟨a, b, e⟩ N r q => by
    subst e
    obtain ⟨p, xs, rfl, h1, h2⟩ := r.t
    cases h2 with
    | cons ra r2 =>
      cases r2 with
      | cons rb r3 =>
        cases r3
        exact ⟨p, _, rfl, N.gh.st h1, rfl, _, _, rfl, _, _, rfl, rfl, q _ ((N.setSh ra).setSh rb)⟩⟩
/-- a, b = e -/
theorem ds_asg {u : D → DEnv → DEnv} {ok : D → Prop} (hg : DG X C B tg u ok) (he : DE X C B δ e d) (hok : ok d) (h : P.nx (u d δ)) (hs : swapsWithSole [tg] e pos.line X.env = pure false := by rfl) (hw : swappedStores [tg] e X.env = pure none := by rfl)
    (h1 : (assignEach [tg] X.env).map (·.2) = [assign tg X.env] := by rfl) : DS X C B P δ (.Assign [tg] e pos) := ⟨fun R D' pk σ G H N => by
  obtain ⟨g, hg1, hg2⟩ := hg.ex
  exact ws (ps_asg pe_we hg1 hs hw h1) (he.run R σ G H _ N fun v G' H' g' r => hg2 R σ G' H' δ v d _ hok (N.go g') r fun σ' N' => pk.nx _ _ G' H' h N')⟩
/-! for -/
theorem ds_for {u : D → DEnv → DEnv} {ok : D → Prop} (hx : XOk X C B k) {l : List D} {body : List Stmt} (J : Nat → DEnv → Prop) (hi : DI X C B δ tg e l) (hg : DG X C B tg u ok) (hok : ∀ d, d ∈ l → ok d) (h0 : J 0 δ)
    (hs : ∀ (n : Nat) (d : D) δ', l[n]? = some d → J n δ' → DB X C B (P.loop (J (n + 1))) (u d δ') body) (hd : ∀ δ', J l.length δ' → P.nx δ') (hfs : ∀ x, foldedSetIterable e X.env x = pure x := by intro _; rfl) (hst : X.stack = X.env :: X.outer := by rfl) : DS X C B P δ (.For tg e body [] pos) := ⟨fun R D' pk σ G H N => by
  obtain ⟨wi, hi1, hi2⟩ := hi.ex
  obtain ⟨g, hg1, hg2⟩ := hg.ex
  refine ws (ps_for (hx.po hst) hx.calm hi1 hg1 pss_wb hfs) (hi2 R σ G H _ N fun Jt G1 H1 g1 w => ?_)
  have N1 := N.go g1
  refine ⟨fun n m σ' H' => m = l.length - n ∧ n ≤ l.length ∧ ∃ δ' G', J n δ' ∧ Fit (md X C) B G1 σ' G' H' δ', ⟨l.length, by simp, Nat.zero_le _, δ, G1, h0, N1.root⟩, fun n m σ' H' ⟨hm, hn, δ', G', hJ, N'⟩ => ?_⟩
  have e1 : Ex G1 H' := N'.grow.gg.trans N'.gh
  by_cases hlt : n < l.length
  · refine .inr ⟨w.go n H' e1 N'.grow.hh hlt, fun σ2 H2 => ∃ δ' G', J (n + 1) δ' ∧ Fit (md X C) B G1 σ2 G' H2 δ', fun σ2 H2 q => ⟨l.length - (n + 1), by omega, rfl, hlt, q⟩, fun x H'' y => ?_⟩
    obtain ⟨rfl, d, h1, h2⟩ := w.yld n H' x H'' e1 N'.grow.hh hlt y
    exact hg2 G1 σ' G' H'' δ' x d _ (hok d (List.mem_of_getElem? h1)) N' (h2.mono N'.grow.gg) fun σ2 N2 => (hs n d δ' h1 hJ).run G1 _ (PostOk.loop N1 pk (J (n + 1))) σ2 G' H'' N2
  · have en : n = l.length := by omega
    subst en
    exact .inl ⟨w.stop _ H' e1 N'.grow.hh (Nat.le_refl _), pk.nx δ' σ' G' H' (hd δ' hJ) (N1.unroot N')⟩⟩
/-! comprehensions -/
abbrev Bs.nox (B : Bs) : Bs := ⟨B.G0, B.H0, fun _ _ _ _ => False, fun _ _ => False⟩
theorem Fit.nox {M : Md} {R : Hp} {σ : St} {G H : Hp} (N : Fit M B R σ G H δ) : Fit M B.nox R σ G H δ := ⟨⟨N.bel.gg, N.bel.nw⟩, N.len, N.grow, N.slot, N.dist⟩
theorem XOk.blk (hx : XOk X C B k) (s : Shared) (H : Hp) (scope : Scope) (env : PySem.Env) (fp : List Addr) : XOk (X.blk s H scope env fp) C B.nox k :=
  ⟨hx.calm, hx.nd, hx.hr, fun _ => takes_none5, fun σ => passAt (W := fun _ _ _ _ => False) takes_none5 σ, fun _ => PassesOwn.never, fun _ _ _ _ _ _ _ h => h.elim⟩
theorem Fit.upd {M : Md} {R : Hp} {σ : St} {G H : Hp} {D0 : Addr} {o : HO} (N : Fit M B R σ G H δ) (h0 : B.H0 D0 = none) (hG : G D0 = none) (hs : ∀ (i : Nat) (a : Sl), δ[i]? = some a → ¬ a.owns σ[i]? D0) : Fit M B R σ G (upd H D0 o) δ :=
  ⟨N.bel, N.len, ⟨N.grow.hh.mut h0, N.grow.gg, N.gh.mut hG, N.grow.nw⟩, fun i s e => (N.slot i s e).upd (hs i s e), N.dist⟩
/-- the tests of a clause -/
structure DF (X : Cx) (C : Addr) (B : Bs) (δ : DEnv) (scope : Scope) (i : Nat) (ifs : List Expr) (l : List D) (b : D → Bool) : Prop where
  ex : ∃ tt : TT, (∀ (s : Shared) (H : Hp) (C0 : Addr) (cl : List (Str × Addr)) (fp : List Addr), PTs (X.blk s H scope (compEnvC scope cl C0 X.env) fp) ifs tt) ∧
    ∀ (n : Nat) (d : D), l[n]? = some d → ∀ (R : Hp) (σ : St) (G H : Hp) (Q : Bool → Hp → Prop), Fit (md X C) B R σ G H (δ.set i (.sh d)) → (∀ G' H', Grow G H G' H' → Q (b d) H') → tt σ H Q
theorem df_nil {scope : Scope} {i : Nat} {l : List D} : DF X C B δ scope i [] l (fun _ => true) := ⟨tYes, fun _ _ _ _ _ => pts_nil, fun n d _ R σ G H Q N q => q G H N.self⟩
theorem df_one {scope : Scope} {i : Nat} {l : List D} {c : Expr} {b : D → Bool} (hx : XOk X C B k) (h : ∀ (n : Nat) (d : D), l[n]? = some d → ∀ (s : Shared) (H : Hp) (C0 : Addr) (cl : List (Str × Addr)) (fp : List Addr), XOk (X.blk s H scope (compEnvC scope cl C0 X.env) fp) C B.nox k → DT (X.blk s H scope (compEnvC scope cl C0 X.env) fp) C B.nox (δ.set i (.sh d)) c (b d)) : DF X C B δ scope i [c] l b :=
  ⟨fun σ H Q => ∀ (s : Shared) (H' : Hp) (C0 : Addr) (cl : List (Str × Addr)) (fp : List Addr), WT (X.blk s H' scope (compEnvC scope cl C0 X.env) fp) c σ H Q, fun s H C0 cl fp => pts_one ⟨fun pins s' σ H' Q I q => q s H C0 cl fp pins s' I⟩, fun n d hd R σ G H Q N q s H' C0 cl fp => (h n d hd s H' C0 cl fp (hx.blk _ _ _ _ _)).run R σ G H Q N.nox q⟩
def lcD (l : List D) (b : D → Bool) (g : D → D) : List D := (l.filter b).map g
theorem lcD_snoc {l : List D} {b : D → Bool} {g : D → D} {n : Nat} {d : D} (h : l[n]? = some d) : lcD (l.take (n + 1)) b g = lcD (l.take n) b g ++ (if b d = true then [g d] else []) := by
  have hl : n < l.length := (List.getElem?_eq_some_iff.mp h).1
  have e : l.take (n + 1) = l.take n ++ [d] := by
    rw [List.take_succ, h]
    rfl
  unfold lcD
  rw [e, List.filter_append, List.map_append]
  congr 1
  rw [List.filter_cons]
  split <;> rfl
theorem lcD_len (l : List D) (b : D → Bool) (g : D → D) (n : Nat) : (lcD (l.take n) b g).length ≤ n := by
  unfold lcD
  rw [List.length_map]
  refine Nat.le_trans (List.length_filter_le _ _) ?_
  rw [List.length_take]
  omega
theorem lc_t {x : Str} (hx : XOk X C B k) (i : Nat) {l : List D} {b : D → Bool} (g : D → D) {iter elt : Expr} {ifs : List Expr} {scope : Scope} (hi : DI X C B δ tg iter l) (ok : BlkOk X.N X.env.scope scope [(x, i)])
    (hg : ∀ (s : Shared) (H : Hp) (C0 : Addr) (cl : List (Str × Addr)) (fp : List Addr), PG (X.blk s H scope (compEnvC scope cl C0 X.env) fp) tg (gName i)) (ht : DF X C B δ scope i ifs l b)
    (he : ∀ (n : Nat) (d : D), l[n]? = some d → b d = true → ∀ (s : Shared) (H : Hp) (C0 : Addr) (cl : List (Str × Addr)) (fp : List Addr), XOk (X.blk s H scope (compEnvC scope cl C0 X.env) fp) C B.nox k → DE (X.blk s H scope (compEnvC scope cl C0 X.env) fp) C B.nox (δ.set i (.sh d)) elt (g d))
    (hz : l.length ≤ sizeLine) : ∃ (wi : TI) (tt : TT), PI X tg iter wi ∧ (∀ (s : Shared) (H : Hp) (C : Addr) (cl : List (Str × Addr)) (fp : List Addr), PTs (X.blk s H scope (compEnvC scope cl C X.env) fp) ifs tt) ∧
      ∀ (R : Hp) (σ : St) (G H : Hp) (Q : VK), Fit (md X C) B R σ G H δ → (∀ p G' H', Grow G H G' H' → H p = none → G' p = none → OwnAt (md X C) G' H' p (.lst (lcD l b g)) → Q (.ref p) H') →
        tLc wi (gName i) tt (fun σ H Q => ∀ (s : Shared) (H' : Hp) (C0 : Addr) (cl : List (Str × Addr)) (fp : List Addr), WE (X.blk s H' scope (compEnvC scope cl C0 X.env) fp) elt σ H Q) [i] σ H Q := by
  obtain ⟨wi, hi1, hi2⟩ := hi.ex
  obtain ⟨tt, ht1, ht2⟩ := ht.ex
  refine ⟨wi, tt, hi1, ht1, fun R σ G H Q N q => ?_⟩
  refine hi2 R σ G H _ N fun Jt G1 H1 g1 w D0 hD => ?_
  have N1 := N.go g1
  have ng := g1.gh.free hD
  have nH := N1.grow.hh.free hD
  have nf : ∀ (j : Nat) (a : Sl), (δ.set i .un)[j]? = some a → ¬ a.owns (σ.set i none)[j]? D0 := fun j a e => N1.setUn.fresh hD e
  refine ⟨fun n m H' => m = l.length - n ∧ n ≤ l.length ∧ ∃ G' xs, Fit (md X C) B G1 (σ.set i none) G' H' (δ.set i .un) ∧ Grow G1 H1 G' H' ∧ G' D0 = none ∧ H' D0 = some (.lst xs) ∧ Reps (md X C) G' xs (lcD (l.take n) b g), ⟨l.length, by simp, Nat.zero_le _, G1, [], N1.root.setUn.upd nH ng nf, Grow.own N1.gh hD, ng, upd_same, by simp [lcD]; exact .nil⟩, fun n m H' ⟨hm, hn, G', xs, N', gr, hG, hH, hr⟩ => ?_⟩
  have e1 : Ex G1 H' := gr.gg.trans gr.gh
  by_cases hlt : n < l.length
  · refine .inr ⟨w.go n H' e1 N'.grow.hh hlt, fun H2 => n < l.length ∧ ∃ G' xs, Fit (md X C) B G1 (σ.set i none) G' H2 (δ.set i .un) ∧ Grow G1 H1 G' H2 ∧ G' D0 = none ∧ H2 D0 = some (.lst xs) ∧ Reps (md X C) G' xs (lcD (l.take (n + 1)) b g), fun H2 ⟨_, q⟩ => ⟨l.length - (n + 1), by omega, rfl, hlt, q⟩, fun v H'' y => ?_⟩
    obtain ⟨rfl, d, h1, h2⟩ := w.yld n H' v H'' e1 N'.grow.hh hlt y
    show gName i v (wipe σ [i]) H'' _
    refine ⟨?_, ?_⟩
    · show wipe ((wipe σ [i]).set i (some v)) [i] = wipe σ [i]
      show (((σ.set i none).set i (some v)).set i none) = σ.set i none
      rw [List.set_set, List.set_set]
    · have N2 : Fit (md X C) B G1 ((σ.set i none).set i (some v)) G' H'' (δ.set i (.sh d)) := by
        have := N'.setSh (i := i) (h2.mono gr.gg)
        rw [List.set_set, List.set_set] at this
        rw [List.set_set]
        exact this
      have N2' : ∀ {G2 H2 : Hp}, Grow G' H'' G2 H2 → Fit (md X C) B G1 (σ.set i none) G2 H2 (δ.set i .un) := fun g2 => N'.go g2
      have hlen := lcD_len l b g n
      have hrl := hr.length
      refine ht2 n d h1 G1 _ G' H'' _ N2 fun G2 H2 g2 => ?_
      have nl : ¬ IsT (.lst xs) := fun ⟨_, z⟩ => by rcases z with z | ⟨_, z⟩ <;> cases z
      have nw2 : G2 D0 = none := g2.out hG hH nl
      cases hb : b d with
      | false =>
        exact ⟨hlt, G2, xs, N2' g2, ⟨gr.hh.trans g2.hh, gr.gg.trans g2.gg, g2.gh, fun p p1 p2 => g2.nw p (gr.nw p p1 p2) fun z => by
          cases q : H1 p with
          | none => exact p2 q
          | some o =>
            have := gr.hh p o q
            rw [this] at z
            cases z⟩, nw2, g2.hh _ _ hH, by
          rw [lcD_snoc h1, hb]
          simp
          exact hr.mono g2.gg⟩
      | true =>
        intro s0 H0' C0 cl fp
        refine (he n d h1 hb s0 H0' C0 cl fp (hx.blk _ _ _ _ _)).run G1 _ G2 H2 _ (N2.go g2).nox fun v3 G3 H3 g3 r3 => ?_
        have g23 := g2.trans g3
        have nw3 : G3 D0 = none := g3.out nw2 (g2.hh _ _ hH) nl
        have hH3 := g23.hh _ _ hH
        refine ⟨xs, hH3, by omega, hlt, G3, xs ++ [v3], (N2' g23).upd nH nw3 nf, ⟨(gr.hh.trans g23.hh).mut hD, gr.gg.trans g23.gg, g23.gh.mut nw3, fun p p1 p2 => g23.nw p (gr.nw p p1 p2) fun z => ?_⟩, nw3, upd_same, ?_⟩
        · cases q : H1 p with
          | none => exact p2 q
          | some o =>
            have := gr.hh p o q
            rw [this] at z
            cases z
        · rw [lcD_snoc h1, hb, if_pos rfl]
          exact (hr.mono g23.gg).append (.cons r3 .nil)
  · have en : n = l.length := by omega
    subst en
    refine .inl ⟨w.stop _ H' e1 N'.grow.hh (Nat.le_refl _), q D0 G' H' (g1.trans gr) (g1.hh.free hD) hG ⟨xs, hH, ?_⟩⟩
    rw [List.take_length] at hr
    exact hr
theorem do_lc {x : Str} (hx : XOk X C B k) (i : Nat) {l : List D} {b : D → Bool} (g : D → D) {iter elt : Expr} {ifs : List Expr} {scope : Scope} (hi : DI X C B δ tg iter l) (ok : BlkOk X.N X.env.scope scope [(x, i)])
    (hg : ∀ (s : Shared) (H : Hp) (C0 : Addr) (cl : List (Str × Addr)) (fp : List Addr), PG (X.blk s H scope (compEnvC scope cl C0 X.env) fp) tg (gName i)) (ht : DF X C B δ scope i ifs l b)
    (he : ∀ (n : Nat) (d : D), l[n]? = some d → b d = true → ∀ (s : Shared) (H : Hp) (C0 : Addr) (cl : List (Str × Addr)) (fp : List Addr), XOk (X.blk s H scope (compEnvC scope cl C0 X.env) fp) C B.nox k → DE (X.blk s H scope (compEnvC scope cl C0 X.env) fp) C B.nox (δ.set i (.sh d)) elt (g d))
    (hz : l.length ≤ sizeLine) (hs : ∀ x, foldedSetIterable iter X.env x = pure x := by intro _; rfl) : DO X C B δ (.ListComp elt [⟨tg, iter, ifs, 0⟩] scope pos) (.lst (lcD l b g)) := ⟨fun R σ G H Q N q => by
  obtain ⟨wi, tt, h1, h2, h3⟩ := lc_t hx i g hi ok hg ht he hz
  exact we (pe_lc (own := [(x, i)]) hx.calm hx.nd h1 ok hg h2 (fun s H C0 cl fp => ⟨fun pins s' σ H' Q I q => q s H C0 cl fp pins s' I⟩) hs) (h3 R σ G H Q N q)⟩
/-- y = [..], y a local: the list is at y before the names within are put back -/
theorem ds_setLc {x : Str} (hx : XOk X C B k) (i j : Nat) {y : Str} {py spos : Pos} {l : List D} {b : D → Bool} (g : D → D) {iter elt : Expr} {ifs : List Expr} {scope : Scope} (hi : DI X C B δ tg iter l) (ok : BlkOk X.N X.env.scope scope [(x, i)])
    (hg : ∀ (s : Shared) (H : Hp) (C0 : Addr) (cl : List (Str × Addr)) (fp : List Addr), PG (X.blk s H scope (compEnvC scope cl C0 X.env) fp) tg (gName i)) (ht : DF X C B δ scope i ifs l b)
    (he : ∀ (n : Nat) (d : D), l[n]? = some d → b d = true → ∀ (s : Shared) (H : Hp) (C0 : Addr) (cl : List (Str × Addr)) (fp : List Addr), XOk (X.blk s H scope (compEnvC scope cl C0 X.env) fp) C B.nox k → DE (X.blk s H scope (compEnvC scope cl C0 X.env) fp) C B.nox (δ.set i (.sh d)) elt (g d))
    (hz : l.length ≤ sizeLine) (h : P.nx (δ.set j (.ow (.lst (lcD l b g))))) (hy : X.N[j]? = some y := by rfl) (hyl : X.env.scope.names.lookup y = some .local := by rfl) (hk : X.env.scope.kind = .function := by rfl) (hln : (py.line == pos.line) = true := by rfl)
    (hya : (scope.names.any fun (n, k) => n == y && (k == .local || k == .cell)) = false := by decide +kernel) (hs : ∀ x, foldedSetIterable iter X.env x = pure x := by intro _; rfl) : DS X C B P δ (.Assign [.Name y py] (.ListComp elt [⟨tg, iter, ifs, 0⟩] scope pos) spos) := ⟨fun R D' pk σ G H N => by
  obtain ⟨wi, tt, h1, h2, h3⟩ := lc_t hx i g hi ok hg ht he hz
  exact ws (ps_setLc (i := j) (own := [(x, i)]) hx.calm hx.nd hy hyl (sw_true hk hyl hln hya) h1 ok hg h2 (fun s H C0 cl fp => ⟨fun pins s' σ H' Q I q => q s H C0 cl fp pins s' I⟩) hs) (h3 R σ G H _ N fun p G' H' g n n' r => pk.nx _ _ G' H' h (N.setOw g n n' r))⟩
end
end Rv

/-! ### Part G: operations on lists, tuples, texts; days -/
namespace Rv
open PySem L2
section
variable {X : Cx} {C : Addr} {B : Bs} {P : Post} {δ : DEnv} {a b e e2 e3 : Expr} {d : D} {p pos : Pos} {k : Nat}
/-! in, not in -/
theorem inV_ints {i : Int} : ∀ {ns : List Int}, inV (.int i) (ns.map V.int) = decide (i ∈ ns)
  | [] => rfl
  | n :: ns => by
    have ih := inV_ints (i := i) (ns := ns)
    unfold inV at ih ⊢
    rw [List.map_cons, List.any_cons, ih]
    show ((n == i) || decide (i ∈ ns)) = _
    by_cases h : i = n
    · subst h
      simp
    · rw [show (n == i) = false from beq_eq_false_iff_ne.mpr (Ne.symm h), Bool.false_or]
      simp [h]
theorem flat_ints (ns : List Int) : (ns.map V.int).all flatV = true := by
  rw [List.all_map]
  exact List.all_eq_true.mpr fun _ _ => rfl
theorem dc_inL {i : Int} {ns : List Int} (ha : DE X C B δ a (.int i)) (hb : DL X C B δ b (ns.map .int)) (hm : behindInMarks .In b = false := by rfl) : DC X C B δ .In a b (decide (i ∈ ns)) :=
  ⟨_, op_in_seq, hm, fun R σ G H Q N q => ha.run R σ G H _ N fun x G1 H1 g1 r1 => hb.run R σ G1 H1 _ (N.go g1) fun p xs G2 H2 g2 r2 r3 => by
    obtain rfl := r1.i
    obtain rfl := r3.ints
    exact ⟨p, _, rfl, .inl (.of r2), rfl, flat_ints ns, by rw [if_neg Bool.false_ne_true, inV_ints]; exact q G2 H2 (g1.trans g2)⟩⟩
theorem dc_notinL {i : Int} {ns : List Int} (ha : DE X C B δ a (.int i)) (hb : DL X C B δ b (ns.map .int)) (hm : behindInMarks .NotIn b = false := by rfl) : DC X C B δ .NotIn a b (!decide (i ∈ ns)) :=
  ⟨_, op_notIn_seq, hm, fun R σ G H Q N q => ha.run R σ G H _ N fun x G1 H1 g1 r1 => hb.run R σ G1 H1 _ (N.go g1) fun p xs G2 H2 g2 r2 r3 => by
    obtain rfl := r1.i
    obtain rfl := r3.ints
    exact ⟨p, _, rfl, .inl (.of r2), rfl, flat_ints ns, by rw [if_pos rfl, inV_ints]; exact q G2 H2 (g1.trans g2)⟩⟩
theorem dc_inT {i : Int} {ns : List Int} (ha : DE X C B δ a (.int i)) (hb : DE X C B δ b (.tup (ns.map .int))) (hm : behindInMarks .In b = false := by rfl) : DC X C B δ .In a b (decide (i ∈ ns)) :=
  ⟨_, op_in_seq, hm, fun R σ G H Q N q => d2 ha hb N fun x y G2 H2 g r1 r2 => by
    obtain rfl := r1.i
    obtain ⟨p, xs, rfl, r3, r4⟩ := r2.t
    obtain rfl := r4.ints
    exact ⟨p, _, rfl, .inr (g.gh.st r3), rfl, flat_ints ns, by rw [if_neg Bool.false_ne_true, inV_ints]; exact q G2 H2 g⟩⟩
theorem dc_notinT {i : Int} {ns : List Int} (ha : DE X C B δ a (.int i)) (hb : DE X C B δ b (.tup (ns.map .int))) (hm : behindInMarks .NotIn b = false := by rfl) : DC X C B δ .NotIn a b (!decide (i ∈ ns)) :=
  ⟨_, op_notIn_seq, hm, fun R σ G H Q N q => d2 ha hb N fun x y G2 H2 g r1 r2 => by
    obtain rfl := r1.i
    obtain ⟨p, xs, rfl, r3, r4⟩ := r2.t
    obtain rfl := r4.ints
    exact ⟨p, _, rfl, .inr (g.gh.st r3), rfl, flat_ints ns, by rw [if_pos rfl, inV_ints]; exact q G2 H2 g⟩⟩
theorem inV_tt : ∀ (ks : List Bool), inV (.bl true) (ks.map V.bl) = decide (true ∈ ks)
  | [] => rfl
  | k :: ks => by
    have ih := inV_tt ks
    unfold inV at ih ⊢
    rw [List.map_cons, List.any_cons, ih]
    show ((k == true) || decide (true ∈ ks)) = _
    cases k <;> simp
theorem Reps.bls {M : Md} {G : Hp} : ∀ {vs : List V} {ks : List Bool}, Reps M G vs (ks.map D.bl) → vs = ks.map V.bl
  | _, [], h => by cases h; rfl
  | _, n :: ns, h => by
    cases h with
    | cons h r =>
      cases h
      rw [Reps.bls (ks := ns) r]
      rfl
theorem dc_inB {ks : List Bool} (ha : DE X C B δ a (.bl true)) (hb : DL X C B δ b (ks.map .bl)) (hm : behindInMarks .In b = false := by rfl) : DC X C B δ .In a b (decide (true ∈ ks)) :=
  ⟨_, op_in_seq, hm, fun R σ G H Q N q => ha.run R σ G H _ N fun x G1 H1 g1 r1 => hb.run R σ G1 H1 _ (N.go g1) fun p xs G2 H2 g2 r2 r3 => by
    obtain rfl := r1.b
    obtain rfl := r3.bls
    exact ⟨p, _, rfl, .inl (.of r2), rfl, by rw [List.all_map]; exact List.all_eq_true.mpr fun _ _ => rfl, by rw [if_neg Bool.false_ne_true, inV_tt]; exact q G2 H2 (g1.trans g2)⟩⟩
/-! new lists and tuples from old ones -/
theorem do_cat {l m : List D} (ha : DL X C B δ a l) (hb : DL X C B δ b m) (hz : l.length + m.length ≤ sizeLine) : DO X C B δ (.BinOp a .Add b pos) (.lst (l ++ m)) := ⟨fun R σ G H Q N q =>
  we (pe_op op_cat pe_we pe_we) (ha.run R σ G H _ N fun p1 xs G1 H1 g1 h1 r1 => hb.run R σ G1 H1 _ (N.go g1) fun p2 ys G2 H2 g2 h2 r2 =>
    ⟨p1, p2, xs, ys, rfl, rfl, g2.hh _ _ h1, h2, by rw [r1.length, r2.length]; exact hz, fun p hp =>
      have g := g1.trans g2
      q p G2 _ (g.trans (Grow.own g.gh hp)) (g.hh.free hp) (g.gh.free hp) ⟨xs ++ ys, upd_same, (r1.mono g2.gg).append r2⟩⟩)⟩
theorem de_catT {l m : List D} (ha : DE X C B δ a (.tup l)) (hb : DE X C B δ b (.tup m)) (hz : l.length + m.length ≤ sizeLine) : DE X C B δ (.BinOp a .Add b pos) (.tup (l ++ m)) := ⟨fun R σ G H Q N q =>
  we (pe_op op_catA pe_we pe_we) (d2 ha hb N fun x y G' H' g r1 r2 => by
    obtain ⟨p1, xs, rfl, h1, s1⟩ := r1.t
    obtain ⟨p2, ys, rfl, h2, s2⟩ := r2.t
    refine ⟨p1, p2, xs, ys, rfl, rfl, g.gh.st h1, g.gh.st h2, by rw [s1.length, s2.length]; exact hz, fun z => ?_, fun _ z => ?_, fun _ _ p hp => ?_⟩
    · subst z
      cases s1
      exact q _ G' H' g r2
    · subst z
      cases s2
      rw [List.append_nil] at q
      exact q _ G' H' g r1
    · exact q _ (upd G' p (.tup (xs ++ ys))) _ (g.trans (Grow.add g.gh hp)) (.tup (.of upd_same) ((s1.append s2).mono (Ex.new (g.gh.free hp)))))⟩
theorem Reps.replicate {M : Md} {G : Hp} {xs : List V} {l : List D} (r : Reps M G xs l) : ∀ n : Nat, Reps M G (List.replicate n xs).flatten (List.replicate n l).flatten
  | 0 => .nil
  | n + 1 => by
    rw [List.replicate_succ, List.replicate_succ, List.flatten_cons, List.flatten_cons]
    exact r.append (Reps.replicate r n)
theorem do_rep {l : List D} {i : Int} (ha : DL X C B δ a l) (hb : DE X C B δ b (.int i)) (h1 : -(2 ^ 63) ≤ i) (h2 : i < 2 ^ 63) (hz : l.length * i.toNat ≤ sizeLine) : DO X C B δ (.BinOp a .Mult b pos) (.lst (List.replicate i.toNat l).flatten) := ⟨fun R σ G H Q N q =>
  we (pe_op op_rep pe_we pe_we) (ha.run R σ G H _ N fun p1 xs G1 H1 g1 h3 r1 => hb.run R σ G1 H1 _ (N.go g1) fun y G2 H2 g2 r2 => by
    obtain rfl := r2.i
    refine ⟨p1, i, xs, rfl, rfl, g2.hh _ _ h3, h1, h2, by rw [r1.length]; exact hz, fun p hp => ?_⟩
    have g := g1.trans g2
    exact q p G2 _ (g.trans (Grow.own g.gh hp)) (g.hh.free hp) (g.gh.free hp) ⟨_, upd_same, (r1.mono g2.gg).replicate _⟩)⟩
/-- a slice's part -/
structure DP (X : Cx) (C : Addr) (B : Bs) (δ : DEnv) (e : Option Expr) (o : Option Int) : Prop where
  ex : ∃ t : TO, PO X e t ∧ ∀ (R : Hp) (σ : St) (G H : Hp) (Q : Option Int → Hp → Prop), Fit (md X C) B R σ G H δ → (∀ G' H', Grow G H G' H' → Q o H') → t σ H Q
theorem dpo_none : DP X C B δ none none := ⟨_, po_none, fun R σ G H Q N q => q G H N.self⟩
theorem dpo_some {i : Int} (h : DE X C B δ e (.int i)) : DP X C B δ (some e) (some i) := ⟨_, po_some pe_we, fun R σ G H Q N q => h.run R σ G H _ N fun v G' H' g r => by
  obtain rfl := r.i
  exact ⟨i, rfl, q G' H' g⟩⟩
def cutD {α : Type} (l : List α) (lo hi : Option Int) : List α := (l.drop (HT.sIx l.length 0 lo)).take (HT.sIx l.length l.length hi - HT.sIx l.length 0 lo)
theorem Reps.cut {M : Md} {G : Hp} {xs : List V} {l : List D} (r : Reps M G xs l) (lo hi : Option Int) : Reps M G (cutV xs lo hi) (cutD l lo hi) := by
  unfold cutV cutD
  rw [r.length]
  exact (r.drop _).take _
theorem do_slL {l : List D} {lo hi : Option Expr} {i j : Option Int} {p2 : Pos} (ha : DL X C B δ a l) (h1 : DP X C B δ lo i) (h2 : DP X C B δ hi j) : DO X C B δ (.Subscript a (.Slice lo hi none p2) pos) (.lst (cutD l i j)) := ⟨fun R σ G H Q N q => by
  obtain ⟨t1, k1, w1⟩ := h1.ex
  obtain ⟨t2, k2, w2⟩ := h2.ex
  refine we (pe_slice sl_list pe_we k1 k2) (ha.run R σ G H _ N fun p1 xs G1 H1 g1 h3 r1 => w1 R σ G1 H1 _ (N.go g1) fun G2 H2 g2 => w2 R σ G2 H2 _ (N.go (g1.trans g2)) fun G3 H3 g3 => ⟨p1, xs, rfl, .of (g3.hh _ _ (g2.hh _ _ h3)), fun p hp => ?_⟩)
  have g := (g1.trans g2).trans g3
  exact q p G3 _ (g.trans (Grow.own g.gh hp)) (g.hh.free hp) (g.gh.free hp) ⟨_, upd_same, (r1.mono (g2.gg.trans g3.gg)).cut i j⟩⟩
theorem de_slT {l : List D} {lo hi : Option Expr} {i j : Option Int} {p2 : Pos} (ha : DE X C B δ a (.tup l)) (h1 : DP X C B δ lo i) (h2 : DP X C B δ hi j) : DE X C B δ (.Subscript a (.Slice lo hi none p2) pos) (.tup (cutD l i j)) := ⟨fun R σ G H Q N q => by
  obtain ⟨t1, k1, w1⟩ := h1.ex
  obtain ⟨t2, k2, w2⟩ := h2.ex
  refine we (pe_slice sl_tupA pe_we k1 k2) (ha.run R σ G H _ N fun v G1 H1 g1 r1 => w1 R σ G1 H1 _ (N.go g1) fun G2 H2 g2 => w2 R σ G2 H2 _ (N.go (g1.trans g2)) fun G3 H3 g3 => ?_)
  have g23 := g2.trans g3
  have g := g1.trans g23
  obtain ⟨p1, xs, rfl, h3, s1⟩ := r1.t
  have hl := s1.length
  refine ⟨p1, xs, rfl, (g23.gg.trans g.gh).st h3, fun z => ?_, fun _ p hp => ?_⟩
  · have e : cutD l i j = l := by
      unfold cutD
      rw [← hl, z.1, z.2, List.drop_zero, Nat.sub_zero, hl, List.take_length]
    rw [e] at q
    exact q _ G3 H3 g (r1.mono g23.gg)
  · exact q _ (upd G3 p (.tup (cutV xs i j))) _ (g.trans (Grow.add g.gh hp)) (.tup (.of upd_same) (((s1.mono g23.gg).cut i j).mono (Ex.new (g.gh.free hp))))⟩
theorem de_slS {s : Str} {lo hi : Option Expr} {i j : Option Int} {p2 : Pos} (ha : DE X C B δ a (.str s)) (h1 : DP X C B δ lo i) (h2 : DP X C B δ hi j) (hz : s.length ≤ sizeLine) : DE X C B δ (.Subscript a (.Slice lo hi none p2) pos) (.str (cutS s i j)) := ⟨fun R σ G H Q N q => by
  obtain ⟨t1, k1, w1⟩ := h1.ex
  obtain ⟨t2, k2, w2⟩ := h2.ex
  refine we (pe_slice sl_str pe_we k1 k2) (ha.run R σ G H _ N fun v G1 H1 g1 r1 => w1 R σ G1 H1 _ (N.go g1) fun G2 H2 g2 => w2 R σ G2 H2 _ (N.go (g1.trans g2)) fun G3 H3 g3 => ?_)
  obtain rfl := r1.s
  exact ⟨s, rfl, hz, q _ G3 H3 ((g1.trans g2).trans g3) (.str _)⟩⟩
theorem Reps.reverse {M : Md} {G : Hp} : ∀ {xs : List V} {l : List D}, Reps M G xs l → Reps M G xs.reverse l.reverse
  | _, _, .nil => .nil
  | _, _, .cons h r => by
    rw [List.reverse_cons, List.reverse_cons]
    exact r.reverse.append (.cons h .nil)
theorem do_rev {l : List D} {kk : Nat} {p1 p2 p3 : Pos} (ha : DL X C B δ a l) : DO X C B δ (.Subscript a (.Slice none none (some (.UnaryOp .USub (.Constant (.int 1) kk p1) p2)) p3) pos) (.lst l.reverse) := ⟨fun R σ G H Q N q =>
  we (pe_revL pe_we) (ha.run R σ G H _ N fun p1 xs G1 H1 g h1 r1 => ⟨p1, xs, rfl, .of h1, fun p hp => q p G1 _ (g.trans (Grow.own g.gh hp)) (g.hh.free hp) (g.gh.free hp) ⟨_, upd_same, r1.reverse⟩⟩)⟩
/-! list(..), tuple(..) -/
theorem do_listL {l : List D} (T : Bi X.mg) (h : DL X C B δ e l) (hg : Gl X "list" := by rfl) (he : starEach [e] X.env = (false, eval e X.env) :: starEach [] X.env := by rfl) : DO X C B δ (.Call (.Name "list" p) [e] [] pos) (.lst l) := ⟨fun R σ G H Q N q =>
  t1 call_list_of hg T.list PyProof.Rows.boot_list he (by decide) (by decide) (h.run R σ G H _ N fun a xs G' H' g r1 r2 => ⟨a, xs, rfl, .inl (.of r1), fun p hp => q p G' _ (g.trans (Grow.own g.gh hp)) (g.hh.free hp) (g.gh.free hp) ⟨_, upd_same, r2⟩⟩)⟩
theorem do_listT {l : List D} (T : Bi X.mg) (h : DE X C B δ e (.tup l)) (hg : Gl X "list" := by rfl) (he : starEach [e] X.env = (false, eval e X.env) :: starEach [] X.env := by rfl) : DO X C B δ (.Call (.Name "list" p) [e] [] pos) (.lst l) := ⟨fun R σ G H Q N q =>
  t1 call_list_of hg T.list PyProof.Rows.boot_list he (by decide) (by decide) (h.run R σ G H _ N fun v G' H' g r => by
    obtain ⟨a, xs, rfl, r1, r2⟩ := r.t
    exact ⟨a, xs, rfl, .inr (g.gh.st r1), fun p hp => q p G' _ (g.trans (Grow.own g.gh hp)) (g.hh.free hp) (g.gh.free hp) ⟨_, upd_same, r2⟩⟩)⟩
theorem rg_reps {M : Md} {G : Hp} (lo hi : Int) : Reps M G (rgV lo hi) (rng lo (hi - lo).toNat) := by
  unfold rgV rng
  generalize (hi - lo).toNat = n
  have key : ∀ l : List Nat, Reps M G (l.map fun i : Nat => V.int (lo + (i : Nat))) (l.map fun i : Nat => D.int (lo + (i : Int))) := fun l => by
    induction l with
    | nil => exact .nil
    | cons i l ih => exact .cons (.int _) ih
  exact key _
theorem do_listR1 {m : Int} {p3 p4 : Pos} (T : Bi X.mg) (hx : XOk X C B k) (h : DE X C B δ e (.int m)) (hb : 0 ≤ m ∧ m ≤ 16777216) (hg : Gl X "list" := by rfl) (hg2 : Gl X "range" := by rfl) (he : starEach [.Call (.Name "range" p3) [e] [] p4] X.env = (false, eval (.Call (.Name "range" p3) [e] [] p4) X.env) :: starEach [] X.env := by rfl) (he2 : starEach [e] X.env = (false, eval e X.env) :: starEach [] X.env := by rfl) :
    DO X C B δ (.Call (.Name "list" p) [.Call (.Name "range" p3) [e] [] p4] [] pos) (.lst (rng 0 m.toNat)) := ⟨fun R σ G H Q N q =>
  we (pe_listRg hx.calm hg T.list (prg_1 hg2 T.range pe_we he2) he) (h.run R σ G H _ N fun v G' H' g r => by
    obtain rfl := r.i
    refine ⟨m, rfl, RgOk.of_le (by decide) hb.2 (by decide) hb.1, fun p hp => q p G' _ (g.trans (Grow.own g.gh hp)) (g.hh.free hp) (g.gh.free hp) ⟨_, upd_same, ?_⟩⟩
    have := rg_reps (M := md X C) (G := G') 0 m
    rw [Int.sub_zero] at this
    exact this)⟩
theorem do_listR2 {lo m : Int} {p3 p4 : Pos} (T : Bi X.mg) (hx : XOk X C B k) (h : DE X C B δ e (.int lo)) (h2 : DE X C B δ e2 (.int m)) (hb : 0 ≤ lo ∧ lo ≤ 16777216 ∧ 0 ≤ m ∧ m ≤ 16777216) (hg : Gl X "list" := by rfl) (hg2 : Gl X "range" := by rfl) (he : starEach [.Call (.Name "range" p3) [e, e2] [] p4] X.env = (false, eval (.Call (.Name "range" p3) [e, e2] [] p4) X.env) :: starEach [] X.env := by rfl) (he2 : starEach [e, e2] X.env = (false, eval e X.env) :: starEach [e2] X.env := by rfl) (he3 : starEach [e2] X.env = (false, eval e2 X.env) :: starEach [] X.env := by rfl) :
    DO X C B δ (.Call (.Name "list" p) [.Call (.Name "range" p3) [e, e2] [] p4] [] pos) (.lst (rng lo (m - lo).toNat)) := ⟨fun R σ G H Q N q =>
  we (pe_listRg hx.calm hg T.list (prg_2 hg2 T.range pe_we pe_we he2 he3 (by rw [he3]; rfl)) he) (h.run R σ G H _ N fun v G0 H0 g0 r0 => h2.run R σ G0 H0 _ (N.go g0) fun v G' H' g1 r => by
    obtain rfl := r0.i
    obtain rfl := r.i
    have g := g0.trans g1
    exact ⟨lo, m, rfl, rfl, RgOk.of_le hb.1 hb.2.2.2 hb.2.1 hb.2.2.1, fun p hp => q p G' _ (g.trans (Grow.own g.gh hp)) (g.hh.free hp) (g.gh.free hp) ⟨_, upd_same, rg_reps lo m⟩⟩)⟩
theorem de_tupleL {l : List D} (T : Bi X.mg) (h : DL X C B δ e l) (hg : Gl X "tuple" := by rfl) (he : starEach [e] X.env = (false, eval e X.env) :: starEach [] X.env := by rfl) : DE X C B δ (.Call (.Name "tuple" p) [e] [] pos) (.tup l) := ⟨fun R σ G H Q N q =>
  t1 call_tuple_of hg T.tuple PyProof.Rows.boot_tuple he (by decide) (by decide) (h.run R σ G H _ N fun a xs G' H' g r1 r2 => ⟨a, xs, rfl, .inl ⟨.of r1, fun p hp => q _ (upd G' p (.tup xs)) _ (g.trans (Grow.add g.gh hp)) (.tup (.of upd_same) (r2.mono (Ex.new (g.gh.free hp))))⟩⟩)⟩
end
end Rv

/-! ### Part H: own lists changed, a dict of seen numbers, equality, days -/
namespace Rv
open PySem L2
theorem XOk.hu {X : Cx} {C : Addr} {B : Bs} {k : Nat} (hx : XOk X C B k) : X.A.units + 1 < cLine := hu_of hx.hr
section
variable {X : Cx} {C : Addr} {B : Bs} {P : Post} {δ : DEnv} {a b e e2 e3 : Expr} {d : D} {p pos : Pos} {k : Nat} {sts : List Stmt}
/-! seen = {}; n in seen; seen[n] = e -/
theorem do_seen {p2 : Pos} : DO X C B δ (.Dict [] [] p2) (.seen []) := ⟨fun R σ G H Q N q => we pe_dnewK fun p hp => q p G _ (Grow.own N.gh hp) hp (N.gh.free hp) ⟨[], upd_same, rfl, List.nodup_nil⟩⟩
theorem op_inK (hu : X.A.units + 1 < cLine) : OpR X (compareOp .In) (fun x y H Q => ∃ a o, y = .ref a ∧ DGet H a x o ∧ Q (.bl o.isSome) H) := by
  intro pins s σ H x y v u Q I rx ry h
  obtain ⟨a, o, rfl, g, q⟩ := h
  obtain rfl : u = Value.ref a := ry
  exact d_in hu I g rx fun s3 I3 => ⟨.bl o.isSome, H, I3, rfl, q⟩
theorem valV_mem : ∀ {kvs : List (Key × V)} {ks : List Int} {n : Int}, kvs.map (·.1) = ks.map Sum.inl → (valV kvs (Sum.inl n)).isSome = decide (n ∈ ks)
  | [], [], n, _ => rfl
  | p :: r, m :: ks, n, h => by
    rw [List.map_cons, List.map_cons] at h
    injection h with h1 h2
    by_cases e : m = n
    · subst e
      rw [valV_pos h1]
      simp
    · have ne : ¬ p.1 = Sum.inl n := fun z => e (Sum.inl.inj (h1.symm.trans z))
      have e' : ¬ n = m := fun z => e z.symm
      rw [valV_neg ne, valV_mem h2]
      simp [e']
  | [], _ :: _, _, h => by cases h
  | _ :: _, [], _, h => by cases h
theorem dc_inK (hx : XOk X C B k) (i : Nat) {ks : List Int} {n : Int} {y : Str} (hi : δ[i]? = some (.ow (.seen ks))) (ha : DE X C B δ a (.int n)) (hN : X.N[i]? = some y := by rfl) (hv : Vis X.env.scope y := by first | exact Or.inl rfl | exact Or.inr (Or.inl rfl) | exact Or.inr (Or.inr rfl))
    (hd : (y == ("__debug__" : Str)) = false := by decide) (hcd : (y == ("__classdict__" : Str)) = false := by decide) : DC X C B δ .In a (.Name y p) (decide (n ∈ ks)) :=
  ⟨_, op_inK hx.hu, rfl, fun R σ G H Q N q => ha.run R σ G H _ N fun x G1 H1 g1 r1 => by
    obtain rfl := r1.i
    obtain ⟨pa, h1, h2, h3, kvs, h4, h5, h6⟩ := (N.go g1).slot i _ hi
    refine we (pe_var hN hv hd hcd) ⟨_, h1, pa, valV kvs (Sum.inl n), rfl, DGet.k (k := Sum.inl n) h4, ?_⟩
    rw [valV_mem h5]
    exact q G1 H1 g1⟩
theorem putK_fst {kvs : List (Key × V)} {ks : List Int} {z : Int} {v : V} (e : kvs.map (·.1) = ks.map Sum.inl) (h : z ∉ ks) : (putK kvs (Sum.inl z) v).map (·.1) = (ks ++ [z]).map Sum.inl := by
  unfold putK
  rw [if_neg]
  · rw [List.map_append, List.map_append, e]
    rfl
  · rw [valV_any, valV_mem e, decide_eq_false h]
    decide
theorem ds_putK (hx : XOk X C B k) (i : Nat) {ks : List Int} {n : Int} {y : Str} {p2 p3 : Pos} (hi : δ[i]? = some (.ow (.seen ks))) (hb : DE X C B δ b (.int n)) (hn : n ∉ ks) (hz : ks.length < sizeLine) (hv : DE X C B δ e d) (h : P.nx (δ.set i (.ow (.seen (ks ++ [n]))))) (hN : X.N[i]? = some y := by rfl) (hvs : Vis X.env.scope y := by first | exact Or.inl rfl | exact Or.inr (Or.inl rfl) | exact Or.inr (Or.inr rfl))
    (hd : (y == ("__debug__" : Str)) = false := by decide) (hcd : (y == ("__classdict__" : Str)) = false := by decide) (hs : swapsWith e (some (.Subscript (.Name y p2) b p3)) pos.line X.env = pure false := by rfl) : DS X C B P δ (.Assign [.Subscript (.Name y p2) b p3] e pos) := ⟨fun R D' pk σ G H N =>
  ws (ps_dput hx.hu (pe_var hN hvs hd hcd) pe_we pe_we hs) (hv.run R σ G H _ N fun v G1 H1 g1 r1 => by
    obtain ⟨pa, h1, h2, h3, kvs, h4, h5, h6⟩ := N.slot i _ hi
    refine ⟨_, h1, ?_⟩
    refine hb.run R σ G1 H1 _ (N.go g1) fun w G2 H2 g2 r2 => ?_
    obtain rfl := r2.i
    have h4' := g2.hh _ _ (g1.hh _ _ h4)
    have hl : kvs.length = ks.length := by
      have := congrArg List.length h5
      rw [List.length_map, List.length_map] at this
      exact this
    refine ⟨pa, _, rfl, DPut.k (k := Sum.inl n) h4' (by omega), pk.nx _ _ G2 _ h (((N.go g1).go g2).write hi h1 ⟨_, upd_same, ?_, ?_⟩)⟩
    · exact putK_fst h5 hn
    · exact List.nodup_append.mpr ⟨h6, List.nodup_cons.mpr ⟨List.not_mem_nil, List.nodup_nil⟩, fun x hx y hy => by
        rw [List.mem_singleton] at hy
        subst hy
        intro z
        subst z
        exact hn hx⟩)⟩
/-! xs.clear(), xs.extend(ys) -/
theorem ds_clear (i : Nat) {l : List D} {x : Str} {p1 p2 p3 : Pos} (hi : δ[i]? = some (.ow (.lst l))) (h : P.nx (δ.set i (.ow (.lst [])))) (hN : X.N[i]? = some x := by rfl) (hv : Vis X.env.scope x := by first | exact Or.inl rfl | exact Or.inr (Or.inl rfl) | exact Or.inr (Or.inr rfl))
    (hd : (x == ("__debug__" : Str)) = false := by decide) (hcd : (x == ("__classdict__" : Str)) = false := by decide)
    (hbase : attributeBase (.Name x p1) "clear" X.env (eval (.Name x p1) X.env) = eval (.Name x p1) X.env := by rfl) (hline : (p2.endLine == p3.line) = true := by rfl)
    (hsw : swapsWith (.Call (.Attribute (.Name x p1) "clear" p2) [] [] p3) none pos.line X.env = pure false := by rfl) : DS X C B P δ (.Expr (.Call (.Attribute (.Name x p1) "clear" p2) [] [] p3) pos) := ⟨fun R D' pk σ G H N => by
  obtain ⟨p, h1, h2, h3, xs, h4, h5⟩ := N.slot i _ hi
  exact ws (ps_expr (pe_bm0 PySem.F.plainAttrs_list PySem.F.slot_list_clear PySem.F.type_list_clear mt_clear (pe_var hN hv hd hcd) hbase hline) hsw) ⟨_, h1, .inl ⟨rfl, _, .of h4⟩, p, xs, rfl, rfl, h4, pk.nx _ _ G _ h (N.write hi h1 ⟨[], upd_same, .nil⟩)⟩⟩
theorem ds_extend (i : Nat) {l m : List D} {x : Str} {p1 p2 p3 : Pos} (hi : δ[i]? = some (.ow (.lst l))) (he : DL X C B δ e m) (hz : l.length + m.length ≤ sizeLine) (h : P.nx (δ.set i (.ow (.lst (l ++ m))))) (hN : X.N[i]? = some x := by rfl) (hv : Vis X.env.scope x := by first | exact Or.inl rfl | exact Or.inr (Or.inl rfl) | exact Or.inr (Or.inr rfl))
    (hd : (x == ("__debug__" : Str)) = false := by decide) (hcd : (x == ("__classdict__" : Str)) = false := by decide)
    (hbase : attributeBase (.Name x p1) "extend" X.env (eval (.Name x p1) X.env) = eval (.Name x p1) X.env := by rfl)
    (hfew : ((backTo p3 (starEach [e] X.env)).all (fun x => !x.1) && (backToKw p3 (keywordEach [] X.env)).all (fun x => x.1.isSome)
      && decide (([e] : List Expr).length + ([] : List Keyword).length + (if ([] : List Keyword).isEmpty then 0 else 1) < 30)) = true := by rfl)
    (hline : (p2.endLine == p3.line) = true := by rfl) (hs : starEach [e] X.env = (false, eval e X.env) :: starEach [] X.env := by rfl) (hplain : (backTo p3 (starEach [] X.env)).any (·.1) = false := by rfl)
    (hsw : swapsWith (.Call (.Attribute (.Name x p1) "extend" p2) [e] [] p3) none pos.line X.env = pure false := by rfl) : DS X C B P δ (.Expr (.Call (.Attribute (.Name x p1) "extend" p2) [e] [] p3) pos) := ⟨fun R D' pk σ G H N => by
  obtain ⟨p, h1, h2, h3, xs, h4, h5⟩ := N.slot i _ hi
  refine ws (ps_expr (pe_bm PySem.F.plainAttrs_list PySem.F.slot_list_extend PySem.F.type_list_extend mt_extend (pe_var hN hv hd hcd) (pa_cons pe_we pa_nil hs) hbase hfew hline hs hplain) hsw) ⟨_, h1, .inl ⟨rfl, _, .of h4⟩, ?_⟩
  refine he.run R σ G H _ N fun b ys G' H' g r1 r2 => ?_
  exact ⟨p, b, xs, ys, rfl, rfl, g.hh _ _ h4, r1, by rw [h5.length, r2.length]; exact hz, pk.nx _ _ G' _ h ((N.go g).write hi h1 ⟨xs ++ ys, upd_same, (h5.mono g.gg).append r2⟩)⟩⟩
/-! == of data -/
mutual
def pd : D → Option PyData
  | .non => some .none
  | .bl b => some (.bool b)
  | .int i => some (.int i)
  | .str s => some (.str s)
  | .tup l => (pds l).map .tuple
  | .lst l => (pds l).map .list
  | .scr _ => none
  | .day .. => none
  | .dic _ => none
def pds : List D → Option (List PyData)
  | [] => some []
  | d :: l => (pd d).bind fun x => (pds l).map fun r => x :: r
end
mutual
theorem rep_dp {M : Md} {G : Hp} : ∀ {v : V} {d : D} {x : PyData}, Rep M G v d → pd d = some x → Dp M.K G v x
  | _, _, _, .non, h => by cases h; exact .non
  | _, _, _, .bl b, h => by cases h; exact .bl b
  | _, _, _, .int i, h => by cases h; exact .int i
  | _, _, _, .str s, h => by cases h; exact .str s
  | _, _, _, .tup (l := l) h1 h2, h => by
    unfold pd at h
    obtain ⟨y, hy, rfl⟩ := Option.map_eq_some_iff.mp h
    exact .tup h1 (reps_dp h2 hy)
  | _, _, _, .lst (l := l) h1 h2, h => by
    unfold pd at h
    obtain ⟨y, hy, rfl⟩ := Option.map_eq_some_iff.mp h
    exact .lst (.of h1) (reps_dp h2 hy)
  | _, _, _, .scr _ _, h => by cases h
  | _, _, _, .day _ _ _, h => by cases h
  | _, _, _, .dic _ _, h => by cases h
theorem reps_dp {M : Md} {G : Hp} : ∀ {vs : List V} {l : List D} {x : List PyData}, Reps M G vs l → pds l = some x → DpAll M.K G vs x
  | _, _, _, .nil, h => by cases h; exact .nil
  | _, _, _, .cons (d := d) (l := l) h1 h2, h => by
    unfold pds at h
    obtain ⟨y, hy, h⟩ := Option.bind_eq_some_iff.mp h
    obtain ⟨z, hz, rfl⟩ := Option.map_eq_some_iff.mp h
    exact .cons (rep_dp h1 hy) (reps_dp h2 hz)
end
theorem dc_eqP (hx : XOk X C B k) {d1 d2 : D} {x y : PyData} (ha : DW X C B δ a d1) (hb : DW X C B δ b d2) (h1 : pd d1 = some x) (h2 : pd d2 = some y) (s1 : SeqAt.shaped x = true) (s2 : SeqAt.shaped y = true) : DC X C B δ .Eq a b (PyData.eqv x y) :=
  ⟨_, op_eqD hx.hr.units, nomark b, fun R σ G H Q N q => ha.run R σ G H _ N fun v G1 H1 g1 r1 => hb.run R σ G1 H1 _ (N.go g1) fun w G2 H2 g2 r2 => ⟨x, y, rep_dp (r1.mono g2.hh) h1, rep_dp r2 h2, s1, s2, q G2 H2 (g1.trans g2)⟩⟩
theorem dc_neP (hx : XOk X C B k) {d1 d2 : D} {x y : PyData} (ha : DW X C B δ a d1) (hb : DW X C B δ b d2) (h1 : pd d1 = some x) (h2 : pd d2 = some y) (s1 : SeqAt.shaped x = true) (s2 : SeqAt.shaped y = true) : DC X C B δ .NotEq a b (!PyData.eqv x y) :=
  ⟨_, op_neD hx.hr.units, nomark b, fun R σ G H Q N q => ha.run R σ G H _ N fun v G1 H1 g1 r1 => hb.run R σ G1 H1 _ (N.go g1) fun w G2 H2 g2 r2 => ⟨x, y, rep_dp (r1.mono g2.hh) h1, rep_dp r2 h2, s1, s2, q G2 H2 (g1.trans g2)⟩⟩
/-! fields of a day -/
structure DayF (K : PySem.W.Frag) (C : Addr) : Prop where
  cl : Cls K C
  r : NoAttr K C "road"
  h : NoAttr K C "home"
  s : NoAttr K C "start"
  l : NoAttr K C "stops"
theorem dayF_road {r h s l : V} : (dayF r h s l).lookup ("road" : Str) = some r := by
  unfold dayF
  rw [lookup_putF, if_neg (by decide +kernel), lookup_putF, if_neg (by decide +kernel), lookup_putF, if_neg (by decide +kernel), lookup_putF, if_pos rfl]
theorem dayF_home {r h s l : V} : (dayF r h s l).lookup ("home" : Str) = some h := by
  unfold dayF
  rw [lookup_putF, if_neg (by decide +kernel), lookup_putF, if_neg (by decide +kernel), lookup_putF, if_pos rfl]
theorem dayF_start {r h s l : V} : (dayF r h s l).lookup ("start" : Str) = some s := by
  unfold dayF
  rw [lookup_putF, if_neg (by decide +kernel), lookup_putF, if_pos rfl]
theorem dayF_stops {r h s l : V} : (dayF r h s l).lookup ("stops" : Str) = some l := by
  unfold dayF
  rw [lookup_putF, if_pos rfl]
theorem Rep.dy {M : Md} {G : Hp} {v : V} {r : D} {i j : Int} {l : List D} (h : Rep M G v (.day r i j l)) : ∃ a dx vr vl, v = .ref a ∧ G a = some (.ins M.C dx (dayF vr (.int i) (.int j) vl)) ∧ Rep M G vr r ∧ Rep M G vl (.lst l) := by
  cases h with
  | day h rr rl => exact ⟨_, _, _, _, rfl, h, rr, rl⟩
variable {r : D} {i j : Int} {l : List D}
theorem de_road (F : DayF X.K C) (h : DE X C B δ e (.day r i j l)) (hb : attributeBase e "road" X.env (eval e X.env) = eval e X.env := by rfl) : DE X C B δ (.Attribute e "road" pos) r := ⟨fun R σ G H Q N q => we (pe_fld pe_we hb) (h.run R σ G H _ N fun v G' H' g rr => by
  obtain ⟨a, dx, vr, vl, rfl, h1, h2, h3⟩ := rr.dy
  exact ⟨a, C, dx, _, _, rfl, g.gh _ _ h1, F.cl, F.r, dayF_road, q _ G' H' g h2⟩)⟩
theorem de_home (F : DayF X.K C) (h : DE X C B δ e (.day r i j l)) (hb : attributeBase e "home" X.env (eval e X.env) = eval e X.env := by rfl) : DE X C B δ (.Attribute e "home" pos) (.int i) := ⟨fun R σ G H Q N q => we (pe_fld pe_we hb) (h.run R σ G H _ N fun v G' H' g rr => by
  obtain ⟨a, dx, vr, vl, rfl, h1, h2, h3⟩ := rr.dy
  exact ⟨a, C, dx, _, _, rfl, g.gh _ _ h1, F.cl, F.h, dayF_home, q _ G' H' g (.int _)⟩)⟩
theorem de_start (F : DayF X.K C) (h : DE X C B δ e (.day r i j l)) (hb : attributeBase e "start" X.env (eval e X.env) = eval e X.env := by rfl) : DE X C B δ (.Attribute e "start" pos) (.int j) := ⟨fun R σ G H Q N q => we (pe_fld pe_we hb) (h.run R σ G H _ N fun v G' H' g rr => by
  obtain ⟨a, dx, vr, vl, rfl, h1, h2, h3⟩ := rr.dy
  exact ⟨a, C, dx, _, _, rfl, g.gh _ _ h1, F.cl, F.s, dayF_start, q _ G' H' g (.int _)⟩)⟩
theorem de_stops (F : DayF X.K C) (h : DE X C B δ e (.day r i j l)) (hb : attributeBase e "stops" X.env (eval e X.env) = eval e X.env := by rfl) : DE X C B δ (.Attribute e "stops" pos) (.lst l) := ⟨fun R σ G H Q N q => we (pe_fld pe_we hb) (h.run R σ G H _ N fun v G' H' g rr => by
  obtain ⟨a, dx, vr, vl, rfl, h1, h2, h3⟩ := rr.dy
  exact ⟨a, C, dx, _, _, rfl, g.gh _ _ h1, F.cl, F.l, dayF_stops, q _ G' H' g h3⟩)⟩
/-! an instance being made -/
theorem RepF.put {M : Md} {G : Hp} {f : Str} {v : V} {d : D} (r : Rep M G v d) : ∀ {vs : List (Str × V)} {fs : List (Str × D)}, RepF M G vs fs → f ∉ fs.map (·.1) → RepF M G (putF f v vs) (fs ++ [(f, d)])
  | _, _, .nil, _ => .cons r .nil
  | _, _, .cons (f := g) h t, hn => by
    rw [List.map_cons, List.mem_cons, not_or] at hn
    show RepF M G (if g = f then _ else _) _
    rw [if_neg (Ne.symm hn.1)]
    exact .cons h (t.put r hn.2)
theorem RepF.len {M : Md} {G : Hp} : ∀ {vs : List (Str × V)} {fs : List (Str × D)}, RepF M G vs fs → vs.length = fs.length
  | _, _, .nil => rfl
  | _, _, .cons _ t => congrArg (· + 1) t.len
theorem ds_fld (i : Nat) {fs : List (Str × D)} {f x : Str} {p1 p2 : Pos} (F : Cls X.K C) (hn : NoAttr X.K C f) {z : Addr} (hi : δ[i]? = some (.ow (.ins z fs))) (hf : f ∉ fs.map (·.1)) (hl : fs.length < 1000) (he : DE X C B δ e d) (h : P.nx (δ.set i (.ow (.ins z (fs ++ [(f, d)]))))) (hN : X.N[i]? = some x := by rfl) (hv : Vis X.env.scope x := by first | exact Or.inl rfl | exact Or.inr (Or.inl rfl) | exact Or.inr (Or.inr rfl))
    (hd : (x == ("__debug__" : Str)) = false := by decide) (hcd : (x == ("__classdict__" : Str)) = false := by decide) (hs : swapsWith e (some (.Attribute (.Name x p1) f p2)) pos.line X.env = pure false := by rfl) : DS X C B P δ (.Assign [.Attribute (.Name x p1) f p2] e pos) := ⟨fun R D' pk σ G H N =>
  ws (ps_fld (pe_var hN hv hd hcd) pe_we hs) (he.run R σ G H _ N fun v G' H' g r => by
    obtain ⟨pa, h1, h2, h3, ez, dx, vs, h4, h5⟩ := N.slot i _ hi
    have h5' := h5.mono g.gg
    exact ⟨_, h1, pa, C, dx, vs, rfl, g.hh _ _ h4, F, hn, by rw [h5.len]; exact hl, pk.nx _ _ G' _ h ((N.go g).write hi h1 ⟨ez, dx, _, upd_same, h5'.put r hf⟩)⟩)⟩
theorem ds_fldX {x f : Str} {i : Nat} {p1 p2 : Pos} (he : DX X C B δ e) (hN : X.N[i]? = some x) (hv : Vis X.env.scope x) (hd : (x == ("__debug__" : Str)) = false := by decide) (hcd : (x == ("__classdict__" : Str)) = false := by decide) (hs : swapsWith e (some (.Attribute (.Name x p1) f p2)) pos.line X.env = pure false := by rfl) : DS X C B P δ (.Assign [.Attribute (.Name x p1) f p2] e pos) := ⟨fun R D' pk σ G H N =>
  ws (ps_fld (pe_var hN hv hd hcd) pe_we hs) (he.run R σ G H _ N)⟩
end
end Rv

/-! ### Part I: a day made -/
namespace Rv
open PySem L2
/-- the heap without the object at x -/
def hide (H : Hp) (x : Addr) : Hp := fun a => if a = x then none else H a
theorem hide_ex (H : Hp) (x : Addr) : Ex (hide H x) H := fun a o e => by
  unfold hide at e
  split at e
  · cases e
  · exact e
theorem hide_at {H : Hp} {x : Addr} : hide H x x = none := by unfold hide; rw [if_pos rfl]
theorem hide_ne {H : Hp} {x a : Addr} (h : a ≠ x) : hide H x a = H a := by unfold hide; rw [if_neg h]
/-- a day's outcome: the fields of it, or an error's class -/
inductive DOut where
  | ok (r : D) (h s : Int) (l : List D)
  | err (c : Addr)
def dayFs (r : D) (h s : Int) (l : List D) : List (Str × D) := [("road", r), ("home", .int h), ("start", .int s), ("stops", .lst l)]
/-- the promise of __init__: the first three arguments stand still, the stops as they stand now -/
def spI {α : Type} (M : Md) (n : Nat) (enc : α → List D) (pre : α → Prop) (res : α → DOut) : Sp := fun vs H Q E => ∃ (x dx : Addr) (ws ws2 : List V) (a : α) (G : Hp), vs = .ref x :: (ws ++ ws2) ∧ H x = some (.ins M.C dx []) ∧ G x = none ∧ Ex G H ∧ Reps M G ws ((enc a).take 3) ∧ Reps M (hide H x) ws2 ((enc a).drop 3) ∧ (ws ++ ws2).length + 1 = n ∧ pre a ∧
  match res a with
  | .ok r h s l => ∀ G' H', Grow G (hide H x) G' H' → G' x = none → OwnAt M G' H' x (.ins x (dayFs r h s l)) → Q .non H'
  | .err c => ∀ H', Ex (hide H x) H' → E (.ref c) none H'
/-- Day, to be called -/
structure DayD (P : Program) (w : World) (K : PySem.W.Frag) (mg : Str → Option Value) (base : Heap) (C : Addr) (k : Nat) {α : Type} (enc : α → List D) (pre : α → Prop) (res : α → DOut) : Prop where
  ex : ∃ (f : Addr) (fd : FuncData) (ps : List Str), FnOk P w K mg base (L2.CX P w) k f fd ps (spI ⟨P, w, K, C⟩ 5 enc pre res) ∧ Mk K C f ∧ Binds K fd ps [] ∧ mg "Day" = some (.ref C)
section
variable {X : Cx} {C f : Addr} {B : Bs} {δ : DEnv} {e : Expr} {es : List Expr} {pos p : Pos} {k k' : Nat} {fd : FuncData} {ps : List Str} {sp : Sp} {E : St → XK}
/-- C(..) where an error of __init__ is wished for at the caller's slots -/
theorem make_at {pins : List (Addr × Obj)} {σ : St} {H : Hp} {s : Shared} {Q : VK} {us : List Value} {vs : List V} (M : Mk X.K C f) (F : FnOk X.prog X.w X.K X.mg X.base (L2.CX X.prog X.w) k f fd ps sp) (hr : Room (k + 1) X.A) (hb : Binds X.K fd ps []) (hp : PassesAt (L2.CX X.prog X.w) X σ (E σ)) (I : Inv X pins σ H s) (r : Vals vs us)
    (h : ∀ x dx, H x = none → H dx = none → dx ≠ x → sp (.ref x :: vs) (upd (upd H dx (.own x)) x (.ins C dx [])) (fun v H2 => v = .non ∧ Q (.ref x) H2) (E σ)) : wpAny (model X.prog X.w) X.A (PySem.call (.ref C) us) (EP X pins σ Q) X.xe s := by
  have n1 : H (s.heap.objs.size + 1) = none := I.hok.fresh (Nat.le_succ _)
  have n0 : H s.heap.objs.size = none := I.hok.fresh (Nat.le_refl _)
  have want := h (s.heap.objs.size + 1) s.heap.objs.size n1 n0 (Nat.ne_of_lt (Nat.lt_succ_self _))
  have J := Inv.made (C := C) I
  have rs : Vals (V.ref (s.heap.objs.size + 1) :: vs) (Value.ref (s.heap.objs.size + 1) :: us) := .cons rfl r
  have len : (Value.ref (s.heap.objs.size + 1) :: us).length = ps.length := rs.length.symm.trans (F.len _ _ _ _ want)
  have bb := hb _ (Value.ref (s.heap.objs.size + 1) :: us) J.kIn (by rw [List.append_nil]; exact len)
  rw [List.append_nil] at bb
  have run := F.run _ X.stack _ _ ⟨Value.ref (s.heap.objs.size + 1) :: us, []⟩ (Value.ref (s.heap.objs.size + 1) :: us) _ _ (E σ) (hr.make C us []) (J.env0.make C us []) bb rs want
  refine wpAny_call (make_map (f := f) I.kIn M.makes M.init (beq_iff_eq.mp M.fn) (codeAny_mono run fun out s' ho => ?_))
  match out, ho with
  | .error e, ho => exact hp pins _ _ e s' J ho
  | .ok (.ret u), ho =>
    obtain ⟨v, H', J', rv, ev, q⟩ := J.after ho
    cases ev
    exact ⟨rv, V.ref (s.heap.objs.size + 1), H', J', rfl, q⟩
  | .ok .next, ho => exact ho.elim
  | .ok .brk, ho => exact ho.elim
  | .ok .cont, ho => exact ho.elim
theorem we_make {x : Str} {σ : St} {H : Hp} {Q : VK} (M : Mk X.K C f) (F : FnOk X.prog X.w X.K X.mg X.base (L2.CX X.prog X.w) k f fd ps sp) (hr : Room (k + 1) X.A) (hb : Binds X.K fd ps []) (hp : PassesAt (L2.CX X.prog X.w) X σ (E σ)) (hm : X.mg x = some (.ref C)) (hg : Gl X x) (hdb : (x == ("__debug__" : Str)) = false)
    (he : starEach (e :: es) X.env = (false, eval e X.env) :: starEach es X.env) (hpl : (backTo pos (starEach es X.env)).any (·.1) = false)
    (h : WA X (e :: es) σ H fun vs H1 => ∀ x dx, H1 x = none → H1 dx = none → dx ≠ x → sp (.ref x :: vs) (upd (upd H1 dx (.own x)) x (.ins C dx [])) (fun v H2 => v = .non ∧ Q (.ref x) H2) (E σ)) : WE X (.Call (.Name x p) (e :: es) [] pos) σ H Q := fun pins s I =>
  wpAny_Call_Name_kw (ld_glob I hg hm (PySem.W.callWith_K (h₀ := X.base) I.ok.mod.kin M.kp (thn (h pos pins s I) fun us s1 ⟨vs, H1, I1, r, q⟩ => ⟨I1.kIn, make_at M F hr hb hp I1 r q⟩) he hpl) hdb)
theorem putF_app {f : Str} {v : V} : ∀ {fs : List (Str × V)}, f ∉ fs.map (·.1) → putF f v fs = fs ++ [(f, v)]
  | [], _ => rfl
  | p :: r, hn => by
    rw [List.map_cons, List.mem_cons, not_or] at hn
    show (if p.1 = f then _ else _) = _
    rw [if_neg (Ne.symm hn.1), putF_app hn.2]
    rfl
theorem ins_day {M : Md} {G G' H H' : Hp} {x : Addr} {r : D} {h s : Int} {l : List D} (g : Grow G H G' H') (n : H x = none) (n' : G' x = none) (o : OwnAt M G' H' x (.ins x (dayFs r h s l))) : ∃ G2, Grow G H G2 H' ∧ Rep M G2 (.ref x) (.day r h s l) := by
  obtain ⟨_, dx, vs, h1, h2⟩ := o
  unfold dayFs at h2
  cases h2 with
  | cons r1 h2 =>
    cases h2 with
    | cons r2 h2 =>
      cases h2 with
      | cons r3 h2 =>
        cases h2 with
        | cons r4 h2 =>
          cases h2
          obtain rfl := r2.i
          obtain rfl := r3.i
          rename_i v1 v4
          have e : dayF v1 (.int h) (.int s) v4 = ([("road", v1), ("home", .int h), ("start", .int s), ("stops", v4)] : List (Str × V)) := by
            have n1 : ("home" : Str) ∉ (["road"] : List Str) := by decide +kernel
            have n2 : ("start" : Str) ∉ (["road", "home"] : List Str) := by decide +kernel
            have n3 : ("stops" : Str) ∉ (["road", "home", "start"] : List Str) := by decide +kernel
            unfold dayF
            have q1 : putF "road" v1 [] = ([("road", v1)] : List (Str × V)) := rfl
            have q2 := putF_app (v := V.int h) (fs := ([("road", v1)] : List (Str × V))) n1
            have q3 := putF_app (v := V.int s) (fs := ([("road", v1), ("home", V.int h)] : List (Str × V))) n2
            have q4 := putF_app (v := v4) (fs := ([("road", v1), ("home", V.int h), ("start", V.int s)] : List (Str × V))) n3
            rw [q1, q2]
            show putF "stops" v4 (putF "start" (V.int s) ([("road", v1), ("home", V.int h)] : List (Str × V))) = _
            rw [q3]
            show putF "stops" v4 ([("road", v1), ("home", V.int h), ("start", V.int s)] : List (Str × V)) = _
            rw [q4]
            rfl
          rw [← e] at h1
          exact ⟨upd G' x (.ins M.C dx (dayF v1 (.int h) (.int s) v4)), g.publish n n' h1, .day upd_same (r1.mono (Ex.new n')) (r4.mono (Ex.new n'))⟩
variable {α : Type} {enc : α → List D} {pre : α → Prop} {res : α → DOut}
/-- arguments, the last one as it stands now -/
structure DAL (X : Cx) (C : Addr) (B : Bs) (δ : DEnv) (es : List Expr) (l m : List D) : Prop where
  run : ∀ (R : Hp) (σ : St) (G H : Hp) (Q : List V → Hp → Prop), Fit (md X C) B R σ G H δ →
  (∀ vs ws G' H', Grow G H G' H' → Reps (md X C) G' vs l → Reps (md X C) H' ws m → Q (vs ++ ws) H') → WA X es σ H Q
theorem dal_one {d : D} (h : DW X C B δ e d) (hs : starEach [e] X.env = (false, eval e X.env) :: starEach [] X.env := by rfl) : DAL X C B δ [e] [] [d] := ⟨fun R σ G H Q N q =>
  wa (pa_cons pe_we pa_nil hs) (h.run R σ G H _ N fun v G1 H1 g1 r1 => q [] [v] G1 H1 g1 .nil (.cons r1 .nil))⟩
theorem dal_cons {d : D} {l m : List D} (h : DE X C B δ e d) (hr : DAL X C B δ es l m) (hs : starEach (e :: es) X.env = (false, eval e X.env) :: starEach es X.env := by rfl) : DAL X C B δ (e :: es) (d :: l) m := ⟨fun R σ G H Q N q =>
  wa (pa_cons pe_we pa_wa hs) (h.run R σ G H _ N fun v G1 H1 g1 r1 => hr.run R σ G1 H1 _ (N.go g1) fun vs ws G2 H2 g2 r2 r3 => q (v :: vs) ws G2 H2 (g1.trans g2) (.cons (r1.mono g2.gg) r2) r3)⟩
theorem DA.al {l : List D} {n : Nat} (h : DA X C B δ es l) : DAL X C B δ es (l.take n) (l.drop n) := ⟨fun R σ G H Q N q => h.run R σ G H _ N fun vs G' H' g r => by
  have := q (vs.take n) (vs.drop n) G' H' g (r.take n) ((r.drop n).mono g.gh)
  rwa [List.take_append_drop] at this⟩
theorem de_dayL {r : D} {h s : Int} {l : List D} (F : DayD X.prog X.w X.K X.mg X.base C k' enc pre res) (hx : XOk X C B k) (a : α) (ha : DAL X C B δ (e :: es) ((enc a).take 3) ((enc a).drop 3)) (hp : pre a) (hres : res a = .ok r h s l) (hn : (enc a).length = 4 := by rfl) (hk : k' + 1 ≤ k := by decide)
    (hg : Gl X "Day" := by rfl) (hdb : (("Day" : Str) == ("__debug__" : Str)) = false := by decide) (he : starEach (e :: es) X.env = (false, eval e X.env) :: starEach es X.env := by rfl) (hpl : (backTo pos (starEach es X.env)).any (·.1) = false := by rfl) :
    DE X C B δ (.Call (.Name "Day" p) (e :: es) [] pos) (.day r h s l) := ⟨fun R σ G H Q N q => by
  obtain ⟨f, fd, ps, h1, h2, h3, h4⟩ := F.ex
  refine we_make (E := B.E) h2 h1 (hx.hr.mono hk) h3 (hx.pa σ) h4 hg hdb he hpl (ha.run R σ G H _ N fun vs ws G1 H1 g1 r1 r2 x dx nx nd ne => ⟨x, dx, vs, ws, a, G1, rfl, upd_same, g1.gh.free nx, ?_, r1, r2.mono ?_, by rw [List.length_append, r1.length, r2.length, List.length_take, List.length_drop, hn]; rfl, hp, ?_⟩)
  · exact (g1.gh.trans (Ex.new nd)).trans (Ex.new (by rw [upd_ne ne.symm]; exact nx))
  · intro b u hb
    rw [hide_ne (ne_of_none hb nx), upd_ne (ne_of_none hb nx), upd_ne (ne_of_none hb nd)]
    exact hb
  · rw [hres]
    intro G' H' g n' o
    have g2 : Grow G1 H1 G' H' := by
      refine ⟨fun a o e => g.hh a o ?_, g.gg, g.gh, fun p p1 p2 => ?_⟩
      · have na : a ≠ x := ne_of_none e nx
        rw [hide_ne na, upd_ne na, upd_ne (ne_of_none e nd)]
        exact e
      · by_cases hpx : p = x
        · rw [hpx]
          exact .of n'
        · refine g.nw p p1 ?_
          rw [hide_ne hpx, upd_ne hpx]
          by_cases hpd : p = dx
          · rw [hpd, upd_same]
            exact fun z => nomatch z
          · rw [upd_ne hpd]
            exact p2
    obtain ⟨G2, g3, r3⟩ := ins_day g2 nx n' o
    exact ⟨rfl, q _ G2 H' (g1.trans g3) r3⟩⟩
theorem de_day {r : D} {h s : Int} {l : List D} (F : DayD X.prog X.w X.K X.mg X.base C k' enc pre res) (hx : XOk X C B k) (a : α) (ha : DA X C B δ (e :: es) (enc a)) (hp : pre a) (hres : res a = .ok r h s l) (hn : (enc a).length = 4 := by rfl) (hk : k' + 1 ≤ k := by decide)
    (hg : Gl X "Day" := by rfl) (hdb : (("Day" : Str) == ("__debug__" : Str)) = false := by decide) (he : starEach (e :: es) X.env = (false, eval e X.env) :: starEach es X.env := by rfl) (hpl : (backTo pos (starEach es X.env)).any (·.1) = false := by rfl) :
    DE X C B δ (.Call (.Name "Day" p) (e :: es) [] pos) (.day r h s l) := de_dayL F hx a ha.al hp hres hn hk hg hdb he hpl
theorem dx_day {c : Addr} (F : DayD X.prog X.w X.K X.mg X.base C k' enc pre res) (hx : XOk X C B k) (a : α) (ha : DAW X C B δ (e :: es) (enc a)) (hp : pre a) (hres : res a = .err c) (hc : B.ex δ c) (hn : (enc a).length = 4 := by rfl) (hk : k' + 1 ≤ k := by decide)
    (hg : Gl X "Day" := by rfl) (hdb : (("Day" : Str) == ("__debug__" : Str)) = false := by decide) (he : starEach (e :: es) X.env = (false, eval e X.env) :: starEach es X.env := by rfl) (hpl : (backTo pos (starEach es X.env)).any (·.1) = false := by rfl) :
    DX X C B δ (.Call (.Name "Day" p) (e :: es) [] pos) := ⟨fun R σ G H Q N => by
  obtain ⟨f, fd, ps, h1, h2, h3, h4⟩ := F.ex
  refine we_make (E := B.E) h2 h1 (hx.hr.mono hk) h3 (hx.pa σ) h4 hg hdb he hpl (ha.run R σ G H _ N fun vs G1 H1 g1 r1 x dx nx nd ne => ⟨x, dx, vs.take 3, vs.drop 3, a, H1, by rw [List.take_append_drop], upd_same, nx, ?_, r1.take 3, (r1.drop 3).mono ?_, by rw [List.take_append_drop, r1.length, hn], hp, ?_⟩)
  · exact (Ex.new nd).trans (Ex.new (by rw [upd_ne ne.symm]; exact nx))
  · intro b u hb
    rw [hide_ne (ne_of_none hb nx), upd_ne (ne_of_none hb nx), upd_ne (ne_of_none hb nd)]
    exact hb
  · rw [hres]
    intro H' g
    refine hx.hex R δ σ G1 H1 H' c hc (N.go g1) fun a o e => g a o ?_
    have na : a ≠ x := ne_of_none e nx
    rw [hide_ne na, upd_ne na, upd_ne (ne_of_none e nd)]
    exact e⟩
end
section
variable {P : Program} {w : World} {K : PySem.W.Frag} {mg : Str → Option Value} {base : Heap} {C : Addr} {k : Nat} {st : Stmt} {N : List Str} {α : Type} {enc : α → List D} {pre : α → Prop} {res : α → DOut}
def postI (x : Addr) (r : DOut) : Post := { rt := fun _ => False, nx := fun δ => ∃ a h s l, r = .ok a h s l ∧ δ[0]? = some (.ow (.ins x (dayFs a h s l))) }
theorem start_day {x : Addr} {l : List D} {n i : Nat} {s : Sl} (e : (Sl.ow (.ins x []) :: ((l.take 3).map Sl.sh ++ (l.drop 3).map Sl.old ++ List.replicate n Sl.un))[i]? = some s) : (i = 0 ∧ s = .ow (.ins x [])) ∨ (∃ j d, i = j + 1 ∧ ((s = .sh d ∧ (l.take 3)[j]? = some d) ∨ (s = .old d ∧ (l.take 3).length ≤ j ∧ (l.drop 3)[j - (l.take 3).length]? = some d))) ∨ s = .un := by
  cases i with
  | zero => exact .inl ⟨rfl, (Option.some.inj e).symm⟩
  | succ j =>
    rw [List.getElem?_cons_succ, List.getElem?_append] at e
    split at e
    · rw [List.getElem?_append] at e
      split at e
      · rw [List.getElem?_map] at e
        obtain ⟨d, hd, rfl⟩ := Option.map_eq_some_iff.mp e
        exact .inr (.inl ⟨j, d, rfl, .inl ⟨rfl, hd⟩⟩)
      · rename_i h
        rw [List.getElem?_map] at e
        obtain ⟨d, hd, rfl⟩ := Option.map_eq_some_iff.mp e
        rw [List.length_map] at hd h
        exact .inr (.inl ⟨j, d, rfl, .inr ⟨rfl, Nat.le_of_not_lt h, hd⟩⟩)
    · rw [List.getElem?_replicate] at e
      split at e <;> cases e
      exact .inr (.inr rfl)
theorem day_d {f : Addr} {fd : FuncData} {ps : List Str} (F : Fun K "__init__" "Day.__init__" st f fd) (M : Mk K C f) (hm : mg "Day" = some (.ref C)) (hb : Binds K fd ps []) (S : FnScope N ps (defScope st)) (hN : ps.length ≤ N.length) (h5 : ps.length = 5)
    (body : ∀ (cdv : Value) (A : Around) (outer : List PySem.Env) (s : Shared) (H : Hp) (E : XK) (B : Bs) (x : Addr) (a : α), pre a → XOk (cxOf (L2.CX P w) P w K mg base N "Day.__init__" (defScope st) f cdv A outer s H E) C B k → (∀ δ c, res a = .err c → B.ex δ c) →
      DB (cxOf (L2.CX P w) P w K mg base N "Day.__init__" (defScope st) f cdv A outer s H E) C B (postI x (res a)) (.ow (.ins x []) :: (((enc a).take 3).map Sl.sh ++ ((enc a).drop 3).map Sl.old ++ List.replicate (N.length - 5) Sl.un)) (defBody st)) :
    DayD P w K mg base C (k + 1) enc pre res := by
  refine ⟨f, fd, ps, F.okX S (fun vs H Q E ⟨x, dx, ws, ws2, a, G, e, _, _, _, _, _, hl, _⟩ => by rw [e, List.length_cons, hl, h5]) (fun cdv A outer s H vs Q E hr h => ?_), M, hb, hm⟩
  obtain ⟨x, dx, ws, ws2, a, G, rfl, hX, gX, hG, hR, hR2, hl, hp, ho⟩ := h
  have hx : XOk (cxOf (L2.CX P w) P w K mg base N "Day.__init__" (defScope st) f cdv A outer s H E) C ⟨G, hide H x, fun _ => E, fun _ c => res a = .err c⟩ k :=
    ⟨rfl, S.nd, hr, fun _ => takes_of rfl rfl rfl rfl, fun σ => passAt (W := fun cls d _ H => E cls d H) (takes_of rfl rfl rfl rfl) σ, fun _ => passes_of rfl, fun R δ σ G' H' H2 c hc N' e' => by
      have hc : res a = .err c := hc
      rw [hc] at ho
      exact ho H2 (N'.grow.hh.trans e')⟩
  have hsz := hR.length
  have hsz2 := hR2.length
  have Gh : Ex G (hide H x) := fun a o e => by
    rw [hide_ne (ne_of_none e gX)]
    exact hG a o e
  refine ⟨_, pss_wb, (body cdv A outer s H E _ x a hp hx (fun _ _ h => h)).run G _ ⟨fun d v G' H' q => False.elim q, fun o p G' H' q => False.elim q, fun _ _ _ _ _ z => False.elim z, fun δ σ G' H' q N' => ?_, fun _ _ _ _ z => z.elim, fun _ _ _ _ z => z.elim⟩ (L2.start N (.ref x :: (ws ++ ws2))) G H ?_⟩
  · obtain ⟨r, h, t, l, e1, e2⟩ := q
    rw [e1] at ho
    obtain ⟨p, p1, p2, p3, p4⟩ := N'.slot 0 _ e2
    obtain rfl := p4.1
    exact ho G' H' N'.all p3 p4
  · refine ⟨⟨Ex.refl G, fun _ h _ => h⟩, ?_, ⟨hide_ex H x, Ex.refl G, hG, fun _ h _ => h⟩, fun i sl e => ?_, fun i j o o' p hij e1 e2 h1 h2 => ?_⟩
    · simp only [L2.start, List.length_append, List.length_map, List.length_replicate, List.length_cons] at hl ⊢
      omega
    · rcases start_day e with ⟨rfl, rfl⟩ | ⟨j, d, rfl, hd⟩ | rfl
      · exact ⟨x, rfl, hide_at, gX, rfl, dx, [], hX, .nil⟩
      · have get : ∀ v, (ws ++ ws2)[j]? = some v → (L2.start N (.ref x :: (ws ++ ws2)))[j + 1]? = some (some v) := fun v hv => by
          have hi := (List.getElem?_eq_some_iff.mp hv).1
          unfold L2.start
          rw [List.getElem?_append_left (by rw [List.length_map, List.length_cons]; omega), List.getElem?_map, List.getElem?_cons_succ, hv]
          rfl
        rcases hd with ⟨rfl, hd⟩ | ⟨rfl, hj, hd⟩
        · obtain ⟨v, k1, k2⟩ := hR.get hd
          have hi := (List.getElem?_eq_some_iff.mp k1).1
          exact ⟨v, get v (by rw [List.getElem?_append_left hi]; exact k1), k2⟩
        · obtain ⟨v, k1, k2⟩ := hR2.get hd
          exact ⟨v, get v (by rw [List.getElem?_append_right (by omega), hsz]; exact k1), k2⟩
      · trivial
    · have key : ∀ (i : Nat) (o : Sl) (v : Option (Option V)) (p : Addr), (Sl.ow (.ins x []) :: (((enc a).take 3).map Sl.sh ++ ((enc a).drop 3).map Sl.old ++ List.replicate (N.length - 5) Sl.un))[i]? = some o → o.owns v p → i = 0 := fun i o v p e h => by
        rcases start_day e with ⟨rfl, rfl⟩ | ⟨j, d, rfl, ⟨rfl, _⟩ | ⟨rfl, _⟩⟩ | rfl
        · rfl
        · exact False.elim h
        · exact False.elim h
        · exact False.elim h
      exact absurd ((key i o _ p e1 h1).trans (key j o' _ p e2 h2).symm) hij
end
end Rv

/-! ### Part L: a list comprehension whose items may raise -/
namespace Rv
open PySem L2 PyProof.Rows
/-- only the frame's address counts -/
theorem noteFrame_eq {e : Value} {env env' : PySem.Env} (h : env.frame = env'.frame) : noteFrame e env = noteFrame e env' := by
  unfold noteFrame PySem.frameOf
  rw [h]
def compPostX (M : Model) (A : Around) (E : Value → Shared → Prop) (Q : Value → Shared → Prop) (acc : Value) (C : Addr) (fr : Option Addr) (r : Result) (s' : Shared) : Prop :=
  match r with
  | .ok _ => ∃ m, s'.heap.Ns C m ∧ ∀ h', Heap.SameBut C s'.heap h' → Q acc { s' with heap := h' }
  | .error x => ∃ m, s'.heap.Ns C m ∧ ∀ h', Heap.SameBut C s'.heap h' → ∀ cenv : PySem.Env, cenv.locals = C → cenv.frame = fr → wpAny M A (passOn "comprehension.variables-let-go" x cenv : Sem Value) (fun _ _ => False) E { s' with heap := h' }
section
variable {M : Model} {A : Around} {E : Value → Shared → Prop} {s : Shared} {env : PySem.Env}
/-- a comprehension by its block (follows wpAny_comprehension_free, with the frame kept) -/
theorem comp_freeX {e : Expr} {scope : Scope} {pos : Pos} {newAcc first : Sem Value} {g : Comprehension} {gs : List Comprehension} {cl : List (Str × Addr)}
    {Q : Value → Shared → Prop}
    (hcl : clausesOf e = g :: gs) (hs : ∀ x, foldedSetIterable g.iter env x = pure x) (hclos : closureFor scope env = pure cl)
    (hkind : scope.kind = .function) (hnames : ∀ x ∈ scope.names, x.2 = .local → scope.names.lookup x.1 = some .local)
    (h : wpAny M A first (fun x s₁ => wpAny M A (pyIter x) (fun it s₂ => wpAny M A newAcc (fun acc s₃ =>
      wpAny M A (newFunctionEnv scope env.globals cl [] env.qual none .none (some env)) (fun cenv s₄ =>
        codeAny M A (.compStart e 0 it acc { cenv with scope := relabel scope env }) (compPostX M A E Q acc cenv.locals cenv.frame) s₄) E s₃) E s₂) E s₁) E s) :
    wpAny M A (comprehension e scope env pos newAcc false first none) Q E s := by
  unfold comprehension
  rw [hclos, hcl]
  refine wpAny_bind (wpAny_mono h (fun x s₁ h₁ => wpAny_bind (wpAny_standAt (wpAny_bind (wpAny_of_eq (hs x) (wpAny_bind (wpAny_holding (wpAny_mono h₁ (fun it s₂ h₂ =>
    wpAny_standIf (wpAny_bind (wpAny_mono h₂ (fun acc s₃ h₃ => wpAny_bind (wpAny_pure (wpAny_bind (wpAny_mono h₃ (fun cenv s₄ h₄ => ?_) fun _ _ h' => h')))) fun _ _ h' => h')))
      fun _ _ h' => h'))))))) fun _ _ h' => h')
  dsimp only
  have hv : ∀ x ∈ (scope.names.filter fun x => (x.2 == .local || x.2 == .cell) && x.1 != (".0" : Str)).reverse, x.2 = .local →
      Env.kindOf { cenv with scope := relabel scope env } x.1 = some .local := fun x hx hl => lookup_relabel_local (hnames x (List.mem_filter.mp (List.mem_reverse.mp hx)).1 hl)
  have hv' : ∀ x ∈ (scope.names.filter fun x => (x.2 == .local || x.2 == .cell) && x.1 != (".0" : Str)).reverse.drop 1 ++ (scope.names.filter fun x => (x.2 == .local || x.2 == .cell) && x.1 != (".0" : Str)).reverse.take 1,
      x.2 = .local → Env.kindOf { cenv with scope := relabel scope env } x.1 = some .local := fun x hx hl => by
    rcases List.mem_append.mp hx with h1 | h1
    · exact hv x (List.mem_of_mem_drop h1) hl
    · exact hv x (List.mem_of_mem_take h1) hl
  refine wpAny_holding (wpAny_bind (wpAny_attempt (wpAny_holding (wpAny_run (codeAny_mono h₄ fun r s' hr => ?_)))))
  cases r with
  | ok f =>
    obtain ⟨m, hn, hr⟩ := hr
    exact wpAny_bind (wpAny_holding (wpAny_comp_letGo (cenv := { cenv with scope := relabel scope env }) hkind _ s' m hv hn fun h' m' _ hs' => wpAny_pure (hr h' hs')))
  | error x =>
    obtain ⟨m, hn, hr⟩ := hr
    exact wpAny_bind (wpAny_holding (wpAny_comp_letGo (cenv := { cenv with scope := relabel scope env }) hkind _ s' m hv hn fun h' m' _ hs' => wpAny_mono (hr h' hs' _ rfl rfl) (fun _ _ f => f.elim) fun _ _ y => y))
end
/-- an exception in a block's air -/
def XB (X : Cx) (Wo : XK) (s3 : Shared) (H3 : Hp) (scope : Scope) (ce : PySem.Env) (fp : List Addr) (u : Value) (s' : Shared) : Prop :=
  ∃ (a : Addr) (B : Heap) (sI : Shared) (pins : List (Addr × Obj)) (σ : St) (H : Hp) (cls : Value) (d : Option Addr), u = .ref a ∧ Inv (X.blk s3 H3 scope ce fp) pins σ H sI ∧ (∀ b o, sI.heap.get? b = some o → b ∉ frs X.stack → B.get? b = some o) ∧ sI.heap.UpToSlots s'.heap ∧
    HandSPX.FlyingZ B X.stack a (Zc cls d) s'.heap ∧ H a = none ∧ s'.os = sI.os ∧ AllBare s'.gens ∧ Wo cls d H
abbrev blkE (X : Cx) (Wo : XK) (s : Shared) (H : Hp) (scope : Scope) (cenv : PySem.Env) (fp : List Addr) : Cx := { X.blk s H scope cenv fp with xe := XB X Wo s H scope cenv fp }
section
variable {X : Cx} {Wo : XK} {s3 : Shared} {H3 : Hp} {scope : Scope} {ce : PySem.Env} {fp : List Addr} {pins : List (Addr × Obj)} {σ : St} {H : Hp} {s : Shared}
theorem inv_out (I : Inv (blkE X Wo s3 H3 scope ce fp) pins σ H s) : Inv (X.blk s3 H3 scope ce fp) pins σ H s :=
  ⟨⟨I.ok.mod, I.ok.kind, I.ok.glob, I.ok.blt, I.ok.above, I.ok.inj, I.ok.has, I.ok.cab, I.ok.hd, I.ok.frames, I.ok.stk, I.ok.exf, I.ok.bs, I.ok.bsz, I.ok.noex, I.ok.exfs, I.ok.funs, I.ok.frf⟩, I.os, I.bare, I.base, I.loc, I.cell, I.free, I.freeC, I.pin, I.hok, I.len⟩
theorem inv_in (I : Inv (X.blk s3 H3 scope ce fp) pins σ H s) : Inv (blkE X Wo s3 H3 scope ce fp) pins σ H s :=
  ⟨⟨I.ok.mod, I.ok.kind, I.ok.glob, I.ok.blt, I.ok.above, I.ok.inj, I.ok.has, I.ok.cab, I.ok.hd, I.ok.frames, I.ok.stk, I.ok.exf, I.ok.bs, I.ok.bsz, I.ok.noex, I.ok.exfs, I.ok.funs, I.ok.frf⟩, I.os, I.bare, I.base, I.loc, I.cell, I.free, I.freeC, I.pin, I.hok, I.len⟩
/-- a call's exception is in the block's air (follows XE.of_call) -/
theorem passB : PassesAt (L2.CX X.prog X.w) (blkE X Wo s3 H3 scope ce fp) σ Wo := by
  intro pins H s u s' I0 c
  have I := inv_out I0
  obtain ⟨a, B, H', cls, d, rfl, fl, hok, ub, na, os, ag, hE⟩ := c
  obtain ⟨G, g1, g2⟩ := restrict s'.heap fun b => (B.get? b).isSome || decide (b ∈ frs X.stack)
  have st : B.StaysIn s'.heap := fl.1
  have gB : ∀ b o, B.get? b = some o → G.get? b = some o := fun b o e => by
    rw [g1 b (by simp [e])]
    exact st b o e
  have gF : ∀ b, b ∈ frs X.stack → G.get? b = s'.heap.get? b := fun b hb => g1 b (by simp [hb])
  have og : ∀ b o, G.get? b = some o → s'.heap.get? b = some o ∧ ((B.get? b).isSome = true ∨ b ∈ frs X.stack) := fun b o e => by
    cases q : ((B.get? b).isSome || decide (b ∈ frs X.stack)) with
    | false => rw [g2 b q] at e; cases e
    | true =>
      rw [g1 b q] at e
      exact ⟨e, by simpa [Bool.or_eq_true] using q⟩
  refine ⟨a, B, { s with heap := G, gens := s'.gens, drawn := s'.drawn, toks := s'.toks }, pins, σ, H', cls, d, rfl, ?_, fun b o e hb => ?_, Heap.UpToSlots.of_keeps fun b o e => (og b o e).1, fl, na, os, ag, hE⟩
  · refine I.call (ch := []) ⟨fun b o e n hb _ => gB b o (ub.keep b o e n hb), fun b o e n hb _ => ?_, fun b o e n _ => ub.free b o e n, fun b o e _ => ?_, ub.tups, ub.frzs, ub.tbls⟩ (hok.kept gB) ag (fun _ z => nomatch z)
    · obtain ⟨sl, q⟩ := ub.slot b o e hb
      exact ⟨sl, by rw [gF b hb]; exact q⟩
    · by_cases hb : b ∈ frs X.stack
      · obtain ⟨sl, q⟩ := ub.slot b o e hb
        exact ⟨_, by rw [gF b hb]; exact q⟩
      · obtain ⟨o', q⟩ := ub.there b o e hb
        exact ⟨o', gB b o' q⟩
  · obtain ⟨e', h⟩ := og b o e
    rcases h with h | h
    · obtain ⟨o', q⟩ := Option.isSome_iff_exists.mp h
      have z := st b o' q
      rw [e'] at z; cases z
      exact q
    · exact absurd h hb
end
section
variable {X : Cx} {W : WX} {s3 : Shared} {H3 : Hp} {scope : Scope} {ce : PySem.Env} {fp : List Addr} {pins : List (Addr × Obj)} {σ : St}
theorem ns_up {h h' : Heap} {L : Addr} {m : Str → Option Value} (hn : h.Ns L m) (up : h.UpToSlots h') : h'.Ns L m := by
  obtain ⟨oL, es, ep, hoL, hdL, r⟩ := hn
  obtain ⟨sl, e⟩ := up L oL hoL fun vs q => by rw [hdL] at q; cases q
  exact ⟨_, es, ep, e, hdL, r⟩
/-- an exception leaves the block into the def's air -/
theorem air_out {Qf : Value → Shared → Prop} {acc u : Value} {s' : Shared} (tk : Takes X W) (hst : X.stack = X.env :: X.outer) (hfr : X.env.frame = some X.env.locals) (I3 : Inv X pins σ H3 s3) (f3 : ∀ b ∈ fp, FpOk X pins H3 b) (cL : ce.locals = s3.heap.objs.size) (cF : ce.frame = X.env.frame)
    (hx : XB X (fun cls d H => W cls d σ H) s3 H3 scope ce fp u s') :
    notedBy (model X.prog X.w) X.A ce (fun e s'' => compPostX (model X.prog X.w) X.A X.xe Qf acc s3.heap.objs.size X.env.frame (.error e) s'') u s' := by
  obtain ⟨a, B, sI, pins', σ', H', cls, d, rfl, I6, nb, up, fl, na, os, ag, w⟩ := hx
  have I7 : Inv X pins σ H' sI := I3.call' (ch := fp) I6.os I6.base I6.hok I6.bare fun b hb => ⟨(f3 b hb).2.2.2.1, (f3 b hb).2.1, (f3 b hb).2.2.2.2.1, (f3 b hb).2.2.2.2.2⟩
  have nC : H' s3.heap.objs.size = none := by
    have z : H' ce.locals = none := I6.free
    rw [cL] at z
    exact z
  obtain ⟨m, hn, _⟩ := I6.loc
  have hn : sI.heap.Ns ce.locals m := hn
  rw [cL] at hn
  obtain ⟨f0, f1, f2, f4, f5, f6⟩ := I3.fpOk (Nat.le_refl _) nC
  have frm : X.A.frames = some (X.env :: X.outer) := by rw [I3.ok.frames, hst]
  generalize s3.heap.objs.size = Ca at *
  have Cfr : Ca ∉ frs X.stack := fun z => by
    rw [hst] at z
    rcases List.mem_filterMap.mp z with ⟨e, he, q⟩
    rcases List.mem_cons.mp he with rfl | he
    · rw [hfr] at q
      exact f1 (Option.some.inj q).symm
    · exact f2 (List.mem_filterMap.mpr ⟨e, he, q⟩)
  show wpAny _ _ (noteFrame (.ref a) ce) (fun _ s'' => compPostX _ _ _ _ _ _ _ (.error (.ref a)) s'') _ s'
  rw [noteFrame_eq cF]
  rw [hst] at fl
  refine HandSPX.looks_onZ Zc.steady frm hfr fl fun h1 hh up1 => ?_
  refine ⟨m, ns_up (ns_up hn up) up1, fun h2 sb cenv hl hf => ?_⟩
  -- what stands at Ca is no part of the ground
  have sb' : ∀ b, b ≠ Ca → h2.get? b = h1.get? b := sb.2
  have hh2 : HandSPX.HeldZ (PySem.W.hideAll B [Ca]) (X.env :: X.outer) a (Zc cls d) X.env.locals h2 := by
    obtain ⟨b1, b0, g1, oe, vs, T, oT, ts, he, hz, hd, h1', hnT, hTe, hT, hdT, h3⟩ := hh
    have ob : ∀ b o, (PySem.W.hideAll B [Ca]).get? b = some o → B.get? b = some o ∧ b ≠ Ca := fun b o e => ⟨PySem.W.of_hideAll _ e, fun z => by
      subst z
      rw [PySem.W.hideAll_none _ (by simp)] at e
      cases e⟩
    have nB : ∀ b, B.get? b = none → (PySem.W.hideAll B [Ca]).get? b = none := fun b hb => by
      cases q : (PySem.W.hideAll B [Ca]).get? b with
      | none => rfl
      | some o =>
        rw [(ob b o q).1] at hb
        cases hb
    obtain ⟨oC, esC, epC, hoC, hdC, _⟩ := hn
    have BC : B.get? Ca = some oC := nb Ca oC hoC Cfr
    have aC : a ≠ Ca := fun z => by rw [z, BC] at b0; cases b0
    have TC : T ≠ Ca := fun z => by rw [z, BC] at hnT; cases hnT
    refine ⟨fun b o e => (sb' b (ob b o e).2).trans (b1 b o (ob b o e).1), nB a b0, ?_, oe, vs, T, oT, ts, (sb' a aC).trans he, hz, hd, h1', nB T hnT, hTe, (sb' T TC).trans hT, hdT, h3⟩
    have g2 : h1.FunFrames (PySem.W.hideAll B [Ca]) (X.env :: X.outer) := funFrames_none g1 fun b hb => nB b (g1.mem hb).1
    have gen : ∀ (l : List PySem.Env), (∀ b ∈ frs l, b ≠ Ca) → h1.FunFrames (PySem.W.hideAll B [Ca]) l → h2.FunFrames (PySem.W.hideAll B [Ca]) l := by
      intro l
      induction l with
      | nil => intro _ _; trivial
      | cons env l ih =>
        intro hne ⟨hk, ⟨L, o, hfL, hnL, ho, hd⟩, hr⟩
        exact ⟨hk, ⟨L, o, hfL, hnL, (sb' L (hne L (List.mem_filterMap.mpr ⟨env, List.mem_cons_self, hfL⟩))).trans ho, hd⟩, ih (fun b hb => by
          obtain ⟨e, he, q⟩ := List.mem_filterMap.mp hb
          exact hne b (List.mem_filterMap.mpr ⟨e, List.mem_cons_of_mem _ he, q⟩)) hr⟩
    exact gen _ (fun b hb z => by subst z; rw [← hst] at hb; exact Cfr hb) g2
  have I8 : Inv X pins σ H' { sI with heap := PySem.W.hideAll sI.heap [Ca] } := I7.turned (t' := sI.toks) (h' := PySem.W.hideAll sI.heap [Ca]) (fun b o hb e => PySem.W.hideAll_get _ e (by simpa using hb)) f0 f1 f4 f5 f6
  obtain ⟨c1, c0, c2, oe, vs, T, oT, ts, he, hz, hd, h1', r⟩ := _root_.id hh2
  unfold PySem.passOn
  refine wpAny_bind (wpAny_field he hd h1' ?_)
  rw [if_neg (show ¬ ((Value.ref T == Value.none) = true) from by simp), hf, hfr]
  refine wpAny_bind (HandSPX.setFlight_onZ (l := X.env :: X.outer) hh2 fun h3 hh3 up3 => wpAny_throw ?_)
  refine tk _ _ ⟨a, PySem.W.hideAll B [Ca], { sI with heap := PySem.W.hideAll sI.heap [Ca] }, pins, σ, H', cls, d, rfl, I8, fun b o e hb => ?_, ?_, .inr (.inr (by rw [hst]; exact hh3)), na, os, ag, w⟩
  · have hbC : b ≠ Ca := fun z => by
      subst z
      rw [show ({ sI with heap := PySem.W.hideAll sI.heap [b] } : Shared).heap.get? b = none from PySem.W.hideAll_none _ (by simp)] at e
      cases e
    exact PySem.W.hideAll_get _ (nb b o (PySem.W.of_hideAll _ e) hb) (by simpa using hbC)
  · intro b o e hnf
    have hbC : b ≠ Ca := fun z => by
      subst z
      rw [show ({ sI with heap := PySem.W.hideAll sI.heap [b] } : Shared).heap.get? b = none from PySem.W.hideAll_none _ (by simp)] at e
      cases e
    obtain ⟨sl1, e1⟩ := up b o (PySem.W.of_hideAll _ e) hnf
    obtain ⟨sl2, e2⟩ := up1 b _ e1 hnf
    have e3 : h2.get? b = _ := (sb' b hbC).trans e2
    obtain ⟨sl3, e4⟩ := up3 b _ e3 hnf
    exact ⟨sl3, e4⟩
end
section
variable {X : Cx}
/-- a list comprehension whose items may raise (follows lc_core) -/
theorem lc_coreX {W : WX} {pins : List (Addr × Obj)} {s : Shared} {σ : St} {H : Hp} {Q : VK} {elt tg iter : Expr} {scope : Scope} {own : List (Str × Nat)} {pos pos' : Pos} {wi : TI} {g : TG} {te : TE} {Qf : Value → Shared → Prop}
    (hc : X.calm = true) (hN : X.N.Nodup) (I : Inv X pins σ H s) (hi : PI X tg iter wi) (ok : BlkOk X.N X.env.scope scope own)
    (hg : ∀ (s : Shared) (H : Hp) (C : Addr) (cl : List (Str × Addr)) (fp : List Addr), PG (X.blk s H scope (compEnvC scope cl C X.env) fp) tg g)
    (he : ∀ (s : Shared) (H : Hp) (C : Addr) (cl : List (Str × Addr)) (fp : List Addr), PE (blkE X (fun cls d H => W cls d σ H) s H scope (compEnvC scope cl C X.env) fp) elt te) (hs : ∀ x, foldedSetIterable iter X.env x = pure x)
    (tk : Takes X W) (hst : X.stack = X.env :: X.outer) (hfr : X.env.frame = some X.env.locals)
    (h : tLc wi g tYes te (own.map (·.2)) σ H Q)
    (hRR : ∀ D C s' m H', Inv X pins σ H' s' → Q (.ref D) H' → s'.heap.Ns C m → FpOk X pins H' C → compPostX (model X.prog X.w) X.A X.xe Qf (.ref D) C X.env.frame (.ok .next) s') :
    wpAny (model X.prog X.w) X.A (comprehension (.ListComp elt [⟨tg, iter, [], 0⟩] scope pos) scope X.env pos' (newList []) false (eval iter X.env) none) Qf X.xe s := by
  have hfree : ∀ y ∈ scope.names, y.2 = .free → ∃ c, X.env.cells.lookup y.1 = some c := fun y hy e => by
    rcases ok.free y hy e with k | k
    · exact I.ok.has _ (.inl k)
    · exact I.ok.has _ (.inr k)
  refine comp_freeX rfl hs (closure_ok hfree) ok.kind (fun y hy e => by rw [ok.uniq y hy, e])
    (thn (hi.run pins s σ H _ I h) fun xv s1 hx => thn hx fun itv s2 h2 => ?_)
  obtain ⟨it, fp, tn, J, H2, e, I2, T, st2, f2, q⟩ := h2
  subst e
  refine wpAny_newObj_type (newEnv_comp ?_) (by show 0 ≤ sizeLine; decide)
  generalize hD : s2.heap.objs.size = D
  have hDn : H2 D = none := I2.hok.fresh (Nat.le_of_eq hD)
  obtain ⟨W0, ⟨m0, w0⟩, turn⟩ := q D hDn
  -- the new list
  generalize hs3 : ({ s2 with heap := s2.heap.push { cls := .type "list", data := .seq ([] : List Value).toArray } } : Shared) = s3
  have I3 : Inv X pins σ (upd H2 D (.lst [])) s3 := by
    rw [← hs3]
    refine I2.laid (t' := s2.toks) (fun b o e => Heap.get?_push_of_some _ e) (Nat.le_of_eq hD) ⟨Nat.zero_le _, [], 0, .nil, ?_⟩
    rw [← hD]
    exact Heap.get?_push_size _ rfl
  have h3 : s3.heap = s2.heap.push { cls := .type "list", data := .seq ([] : List Value).toArray } := by rw [← hs3]
  have sz : ∀ b ∈ fp, b < s2.heap.objs.size := fun b hb => by
    obtain ⟨o, e, _⟩ := T.obj _ _ st2 b hb
    exact Heap.lt_size e
  have f3 : ∀ b ∈ fp, FpOk X pins (upd H2 D (.lst [])) b ∧ b < s3.heap.objs.size := fun b hb => by
    have hlt := sz b hb
    refine ⟨⟨?_, (f2 b hb).2⟩, by rw [h3, Heap.size_push]; exact Nat.lt_succ_of_lt hlt⟩
    rw [upd_ne (by rw [← hD]; exact Nat.ne_of_lt hlt)]
    exact (f2 b hb).1
  have st3 : tn 0 s3.heap := T.keep _ _ _ st2 fun b _ o e => by rw [h3]; exact Heap.get?_push_of_some _ e
  have I4 := block_start I3 ok hN f3
  have pg := hg s3 (upd H2 D (.lst [])) s3.heap.objs.size (cellsFrom (s3.heap.objs.size + 1) scope.names (cloFrom X.env.cells scope.names [])) fp
  have pe := he s3 (upd H2 D (.lst [])) s3.heap.objs.size (cellsFrom (s3.heap.objs.size + 1) scope.names (cloFrom X.env.cells scope.names [])) fp
  show codeAny _ _ (.compStart (.ListComp elt [⟨tg, iter, [], 0⟩] scope pos) 0 (.ref it) (.ref D) (compEnvC scope (cellsFrom (s3.heap.objs.size + 1) scope.names (cloFrom X.env.cells scope.names [])) s3.heap.objs.size X.env)) (compPostX (model X.prog X.w) X.A X.xe Qf (.ref D) s3.heap.objs.size X.env.frame) { s3 with heap := pushCells (s3.heap.push { cls := .type "dict", data := .dict #[] }) scope.names }
  have nfp : ∀ b ∈ fp, (upd H2 D (.lst [])) b = none := fun b hb => (f3 b hb).1.1
  have cF : (compEnvC scope (cellsFrom (s3.heap.objs.size + 1) scope.names (cloFrom X.env.cells scope.names [])) s3.heap.objs.size X.env).frame = X.env.frame := rfl
  generalize hce : compEnvC scope (cellsFrom (s3.heap.objs.size + 1) scope.names (cloFrom X.env.cells scope.names [])) s3.heap.objs.size X.env = ce at I4 pg pe cF ⊢
  have cL : ce.locals = s3.heap.objs.size := by subst hce; rfl
  generalize hH3 : upd H2 D (.lst []) = H3 at I3 I4 pg pe w0 nfp f3
  generalize hs4 : ({ s3 with heap := pushCells (s3.heap.push { cls := .type "dict", data := .dict #[] }) scope.names } : Shared) = s4 at I4 ⊢
  have st4 : tn 0 s4.heap := T.keep _ _ _ st3 fun b _ o e => by rw [← hs4]; exact pushCells_keeps _ _ _ _ (Heap.get?_push_of_some _ e)
  have stat : ∀ {σ' : St} {H' : Hp} {s' : Shared}, Inv (X.blk s3 H3 scope ce fp) [] σ' H' s' → (∀ b ∈ fp, H' b = none) → ∀ b ∈ fp, FpOk (X.blk s3 H3 scope ce fp) [] H' b := fun {σ' H' s'} I' hn b hb =>
    ⟨hn b hb, (I'.ok.exf b hb).1, I'.ok.exfs b hb, .inl hb, fun x c e => (I'.ok.exf b hb).2 x c e, fun p hp => absurd (show p ∈ ([] : List (Addr × Obj)) ++ [] from hp) (by simp)⟩
  have loop : codeAny (model X.prog X.w) X.A (.compLoop (.ListComp elt [⟨tg, iter, [], 0⟩] scope pos) 0 (.ref it) (.ref D) ce) (compPostX (model X.prog X.w) X.A X.xe Qf (.ref D) s3.heap.objs.size X.env.frame) s4 := by
    refine compLoop_any (fun n s' => ∃ i H', Inv (X.blk s3 H3 scope ce fp) [] (wipe σ (own.map (·.2))) H' s' ∧ tn i s'.heap ∧ (∀ b ∈ fp, H' b = none) ∧ W0 i n H') ?_ m0 ⟨0, H3, I4, st4, nfp, w0⟩
    rintro n s5 ⟨i, H5, I5, st5, n5, w5⟩
    rcases turn i n H5 w5 with ⟨stop, qq⟩ | ⟨go, Nx, hNx, step⟩
    · have td := T.done (X.blk s3 H3 scope ce fp) rfl rfl rfl hc i [] s5 _ H5 (fun _ _ => False) I5 (stat I5 n5) st5 stop
      refine thnF td fun r s6 ⟨hr, I6⟩ => ?_
      subst hr
      -- back in the def's context
      have I7 : Inv X pins σ H5 s6 := I3.call' (ch := fp) I6.os I6.base I6.hok I6.bare fun b hb => ⟨(f3 b hb).1.2.2.2.1, (f3 b hb).1.2.1, (f3 b hb).1.2.2.2.2.1, (f3 b hb).1.2.2.2.2.2⟩
      have nC : H5 s3.heap.objs.size = none := by
        have z : H5 ce.locals = none := I6.free
        rw [cL] at z
        exact z
      obtain ⟨m, hn, _⟩ := I6.loc
      have hn : s6.heap.Ns ce.locals m := hn
      rw [cL] at hn
      exact hRR D s3.heap.objs.size s6 m H5 I7 qq hn (I3.fpOk (Nat.le_refl _) nC)
    · have ti := T.item (X.blk s3 H3 scope ce fp) rfl rfl rfl hc i [] s5 _ H5 (fun _ _ => False) I5 (stat I5 n5) st5 go
      refine thnF ti fun r s6 ⟨u, hr, h6⟩ => ?_
      subst hr
      refine thnF h6 fun _ s7 ⟨x, H7, I7, r7, y7, st7, n7⟩ => ?_
      have I7' := I7.pinned (stat I7 n7) (T.obj _ _ st7)
      refine thnF (pg.run _ s7 _ H7 x u _ I7' r7 (step x H7 y7)) fun _ s8 ⟨σ8, H8, I8, hw8, q8⟩ => ?_
      refine thnF ((pts_nil (X := X.blk s3 H3 scope ce fp)).run _ s8 σ8 H8 _ I8 q8) fun b s9 ⟨H9, I9, q9⟩ => ?_
      -- the turn's end
      have fin : ∀ {s' : Shared} {H' : Hp}, Inv (X.blk s3 H3 scope ce fp) ([] ++ pinsAt fp s7.heap) σ8 H' s' → Nx H' → ∃ m, m < n ∧ ∃ i H', Inv (X.blk s3 H3 scope ce fp) [] (wipe σ (own.map (·.2))) H' s' ∧ tn i s'.heap ∧ (∀ b ∈ fp, H' b = none) ∧ W0 i m H' := fun {s' H'} I' nx => by
        obtain ⟨m', hm, w'⟩ := hNx H' nx
        have pin' : ∀ b ∈ fp, ∀ o, s7.heap.get? b = some o → s'.heap.get? b = some o ∧ H' b = none := fun b hb o e =>
          let z := I'.pin (b, o) (List.mem_append_right _ (List.mem_append_right _ (mem_pinsAt hb e)))
          ⟨z.1, z.2.1⟩
        have hl : (wipe σ (own.map (·.2))).length = σ8.length := by rw [← hw8, wipe_length]
        refine ⟨m', hm, i + 1, H', (I'.unpinned (pins := [])).weak hl (fun j v e => ?_), T.keep _ _ _ st7 fun b hb o e => (pin' b hb o e).1, fun b hb => ?_, w'⟩
        · rw [← hw8] at e
          exact (wipe_some e).1
        · obtain ⟨o, e, _⟩ := T.obj _ _ st7 b hb
          exact (pin' b hb o e).2
      cases b with
      | false =>
        simp only [Bool.false_eq_true, if_false] at q9 ⊢
        exact fin I9 q9
      | true =>
        simp only [if_true] at q9 ⊢
        refine wpAny_mono (pe.run _ s9 σ8 H9 _ (inv_in I9) q9) (fun z s10 ⟨yv, H10, I10', r10, acc, hD10, hz10, nx⟩ => ?_) fun u' s' hx => air_out tk hst hfr I3 (fun b hb => (f3 b hb).1) cL cF hx
        have I10 := inv_out I10'
        exact app_ok (X := X.blk s3 H3 scope ce fp) I10 hD10 hz10 r10 fun s11 I11 => fin I11 nx
  exact codeAny_compStart_list loop (T.self X.A 0 _ _ _ st4 loop)
end
section
variable {X : Cx} {C : Addr} {B : Bs} {P : Post} {δ : DEnv} {tg : Expr} {pos : Pos} {k : Nat}
/-- what stands still alone -/
def onlySh : Sl → Sl
  | .sh d => .sh d
  | _ => .un
theorem Fit.still {M : Md} {R : Hp} {σ : St} {G H : Hp} (N : Fit M B R σ G H δ) (E : St → XK) (ex : DEnv → Addr → Prop) : Fit M ⟨G, H, E, ex⟩ G σ G H (δ.map onlySh) := by
  have key : ∀ (i : Nat) (s : Sl), (δ.map onlySh)[i]? = some s → (∃ d, s = .sh d ∧ δ[i]? = some (.sh d)) ∨ s = .un := fun i s e => by
    rw [List.getElem?_map] at e
    obtain ⟨t, ht, rfl⟩ := Option.map_eq_some_iff.mp e
    cases t with
    | sh d => exact .inl ⟨d, rfl, ht⟩
    | _ => exact .inr rfl
  refine ⟨⟨Ex.refl G, fun _ h _ => h⟩, by rw [List.length_map]; exact N.len, Grow.refl N.gh, fun i s e => ?_, fun i j a b p _ h1 _ h3 => ?_⟩
  · rcases key i s e with ⟨d, rfl, h⟩ | rfl
    · exact N.sh h
    · trivial
  · rcases key i a h1 with ⟨d, rfl, h⟩ | rfl <;> exact False.elim h3
theorem lc_tX {x : Str} (hx : XOk X C B k) (i : Nat) {l : List D} {m : Nat} (g : D → D) {iter elt : Expr} {scope : Scope} (hi : DI X C B δ tg iter l) (hm : m ≤ l.length)
    (he : ∀ (n : Nat) (d : D), l[n]? = some d → n < m → ∀ (Wo : XK) (s : Shared) (H : Hp) (C0 : Addr) (cl : List (Str × Addr)) (fp : List Addr) (B' : Bs), XOk (blkE X Wo s H scope (compEnvC scope cl C0 X.env) fp) C B' k → (∀ δ' c, B.ex δ c → B'.ex δ' c) → DE (blkE X Wo s H scope (compEnvC scope cl C0 X.env) fp) C B' ((δ.map onlySh).set i (.sh d)) elt (g d))
    (hbad : ∀ (d : D), l[m]? = some d → ∀ (Wo : XK) (s : Shared) (H : Hp) (C0 : Addr) (cl : List (Str × Addr)) (fp : List Addr) (B' : Bs), XOk (blkE X Wo s H scope (compEnvC scope cl C0 X.env) fp) C B' k → (∀ δ' c, B.ex δ c → B'.ex δ' c) → DX (blkE X Wo s H scope (compEnvC scope cl C0 X.env) fp) C B' ((δ.map onlySh).set i (.sh d)) elt)
    (hz : l.length ≤ sizeLine) : ∃ (wi : TI), PI X tg iter wi ∧
      ∀ (R : Hp) (σ : St) (G H : Hp) (Q : VK), Fit (md X C) B R σ G H δ → (m = l.length → ∀ p G' H', Grow G H G' H' → H p = none → G' p = none → OwnAt (md X C) G' H' p (.lst (l.map g)) → Q (.ref p) H') →
        tLc wi (gName i) tYes (fun σ2 H Q => ∀ (s : Shared) (H' : Hp) (C0 : Addr) (cl : List (Str × Addr)) (fp : List Addr), WE (blkE X (B.E σ) s H' scope (compEnvC scope cl C0 X.env) fp) elt σ2 H Q) [i] σ H Q := by
  obtain ⟨wi, hi1, hi2⟩ := hi.ex
  refine ⟨wi, hi1, fun R σ G H Q N q => ?_⟩
  refine hi2 R σ G H _ N fun Jt G1 H1 g1 w D0 hD => ?_
  have N1 := N.go g1
  have ng := g1.gh.free hD
  have nH := N1.grow.hh.free hD
  have nf : ∀ (j : Nat) (a : Sl), (δ.set i .un)[j]? = some a → ¬ a.owns (σ.set i none)[j]? D0 := fun j a e => N1.setUn.fresh hD e
  refine ⟨fun n c H' => c = l.length - n ∧ n ≤ m ∧ ∃ G' xs, Fit (md X C) B G1 (σ.set i none) G' H' (δ.set i .un) ∧ Grow G1 H1 G' H' ∧ G' D0 = none ∧ H' D0 = some (.lst xs) ∧ Reps (md X C) G' xs ((l.take n).map g), ⟨l.length, by simp, Nat.zero_le _, G1, [], N1.root.setUn.upd nH ng nf, Grow.own N1.gh hD, ng, upd_same, by simp; exact .nil⟩, fun n c H' ⟨hc, hn, G', xs, N', gr, hG, hH, hr⟩ => ?_⟩
  have e1 : Ex G1 H' := gr.gg.trans gr.gh
  by_cases hlt : n < l.length
  · refine .inr ⟨w.go n H' e1 N'.grow.hh hlt, fun H2 => n < m ∧ ∃ G' xs, Fit (md X C) B G1 (σ.set i none) G' H2 (δ.set i .un) ∧ Grow G1 H1 G' H2 ∧ G' D0 = none ∧ H2 D0 = some (.lst xs) ∧ Reps (md X C) G' xs ((l.take (n + 1)).map g), fun H2 ⟨hl, q⟩ => ⟨l.length - (n + 1), by omega, rfl, by omega, q⟩, fun v H'' y => ?_⟩
    obtain ⟨rfl, d, h1, h2⟩ := w.yld n H' v H'' e1 N'.grow.hh hlt y
    show gName i v (wipe σ [i]) H'' _
    refine ⟨?_, ?_⟩
    · show wipe ((wipe σ [i]).set i (some v)) [i] = wipe σ [i]
      show (((σ.set i none).set i (some v)).set i none) = σ.set i none
      rw [List.set_set, List.set_set]
    · intro s0 H0' C0 cl fp
      have Nel : Fit (md X C) B R σ G' H'' δ := N1.go gr
      have Nb := (Nel.still (fun _ => B.E σ) (fun _ c => B.ex δ c)).setSh (i := i) (h2.mono gr.gg)
      have Nb2 : Fit (md X C) ⟨G', H'', fun _ => B.E σ, fun _ c => B.ex δ c⟩ G' ((wipe σ [i]).set i (some v)) G' H'' ((δ.map onlySh).set i (.sh d)) := by
        show Fit _ _ _ ((σ.set i none).set i (some v)) _ _ _
        rw [List.set_set]
        exact Nb
      have hxb : XOk (blkE X (B.E σ) s0 H0' scope (compEnvC scope cl C0 X.env) fp) C ⟨G', H'', fun _ => B.E σ, fun _ c => B.ex δ c⟩ k :=
        ⟨hx.calm, hx.nd, hx.hr, fun h => absurd (congrArg List.length h) (by simp), fun σ' => passB, fun h => absurd (congrArg List.length h) (by simp), fun R' δ' σ' G2 H2 H3 c hc N2 e2 => hx.hex R δ σ G' H'' H3 c hc Nel (N2.grow.hh.trans e2)⟩
      rcases Nat.lt_or_ge n m with hnm | hge
      · refine (he n d h1 hnm _ s0 H0' C0 cl fp _ hxb (fun _ _ h => h)).run G' _ G' H'' _ Nb2 fun v3 G3 H3 g3 r3 => ?_
        have nl : ¬ IsT (.lst xs) := fun ⟨_, z⟩ => by rcases z with z | ⟨_, z⟩ <;> cases z
        have nw3 : G3 D0 = none := g3.out hG hH nl
        have hH3 := g3.hh _ _ hH
        have hrl := hr.length
        rw [List.length_map, List.length_take] at hrl
        refine ⟨xs, hH3, by omega, hnm, G3, xs ++ [v3], (N'.go g3).upd nH nw3 nf, ⟨(gr.hh.trans g3.hh).mut hD, gr.gg.trans g3.gg, g3.gh.mut nw3, fun p p1 p2 => g3.nw p (gr.nw p p1 p2) fun z => ?_⟩, nw3, upd_same, ?_⟩
        · cases q : H1 p with
          | none => exact p2 q
          | some o =>
            have := gr.hh p o q
            rw [this] at z
            cases z
        · have e : l.take (n + 1) = l.take n ++ [d] := by
            rw [List.take_succ, h1]
            rfl
          rw [e, List.map_append]
          exact (hr.mono g3.gg).append (.cons r3 .nil)
      · have en : n = m := by omega
        subst en
        exact (hbad d h1 _ s0 H0' C0 cl fp _ hxb (fun _ _ h => h)).run G' _ G' H'' _ Nb2
  · have en : n = l.length := by omega
    subst en
    refine .inl ⟨w.stop _ H' e1 N'.grow.hh (Nat.le_refl _), q (by omega) D0 G' H' (g1.trans gr) (g1.hh.free hD) hG ⟨xs, hH, ?_⟩⟩
    rw [List.take_length] at hr
    exact hr
theorem lc_runX {x : Str} {i : Nat} {iter elt : Expr} {scope : Scope} {wi : TI} {pins : List (Addr × Obj)} {s : Shared} {σ : St} {H : Hp} {Q : VK} (hx : XOk X C B k) (hi1 : PI X tg iter wi) (ok : BlkOk X.N X.env.scope scope [(x, i)])
    (hg : ∀ (s : Shared) (H : Hp) (C0 : Addr) (cl : List (Str × Addr)) (fp : List Addr), PG (X.blk s H scope (compEnvC scope cl C0 X.env) fp) tg (gName i)) (hs : ∀ x, foldedSetIterable iter X.env x = pure x) (hst : X.stack = X.env :: X.outer) (hfr : X.env.frame = some X.env.locals)
    (h : tLc wi (gName i) tYes (fun σ2 H Q => ∀ (s : Shared) (H' : Hp) (C0 : Addr) (cl : List (Str × Addr)) (fp : List Addr), WE (blkE X (B.E σ) s H' scope (compEnvC scope cl C0 X.env) fp) elt σ2 H Q) [i] σ H Q) (I : Inv X pins σ H s) :
    wpAny (model X.prog X.w) X.A (eval (.ListComp elt [⟨tg, iter, [], 0⟩] scope pos) X.env) (EP X pins σ Q) X.xe s := by
  rw [eval_ListComp]
  refine lc_coreX (own := [(x, i)]) hx.calm hx.nd I hi1 ok hg (W := fun cls d σ H => B.E σ cls d H) (fun s H C0 cl fp => ⟨fun pins s' σ' H' Q I q => q s H C0 cl fp pins s' I⟩) hs (hx.tk hst) hst hfr h fun D Ca s' m H' I' q hn f => ⟨m, hn, fun h'' sb => ?_⟩
  obtain ⟨f0, f1, f2, f3, f4, f5⟩ := f
  exact ⟨.ref D, H', I'.turned (t' := s'.toks) (fun b o hb e => (sb.2 b hb).trans e) f0 f1 f3 f4 f5, rfl, q⟩
/-- [elt for x in iter], no item raises -/
theorem do_lcX {x : Str} (hx : XOk X C B k) (i : Nat) {l : List D} (g : D → D) {iter elt : Expr} {scope : Scope} (hi : DI X C B δ tg iter l) (ok : BlkOk X.N X.env.scope scope [(x, i)])
    (hg : ∀ (s : Shared) (H : Hp) (C0 : Addr) (cl : List (Str × Addr)) (fp : List Addr), PG (X.blk s H scope (compEnvC scope cl C0 X.env) fp) tg (gName i))
    (he : ∀ (n : Nat) (d : D), l[n]? = some d → ∀ (Wo : XK) (s : Shared) (H : Hp) (C0 : Addr) (cl : List (Str × Addr)) (fp : List Addr) (B' : Bs), XOk (blkE X Wo s H scope (compEnvC scope cl C0 X.env) fp) C B' k → (∀ δ' c, B.ex δ c → B'.ex δ' c) → DE (blkE X Wo s H scope (compEnvC scope cl C0 X.env) fp) C B' ((δ.map onlySh).set i (.sh d)) elt (g d))
    (hz : l.length ≤ sizeLine) (hs : ∀ x, foldedSetIterable iter X.env x = pure x := by intro _; rfl) (hst : X.stack = X.env :: X.outer := by rfl) (hfr : X.env.frame = some X.env.locals := by rfl) : DO X C B δ (.ListComp elt [⟨tg, iter, [], 0⟩] scope pos) (.lst (l.map g)) := ⟨fun R σ G H Q N q pins s I => by
  obtain ⟨wi, h1, h2⟩ := lc_tX (x := x) (m := l.length) hx i g hi (Nat.le_refl _) (fun n d hd _ => he n d hd) (fun d hd => by
    have := (List.getElem?_eq_some_iff.mp hd).1
    omega) hz
  exact lc_runX (x := x) hx h1 ok hg hs hst hfr (h2 R σ G H Q N fun _ => q) I⟩
/-- .. item m raises -/
theorem dx_lcX {x : Str} (hx : XOk X C B k) (i : Nat) {l : List D} (m : Nat) (g : D → D) {iter elt : Expr} {scope : Scope} (hi : DI X C B δ tg iter l) (ok : BlkOk X.N X.env.scope scope [(x, i)]) (hm : m < l.length)
    (hg : ∀ (s : Shared) (H : Hp) (C0 : Addr) (cl : List (Str × Addr)) (fp : List Addr), PG (X.blk s H scope (compEnvC scope cl C0 X.env) fp) tg (gName i))
    (he : ∀ (n : Nat) (d : D), l[n]? = some d → n < m → ∀ (Wo : XK) (s : Shared) (H : Hp) (C0 : Addr) (cl : List (Str × Addr)) (fp : List Addr) (B' : Bs), XOk (blkE X Wo s H scope (compEnvC scope cl C0 X.env) fp) C B' k → (∀ δ' c, B.ex δ c → B'.ex δ' c) → DE (blkE X Wo s H scope (compEnvC scope cl C0 X.env) fp) C B' ((δ.map onlySh).set i (.sh d)) elt (g d))
    (hbad : ∀ (d : D), l[m]? = some d → ∀ (Wo : XK) (s : Shared) (H : Hp) (C0 : Addr) (cl : List (Str × Addr)) (fp : List Addr) (B' : Bs), XOk (blkE X Wo s H scope (compEnvC scope cl C0 X.env) fp) C B' k → (∀ δ' c, B.ex δ c → B'.ex δ' c) → DX (blkE X Wo s H scope (compEnvC scope cl C0 X.env) fp) C B' ((δ.map onlySh).set i (.sh d)) elt)
    (hz : l.length ≤ sizeLine) (hs : ∀ x, foldedSetIterable iter X.env x = pure x := by intro _; rfl) (hst : X.stack = X.env :: X.outer := by rfl) (hfr : X.env.frame = some X.env.locals := by rfl) : DX X C B δ (.ListComp elt [⟨tg, iter, [], 0⟩] scope pos) := ⟨fun R σ G H Q N pins s I => by
  obtain ⟨wi, h1, h2⟩ := lc_tX (x := x) (m := m) hx i g hi (Nat.le_of_lt hm) he hbad hz
  exact lc_runX (x := x) hx h1 ok hg hs hst hfr (h2 R σ G H Q N fun z => absurd z (by omega)) I⟩
end
end Rv

/-! ### what the laws draw from a script -/
namespace Rv
open PySem L2
theorem at_ints {ns : List Int} {i : Int} (h0 : 0 ≤ i) (h : i < (ns.length : Int)) : atI (ns.map D.int) i = some (.int (ns.getD i.toNat 0)) := by
  have hl : i.toNat < ns.length := by omega
  refine atI_get h0 (by rw [List.length_map]; exact h) ?_
  rw [List.getElem?_map, List.getD_eq_getElem?_getD, List.getElem?_eq_getElem hl]
  rfl
theorem at_strs {ns : List Str} {i : Int} (h0 : 0 ≤ i) (h : i < (ns.length : Int)) : atI (ns.map D.str) i = some (.str (ns.getD i.toNat Str.empty)) := by
  have hl : i.toNat < ns.length := by omega
  refine atI_get h0 (by rw [List.length_map]; exact h) ?_
  rw [List.getElem?_map, List.getD_eq_getElem?_getD, List.getElem?_eq_getElem hl]
  rfl
/-- an item of a menu -/
def sel (l : List Int) (i : Int) : Int := l.getD i.toNat 0
def cellAt (ns : List Int) (k : Int) : Int := if ns.length = 0 then k else ns.getD (k % (ns.length : Int)).toNat 0 + 3 * (k / (ns.length : Int))
def wide (c b : Int) : Int := c * 48271000000007 % 1000000000000037 % b
theorem wide_nn {c b : Int} (h : 0 < b) : 0 ≤ wide c b := Int.emod_nonneg _ (by omega)
theorem wide_lt {c b : Int} (h : 0 < b) : wide c b < b := Int.emod_lt_of_pos _ h
theorem wide_small (c : Int) : -(2 ^ 64) < wide c 1000000000000000 ∧ wide c 1000000000000000 < 2 ^ 64 := by
  have h1 := wide_nn (c := c) (b := 1000000000000000) (by decide)
  have h2 := wide_lt (c := c) (b := 1000000000000000) (by decide)
  omega
structure Road where
  ring : Bool
  len : Int
def Road.d (r : Road) : D := .tup [.str (if r.ring then "ring" else "line"), .int r.len]
theorem is_ring (b : Bool) : decide ((if b = true then Str.ofString "ring" else Str.ofString "line") = Str.ofString "ring") = b := by cases b <;> rfl
theorem is_line (b : Bool) : decide ((if b = true then Str.ofString "ring" else Str.ofString "line") = Str.ofString "line") = !b := by cases b <;> rfl
def Road.many (r : Road) : Int := if r.ring then r.len else r.len + 1
def Road.ok (r : Road) : Prop := 1 ≤ r.len ∧ r.len ≤ 1000000000
def lenBy (c : Int) : Int :=
  if decide (c / 2 % 25 = 3) = true then sel [1, 2, 3, 1000000000] (c / 50 % 4) else if decide (c / 2 % 5 = 1) = true then 1 + wide (c / 10) 1000000000 else 1 + c / 2 % 30
def roadBy (c : Int) : Road := ⟨decide (c % 2 = 1), lenBy c⟩
theorem mod4 (c : Int) : c % 4 = 0 ∨ c % 4 = 1 ∨ c % 4 = 2 ∨ c % 4 = 3 := by omega
theorem mod3 (c : Int) : c % 3 = 0 ∨ c % 3 = 1 ∨ c % 3 = 2 := by omega
theorem mod2 (c : Int) : c % 2 = 0 ∨ c % 2 = 1 := by omega
theorem roadBy_ok (c : Int) : (roadBy c).ok := by
  unfold Road.ok roadBy lenBy
  dsimp only
  split
  · rcases mod4 (c / 50) with h | h | h | h <;> rw [h] <;> decide
  · split
    · have h1 := wide_nn (c := c / 10) (b := 1000000000) (by decide)
      have h2 := wide_lt (c := c / 10) (b := 1000000000) (by decide)
      omega
    · omega
theorem road_word {c : Int} : atI [D.str "line", D.str "ring"] (c % 2) = some (.str (if (roadBy c).ring then "ring" else "line")) := by
  unfold roadBy
  rcases mod2 c with h | h <;> rw [h] <;> rfl
theorem Road.many_pos {r : Road} (h : r.ok) : 1 ≤ r.many := by
  obtain ⟨h1, h2⟩ := h
  unfold Road.many
  split <;> omega
def placeBy (r : Road) (c : Int) : Int := if c % 7 = 0 then sel [0, r.many - 1, r.many / 2] (c / 7 % 3) else wide (c / 7) r.many
/-- a place of the road -/
def Road.has (r : Road) (p : Int) : Prop := 0 ≤ p ∧ p < r.many
theorem placeBy_ok {r : Road} (h : r.ok) (c : Int) : r.has (placeBy r c) := by
  have h1 := Road.many_pos h
  unfold placeBy Road.has
  split
  · rcases mod3 (c / 7) with e | e | e <;> rw [e]
    · show 0 ≤ (0 : Int) ∧ (0 : Int) < r.many
      omega
    · show 0 ≤ r.many - 1 ∧ r.many - 1 < r.many
      omega
    · show 0 ≤ r.many / 2 ∧ r.many / 2 < r.many
      omega
  · exact ⟨wide_nn (by omega), wide_lt (by omega)⟩
/-! #### roads -/
def wayM (r : Road) (a b : Int) : Int := if r.ring then (if 2 * ((b - a) % r.len) ≤ r.len then (b - a) % r.len else (b - a) % r.len - r.len) else b - a
def apartM (r : Road) (a b : Int) : Int := absI (wayM r a b)
theorem maxI_def (i j : Int) : maxI i j = max i j := by
  unfold maxI
  split <;> omega
theorem minI_def (i j : Int) : minI i j = min i j := by
  unfold minI
  split <;> omega
/-- the shortest way, told by the gap -/
theorem apartM_eq {r : Road} {a b : Int} (ha : r.has a) (hb : r.has b) : apartM r a b = if r.ring = true ∧ r.len - (max a b - min a b) < max a b - min a b then r.len - (max a b - min a b) else max a b - min a b := by
  obtain ⟨a1, a2⟩ := ha
  obtain ⟨b1, b2⟩ := hb
  unfold apartM wayM absI
  unfold Road.many at a2 b2
  cases r with
  | mk ring len =>
    cases ring with
    | false =>
      simp only [Bool.false_eq_true, if_false, false_and] at *
      split <;> omega
    | true =>
      simp only [if_true, true_and] at *
      by_cases hab : a ≤ b
      · rw [Int.emod_eq_of_lt (by omega) (by omega)]
        repeat' split
        all_goals omega
      · have e : (b - a) % len = b - a + len := by
          rw [← Int.add_emod_right]
          exact Int.emod_eq_of_lt (by omega) (by omega)
        rw [e]
        repeat' split
        all_goals omega
end Rv

/-! ### mirrors: days, orders, timetables -/
namespace Rv
open PySem L2
structure Stop where
  p : Int
  o : Int
  c : Int
  s : Int
def Stop.d (s : Stop) : D := .tup [.int s.p, .int s.o, .int s.c, .int s.s]
structure DayR where
  road : Road
  home : Int
  start : Int
  stops : List Stop
def DayR.d (y : DayR) : D := .day y.road.d y.home y.start (y.stops.map Stop.d)
def timeOk (t : Int) : Prop := 0 ≤ t ∧ t ≤ 1000000000000
instance (t : Int) : Decidable (timeOk t) := by unfold timeOk; infer_instance
instance (r : Road) (p : Int) : Decidable (r.has p) := by unfold Road.has; infer_instance
structure Stop.ok (r : Road) (s : Stop) : Prop where
  hp : r.has s.p
  ho : timeOk s.o
  hc : timeOk s.c
  hs : timeOk s.s
  oc : s.o ≤ s.c
structure DayR.ok (y : DayR) : Prop where
  road : y.road.ok
  home : y.road.has y.home
  start : timeOk y.start
  few : y.stops.length ≤ 7
  stops : ∀ s ∈ y.stops, s.ok y.road
theorem DayR.ok.len {y : DayR} (h : y.ok) : 0 < y.road.len := by
  have := h.road.1
  omega
/-- the classes of the errors -/
structure Ads where
  road : Addr
  off : Addr
  time : Addr
  many : Addr
  order : Addr
  missed : Addr
  noday : Addr
def DayR.at (y : DayR) (n : Int) : Stop := y.stops.getD n.toNat ⟨0, 0, 0, 0⟩
theorem at_stops {y : DayR} {n : Int} (h0 : 0 ≤ n) (h : n < (y.stops.length : Int)) : atI (y.stops.map Stop.d) n = some (y.at n).d := by
  have hl : n.toNat < y.stops.length := by omega
  refine atI_get h0 (by rw [List.length_map]; exact h) ?_
  rw [List.getElem?_map]
  unfold DayR.at
  rw [List.getD_eq_getElem?_getD, List.getElem?_eq_getElem hl]
  rfl
theorem tps_stops (l : List Stop) : tps (l.map Stop.d) = true := tps_all.mpr fun d hd => by
  obtain ⟨i, _, rfl⟩ := List.mem_map.mp hd
  rfl
abbrev Row := Int × Int × Int
def rowD (x : Row) : D := .tup [.int x.1, .int x.2.1, .int x.2.2]
theorem tps_rows (l : List Row) : tps (l.map rowD) = true := tps_all.mpr fun d hd => by
  obtain ⟨i, _, rfl⟩ := List.mem_map.mp hd
  rfl
/-- when the van comes to stop n, begins and leaves -/
def servedM (y : DayR) (pl t n : Int) : Option Row :=
  let s := y.at n
  let comes := t + apartM y.road pl s.p
  let begins := maxI comes s.o
  if begins > s.c then none else some (comes, begins, begins + s.s)
def servedD (o : Option Row) : D := match o with
  | none => .non
  | some x => rowD x
/-- numbers of stops, none twice -/
def goodO (m : Nat) (order : List Int) : Prop := (∀ n ∈ order, 0 ≤ n ∧ n < (m : Int)) ∧ order.Nodup
instance (m : Nat) (order : List Int) : Decidable (goodO m order) := by unfold goodO; infer_instance
/-- driving on from pl at t -/
def runM (y : DayR) : Int → Int → List Int → Option (List Row)
  | _, _, [] => some []
  | pl, t, n :: r => match servedM y pl t n with
    | none => none
    | some x => (runM y (y.at n).p x.2.2 r).map (x :: ·)
def orderOut (A : Ads) (y : DayR) (order : List Int) : Out := if goodO y.stops.length order then .ok (.lst (order.map .int)) else .err A.order
def tableOut (A : Ads) (y : DayR) (order : List Int) : Out := if goodO y.stops.length order then (match runM y y.home y.start order with
  | none => .err A.missed
  | some rows => .own (.lst (rows.map rowD))) else .err A.order
def endM (y : DayR) (order : List Int) (rows : List Row) : Int := match rows.getLast? with
  | none => y.start
  | some x => x.2.2 + apartM y.road (y.at (order.getLastD 0)).p y.home
def endOut (A : Ads) (y : DayR) (order : List Int) : Out := if goodO y.stops.length order then (match runM y y.home y.start order with
  | none => .err A.missed
  | some rows => .ok (.int (endM y order rows))) else .err A.order
/-! the refusals -/
def roadOut (A : Ads) (w : Str) (len : Int) : Out := if (w = Str.ofString "line" ∨ w = Str.ofString "ring") ∧ 1 ≤ len ∧ len ≤ 1000000000 then .ok (.tup [.str w, .int len]) else .err A.road
def timeOut (A : Ads) (t : Int) : Out := if timeOk t then .ok (.int t) else .err A.time
def placeOut (A : Ads) (r : Road) (p : Int) : Out := if r.has p then .ok (.int p) else .err A.off
def stopOut (A : Ads) (r : Road) (s : Stop) : Out := if r.has s.p then (if timeOk s.o ∧ timeOk s.c ∧ timeOk s.s ∧ s.o ≤ s.c then .ok s.d else .err A.time) else .err A.off
theorem stopOut_ok {A : Ads} {r : Road} {s : Stop} (h : s.ok r) : stopOut A r s = .ok s.d := by
  unfold stopOut
  rw [if_pos h.hp, if_pos ⟨h.ho, h.hc, h.hs, h.oc⟩]
theorem runM_len {y : DayR} : ∀ {order : List Int} {pl t : Int} {rows : List Row}, runM y pl t order = some rows → rows.length = order.length
  | [], pl, t, rows, h => by
    cases h
    rfl
  | n :: r, pl, t, rows, h => by
    unfold runM at h
    split at h
    · cases h
    · obtain ⟨rs, h1, rfl⟩ := Option.map_eq_some_iff.mp h
      rw [List.length_cons, List.length_cons, runM_len h1]
theorem goodO_len {m : Nat} {order : List Int} (h : goodO m order) : order.length ≤ m := by
  have h1 : (order.map Int.toNat).Nodup := by
    rw [List.Nodup, List.pairwise_map]
    refine List.Pairwise.imp_of_mem ?_ h.2
    intro a b ha hb hne e
    have := h.1 a ha
    have := h.1 b hb
    omega
  have h2 : ∀ x ∈ order.map Int.toNat, x < m := fun x hx => by
    obtain ⟨a, ha, rfl⟩ := List.mem_map.mp hx
    have := h.1 a ha
    omega
  have key : ∀ (m : Nat) (l : List Nat), l.Nodup → (∀ x ∈ l, x < m) → l.length ≤ m := by
    intro m
    induction m with
    | zero =>
      intro l _ hb
      cases l with
      | nil => exact Nat.le_refl _
      | cons a l => exact absurd (hb a List.mem_cons_self) (Nat.not_lt_zero _)
    | succ m ih =>
      intro l hn hb
      have e := ih (l.filter fun x => decide (x ≠ m)) (hn.filter _) fun x hx => by
        have h3 := List.mem_filter.mp hx
        have h4 := hb x h3.1
        have h5 := of_decide_eq_true h3.2
        omega
      have cnt : l.length ≤ (l.filter fun x => decide (x ≠ m)).length + 1 := by
        clear ih e hb
        induction l with
        | nil => simp
        | cons a l ih =>
          rw [List.filter_cons]
          have hn' := List.nodup_cons.mp hn
          by_cases ha : a = m
          · subst ha
            have : l.filter (fun x => decide (x ≠ a)) = l := List.filter_eq_self.mpr fun x hx => decide_eq_true fun z => hn'.1 (z ▸ hx)
            rw [this, if_neg (by simp)]
            simp
          · rw [if_pos (by simp [ha])]
            have := ih hn'.2
            simp only [List.length_cons]
            omega
      omega
  have := key m _ h1 h2
  rw [List.length_map] at this
  exact this
end Rv

/-! ### mirrors: what the laws draw of a day -/
namespace Rv
open PySem L2
def startBy (r : Road) (c : Int) : Int := if c % 3 = 0 then 0 else if c % 3 = 1 then c / 3 % (2 * r.len + 1) else wide (c / 3) 1000000000001
theorem startBy_ok {r : Road} (h : r.ok) (c : Int) : timeOk (startBy r c) := by
  obtain ⟨h1, h2⟩ := h
  unfold startBy timeOk
  split
  · omega
  · split
    · have a := Int.emod_nonneg (c / 3) (b := 2 * r.len + 1) (by omega)
      have b := Int.emod_lt_of_pos (c / 3) (b := 2 * r.len + 1) (by omega)
      omega
    · have a := wide_nn (c := c / 3) (b := 1000000000001) (by decide)
      have b := wide_lt (c := c / 3) (b := 1000000000001) (by decide)
      omega
def opens1 (r : Road) (start c : Int) : Int := if decide (c % 4 = 0) = true then 0 else start + c / 4 % (3 * r.len + 2)
def opens2 (r : Road) (start c : Int) : Int := if decide (c % 4 = 1) = true then maxI 0 (start - c / 4 % (r.len + 1)) else opens1 r start c
def opens3 (r : Road) (start c : Int) : Int := if decide (c % 16 = 6) = true then start + wide (c / 32) (sel [1000000000, 1000000000000] (c / 16 % 2)) else opens2 r start c
def opensBy (r : Road) (start c : Int) : Int := minI (opens3 r start c) 1000000000000
theorem sel2_pos (c : Int) : 0 < sel [1000000000, 1000000000000] (c % 2) := by
  rcases mod2 c with h | h <;> rw [h] <;> decide
theorem opensBy_ok {r : Road} (h : r.ok) {s : Int} (hs : timeOk s) (c : Int) : timeOk (opensBy r s c) := by
  obtain ⟨h1, h2⟩ := h
  obtain ⟨h3, h4⟩ := hs
  have w := wide_nn (c := c / 32) (sel2_pos (c / 16))
  have a := Int.emod_nonneg (c / 4) (b := 3 * r.len + 2) (by omega)
  unfold opensBy timeOk
  rw [minI_def]
  have : 0 ≤ opens3 r s c := by
    unfold opens3 opens2 opens1
    rw [maxI_def]
    repeat' split
    all_goals omega
  omega
def closes1 (r : Road) (s o c : Int) : Int := maxI o s + sel [0, 3, 9, 20] (c % 4) * r.len + c / 4 % (r.len + 2)
def closes2 (r : Road) (s o c : Int) : Int := if decide (c % 12 = 0) = true then o else closes1 r s o c
def closes3 (r : Road) (s o c : Int) : Int := if decide (c % 9 = 5) = true then sel [1000000000000, maxI o s + wide (c / 18) 1000000000000] (c / 9 % 2) else closes2 r s o c
def closesBy (r : Road) (s o c : Int) : Int := minI (closes3 r s o c) 1000000000000
theorem sel4 (c : Int) : 0 ≤ sel [0, 3, 9, 20] (c % 4) ∧ sel [0, 3, 9, 20] (c % 4) ≤ 20 := by
  rcases mod4 c with h | h | h | h <;> rw [h] <;> decide
theorem closesBy_ok {r : Road} (h : r.ok) {s o : Int} (ho : timeOk o) (c : Int) : o ≤ closesBy r s o c ∧ closesBy r s o c ≤ 1000000000000 := by
  obtain ⟨h1, h2⟩ := h
  obtain ⟨h3, h4⟩ := ho
  have w := wide_nn (c := c / 18) (b := 1000000000000) (by decide)
  have a := Int.emod_nonneg (c / 4) (b := r.len + 2) (by omega)
  have b := sel4 c
  have m := Int.mul_nonneg b.1 (show 0 ≤ r.len by omega)
  have n2 : o ≤ sel [1000000000000, maxI o s + wide (c / 18) 1000000000000] (c / 9 % 2) := by
    rcases mod2 (c / 9) with h | h <;> rw [h]
    · exact h4
    · show o ≤ maxI o s + wide (c / 18) 1000000000000
      rw [maxI_def]
      omega
  have n1 : o ≤ closes1 r s o c := by
    unfold closes1
    rw [maxI_def]
    omega
  unfold closesBy
  rw [minI_def]
  have : o ≤ closes3 r s o c := by
    unfold closes3 closes2
    repeat' split
    all_goals omega
  omega
def stay1 (r : Road) (c : Int) : Int := if decide (c % 3 = 0) = true then 0 else c / 3 % (r.len / 3 + 2)
def stayBy (r : Road) (c : Int) : Int := if decide (c % 41 = 7) = true then wide (c / 41) 1000000000001 else stay1 r c
theorem stayBy_ok {r : Road} (h : r.ok) (c : Int) : timeOk (stayBy r c) := by
  obtain ⟨h1, h2⟩ := h
  have a := Int.emod_nonneg (c / 3) (b := r.len / 3 + 2) (by omega)
  have b := Int.emod_lt_of_pos (c / 3) (b := r.len / 3 + 2) (by omega)
  have a2 := wide_nn (c := c / 41) (b := 1000000000001) (by decide)
  have b2 := wide_lt (c := c / 41) (b := 1000000000001) (by decide)
  unfold stayBy stay1 timeOk
  repeat' split
  all_goals omega
def stopBy (r : Road) (s : Int) (ns : List Int) (k : Int) : Stop :=
  ⟨placeBy r (cellAt ns k), opensBy r s (cellAt ns (k + 1)), closesBy r s (opensBy r s (cellAt ns (k + 1))) (cellAt ns (k + 2)), stayBy r (cellAt ns (k + 3))⟩
theorem stopBy_ok {r : Road} (h : r.ok) {s : Int} (hs : timeOk s) (ns : List Int) (k : Int) : (stopBy r s ns k).ok r := by
  have o := opensBy_ok h hs (cellAt ns (k + 1))
  have c := closesBy_ok (s := s) h o (cellAt ns (k + 2))
  exact ⟨placeBy_ok h _, o, ⟨Int.le_trans o.1 c.1, c.2⟩, stayBy_ok h _, c.1⟩
/-- k numbers from 0 -/
def upTo (m : Int) : List Int := (List.range m.toNat).map fun (k : Nat) => (k : Int)
theorem rng_upTo (m : Int) : rng 0 m.toNat = (upTo m).map .int := by
  unfold rng upTo
  rw [List.map_map]
  refine List.map_congr_left fun k _ => ?_
  show D.int (0 + (k : Int)) = D.int (k : Int)
  rw [Int.zero_add]
theorem upTo_len (m : Int) : (upTo m).length = m.toNat := by
  unfold upTo
  rw [List.length_map, List.length_range]
theorem upTo_get {m : Int} {n : Nat} {z : Int} (h : (upTo m)[n]? = some z) : z = (n : Int) ∧ (n : Int) < m := by
  unfold upTo at h
  rw [List.getElem?_map] at h
  obtain ⟨k, hk, rfl⟩ := Option.map_eq_some_iff.mp h
  obtain ⟨h1, h2⟩ := List.getElem?_eq_some_iff.mp hk
  rw [List.getElem_range] at h2
  rw [List.length_range] at h1
  omega
/-- .. of a day's stops -/
def stopsBy (r : Road) (s : Int) (ns : List Int) (m : Int) : List Stop := (upTo m).map fun k => stopBy r s ns (4 + 4 * k)
theorem stopsBy_len (r : Road) (s : Int) (ns : List Int) (m : Int) : (stopsBy r s ns m).length = m.toNat := by
  unfold stopsBy
  rw [List.length_map, upTo_len]
def dayBy (ns : List Int) : DayR :=
  let r := roadBy (cellAt ns 0)
  let s := startBy r (cellAt ns 2)
  ⟨r, placeBy r (cellAt ns 1), s, stopsBy r s ns (cellAt ns 3 % 8)⟩
theorem dayBy_ok (ns : List Int) : (dayBy ns).ok := by
  refine ⟨roadBy_ok _, placeBy_ok (roadBy_ok _) _, startBy_ok (roadBy_ok _) _, ?_, fun s hs => ?_⟩
  · show (stopsBy _ _ _ _).length ≤ 7
    rw [stopsBy_len]
    omega
  · obtain ⟨k, _, rfl⟩ := List.mem_map.mp hs
    exact stopBy_ok (roadBy_ok _) (startBy_ok (roadBy_ok _) _) _ _
end Rv

/-! ### Part Q: like data compared; count; slices and comprehensions of whole numbers -/
namespace Rv
open PySem L2
/-- a datum that can be compared, n deep -/
structure PdN (n : Nat) (d : D) : Prop where
  ex : ∃ x, pd d = some x ∧ x.canLay0 = true ∧ x.depth ≤ n
theorem PdN.mono {n m : Nat} {d : D} (h : PdN n d) (hm : n ≤ m) : PdN m d := by
  obtain ⟨x, h1, h2, h3⟩ := h
  exact ⟨x, h1, h2, Nat.le_trans h3 hm⟩
theorem PdN.int (i : Int) : PdN 1 (.int i) := ⟨.int i, rfl, by simp only [PyData.canLay0], by simp [PyData.depth]⟩
theorem PdN.bl (b : Bool) : PdN 1 (.bl b) := ⟨.bool b, rfl, by simp only [PyData.canLay0], by simp [PyData.depth]⟩
theorem PdN.non : PdN 1 .non := ⟨.none, rfl, by simp only [PyData.canLay0], by simp [PyData.depth]⟩
theorem PdN.str {s : Str} (h : PyData.strOk s = true) : PdN 1 (.str s) := ⟨.str s, rfl, by simp only [PyData.canLay0]; exact h, by simp [PyData.depth]⟩
theorem pdN_all {n : Nat} : ∀ {l : List D}, (∀ d ∈ l, PdN n d) → ∃ xs, pds l = some xs ∧ PyData.canLayAll0 xs = true ∧ PyData.depthAll xs ≤ n
  | [], _ => ⟨[], rfl, by simp only [PyData.canLayAll0], by simp [PyData.depthAll]⟩
  | d :: l, h => by
    obtain ⟨x, h1, h2, h3⟩ := (h d List.mem_cons_self).ex
    obtain ⟨xs, h4, h5, h6⟩ := pdN_all (l := l) fun e he => h e (List.mem_cons_of_mem _ he)
    refine ⟨x :: xs, ?_, ?_, ?_⟩
    · unfold pds
      rw [h1, h4]
      rfl
    · simp only [PyData.canLayAll0, h2, h5, Bool.and_self]
    · simp only [PyData.depthAll]
      omega
theorem PdN.lst {n : Nat} {l : List D} (h : ∀ d ∈ l, PdN n d) : PdN (n + 1) (.lst l) := by
  obtain ⟨xs, h4, h5, h6⟩ := pdN_all h
  refine ⟨.list xs, ?_, ?_, ?_⟩
  · unfold pd
    rw [h4]
    rfl
  · simp only [PyData.canLay0]
    exact h5
  · simp only [PyData.depth]
    omega
theorem PdN.tup {n : Nat} {l : List D} (h : ∀ d ∈ l, PdN n d) : PdN (n + 1) (.tup l) := by
  obtain ⟨xs, h4, h5, h6⟩ := pdN_all h
  refine ⟨.tuple xs, ?_, ?_, ?_⟩
  · unfold pd
    rw [h4]
    rfl
  · simp only [PyData.canLay0]
    exact h5
  · simp only [PyData.depth]
    omega
theorem PdN.ints (ns : List Int) : PdN 2 (.lst (ns.map .int)) := .lst fun d hd => by
  obtain ⟨i, _, rfl⟩ := List.mem_map.mp hd
  exact .int i
theorem PdN.intsT (ns : List Int) : PdN 2 (.tup (ns.map .int)) := .tup fun d hd => by
  obtain ⟨i, _, rfl⟩ := List.mem_map.mp hd
  exact .int i
theorem PdN.row (x : Row) : PdN 2 (rowD x) := PdN.intsT [x.1, x.2.1, x.2.2]
theorem PdN.stop (x : Stop) : PdN 2 x.d := PdN.intsT [x.p, x.o, x.c, x.s]
theorem PdN.road (r : Road) : PdN 2 r.d := .tup fun d hd => by
  simp only [List.mem_cons, List.not_mem_nil, or_false] at hd
  rcases hd with rfl | rfl
  · refine .str ?_
    cases r.ring <;> decide +kernel
  · exact .int _
theorem PdN.rows (l : List Row) : PdN 3 (.lst (l.map rowD)) := .lst fun d hd => by
  obtain ⟨i, _, rfl⟩ := List.mem_map.mp hd
  exact .row i
theorem PdN.stops (l : List Stop) : PdN 3 (.lst (l.map Stop.d)) := .lst fun d hd => by
  obtain ⟨i, _, rfl⟩ := List.mem_map.mp hd
  exact .stop i
theorem PdN.at3 {a b c : D} {n : Nat} (ha : PdN n a) (hb : PdN n b) (hc : PdN n c) : PdN (n + 1) (.tup [a, b, c]) := .tup fun d hd => by
  simp only [List.mem_cons, List.not_mem_nil, or_false] at hd
  rcases hd with rfl | rfl | rfl
  · exact ha
  · exact hb
  · exact hc
section
variable {X : Cx} {C : Addr} {B : Bs} {δ : DEnv} {a b e : Expr} {pos p : Pos} {k : Nat} {d : D} {n : Nat}
theorem dc_eqSame (hx : XOk X C B k) (ha : DW X C B δ a d) (hb : DW X C B δ b d) (h : PdN n d) (hn : n ≤ 64 := by decide) : DC X C B δ .Eq a b true := by
  obtain ⟨x, h1, h2, h3⟩ := h
  have s : SeqAt.shaped x = true := by
    unfold SeqAt.shaped
    rw [h2, decide_eq_true (Nat.le_trans h3 hn)]
    rfl
  have := dc_eqP hx ha hb h1 h1 s s
  rw [SeqAt.eqv_refl x h2] at this
  exact this
theorem dc_neSame (hx : XOk X C B k) (ha : DW X C B δ a d) (hb : DW X C B δ b d) (h : PdN n d) (hn : n ≤ 64 := by decide) : DC X C B δ .NotEq a b false := by
  obtain ⟨x, h1, h2, h3⟩ := h
  have s : SeqAt.shaped x = true := by
    unfold SeqAt.shaped
    rw [h2, decide_eq_true (Nat.le_trans h3 hn)]
    rfl
  have := dc_neP hx ha hb h1 h1 s s
  rw [SeqAt.eqv_refl x h2] at this
  exact this
/-- xs.count(n) of whole numbers -/
theorem de_countI {ns : List Int} {i : Int} {o : Expr} {p2 p3 : Pos} (ha : DE X C B δ o (.lst (ns.map .int))) (he : DE X C B δ e (.int i))
    (hbase : attributeBase o "count" X.env (eval o X.env) = eval o X.env := by rfl)
    (hfew : ((backTo p3 (starEach [e] X.env)).all (fun x => !x.1) && (backToKw p3 (keywordEach [] X.env)).all (fun x => x.1.isSome)
      && decide (([e] : List Expr).length + ([] : List Keyword).length + (if ([] : List Keyword).isEmpty then 0 else 1) < 30)) = true := by rfl)
    (hline : (p2.endLine == p3.line) = true := by rfl) (hs : starEach [e] X.env = (false, eval e X.env) :: starEach [] X.env := by rfl) (hplain : (backTo p3 (starEach [] X.env)).any (·.1) = false := by rfl) :
    DE X C B δ (.Call (.Attribute o "count" p2) [e] [] p3) (.int (ns.count i : Nat)) := ⟨fun R σ G H Q N q => by
  refine we (pe_bm PySem.F.plainAttrs_list PySem.F.slot_list_count PySem.F.type_list_count mt_lcount pe_we (pa_cons pe_we pa_nil hs) hbase hfew hline hs hplain) ?_
  refine ha.run R σ G H _ N fun v G1 H1 g1 r1 => ?_
  obtain ⟨a, xs, rfl, h1, h2⟩ := r1.l
  obtain rfl := Reps.ints h2
  refine ⟨.inl ⟨rfl, _, .of (g1.gh _ _ h1)⟩, he.run R σ G1 H1 _ (N.go g1) fun w G2 H2 g2 r2 => ?_⟩
  obtain rfl := r2.i
  exact ⟨a, ns, i, rfl, rfl, .of (g2.hh _ _ (g1.gh _ _ h1)), q _ G2 H2 (g1.trans g2) (.int _)⟩⟩
end
/-! slices and comprehensions of whole numbers -/
theorem cutD_map {α β : Type} (f : α → β) (l : List α) (i j : Option Int) : cutD (l.map f) i j = (cutD l i j).map f := by
  unfold cutD
  rw [List.length_map, List.map_take, List.map_drop]
theorem cutD_to {α : Type} (l : List α) {n : Int} (h : 0 ≤ n) : cutD l none (some n) = l.take n.toNat := by
  obtain ⟨k, rfl⟩ := Int.eq_ofNat_of_zero_le h
  unfold cutD
  rw [HT.sIx_none, HT.sIx_nat, List.drop_zero, Nat.sub_zero, Int.toNat_natCast]
  by_cases hk : k ≤ l.length
  · rw [Nat.min_eq_left hk]
  · rw [Nat.min_eq_right (by omega), List.take_of_length_le (Nat.le_refl _), List.take_of_length_le (by omega)]
theorem cutD_from {α : Type} (l : List α) {n : Int} (h : 0 ≤ n) : cutD l (some n) none = l.drop n.toNat := by
  obtain ⟨k, rfl⟩ := Int.eq_ofNat_of_zero_le h
  unfold cutD
  rw [HT.sIx_none, HT.sIx_nat, Int.toNat_natCast]
  by_cases hk : k ≤ l.length
  · rw [Nat.min_eq_left hk, List.take_of_length_le (by rw [List.length_drop]; omega)]
  · rw [Nat.min_eq_right (by omega), List.drop_of_length_le (Nat.le_refl _), List.drop_of_length_le (by omega), List.take_nil]
theorem cutD_len {α : Type} (l : List α) (i j : Option Int) : (cutD l i j).length ≤ l.length := by
  unfold cutD
  rw [List.length_take, List.length_drop]
  omega
/-- of a whole number -/
def onI (f : Int → D) : D → D
  | .int i => f i
  | _ => .non
def onB (f : Int → Bool) : D → Bool
  | .int i => f i
  | _ => false
theorem lcD_ints (l : List Int) (f : Int → D) : lcD (l.map .int) (fun _ => true) (onI f) = l.map f := by
  unfold lcD
  rw [List.filter_eq_self.mpr (fun _ _ => rfl), List.map_map]
  rfl
theorem lcD_intsB (l : List Int) (q : Int → Bool) (f : Int → D) : lcD (l.map .int) (onB q) (onI f) = (l.filter q).map f := by
  unfold lcD
  rw [List.filter_map, List.map_map]
  rfl
end Rv

/-! ### Part J: tables: dicts from (tuple of whole numbers, whole number) to (whole number, whole number or None) -/
namespace Rv
open PySem L2
abbrev Ky := List Int × Int
abbrev Vl := Int × Option Int
abbrev Tb := List (Ky × Vl)
def kD (k : Ky) : D := .tup [.tup (k.1.map .int), .int k.2]
def oD : Option Int → D
  | none => .non
  | some i => .int i
def vD (v : Vl) : D := .tup [.int v.1, oD v.2]
def tD (t : Tb) : List (D × D) := t.map fun p => (kD p.1, vD p.2)
theorem tD_tp (t : Tb) : ∀ p ∈ tD t, p.1.tp = true ∧ p.2.tp = true := fun p hp => by
  obtain ⟨q, _, rfl⟩ := List.mem_map.mp hp
  obtain ⟨⟨l, n⟩, z, o⟩ := q
  refine ⟨?_, ?_⟩
  · show (tps (l.map D.int) && (true && true)) = true
    rw [tps_ints]
    rfl
  · cases o <;> rfl
/-- a table's time and stop before, of a key -/
def getT (t : Tb) (k : Ky) : Option Vl := (t.find? fun p => decide (p.1 = k)).map (·.2)
def putT (t : Tb) (k : Ky) (v : Vl) : Tb := if (getT t k).isSome then t.map fun p => if p.1 = k then (p.1, v) else p else t ++ [(k, v)]
theorem nks_ints (l : List Int) : nks (l.map .int) = l.map NestedKey.num := by
  induction l with
  | nil => rfl
  | cons a l ih =>
    show nk (.int a) :: nks (l.map .int) = _
    rw [ih]
    rfl
theorem nk_kD (k : Ky) : nk (kD k) = .tup [.tup (k.1.map .num), .num k.2] := by
  show NestedKey.tup [.tup (nks (k.1.map .int)), .num k.2] = _
  rw [nks_ints]
theorem num_inj : ∀ {l m : List Int}, l.map NestedKey.num = m.map NestedKey.num → l = m
  | [], [], _ => rfl
  | [], _ :: _, h => by cases h
  | _ :: _, [], h => by cases h
  | a :: l, b :: m, h => by
    rw [List.map_cons, List.map_cons, List.cons.injEq] at h
    obtain ⟨h1, h2⟩ := h
    cases h1
    rw [num_inj h2]
theorem nk_inj {k j : Ky} : nk (kD k) = nk (kD j) ↔ k = j := by
  rw [nk_kD, nk_kD]
  refine ⟨fun h => ?_, fun h => by rw [h]⟩
  injection h with h
  rw [List.cons.injEq, List.cons.injEq] at h
  obtain ⟨h1, h2, _⟩ := h
  injection h1 with h1
  injection h2 with h2
  exact Prod.ext (num_inj h1) h2
theorem depth_nums : ∀ l : List Int, NestedKey.depthAll (l.map .num) ≤ 1
  | [] => by simp [NestedKey.depthAll]
  | a :: l => by
    have := depth_nums l
    simp only [List.map_cons, NestedKey.depthAll, NestedKey.depth]
    omega
theorem depth_kD (k : Ky) : (nk (kD k)).depth ≤ 8 := by
  rw [nk_kD]
  have := depth_nums k.1
  simp only [NestedKey.depth, NestedKey.depthAll]
  omega
def vx (x : NestedKey × Addr × Addr) : NestedKey × Addr × Value := (x.1, x.2.1, Value.ref x.2.2)
section
variable {X : Cx} {C : Addr} {B : Bs} {P : Post} {δ : DEnv} {tg a b e : Expr} {d : D} {pos p : Pos} {k : Nat} {pins : List (Addr × Obj)} {σ : St} {H : Hp} {s : Shared}
theorem nested_ints : ∀ {xs : List V} {its : List Value} {l : List Int}, Reps (md X C) H xs (l.map .int) → Vals xs its → NestedAll s.heap (l.map NestedKey.num) its
  | [], _, [], _, .nil => .nil
  | _ :: _, _, a :: l, .cons h r, .cons q qs => by
    obtain rfl := h.i
    obtain ⟨t, rfl⟩ := q
    exact .cons (.int a t) (nested_ints r qs)
theorem rep_key {k : Ky} {c : Addr} (I : Inv X pins σ H s) (r : Rep (md X C) H (.ref c) (kD k)) : (nestedKind X.prog X.w).is s.heap (nk (kD k)) c := by
  refine ⟨?_, depth_kD k⟩
  rw [nk_kD]
  obtain ⟨c0, xs, e, h1, h2⟩ := r.t
  cases e
  obtain ⟨its, rv, ⟨ob, ho, hc, n, hd⟩, _⟩ := I.tuple h1
  cases h2 with
  | cons q1 q2 =>
    cases q2 with
    | cons q3 q4 =>
      cases q4
      cases rv with
      | cons r1 rv =>
        cases rv with
        | cons r2 rv =>
          cases rv
          obtain ⟨c1, ys, rfl, h3, h4⟩ := q1.t
          obtain rfl := q3.i
          obtain rfl : _ = Value.ref c1 := r1
          obtain ⟨t2, rfl⟩ := r2
          obtain ⟨its2, rv2, ⟨ob2, ho2, hc2, n2, hd2⟩, _⟩ := I.tuple h3
          exact .tup ho hc hd (.cons (.tup ho2 hc2 hd2 (nested_ints h4 rv2)) (.cons (.int _ _) .nil))
theorem rep_dn : ∀ {xs : List (NestedKey × Addr × Addr)} {t : Tb}, RepE (md X C) H xs (tD t) → ∀ x ∈ xs, ∃ k, x.1 = nk (kD k) ∧ Rep (md X C) H (.ref x.2.1) (kD k)
  | [], _, _, x, h => by cases h
  | x :: xs, [], r, _, _ => by cases r
  | x :: xs, p :: t, .cons hk h1 h2 r, y, hy => by
    rcases List.mem_cons.mp hy with rfl | hy
    · exact ⟨p.1, hk, h1⟩
    · exact rep_dn r y hy
/-- the dict at c, as it stands -/
theorem dn_of {c : Addr} {xs : List (NestedKey × Addr × Addr)} {ep : Nat} {t : Tb} (I : Inv X pins σ H s) (e : H c = some (dN X.prog X.w c xs ep)) (r : RepE (md X C) H xs (tD t)) :
    (∃ es, s.heap.DictRaw c es ep ∧ es.toList = (xs.map vx).map (entryOfKey (nestedKind X.prog X.w))) ∧ s.heap.DictOfH (nestedKind X.prog X.w) c (xs.map vx) ∧ (c == sysModules) = false ∧ xs.length ≤ sizeLine := by
  obtain ⟨⟨o, es, h1, h2, h3, h4, h5, h6, h7⟩, _, _⟩ := I.hok c _ e
  have he : es.toList = (xs.map vx).map (entryOfKey (nestedKind X.prog X.w)) := by
    rw [List.map_map]
    exact h4
  refine ⟨⟨es, ⟨o, h1, h2, h3⟩, he⟩, ⟨o, es, ep, h1, h2, h3, he, fun x hx => ?_, ?_⟩, h6, h7⟩
  · obtain ⟨y, hy, rfl⟩ := List.mem_map.mp hx
    obtain ⟨k, e1, e2⟩ := rep_dn r y hy
    show (nestedKind X.prog X.w).is s.heap y.1 y.2.1
    rw [e1]
    exact rep_key I e2
  · rw [List.map_map]
    exact h5
theorem dn_ok {h : Heap} {c : Addr} {xs : List (NestedKey × Addr × Addr)} (hm : h.DictOfH (nestedKind X.prog X.w) c (xs.map vx)) (h6 : (c == sysModules) = false) (h7 : xs.length ≤ sizeLine) : ∃ ep, ∀ H', ObjOk X.prog X.w H' h c (dN X.prog X.w c xs ep) := by
  obtain ⟨o, es, ep, h1, h2, h3, h4, h5, hn⟩ := hm
  rw [List.map_map] at h4 hn
  exact ⟨ep, fun H' => ⟨⟨o, es, h1, h2, h3, h4, hn, h6, h7⟩, ⟨o, h1⟩, fun h1 h2 ⟨o, es, q1, q⟩ k => ⟨o, es, k _ q1, q⟩⟩⟩
/-! lookups -/
theorem at_dn : ∀ {xs : List (NestedKey × Addr × Addr)} {t : Tb} (k : Ky), RepE (md X C) H xs (tD t) →
    (atKey (xs.map vx) (nk (kD k)) = none ∧ getT t k = none) ∨ ∃ a1 a2 v, atKey (xs.map vx) (nk (kD k)) = some (a1, .ref a2) ∧ getT t k = some v ∧ Rep (md X C) H (.ref a2) (vD v)
  | [], [], k, _ => .inl ⟨rfl, rfl⟩
  | [], _ :: _, k, r => by cases r
  | _ :: _, [], k, r => by cases r
  | x :: xs, p :: t, k, .cons hk h1 h2 r => by
    by_cases q : p.1 = k
    · refine .inr ⟨x.2.1, x.2.2, p.2, ?_, ?_, h2⟩
      · unfold atKey
        rw [List.map_cons, List.find?_cons_of_pos (by show decide (x.1 = _) = true; rw [hk]; exact decide_eq_true (nk_inj.mpr q))]
        rfl
      · unfold getT
        rw [List.find?_cons_of_pos (by exact decide_eq_true q)]
        rfl
    · have e1 : atKey ((x :: xs).map vx) (nk (kD k)) = atKey (xs.map vx) (nk (kD k)) := by
        unfold atKey
        rw [List.map_cons, List.find?_cons_of_neg (by show ¬ decide (x.1 = _) = true; rw [hk]; simp only [decide_eq_true_eq]; exact fun z => q (nk_inj.mp z))]
      have e2 : getT (p :: t) k = getT t k := by
        unfold getT
        rw [List.find?_cons_of_neg (by simp [q])]
      rw [e1, e2]
      exact at_dn k r
def opInN (X : Cx) (C : Addr) (neg : Bool) : R2 := fun x y H Q => ∃ (a c : Addr) (xs : List (NestedKey × Addr × Addr)) (ep : Nat) (t : Tb) (k : Ky), x = .ref a ∧ y = .ref c ∧ Rep (md X C) H (.ref a) (kD k) ∧ H c = some (dN X.prog X.w c xs ep) ∧ RepE (md X C) H xs (tD t) ∧ Q (.bl (if neg = true then !(getT t k).isSome else (getT t k).isSome)) H
theorem at_some {xs : List (NestedKey × Addr × Addr)} {t : Tb} (k : Ky) (r : RepE (md X C) H xs (tD t)) : (atKey (xs.map vx) (nk (kD k))).isSome = (getT t k).isSome := by
  rcases at_dn k r with ⟨e1, e2⟩ | ⟨a1, a2, v, e1, e2, _⟩ <;> rw [e1, e2] <;> rfl
theorem op_inN (hu : X.A.units + 64 < cLine) : OpR X (compareOp .In) (opInN X C false) := by
  intro pins s σ H x y v u Q I rx ry h
  obtain ⟨a, c, xs, ep, t, k, rfl, rfl, r1, e, r2, q⟩ := h
  obtain rfl : v = Value.ref a := rx
  obtain rfl : u = Value.ref c := ry
  obtain ⟨_, dd, hd, _⟩ := dn_of I e r2
  refine wpAny_in_heap (by show X.A.units + 1 + 8 < cLine; omega) (rep_key I r1) hd dd ?_
  rw [at_some k r2]
  exact ⟨.bl _, H, I.tok _, rfl, q⟩
theorem op_notInN (hu : X.A.units + 64 < cLine) : OpR X (compareOp .NotIn) (opInN X C true) := by
  intro pins s σ H x y v u Q I rx ry h
  obtain ⟨a, c, xs, ep, t, k, rfl, rfl, r1, e, r2, q⟩ := h
  obtain rfl : v = Value.ref a := rx
  obtain rfl : u = Value.ref c := ry
  obtain ⟨_, dd, hd, _⟩ := dn_of I e r2
  refine PyProof.Rows.wpAny_notIn_heap (by show X.A.units + 1 + 8 < cLine; omega) (rep_key I r1) hd dd ?_
  rw [at_some k r2]
  exact ⟨.bl _, H, I.tok _, rfl, q⟩
theorem dc_inD (hx : XOk X C B k) {t : Tb} {q : Ky} (ha : DE X C B δ a (kD q)) (hb : DM X C B δ b (tD t)) (hm : behindInMarks .In b = false := by rfl) : DC X C B δ .In a b (getT t q).isSome :=
  ⟨_, op_inN (C := C) hx.hr.units, hm, fun R σ G H Q N z => ha.run R σ G H _ N fun v G1 H1 g1 r1 => hb.run R σ G1 H1 _ (N.go g1) fun c xs ep G2 H2 g2 r2 r3 => by
    obtain ⟨a0, ys, rfl, h1, h2⟩ := r1.t
    exact ⟨a0, c, xs, ep, t, q, rfl, rfl, (r1.mono g2.gg).mono (N.go (g1.trans g2)).gh, r2, r3.mono (N.go (g1.trans g2)).gh, z G2 H2 (g1.trans g2)⟩⟩
theorem dc_notinD (hx : XOk X C B k) {t : Tb} {q : Ky} (ha : DE X C B δ a (kD q)) (hb : DM X C B δ b (tD t)) (hm : behindInMarks .NotIn b = false := by rfl) : DC X C B δ .NotIn a b (!(getT t q).isSome) :=
  ⟨_, op_notInN (C := C) hx.hr.units, hm, fun R σ G H Q N z => ha.run R σ G H _ N fun v G1 H1 g1 r1 => hb.run R σ G1 H1 _ (N.go g1) fun c xs ep G2 H2 g2 r2 r3 => by
    obtain ⟨a0, ys, rfl, h1, h2⟩ := r1.t
    exact ⟨a0, c, xs, ep, t, q, rfl, rfl, (r1.mono g2.gg).mono (N.go (g1.trans g2)).gh, r2, r3.mono (N.go (g1.trans g2)).gh, z G2 H2 (g1.trans g2)⟩⟩
/-- d[k] -/
def ixN (X : Cx) (C : Addr) : R2 := fun x y H Q => ∃ (a c : Addr) (xs : List (NestedKey × Addr × Addr)) (ep : Nat) (t : Tb) (k : Ky) (v : Vl), x = .ref c ∧ y = .ref a ∧ Rep (md X C) H (.ref a) (kD k) ∧ H c = some (dN X.prog X.w c xs ep) ∧ RepE (md X C) H xs (tD t) ∧ getT t k = some v ∧
  ∀ a1 a2, atKey (xs.map vx) (nk (kD k)) = some (a1, .ref a2) → Q (.ref a2) H
theorem ix_N (hu : X.A.units + 64 < cLine) : IxR X (ixN X C) := by
  intro value slice pins s σ H x y v u Q I rx ry h hs
  obtain ⟨a, c, xs, ep, t, k, w0, rfl, rfl, r1, e, r2, hw, q⟩ := h
  obtain rfl : v = Value.ref c := rx
  obtain rfl : u = Value.ref a := ry
  obtain ⟨_, dd, hd, _⟩ := dn_of I e r2
  rcases at_dn k r2 with ⟨_, e2⟩ | ⟨a1, a2, v, e1, e2, _⟩
  · rw [e2] at hw
    cases hw
  · exact PyProof.Rows.tail_any dd.typeIs slot_dict_getitem.lookup (wpAny_getItem_heap (by show X.A.units + 1 + 8 < cLine; omega) (rep_key I r1) dd e1 ⟨.ref a2, H, I.tok _, rfl, q a1 a2 e1⟩) hs
theorem de_ixD (hx : XOk X C B k) {t : Tb} {q : Ky} {v : Vl} (ha : DM X C B δ a (tD t)) (hb : DE X C B δ b (kD q)) (h : getT t q = some v) (hs : PlainIx b := by exact fun _ _ => rfl) : DE X C B δ (.Subscript a b pos) (vD v) := ⟨fun R σ G H Q N z =>
  we (pe_ix (ix_N (C := C) hx.hr.units) pe_we pe_we hs) (ha.run R σ G H _ N fun c xs ep G1 H1 g1 r1 r2 => hb.run R σ G1 H1 _ (N.go g1) fun y G2 H2 g2 r3 => by
    obtain ⟨a0, ys, rfl, h1, h2⟩ := r3.t
    have gh := (N.go (g1.trans g2)).gh
    refine ⟨a0, c, xs, ep, t, q, v, rfl, rfl, r3.mono gh, g2.hh _ _ r1, (r2.mono g2.gg).mono gh, h, fun a1 a2 e1 => ?_⟩
    rcases at_dn q r2 with ⟨e3, _⟩ | ⟨b1, b2, v2, e3, e4, rv⟩
    · rw [e3] at e1
      cases e1
    · rw [e3] at e1
      cases e1
      rw [h] at e4
      cases e4
      exact z _ G2 H2 (g1.trans g2) (rv.mono g2.gg))⟩
/-! len(d) -/
def lenN (X : Cx) (C : Addr) : List V → Hp → VK → Prop := fun vs H Q => ∃ (c : Addr) (xs : List (NestedKey × Addr × Addr)) (ep : Nat) (t : Tb), vs = [.ref c] ∧ H c = some (dN X.prog X.w c xs ep) ∧ RepE (md X C) H xs (tD t) ∧ Q (.int ((t.length : Nat) : Int)) H
theorem RepE.length {M : Md} {G : Hp} : ∀ {xs : List (NestedKey × Addr × Addr)} {l : List (D × D)}, RepE M G xs l → xs.length = l.length
  | _, _, .nil => rfl
  | _, _, .cons _ _ _ r => congrArg (· + 1) r.length
theorem tD_len (t : Tb) : (tD t).length = t.length := by
  unfold tD
  rw [List.length_map]
theorem call_lenN : CallR X (.builtin "len") (lenN X C) := by
  intro pins s σ H vs us Q I r h
  obtain ⟨c, xs, ep, t, rfl, e, r2, q⟩ := h
  obtain ⟨u, rfl, rx⟩ := vals1 r
  obtain rfl : u = .ref c := rx
  obtain ⟨_, dd, hd, z⟩ := dn_of I e r2
  have hl : xs.length = t.length := r2.length.trans (tD_len t)
  refine call_len_dictH hd dd (by rw [List.length_map]; rw [sizeLine_eq] at z; omega) ?_
  rw [List.length_map, hl]
  exact ⟨.int _, H, I.tok _, ⟨_, rfl⟩, q⟩
theorem de_lenD {t : Tb} (T : Bi X.mg) (h : DM X C B δ e (tD t)) (hg : Gl X "len" := by rfl) (he : starEach [e] X.env = (false, eval e X.env) :: starEach [] X.env := by rfl) : DE X C B δ (.Call (.Name "len" p) [e] [] pos) (.int ((t.length : Nat) : Int)) := ⟨fun R σ G H Q N q =>
  b1 (call_lenN (C := C)) hg T.len PySem.boot_len he (by decide) (by decide) (h.run R σ G H _ N fun c xs ep G' H' g r1 r2 =>
    ⟨c, xs, ep, t, rfl, r1, r2.mono (N.go g).gh, q _ G' H' g (.int _)⟩)⟩
/-! {} -/
theorem do_newD {p2 : Pos} : DO X C B δ (.Dict [] [] p2) (.dic (tD [])) := ⟨fun R σ G H Q N q => fun pins s I =>
  wpAny_Dict_empty (by
    have dd : (s.heap.push { cls := .type "dict", data := .dict #[] }).DictOfH (nestedKind X.prog X.w) s.heap.objs.size (([] : List (NestedKey × Addr × Addr)).map vx) := Heap.DictOfH.new s.heap
    obtain ⟨ep, ok⟩ := dn_ok (X := X) dd (beq_eq_false_iff_ne.mpr (Ne.symm (Nat.ne_of_lt I.big))) (Nat.zero_le _)
    refine ⟨.ref s.heap.objs.size, _, I.laid (a := s.heap.objs.size) (o := dN X.prog X.w s.heap.objs.size [] ep) (t' := s.toks) (fun _ _ q => Heap.get?_push_of_some _ q) (Nat.le_refl _) (ok _), rfl, ?_⟩
    have hp := I.hok.fresh (Nat.le_refl s.heap.objs.size)
    exact q _ G _ (Grow.own N.gh hp) hp (N.gh.free hp) ⟨[], ep, upd_same, .nil⟩)⟩
/-! d[k] = v -/
def putX (xs : List (NestedKey × Addr × Addr)) (k : NestedKey) (a av : Addr) : List (NestedKey × Addr × Addr) :=
  if (atKey (xs.map vx) k).isSome then xs.map fun x => if x.1 = k then (x.1, x.2.1, av) else x else xs ++ [(k, a, av)]
theorem putX_vx (xs : List (NestedKey × Addr × Addr)) (k : NestedKey) (a av : Addr) : (putX xs k a av).map vx = storedH (xs.map vx) k a (.ref av) := by
  unfold putX storedH
  split
  · rw [List.map_map, List.map_map]
    refine List.map_congr_left fun x _ => ?_
    show vx (if x.1 = k then (x.1, x.2.1, av) else x) = (if x.1 = k then (x.1, x.2.1, Value.ref av) else vx x)
    split <;> rfl
  · rw [List.map_append]
    rfl
theorem putX_len (xs : List (NestedKey × Addr × Addr)) (k : NestedKey) (a av : Addr) : (putX xs k a av).length ≤ xs.length + 1 := by
  unfold putX
  split
  · rw [List.length_map]
    omega
  · rw [List.length_append]
    exact Nat.le_refl _
theorem RepE.app {M : Md} {G : Hp} {x : NestedKey × Addr × Addr} {k v : D} (hk : x.1 = nk k) (h1 : Rep M G (.ref x.2.1) k) (h2 : Rep M G (.ref x.2.2) v) : ∀ {xs : List (NestedKey × Addr × Addr)} {l : List (D × D)}, RepE M G xs l → RepE M G (xs ++ [x]) (l ++ [(k, v)])
  | _, _, .nil => .cons hk h1 h2 .nil
  | _, _, .cons a b c r => .cons a b c (RepE.app hk h1 h2 r)
theorem RepE.upd {M : Md} {G : Hp} {q : Ky} {v : Vl} {av : Addr} (h2 : Rep M G (.ref av) (vD v)) : ∀ {xs : List (NestedKey × Addr × Addr)} {t : Tb}, RepE M G xs (tD t) → RepE M G (xs.map fun x => if x.1 = nk (kD q) then (x.1, x.2.1, av) else x) (tD (t.map fun p => if p.1 = q then (p.1, v) else p))
  | [], [], _ => .nil
  | [], _ :: _, r => by cases r
  | _ :: _, [], r => by cases r
  | x :: xs, p :: t, .cons hk h1 h3 r => by
    by_cases e : p.1 = q
    · rw [List.map_cons, List.map_cons, if_pos (by rw [hk]; exact nk_inj.mpr e), if_pos e]
      exact .cons hk h1 h2 (RepE.upd h2 r)
    · rw [List.map_cons, List.map_cons, if_neg (by rw [hk]; exact fun z => e (nk_inj.mp z)), if_neg e]
      exact .cons hk h1 h3 (RepE.upd h2 r)
theorem putX_rep {G : Hp} {xs : List (NestedKey × Addr × Addr)} {t : Tb} {q : Ky} {v : Vl} {a0 av : Addr} (r : RepE (md X C) G xs (tD t)) (h1 : Rep (md X C) G (.ref a0) (kD q)) (h2 : Rep (md X C) G (.ref av) (vD v)) : RepE (md X C) G (putX xs (nk (kD q)) a0 av) (tD (putT t q v)) := by
  unfold putX putT
  rw [at_some q r]
  split
  · exact RepE.upd h2 r
  · have := RepE.app (x := (nk (kD q), a0, av)) rfl h1 h2 r
    unfold tD
    rw [List.map_append]
    exact this
def sPutN (X : Cx) (C : Addr) (td ty tv : TE) : TS := fun D σ H => tv σ H fun v H1 => td σ H1 fun x H2 => ty σ H2 fun y H3 => ∃ (c a av : Addr) (xs : List (NestedKey × Addr × Addr)) (ep : Nat) (t : Tb) (k : Ky), v = .ref av ∧ x = .ref c ∧ y = .ref a ∧ Rep (md X C) H3 (.ref a) (kD k) ∧ H3 c = some (dN X.prog X.w c xs ep) ∧ RepE (md X C) H3 xs (tD t) ∧ xs.length < sizeLine ∧
  ∀ ep', D.nx σ (upd H3 c (dN X.prog X.w c (putX xs (nk (kD k)) a av) ep'))
theorem ps_putN {o i value : Expr} {td ty tv : TE} {pos' : Pos} (hu : X.A.units + 64 < cLine) (ho : PE X o td) (hi : PE X i ty) (hv : PE X value tv) (hs : swapsWith value (some (.Subscript o i pos')) pos.line X.env = pure false) :
    PS X (.Assign [.Subscript o i pos'] value pos) (sPutN X C td ty tv) := by
  refine ⟨fun pins s σ H D I h => ?_⟩
  refine wpAny_Assign_Subscript (thn (hv.run pins s σ H _ I h) fun r s1 ⟨v, H1, I1, rv, q1⟩ => thn (ho.run pins s1 σ H1 _ I1 q1) fun u s2 ⟨x, H2, I2, rx, q2⟩ => thn (hi.run pins s2 σ H2 _ I2 q2) fun iv s3 ⟨y, H3, I3, ry, c, a, av, xs, ep, t, k, e1, e2, e3, r1, e, r2, z, q3⟩ => ?_) hs
  subst e1 e2 e3
  obtain rfl : u = Value.ref c := rx
  obtain rfl : iv = Value.ref a := ry
  obtain rfl : r = Value.ref av := rv
  obtain ⟨_, dd, hd, _⟩ := dn_of I3 e r2
  refine wpAny_setItem_heap (hsz := by rw [List.length_map]; omega) (by show X.A.units + 1 + 8 < cLine; omega) (rep_key I3 r1) dd fun h' dd' sb => ?_
  rw [← putX_vx] at dd'
  obtain ⟨ep', ok⟩ := dn_ok (X := X) dd' hd (Nat.le_trans (putX_len _ _ _ _) z)
  obtain ⟨o, _, _, ho', _⟩ := id dd'
  exact ⟨σ, _, I3.write (t' := s3.toks + (nestedKind X.prog X.w).draws (nk (kD k))) (by rw [e]; exact True.intro) (.inl rfl) (fun b u hb q => (sb.2 b hb).trans q) ⟨o, ho'⟩ (ok _), q3 ep'⟩
theorem ds_putD (hx : XOk X C B k) (i : Nat) {t : Tb} {q : Ky} {v : Vl} {y : Str} {p2 p3 : Pos} (hi : δ[i]? = some (.ow (.dic (tD t)))) (hb : DE X C B δ b (kD q)) (hv : DE X C B δ e (vD v)) (hz : t.length < sizeLine) (h : P.nx (δ.set i (.ow (.dic (tD (putT t q v)))))) (hN : X.N[i]? = some y := by rfl) (hvs : Vis X.env.scope y := by first | exact Or.inl rfl | exact Or.inr (Or.inl rfl) | exact Or.inr (Or.inr rfl))
    (hd : (y == ("__debug__" : Str)) = false := by decide) (hcd : (y == ("__classdict__" : Str)) = false := by decide) (hs : swapsWith e (some (.Subscript (.Name y p2) b p3)) pos.line X.env = pure false := by rfl) : DS X C B P δ (.Assign [.Subscript (.Name y p2) b p3] e pos) := ⟨fun R D' pk σ G H N =>
  ws (ps_putN (C := C) hx.hr.units (pe_var hN hvs hd hcd) pe_we pe_we hs) (hv.run R σ G H _ N fun vv G1 H1 g1 r1 => by
    obtain ⟨pa, h1, h2, h3, xs, ep, h4, h5⟩ := N.slot i _ hi
    refine ⟨_, h1, ?_⟩
    refine hb.run R σ G1 H1 _ (N.go g1) fun w G2 H2 g2 r2 => ?_
    obtain ⟨av, _, rfl, _, _⟩ := r1.t
    obtain ⟨a0, _, rfl, _, _⟩ := r2.t
    have gh := (N.go (g1.trans g2)).gh
    have h4' := g2.hh _ _ (g1.hh _ _ h4)
    have h5' := h5.mono (g1.gg.trans g2.gg)
    refine ⟨pa, a0, av, xs, ep, t, q, rfl, rfl, rfl, r2.mono gh, h4', h5'.mono gh, by rw [h5.length, tD_len]; exact hz, fun ep' => ?_⟩
    exact pk.nx _ _ G2 _ h (((N.go g1).go g2).write hi h1 ⟨_, ep', upd_same, putX_rep h5' r2 (r1.mono g2.gg)⟩))⟩
/-! for k in d -/
def Itn (X : Cx) (C c : Addr) (xs : List (NestedKey × Addr × Addr)) (ep : Nat) (t : Tb) : It :=
  ⟨fun i H => H c = some (dN X.prog X.w c xs ep) ∧ RepE (md X C) H xs (tD t) ∧ i < xs.length, fun i H x H' => H' = H ∧ ∃ y, xs[i]? = some y ∧ x = .ref y.2.1, fun i H => H c = some (dN X.prog X.w c xs ep) ∧ RepE (md X C) H xs (tD t) ∧ xs.length ≤ i⟩
theorem dn_es {c : Addr} {xs : List (NestedKey × Addr × Addr)} {ep : Nat} {t : Tb} (I : Inv X pins σ H s) (e : H c = some (dN X.prog X.w c xs ep)) (r : RepE (md X C) H xs (tD t)) :
    (c == sysModules) = false ∧ ∃ es, s.heap.DictRaw c es ep ∧ es.size = xs.length ∧ ∀ (i : Nat) (hi : i < es.size) y, xs[i]? = some y → es[i].key = .ref y.2.1 := by
  obtain ⟨⟨es, h1, h2⟩, _, hd, _⟩ := dn_of I e r
  refine ⟨hd, es, h1, ?_, fun i hi y hy => ?_⟩
  · rw [← Array.length_toList, h2, List.length_map, List.length_map]
  · have : es.toList[i]? = some (entryOfKey (nestedKind X.prog X.w) (vx y)) := by rw [h2, List.getElem?_map, List.getElem?_map, hy]; rfl
    rw [Array.getElem?_toList, Array.getElem?_eq_getElem hi] at this
    rw [Option.some.inj this]
    rfl
theorem turn_n {P : Program} {w : World} {K : PySem.W.Frag} {X0 : Cx} (e1 : X0.prog = P) (e2 : X0.w = w) (e3 : X0.K = K) {c it : Addr} {xs : List (NestedKey × Addr × Addr)} {ep : Nat} {t : Tb} : Turn P w K tg (Itn X0 C c xs ep t) [it] it (fun i h => h.IsKeyIter it c i xs.length ep) where
  mem := by simp
  obj := fun i h st b hb => by
    have e : b = it := by simpa using hb
    subst e
    obtain ⟨o, e, _, d⟩ := st
    exact ⟨o, e, fun v z => by rw [d] at z; cases z⟩
  keep := fun i h h' st k => by
    obtain ⟨o, e, r⟩ := st
    exact ⟨o, k it (by simp) o e, r⟩
  item := by
    intro X hP hw hK hc i pins s σ H E I hf st hg
    subst hP hw hK
    obtain ⟨h1, h2, h3⟩ := hg
    rw [e1, e2] at h1
    rw [show md X0 C = md X C by unfold md; rw [e1, e2, e3]] at h2
    obtain ⟨hd, es, hr, hz, hk⟩ := dn_es I h1 h2
    obtain ⟨f0, f1, f2, f3, f4, f5⟩ := hf it (by simp)
    obtain ⟨y, hy⟩ := lt_get (l := xs) (i := i) h3
    have hi : i < es.size := by omega
    rw [← hz] at st
    refine wpAny_pyNext_keys_item_raw st hr hi fun h' st' sb => ?_
    have I1 : Inv X pins σ H { s with heap := h' } := I.turned (t' := s.toks) (fun b o hb e => (sb.2 b hb).trans e) f0 f1 f3 f4 f5
    obtain ⟨o, e, cl, d⟩ := id st'
    rw [hz] at st'
    exact ⟨_, rfl, go_of (s := { s with heap := h' }) e cl d (by decide) ⟨.ref y.2.1, H, I1, hk i hi y hy, ⟨rfl, y, hy, rfl⟩, st', fun b hb => (hf b hb).1⟩⟩
  done := by
    intro X hP hw hK hc i pins s σ H E I hf st hg
    subst hP hw hK
    obtain ⟨h1, h2, h3⟩ := hg
    rw [e1, e2] at h1
    rw [show md X0 C = md X C by unfold md; rw [e1, e2, e3]] at h2
    obtain ⟨hd, es, hr, hz, hk⟩ := dn_es I h1 h2
    obtain ⟨f0, f1, f2, f3, f4, f5⟩ := hf it (by simp)
    rw [← hz] at st
    exact wpAny_pyNext_keys_end_raw (I.ok.hd hc) st hr (by omega) fun h' eb => ⟨rfl, I.turned (t' := s.toks) (fun b o hb e => eb b o hb e) f0 f1 f3 f4 f5⟩
  self := fun _ _ _ _ _ st h => by
    obtain ⟨o, e, cl, d⟩ := st
    exact wpAny_pyIter_keyiter ⟨o, e, cl, d⟩ h
def iDn (X : Cx) (C : Addr) (te : TE) : TI := fun σ H R => te σ H fun x H1 => ∃ (c : Addr) (xs : List (NestedKey × Addr × Addr)) (ep : Nat) (t : Tb), x = .ref c ∧ H1 c = some (dN X.prog X.w c xs ep) ∧ RepE (md X C) H1 xs (tD t) ∧ R (Itn X C c xs ep t) H1
theorem pi_n {te : TE} (h : PE X e te) : PI X tg e (iDn X C te) := by
  refine ⟨fun pins s σ H R I q => ?_⟩
  refine thn (h.run pins s σ H _ I q) fun v s1 ⟨x, H1, I1, r1, c, xs, ep, t, e1, h1, h2, q⟩ => ?_
  subst e1
  cases r1
  obtain ⟨hd, es, hr, hz, hk⟩ := dn_es I1 h1 h2
  refine wpAny_pyIter_dict_raw hd hr ?_
  refine ⟨s1.heap.objs.size, [s1.heap.objs.size], _, _, H1, rfl, I1.kept (t' := s1.toks) fun b o e => Heap.get?_push_of_some _ e, turn_n rfl rfl rfl, ⟨_, Heap.get?_push_size _ rfl, rfl, by rw [hz]; rfl⟩, fun b hb => ?_, q⟩
  have e : b = s1.heap.objs.size := by simpa using hb
  subst e
  exact I1.fpOk (Nat.le_refl _) (I1.hok.fresh (Nat.le_refl _))
def tKeys (t : Tb) : List D := t.map fun p => kD p.1
theorem key_at {M : Md} {G : Hp} : ∀ {i : Nat} {xs : List (NestedKey × Addr × Addr)} {t : Tb} {y : NestedKey × Addr × Addr}, RepE M G xs (tD t) → xs[i]? = some y → ∃ d, (tKeys t)[i]? = some d ∧ Rep M G (.ref y.2.1) d
  | _, [], _, _, _, h => by cases h
  | _, _ :: _, [], _, r, _ => by cases r
  | 0, x :: xs, p :: t, y, .cons _ k1 _ _, h => by
    cases h
    exact ⟨_, rfl, k1⟩
  | i + 1, x :: xs, p :: t, y, .cons _ _ _ r, h => key_at (i := i) r h
theorem di_dic {t : Tb} (h : DE X C B δ e (.dic (tD t))) : DI X C B δ tg e (tKeys t) := ⟨_, pi_n (C := C) pe_we, fun R σ G H Rr N q => h.run R σ G H _ N fun v G1 H1 g r => by
  obtain ⟨c, xs, ep, rfl, h1, h2⟩ := r.m
  have gh := (N.go g).gh
  have hl : xs.length = t.length := (RepE.length h2).trans (tD_len t)
  have hl2 : (tKeys t).length = t.length := by unfold tKeys; rw [List.length_map]
  refine ⟨c, xs, ep, t, rfl, gh _ _ h1, h2.mono gh, q _ G1 H1 g ⟨fun i H' e _ hi => ⟨e _ _ h1, h2.mono e, by omega⟩, fun i H' e _ hi => ⟨e _ _ h1, h2.mono e, by omega⟩, fun i H' x H'' e _ hi y => ?_⟩⟩
  obtain ⟨y1, z, hz, rfl⟩ := y
  exact ⟨y1, key_at h2 hz⟩⟩
end
end Rv

/-! ### Part K: sorted of tuples and sets of whole numbers; tuples compared -/
namespace Rv
open PySem L2 PyProof.Rows
section
variable {prog : Program} {w : World} {A : Around} {E : Value → Shared → Prop} {s : Shared}
/-- the items of a tuple, gathered -/
theorem gather_tup {c : Addr} {us : List Value} {Q : List Value → Shared → Prop} (ht : IsTup s.heap c us.toArray) (hz : us.length ≤ sizeLine)
    (h : Q us { s with heap := (s.heap.push (seqObj "list" #[] 0)).update s.heap.objs.size (Obj.mapSeq (· ++ us.toArray)) }) : wpAny (model prog w) A (collect (.ref c)) Q E s := by
  obtain ⟨ob, e1, e2, m, e3⟩ := ht
  have k1 : (s.heap.push (seqObj "list" #[] 0)).get? c = some ob := Heap.get?_push_of_some _ e1
  have k2 : (s.heap.push (seqObj "list" #[] 0)).get? s.heap.objs.size = some (seqObj "list" #[] 0) := Heap.get?_push_size _ rfl
  have go : codeAny (model prog w) A (.builtin "list.__iadd__" ⟨[.ref s.heap.objs.size, .ref c], []⟩) (fun r s1 => r = .ok (.ret (.ref s.heap.objs.size)) ∧ s1 = { s with heap := (s.heap.push (seqObj "list" #[] 0)).update s.heap.objs.size (Obj.mapSeq (· ++ us.toArray)) }) { s with heap := s.heap.push (seqObj "list" #[] 0) } := by
    refine codeAny_builtin entry_list_iadd' ?_
    show wpAny _ _ (Builtin.List.listExtendWith (.ref s.heap.objs.size) (.ref c) (.ref s.heap.objs.size)) _ _ _
    unfold Builtin.List.listExtendWith
    refine wpAny_bind (wpAny_typeOf (T := "tuple") ⟨ob, k1, e2⟩ ?_)
    rw [if_pos (by rw [show (Value.type "tuple" == Value.type "tuple") = true from rfl, Bool.or_true])]
    refine wpAny_bind (listItems_at k1 e3 (wpAny_bind (listItems_at (xs := #[]) (n := 0) k2 rfl ?_)))
    rw [if_neg (by simp)]
    exact wpAny_bind (listUpdate_at (xs := #[]) (n := 0) k2 rfl (wpAny_pure ⟨rfl, rfl⟩) (Nat.zero_le _) (by show (#[] ++ us.toArray).size ≤ sizeLine + 1; simp only [Array.size_append, List.size_toArray, List.length_nil]; omega))
  unfold collect
  refine wpAny_bind (wpAny_runValue (codeAny_builtin entry_proto_collect' (show wpAny _ _ (do again (.builtin "list.__iadd__" ⟨[← newList [], .ref c], []⟩)) _ _ s from wpAny_bind (wpAny_newList (wpAny_pure ⟨Code.quiet_builtin _ (by decide +kernel), codeAny_mono go fun r s1 hr => ?_⟩)))))
  obtain ⟨rfl, rfl⟩ := hr
  show wpAny (model prog w) A (do
      let o ← load s.heap.objs.size
      match o.data with
      | .seq xs _ => pure xs.toList
      | _ => unsupported "internal:collect") Q E _
  refine wpAny_bind (wpAny_load (get?_update_seq k2 _) ?_)
  show wpAny _ _ (pure ((#[] : Array Value) ++ us.toArray).toList) Q E _
  rw [show ((#[] : Array Value) ++ us.toArray).toList = us by simp]
  exact wpAny_pure h
theorem sort_tup {c : Addr} {us : List Value} {ns : List Int} {Q : Value → Shared → Prop} (ht : IsTup s.heap c us.toArray) (hi : IntsAre us ns) (hz : us.length < 64)
    (h : ∀ (out : Array Value) (ms : List Int), IntsAre out.toList ms → ms.Perm ns → ms.Pairwise (· ≤ ·) → Q (.ref (s.heap.objs.size + 1)) { s with heap := sortedAll s.heap us out }) : wpAny (model prog w) A (PySem.call (.builtin "sorted") [.ref c]) Q E s := by
  have z1 : ((s.heap.push (seqObj "list" #[] 0)).update s.heap.objs.size (Obj.mapSeq (· ++ us.toArray))).objs.size = s.heap.objs.size + 1 := by rw [Heap.size_update, size_push']
  have z2 : (((s.heap.push (seqObj "list" #[] 0)).update s.heap.objs.size (Obj.mapSeq (· ++ us.toArray))).push (seqObj "list" us.toArray 0)).get? (s.heap.objs.size + 1) = some (seqObj "list" us.toArray 0) := by
    rw [← z1]
    exact Heap.get?_push_size _ rfl
  refine Calls.call_function_entry kind_sorted plain_sorted entry_sorted (args_sorted1 _) (show wpAny _ _ (Builtin.«sorted» ⟨[.ref c], []⟩) _ _ s from ?_)
  unfold Builtin.«sorted»
  refine wpAny_bind (m := checkCount "sorted" 1 1 _) (wpAny_pure (wpAny_bind (gather_tup ht (Nat.le_trans (Nat.le_of_lt hz) (by decide)) (wpAny_bind (wpAny_newList ?_)))))
  show wpAny _ _ _ _ _ { s with heap := ((s.heap.push (seqObj "list" #[] 0)).update s.heap.objs.size (Obj.mapSeq (· ++ us.toArray))).push (seqObj "list" us.toArray 0) }
  rw [z1]
  refine wpAny_bind (wpAny_holding (wpAny_call_entry slot_list_sort ⟨_, z2, rfl⟩ entry_list_sort (list_sort_tree z2 hi hz fun out ms a1 a2 a3 => ⟨_, rfl, wpAny_pure ⟨_, rfl, h out ms a1 a2 a3⟩⟩) (args_list_sort _)))
end
/-- in order -/
def srt (l : List Int) : List Int := l.mergeSort
theorem srt_perm (l : List Int) : (srt l).Perm l := List.mergeSort_perm l _
theorem srt_le (l : List Int) : (srt l).Pairwise (· ≤ ·) := by
  have h := List.pairwise_mergeSort (le := fun a b : Int => decide (a ≤ b)) (fun a b c h1 h2 => decide_eq_true (Int.le_trans (of_decide_eq_true h1) (of_decide_eq_true h2))) (fun a b => by rcases Int.le_total a b with h | h <;> simp [h]) l
  exact h.imp fun h => of_decide_eq_true h
theorem srt_of {l m : List Int} (h1 : m.Perm l) (h2 : m.Pairwise (· ≤ ·)) : m = srt l :=
  (h1.trans (srt_perm l).symm).eq_of_pairwise (fun a b _ _ x y => Int.le_antisymm x y) h2 (srt_le l)
theorem srt_self {l : List Int} (h : l.Pairwise (· ≤ ·)) : srt l = l := (srt_of (List.Perm.refl l) h).symm
section
variable {X : Cx} {C : Addr} {B : Bs} {δ : DEnv} {a b e : Expr} {pos p : Pos} {k : Nat}
def rSortTu (K : PySem.W.Frag) : List V → Hp → VK → Prop := fun vs H Q => ∃ (c : Addr) (ns : List Int), vs = [.ref c] ∧ SqT K H c (ns.map V.int) ∧ ns.length < 64 ∧ ∀ p, H p = none → Q (.ref p) (upd H p (.lst ((srt ns).map V.int)))
theorem call_sortTu : CallR X (.builtin "sorted") (rSortTu X.K) := by
  intro pins s σ H vs us Q I r h
  obtain ⟨c, ns, rfl, hs, hz, q⟩ := h
  obtain ⟨its, rv, ht, _⟩ := I.tuple hs
  rw [Vals.ref1 r]
  have hi := rv.ints
  refine sort_tup ht hi (by rw [hi.length]; exact hz) fun out ms k1 k2 k3 => ?_
  obtain ⟨ep, hp⟩ := sortedAll_at s.heap its out
  have hl : (ms.map V.int).length ≤ sizeLine := by rw [List.length_map, k2.length_eq]; exact small (by omega)
  obtain rfl := srt_of k2 k3
  exact ⟨.ref _, upd H (s.heap.objs.size + 1) (.lst ((srt ns).map V.int)), I.laid (t' := s.toks) (fun _ _ => sortedAll_old) (Nat.le_succ _) ⟨hl, out.toList, ep, vals_of_ints k1, hp⟩, rfl, q _ (I.hok.fresh (Nat.le_succ _))⟩
theorem do_sortT {ns : List Int} (T : Bi X.mg) (h : DE X C B δ e (.tup (ns.map .int))) (hz : ns.length < 64) (hg : Gl X "sorted" := by rfl) (he : starEach [e] X.env = (false, eval e X.env) :: starEach [] X.env := by rfl) : DO X C B δ (.Call (.Name "sorted" p) [e] [] pos) (.lst ((srt ns).map .int)) := ⟨fun R σ G H Q N q =>
  b1 call_sortTu hg T.sorted (by decide +kernel) he (by decide) (by decide) (h.run R σ G H _ N fun v G' H' g r => by
    obtain ⟨c, xs, rfl, h1, h2⟩ := r.t
    obtain rfl := h2.ints
    exact ⟨c, ns, rfl, g.gh.st h1, hz, fun p hp => q p G' _ (g.trans (Grow.own g.gh hp)) (g.hh.free hp) (g.gh.free hp) ⟨_, upd_same, Reps.of_ints _⟩⟩)⟩
/-- set(t), t a tuple of whole numbers -/
def rSetTu (K : PySem.W.Frag) (w : World) : List V → Hp → VK → Prop := fun vs H Q => ∃ (c : Addr) (ns : List Int), vs = [.ref c] ∧ SqT K H c (ns.map V.int) ∧ ns.length < 64 ∧ ∀ p n, H p = none → n ≤ ns.length → Q (.ref p) (upd H p (SetO w p (fun j => decide (j ∈ ns)) n))
theorem call_setTu (hc : X.calm = true) : CallR X (.type "set") (rSetTu X.K X.w) := by
  intro pins s σ H vs us Q I r h
  obtain ⟨c, ns, rfl, hs, hz, q⟩ := h
  obtain ⟨its, rv, ht, _⟩ := I.tuple hs
  rw [Vals.ref1 r]
  have hi : IntsAre its.toArray.toList ns := ints_of_vals rv
  refine call_set_tupI ns (I.ok.hd hc) (show s.heap.IsTuple c its.toArray from ht) hi (by unfold scanBound; omega) fun h' tk n R hn k => ?_
  exact ⟨.ref s.heap.objs.size, _, I.laid (t' := tk) k (Nat.le_refl _) (setO_new R), rfl, q _ n (I.hok.fresh (Nat.le_refl _)) hn⟩
theorem strict_eq {l m : List Int} (hl : l.Pairwise (· < ·)) (hm : m.Pairwise (· < ·)) (h : ∀ k, k ∈ l ↔ k ∈ m) : l = m := by
  have nl : l.Nodup := hl.imp fun h => Int.ne_of_lt h
  have nm : m.Nodup := hm.imp fun h => Int.ne_of_lt h
  have pm : l.Perm m := (List.perm_ext_iff_of_nodup nl nm).mpr h
  exact pm.eq_of_pairwise (fun a b _ _ x y => Int.le_antisymm x y) (hl.imp fun h => Int.le_of_lt h) (hm.imp fun h => Int.le_of_lt h)
/-- sorted(set(t)), t rising -/
theorem do_sortSet {ns : List Int} {p3 p4 : Pos} (T : Bi X.mg) (hx : XOk X C B k) (h : DE X C B δ e (.tup (ns.map .int))) (hz : ns.length < 64) (hs : ns.Pairwise (· < ·)) (hg : Gl X "sorted" := by rfl) (hg2 : Gl X "set" := by rfl)
    (he : starEach [.Call (.Name "set" p3) [e] [] p4] X.env = (false, eval (.Call (.Name "set" p3) [e] [] p4) X.env) :: starEach [] X.env := by rfl) (he2 : starEach [e] X.env = (false, eval e X.env) :: starEach [] X.env := by rfl) :
    DO X C B δ (.Call (.Name "sorted" p) [.Call (.Name "set" p3) [e] [] p4] [] pos) (.lst (ns.map .int)) := ⟨fun R σ G H Q N q =>
  b1 (cr_sortedSet hx.calm) hg T.sorted (by decide +kernel) he (by decide) (by decide) (t1 (call_setTu hx.calm) hg2 T.set (by decide +kernel) he2 (by decide) (by decide) (h.run R σ G H _ N fun v G' H' g r => by
    obtain ⟨c, xs, rfl, h1, h2⟩ := r.t
    obtain rfl := h2.ints
    refine ⟨c, ns, rfl, g.gh.st h1, hz, fun p0 n hp hn => ?_⟩
    have g2 : Grow G H G' (upd H' p0 (SetO X.w p0 (fun j => decide (j ∈ ns)) n)) := g.trans (Grow.own g.gh hp)
    refine ⟨p0, fun j => decide (j ∈ ns), n, rfl, upd_same, by omega, fun ms p1 o1 o2 o3 hp1 => ?_⟩
    have em : ms = ns := strict_eq o1 hs fun j => by rw [o2 j, decide_eq_true_eq]
    rw [em]
    exact q p1 G' _ (g2.trans (Grow.own g2.gh hp1)) (g2.hh.free hp1) (g2.gh.free hp1) ⟨_, upd_same, Reps.of_ints _⟩))⟩
/-- t < u, tuples of whole numbers -/
theorem dc_ltT (hx : XOk X C B k) {ns ms : List Int} (ha : DE X C B δ a (.tup (ns.map .int))) (hb : DE X C B δ b (.tup (ms.map .int))) : DC X C B δ .Lt a b (HT.lexLt ns ms) :=
  ⟨_, op_ltT hx.hr.units0, nomark b, fun R σ G H Q N q => d2 ha hb N fun x y G' H' g r1 r2 => by
    obtain ⟨c1, xs, rfl, h1, h2⟩ := r1.t
    obtain ⟨c2, ys, rfl, h3, h4⟩ := r2.t
    obtain rfl := h2.ints
    obtain rfl := h4.ints
    exact ⟨c1, c2, ns, ms, rfl, rfl, (N.go g).gh.st h1, (N.go g).gh.st h3, q G' H' g⟩⟩
end
end Rv

/-! ### mirrors: the tables -/
namespace Rv
open PySem L2
theorem getT_nil (k : Ky) : getT [] k = none := rfl
theorem getT_cons (p : Ky × Vl) (t : Tb) (k : Ky) : getT (p :: t) k = if p.1 = k then some p.2 else getT t k := by
  unfold getT
  by_cases h : p.1 = k
  · rw [List.find?_cons_of_pos (by exact decide_eq_true h), if_pos h]
    rfl
  · rw [List.find?_cons_of_neg (by simp [h]), if_neg h]
theorem getT_append (t u : Tb) (k : Ky) : getT (t ++ u) k = (getT t k).or (getT u k) := by
  induction t with
  | nil => rfl
  | cons p t ih =>
    rw [List.cons_append, getT_cons, getT_cons]
    split
    · rfl
    · exact ih
theorem getT_none {t : Tb} {k : Ky} : getT t k = none ↔ k ∉ t.map (·.1) := by
  induction t with
  | nil => simp [getT_nil]
  | cons p t ih =>
    rw [getT_cons, List.map_cons, List.mem_cons]
    by_cases h : p.1 = k
    · simp [h]
    · rw [if_neg h, ih]
      simp [Ne.symm h]
theorem getT_mem {t : Tb} {k : Ky} {v : Vl} (h : getT t k = some v) : (k, v) ∈ t := by
  induction t with
  | nil => cases h
  | cons p t ih =>
    rw [getT_cons] at h
    split at h
    · rename_i q
      cases h
      rw [← q]
      exact List.mem_cons_self
    · exact List.mem_cons_of_mem _ (ih h)
theorem getT_of_mem {t : Tb} (hn : (t.map (·.1)).Nodup) {k : Ky} {v : Vl} (h : (k, v) ∈ t) : getT t k = some v := by
  induction t with
  | nil => cases h
  | cons p t ih =>
    rw [List.map_cons, List.nodup_cons] at hn
    rw [getT_cons]
    rcases List.mem_cons.mp h with rfl | h
    · rw [if_pos rfl]
    · have hne : p.1 ≠ k := fun q => hn.1 (List.mem_map.mpr ⟨_, h, q.symm⟩)
      rw [if_neg hne]
      exact ih hn.2 h
theorem map_upd (t : Tb) (k : Ky) (v : Vl) : (t.map fun p => if p.1 = k then (p.1, v) else p).map (·.1) = t.map (·.1) := by
  rw [List.map_map]
  refine List.map_congr_left fun p _ => ?_
  show (if p.1 = k then (p.1, v) else p).1 = p.1
  split <;> rfl
theorem putT_keys (t : Tb) (k : Ky) (v : Vl) : (putT t k v).map (·.1) = if (getT t k).isSome then t.map (·.1) else t.map (·.1) ++ [k] := by
  unfold putT
  split
  · exact map_upd t k v
  · rw [List.map_append]
    rfl
theorem putT_nodup {t : Tb} {k : Ky} {v : Vl} (h : (t.map (·.1)).Nodup) : ((putT t k v).map (·.1)).Nodup := by
  rw [putT_keys]
  split
  · exact h
  · rename_i q
    have : getT t k = none := by simpa using q
    refine List.nodup_append.mpr ⟨h, List.nodup_cons.mpr ⟨List.not_mem_nil, List.nodup_nil⟩, fun a ha b hb e => ?_⟩
    cases List.mem_singleton.mp hb
    exact getT_none.mp this (e ▸ ha)
theorem getT_put (t : Tb) (k j : Ky) (v : Vl) : getT (putT t k v) j = if k = j then some v else getT t j := by
  unfold putT
  split
  · rename_i q
    have key : ∀ u : Tb, getT (u.map fun p => if p.1 = k then (p.1, v) else p) j = if k = j ∧ (getT u k).isSome then some v else getT u j := by
      intro u
      induction u with
      | nil => simp [getT_nil]
      | cons p u ih =>
        rw [List.map_cons, getT_cons, getT_cons, getT_cons, ih]
        by_cases h1 : p.1 = k
        · rw [if_pos h1]
          by_cases h2 : k = j
          · simp [h1, h2]
          · simp [h1, h2]
        · rw [if_neg h1]
          by_cases h2 : k = j
          · subst h2
            simp [h1]
          · simp [h2]
    rw [key t]
    by_cases h : k = j
    · rw [if_pos ⟨h, q⟩, if_pos h]
    · rw [if_neg (fun z => h z.1), if_neg h]
  · rename_i q
    have hn : getT t k = none := by simpa using q
    rw [getT_append, getT_cons, getT_nil]
    by_cases h : k = j
    · rw [if_pos h, if_pos h, ← h, hn]
      rfl
    · rw [if_neg h, if_neg h]
      cases getT t j <;> rfl
theorem putT_new {t : Tb} {k : Ky} {v : Vl} (h : getT t k = none) : putT t k v = t ++ [(k, v)] := by
  unfold putT
  rw [if_neg (by rw [h]; exact Bool.false_ne_true)]
theorem putT_len (t : Tb) (k : Ky) (v : Vl) : (putT t k v).length ≤ t.length + 1 := by
  have := congrArg List.length (putT_keys t k v)
  rw [List.length_map] at this
  rw [this]
  split
  · rw [List.length_map]
    omega
  · rw [List.length_append, List.length_map]
    exact Nat.le_refl _
/-- the time of leaving stop n, if the van leaves pl at t -/
def leaveM (y : DayR) (pl t n : Int) : Option Int := (servedM y pl t n).map fun x => x.2.2
/-- where and when the van is behind an order -/
def behindM (y : DayR) : Int → Int → List Int → Option (Int × Int)
  | pl, t, [] => some (pl, t)
  | pl, t, n :: r => match leaveM y pl t n with
    | none => none
    | some z => behindM y (y.at n).p z r
theorem run_behind (y : DayR) : ∀ (order : List Int) (pl t : Int), (runM y pl t order = none ↔ behindM y pl t order = none)
  | [], pl, t => by simp [runM, behindM]
  | n :: r, pl, t => by
    unfold runM behindM leaveM
    cases servedM y pl t n with
    | none => simp
    | some x => simpa using run_behind y r (y.at n).p x.2.2
theorem run_behind_last (y : DayR) : ∀ (order : List Int) (pl t : Int) (rows : List Row), order ≠ [] → runM y pl t order = some rows → behindM y pl t order = some ((y.at (order.getLastD 0)).p, (rows.getLastD (0, 0, 0)).2.2)
  | [], _, _, _, h, _ => absurd rfl h
  | [n], pl, t, rows, _, h => by
    unfold runM at h
    unfold behindM leaveM
    cases hs : servedM y pl t n with
    | none =>
      rw [hs] at h
      cases h
    | some x =>
      rw [hs] at h
      simp only [runM, Option.map_some, Option.some.injEq] at h
      subst h
      rfl
  | n :: m :: r, pl, t, rows, _, h => by
    rw [runM] at h
    unfold behindM leaveM
    cases hs : servedM y pl t n with
    | none =>
      rw [hs] at h
      cases h
    | some x =>
      rw [hs] at h
      obtain ⟨rs, h1, rfl⟩ := Option.map_eq_some_iff.mp h
      have ih := run_behind_last y (m :: r) _ _ rs (by simp) h1
      show behindM y _ _ (m :: r) = _
      rw [ih]
      have hne : rs ≠ [] := fun z => by
        have := runM_len h1
        rw [z] at this
        cases this
      cases rs with
      | nil => exact absurd rfl hne
      | cons a rs => rfl
/-! the layers -/
abbrev Cand := Ky × Int × Int
def lessV (z b : Int) (v : Vl) : Bool := HT.lexLt [z, b] [v.1, v.2.getD 0]
/-- a way told, where it is new or less -/
def stepM (t : Tb) (c : Cand) : Tb := if (!(getT t c.1).isSome || lessV c.2.1 c.2.2 ((getT t c.1).getD (0, none))) = true then putT t c.1 (c.2.1, some c.2.2) else t
def firstStep (y : DayR) (pl t : Int) (tb : Tb) (n : Int) : Tb := match leaveM y pl t n with
  | none => tb
  | some z => putT tb ([n], n) (z, none)
def firstM (y : DayR) (pl t : Int) (left : List Int) : Tb := left.foldl (firstStep y pl t) []
def furStep1 (y : DayR) (k : Ky) (v : Vl) (tb : Tb) (n : Int) : Tb := match leaveM y (y.at k.2).p v.1 n with
  | none => tb
  | some z => stepM tb ((srt (k.1 ++ [n]), n), z, k.2)
def outOf (left : List Int) (k : Ky) : List Int := left.filter fun n => !decide (n ∈ k.1)
def furStep (y : DayR) (left : List Int) (layer : Tb) (tb : Tb) (k : Ky) : Tb := (outOf left k).foldl (furStep1 y k ((getT layer k).getD (0, none))) tb
def furtherM (y : DayR) (left : List Int) (layer : Tb) : Tb := (layer.map (·.1)).foldl (furStep y left layer) []
def layerM (y : DayR) (pl t : Int) (left : List Int) : Nat → Tb
  | 0 => firstM y pl t left
  | k + 1 => furtherM y left (layerM y pl t left k)
def tabM (y : DayR) (pl t : Int) (left : List Int) : Nat → Tb
  | 0 => []
  | k + 1 => tabM y pl t left k ++ layerM y pl t left k
def leftM (m : Nat) (begun : List Int) : List Int := (upTo (m : Int)).filter fun n => !decide (n ∈ begun)
def tableM (y : DayR) (begun : List Int) : Tb := match behindM y y.home y.start begun with
  | none => []
  | some (pl, t) => tabM y pl t (leftM y.stops.length begun) 8

/-! what a layer is -/
structure KeyOk (left : List Int) (j : Nat) (k : Ky) : Prop where
  len : k.1.length = j
  inc : k.1.Pairwise (· < ·)
  sub : ∀ x ∈ k.1, x ∈ left
  mem : k.2 ∈ k.1
structure LayOk (left : List Int) (j : Nat) (t : Tb) : Prop where
  nd : (t.map (·.1)).Nodup
  keys : ∀ p ∈ t, KeyOk left j p.1
theorem nodup_sub_len : ∀ {l m : List Int}, l.Nodup → (∀ x ∈ l, x ∈ m) → l.length ≤ m.length
  | [], _, _, _ => Nat.zero_le _
  | a :: l, m, hn, hs => by
    rw [List.nodup_cons] at hn
    have ha : a ∈ m := hs a List.mem_cons_self
    have h1 := nodup_sub_len (l := l) (m := m.erase a) hn.2 fun x hx => by
      have hne : x ≠ a := fun e => hn.1 (by rw [← e]; exact hx)
      exact (List.mem_erase_of_ne hne).mpr (hs x (List.mem_cons_of_mem _ hx))
    rw [List.length_erase_of_mem ha] at h1
    have := List.length_pos_of_mem ha
    simp only [List.length_cons]
    omega
theorem KeyOk.few {left : List Int} {j : Nat} {k : Ky} (h : KeyOk left j k) : j ≤ left.length := by
  rw [← h.len]
  exact nodup_sub_len (h.inc.imp fun h => Int.ne_of_lt h) h.sub
theorem LayOk.nil {left : List Int} {j : Nat} : LayOk left j [] := ⟨List.nodup_nil, fun _ h => by cases h⟩
theorem LayOk.put {left : List Int} {j : Nat} {t : Tb} {k : Ky} {v : Vl} (h : LayOk left j t) (hk : KeyOk left j k) : LayOk left j (putT t k v) := by
  refine ⟨putT_nodup h.nd, fun p hp => ?_⟩
  have hm : p.1 ∈ (putT t k v).map (·.1) := List.mem_map.mpr ⟨p, hp, rfl⟩
  rw [putT_keys] at hm
  split at hm
  · obtain ⟨q, hq, e⟩ := List.mem_map.mp hm
    rw [← e]
    exact h.keys q hq
  · rcases List.mem_append.mp hm with hm | hm
    · obtain ⟨q, hq, e⟩ := List.mem_map.mp hm
      rw [← e]
      exact h.keys q hq
    · rw [List.mem_singleton.mp hm]
      exact hk
theorem fold_inv {α β : Type} (P : β → Prop) (f : β → α → β) : ∀ (l : List α) (b : β), P b → (∀ b a, a ∈ l → P b → P (f b a)) → P (l.foldl f b)
  | [], _, h, _ => h
  | a :: l, b, h, hs => fold_inv P f l _ (hs b a List.mem_cons_self h) fun b x hx => hs b x (List.mem_cons_of_mem _ hx)
theorem fold_len {α : Type} (f : Tb → α → Tb) (c : Nat) (hf : ∀ t a, (f t a).length ≤ t.length + c) : ∀ (l : List α) (t : Tb), (l.foldl f t).length ≤ t.length + l.length * c
  | [], t => by simp
  | a :: l, t => by
    have h1 := fold_len f c hf l (f t a)
    have h2 := hf t a
    rw [List.foldl_cons, List.length_cons, Nat.succ_mul]
    omega
theorem firstStep_len (y : DayR) (pl t : Int) (tb : Tb) (n : Int) : (firstStep y pl t tb n).length ≤ tb.length + 1 := by
  unfold firstStep
  split
  · omega
  · exact putT_len _ _ _
theorem stepM_len (tb : Tb) (c : Cand) : (stepM tb c).length ≤ tb.length + 1 := by
  unfold stepM
  split
  · exact putT_len _ _ _
  · omega
theorem furStep1_len (y : DayR) (k : Ky) (v : Vl) (tb : Tb) (n : Int) : (furStep1 y k v tb n).length ≤ tb.length + 1 := by
  unfold furStep1
  split
  · omega
  · exact stepM_len _ _
theorem outOf_len (left : List Int) (k : Ky) : (outOf left k).length ≤ left.length := List.length_filter_le _ _
theorem furStep_len (y : DayR) (left : List Int) (layer tb : Tb) (k : Ky) : (furStep y left layer tb k).length ≤ tb.length + left.length := by
  unfold furStep
  have h1 := fold_len (furStep1 y k ((getT layer k).getD (0, none))) 1 (furStep1_len y k _) (outOf left k) tb
  have h2 := outOf_len left k
  omega
theorem firstM_len (y : DayR) (pl t : Int) (left : List Int) : (firstM y pl t left).length ≤ left.length := by
  have := fold_len (firstStep y pl t) 1 (firstStep_len y pl t) left []
  simp only [List.length_nil] at this
  unfold firstM
  omega
theorem furtherM_len (y : DayR) (left : List Int) (layer : Tb) : (furtherM y left layer).length ≤ layer.length * left.length := by
  have := fold_len (furStep y left layer) left.length (furStep_len y left layer) (layer.map (·.1)) []
  simp only [List.length_nil, List.length_map] at this
  unfold furtherM
  omega
theorem firstM_ok {y : DayR} {pl t : Int} {left : List Int} : LayOk left 1 (firstM y pl t left) := by
  refine fold_inv (LayOk left 1) _ left [] .nil fun tb n hn h => ?_
  unfold firstStep
  split
  · exact h
  · exact h.put ⟨rfl, List.pairwise_singleton _ _, fun x hx => by cases List.mem_singleton.mp hx; exact hn, List.mem_singleton.mpr rfl⟩
theorem srt_add {l : List Int} {n : Int} (h : l.Pairwise (· < ·)) (hn : n ∉ l) : (srt (l ++ [n])).Pairwise (· < ·) ∧ (srt (l ++ [n])).length = l.length + 1 ∧ ∀ x, x ∈ srt (l ++ [n]) ↔ x ∈ l ∨ x = n := by
  have p := srt_perm (l ++ [n])
  refine ⟨?_, by rw [p.length_eq, List.length_append]; rfl, fun x => by rw [p.mem_iff, List.mem_append, List.mem_singleton]⟩
  have nd : (srt (l ++ [n])).Nodup := p.nodup_iff.mpr (List.nodup_append.mpr ⟨h.imp fun h => Int.ne_of_lt h, List.nodup_cons.mpr ⟨List.not_mem_nil, List.nodup_nil⟩, fun a ha b hb e => by
    cases List.mem_singleton.mp hb
    exact hn (e ▸ ha)⟩)
  have := (srt_le (l ++ [n])).and nd
  exact this.imp fun ⟨h1, h2⟩ => Int.lt_iff_le_and_ne.mpr ⟨h1, h2⟩
theorem mem_out {left : List Int} {k : Ky} {n : Int} : n ∈ outOf left k ↔ n ∈ left ∧ n ∉ k.1 := by
  unfold outOf
  rw [List.mem_filter]
  simp
theorem KeyOk.more {left : List Int} {j : Nat} {k : Ky} (h : KeyOk left j k) {n : Int} (hn : n ∈ outOf left k) : KeyOk left (j + 1) (srt (k.1 ++ [n]), n) := by
  obtain ⟨h1, h2⟩ := mem_out.mp hn
  obtain ⟨s1, s2, s3⟩ := srt_add h.inc h2
  refine ⟨by rw [← h.len]; exact s2, s1, fun x hx => ?_, (s3 n).mpr (.inr rfl)⟩
  rcases (s3 x).mp hx with hx | rfl
  · exact h.sub x hx
  · exact h1
theorem furtherM_ok {y : DayR} {left : List Int} {j : Nat} {layer : Tb} (h : LayOk left j layer) : LayOk left (j + 1) (furtherM y left layer) := by
  refine fold_inv (LayOk left (j + 1)) _ _ [] .nil fun tb k hk ht => ?_
  obtain ⟨p, hp, rfl⟩ := List.mem_map.mp hk
  have kp := h.keys p hp
  unfold furStep
  refine fold_inv (LayOk left (j + 1)) _ _ tb ht fun tb n hn ht => ?_
  unfold furStep1
  split
  · exact ht
  · unfold stepM
    split
    · exact ht.put (kp.more hn)
    · exact ht
theorem layer_ok {y : DayR} {pl t : Int} {left : List Int} : ∀ j, LayOk left (j + 1) (layerM y pl t left j)
  | 0 => firstM_ok
  | j + 1 => furtherM_ok (layer_ok j)
theorem layer_nil {y : DayR} {pl t : Int} {left : List Int} {j : Nat} (h : left.length ≤ j) : layerM y pl t left j = [] := by
  cases e : layerM y pl t left j with
  | nil => rfl
  | cons p r =>
    have := ((layer_ok (y := y) (pl := pl) (t := t) (left := left) j).keys p (by rw [e]; exact List.mem_cons_self)).few
    omega
theorem layer_len {y : DayR} {pl t : Int} {left : List Int} (h : left.length ≤ 7) : ∀ j, (layerM y pl t left j).length ≤ 7 ^ (j + 1)
  | 0 => Nat.le_trans (firstM_len y pl t left) h
  | j + 1 => by
    refine Nat.le_trans (furtherM_len y left _) ?_
    rw [Nat.pow_succ]
    exact Nat.mul_le_mul (layer_len h j) h
theorem layer_few {y : DayR} {pl t : Int} {left : List Int} (h : left.length ≤ 7) (j : Nat) : (layerM y pl t left j).length ≤ 823543 := by
  by_cases hj : j < 7
  · have h1 := layer_len (y := y) (pl := pl) (t := t) h j
    have h2 : 7 ^ (j + 1) ≤ 7 ^ 7 := Nat.pow_le_pow_right (by decide) (by omega)
    have h3 : 7 ^ 7 = 823543 := by decide
    omega
  · rw [layer_nil (by omega)]
    exact Nat.zero_le _
theorem tab_len {y : DayR} {pl t : Int} {left : List Int} (h : left.length ≤ 7) : ∀ j, (tabM y pl t left j).length ≤ 823543 * j
  | 0 => Nat.le_refl _
  | j + 1 => by
    have h1 := tab_len (y := y) (pl := pl) (t := t) h j
    have h2 := layer_few (y := y) (pl := pl) (t := t) h j
    unfold tabM
    rw [List.length_append]
    omega
theorem tab_keys {y : DayR} {pl t : Int} {left : List Int} : ∀ {j : Nat} {p : Ky × Vl}, p ∈ tabM y pl t left j → ∃ i, i < j ∧ p ∈ layerM y pl t left i
  | 0, _, h => by cases h
  | j + 1, p, h => by
    rcases List.mem_append.mp h with h | h
    · obtain ⟨i, hi, e⟩ := tab_keys h
      exact ⟨i, by omega, e⟩
    · exact ⟨j, by omega, h⟩
theorem tab_nodup {y : DayR} {pl t : Int} {left : List Int} : ∀ j, ((tabM y pl t left j).map (·.1)).Nodup
  | 0 => List.nodup_nil
  | j + 1 => by
    unfold tabM
    rw [List.map_append]
    refine List.nodup_append.mpr ⟨tab_nodup j, (layer_ok j).nd, fun a ha b hb e => ?_⟩
    obtain ⟨p, hp, rfl⟩ := List.mem_map.mp ha
    obtain ⟨q, hq, rfl⟩ := List.mem_map.mp hb
    obtain ⟨i, hi, hp⟩ := tab_keys hp
    have h1 := ((layer_ok i).keys p hp).len
    have h2 := ((layer_ok j).keys q hq).len
    rw [e, h2] at h1
    omega
theorem tab_stop {y : DayR} {pl t : Int} {left : List Int} {j : Nat} (h : layerM y pl t left j = []) : ∀ i, j ≤ i → tabM y pl t left i = tabM y pl t left j
  | 0, hi => by rw [Nat.le_zero.mp hi]
  | i + 1, hi => by
    by_cases e : j = i + 1
    · rw [e]
    · have key : ∀ d, layerM y pl t left (j + d) = [] := by
        intro d
        induction d with
        | zero => exact h
        | succ d ih =>
          show furtherM y left (layerM y pl t left (j + d)) = []
          rw [ih]
          rfl
      have k2 := key (i - j)
      rw [show j + (i - j) = i by omega] at k2
      show tabM y pl t left i ++ layerM y pl t left i = _
      rw [k2, List.append_nil]
      exact tab_stop h i (by omega)
theorem left_len {m : Nat} {begun : List Int} : (leftM m begun).length ≤ m := by
  refine Nat.le_trans (List.length_filter_le _ _) ?_
  rw [upTo_len]
  omega
theorem mem_left {m : Nat} {begun : List Int} {n : Int} : n ∈ leftM m begun ↔ (0 ≤ n ∧ n < (m : Int)) ∧ n ∉ begun := by
  unfold leftM
  rw [List.mem_filter]
  refine and_congr ⟨fun h => ?_, fun h => ?_⟩ (by simp)
  · obtain ⟨i, hi⟩ := List.getElem?_of_mem h
    obtain ⟨rfl, h2⟩ := upTo_get hi
    omega
  · unfold upTo
    exact List.mem_map.mpr ⟨n.toNat, List.mem_range.mpr (by omega), by omega⟩
end Rv

/-! ### what the tables hold -/
namespace Rv
open PySem L2
theorem lex2 (a b c d : Int) : HT.lexLt [a, b] [c, d] = true ↔ a < c ∨ (a = c ∧ b < d) := by
  rw [HT.lexLt_cons, HT.lexLt_cons, HT.lexLt_nil_nil]
  by_cases h : a = c
  · rw [if_pos h]
    by_cases h2 : b = d
    · rw [if_pos h2]
      simp only [Bool.false_eq_true, false_iff]
      omega
    · rw [if_neg h2, decide_eq_true_eq]
      omega
  · rw [if_neg h, decide_eq_true_eq]
    omega
/-- at K stands something no greater than (z, b) -/
def LeB (t : Tb) (K : Ky) (z b : Int) : Prop := ∃ v, getT t K = some v ∧ lessV z b v = false
theorem LeB.le {t : Tb} {K : Ky} {z b : Int} (h : LeB t K z b) : ∃ v, getT t K = some v ∧ v.1 ≤ z := by
  obtain ⟨v, h1, h2⟩ := h
  refine ⟨v, h1, ?_⟩
  have : ¬ (z < v.1 ∨ (z = v.1 ∧ b < v.2.getD 0)) := fun q => by
    rw [lessV, (lex2 _ _ _ _).mpr q] at h2
    cases h2
  omega
theorem LeB.step {t : Tb} {K : Ky} {z b : Int} {c : Cand} (h : LeB t K z b) : LeB (stepM t c) K z b := by
  obtain ⟨v, h1, h2⟩ := h
  unfold stepM
  split
  · rename_i q
    by_cases e : c.1 = K
    · subst e
      rw [h1] at q
      have q2 : lessV c.2.1 c.2.2 v = true := by simpa using q
      refine ⟨(c.2.1, some c.2.2), by rw [getT_put, if_pos rfl], ?_⟩
      have n1 : ¬ (z < v.1 ∨ (z = v.1 ∧ b < v.2.getD 0)) := fun q => by
        rw [lessV, (lex2 _ _ _ _).mpr q] at h2
        cases h2
      have n2 := (lex2 _ _ _ _).mp q2
      cases e3 : lessV z b (c.2.1, some c.2.2) with
      | false => rfl
      | true =>
        have n3 := (lex2 _ _ _ _).mp e3
        have n4 : z < c.2.1 ∨ (z = c.2.1 ∧ b < c.2.2) := n3
        omega
    · exact ⟨v, by rw [getT_put, if_neg e]; exact h1, h2⟩
  · exact ⟨v, h1, h2⟩
theorem LeB.self (t : Tb) (c : Cand) : LeB (stepM t c) c.1 c.2.1 c.2.2 := by
  unfold stepM
  split
  · refine ⟨(c.2.1, some c.2.2), by rw [getT_put, if_pos rfl], ?_⟩
    cases e3 : lessV c.2.1 c.2.2 (c.2.1, some c.2.2) with
    | false => rfl
    | true =>
      have n3 := (lex2 _ _ _ _).mp e3
      have n4 : c.2.1 < c.2.1 ∨ (c.2.1 = c.2.1 ∧ c.2.2 < c.2.2) := n3
      omega
  · rename_i q
    cases e : getT t c.1 with
    | none =>
      rw [e] at q
      exact absurd rfl q
    | some v =>
      rw [e] at q
      exact ⟨v, e, by simpa using q⟩
theorem fold_step {α β : Type} (P : β → Prop) (f : β → α → β) (keep : ∀ b a, P b → P (f b a)) : ∀ (l : List α) (b : β), P b → P (l.foldl f b)
  | [], _, h => h
  | a :: l, b, h => fold_step P f keep l _ (keep b a h)
theorem fold_has {α β : Type} (P : β → Prop) (f : β → α → β) (keep : ∀ b a, P b → P (f b a)) {x : α} (hit : ∀ b, P (f b x)) : ∀ (l : List α) (b : β), x ∈ l → P (l.foldl f b)
  | a :: l, b, h => by
    rcases List.mem_cons.mp h with rfl | h
    · exact fold_step P f keep l _ (hit b)
    · exact fold_has P f keep hit l _ h
theorem LeB.fur1 {y : DayR} {k : Ky} {w : Vl} {t : Tb} {n : Int} {K : Ky} {z b : Int} (h : LeB t K z b) : LeB (furStep1 y k w t n) K z b := by
  unfold furStep1
  split
  · exact h
  · exact h.step
/-- what the next layer has of a way on -/
theorem further_le {y : DayR} {left : List Int} {layer : Tb} {k : Ky} {v : Vl} {n z : Int} (hk : getT layer k = some v) (hn : n ∈ outOf left k) (hz : leaveM y (y.at k.2).p v.1 n = some z) : LeB (furtherM y left layer) (srt (k.1 ++ [n]), n) z k.2 := by
  have keep1 : ∀ (k' : Ky) (w : Vl) (t : Tb) (m : Int), LeB t (srt (k.1 ++ [n]), n) z k.2 → LeB (furStep1 y k' w t m) (srt (k.1 ++ [n]), n) z k.2 := fun k' w t m h => h.fur1
  unfold furtherM
  refine fold_has (fun t => LeB t (srt (k.1 ++ [n]), n) z k.2) _ (fun t k' h => fold_step _ _ (fun t m h => keep1 _ _ t m h) _ _ h) (x := k) (fun t => ?_) _ _ ?_
  · rw [hk]
    refine fold_has (fun t => LeB t (srt (k.1 ++ [n]), n) z k.2) _ (fun t m h => keep1 _ _ t m h) (x := n) (fun t => ?_) _ _ hn
    show LeB (furStep1 y k v t n) _ _ _
    unfold furStep1
    rw [hz]
    exact LeB.self t _
  · exact List.mem_map.mpr ⟨_, getT_mem hk, rfl⟩
/-- the first layer -/
theorem first_get {y : DayR} {pl t : Int} : ∀ (left : List Int), left.Nodup → ∀ (n : Int), getT (firstM y pl t left) ([n], n) = if n ∈ left then (leaveM y pl t n).map (fun z => (z, none)) else none := by
  intro left hn n
  have key : ∀ (l : List Int) (tb : Tb), l.Nodup → getT (l.foldl (firstStep y pl t) tb) ([n], n) = if n ∈ l then ((leaveM y pl t n).map fun z => (z, none)).or (getT tb ([n], n)) else getT tb ([n], n) := by
    intro l
    induction l with
    | nil => intro tb _; simp
    | cons a l ih =>
      intro tb hn
      rw [List.nodup_cons] at hn
      rw [List.foldl_cons, ih _ hn.2]
      have e : ∀ tb, getT (firstStep y pl t tb a) ([n], n) = if a = n then ((leaveM y pl t n).map fun z => (z, none)).or (getT tb ([n], n)) else getT tb ([n], n) := by
        intro tb
        unfold firstStep
        by_cases ha : a = n
        · subst ha
          rw [if_pos rfl]
          cases leaveM y pl t a with
          | none => rfl
          | some z => exact (getT_put _ _ _ _).trans (if_pos rfl)
        · rw [if_neg ha]
          cases leaveM y pl t a with
          | none => rfl
          | some z => exact (getT_put _ _ _ _).trans (if_neg fun q => ha (by injection q))
      rw [e]
      by_cases ha : a = n
      · subst ha
        rw [if_pos rfl, if_neg hn.1, if_pos List.mem_cons_self]
      · rw [if_neg ha]
        simp [Ne.symm ha]
  rw [firstM, key left [] hn, getT_nil]
  split
  · cases leaveM y pl t n <;> rfl
  · rfl
theorem tab_get {y : DayR} {pl t : Int} {left : List Int} {i j : Nat} (hi : i < j) {k : Ky} {v : Vl} (h : getT (layerM y pl t left i) k = some v) : getT (tabM y pl t left j) k = some v := by
  refine getT_of_mem (tab_nodup j) ?_
  have hm := getT_mem h
  clear h
  induction j with
  | zero => cases hi
  | succ j ih =>
    by_cases e : i = j
    · subst e
      exact List.mem_append_right _ hm
    · exact List.mem_append_left _ (ih (by omega))
/-- the table is closed: the first ones -/
theorem closed_first {y : DayR} {pl t : Int} {left : List Int} (hn : left.Nodup) {n z : Int} (h : n ∈ left) (hz : leaveM y pl t n = some z) : getT (tabM y pl t left 8) ([n], n) = some (z, none) := by
  refine tab_get (i := 0) (by decide) ?_
  show getT (firstM y pl t left) _ = _
  rw [first_get left hn, if_pos h, hz]
  rfl
/-- .. those behind -/
theorem closed_more {y : DayR} {pl t : Int} {left : List Int} (h7 : left.length ≤ 7) {k : Ky} {v : Vl} {n z : Int} (hk : getT (tabM y pl t left 8) k = some v) (hn : n ∈ outOf left k) (hz : leaveM y (y.at k.2).p v.1 n = some z) :
    LeB (tabM y pl t left 8) (srt (k.1 ++ [n]), n) z k.2 := by
  obtain ⟨i, hi, hm⟩ := tab_keys (getT_mem hk)
  have hok := layer_ok (y := y) (pl := pl) (t := t) (left := left) i
  have hg := getT_of_mem hok.nd hm
  obtain ⟨v', h1, h2⟩ := further_le hg hn hz
  have h3 : getT (layerM y pl t left (i + 1)) (srt (k.1 ++ [n]), n) = some v' := h1
  have h4 := ((layer_ok (y := y) (pl := pl) (t := t) (left := left) (i + 1)).keys _ (getT_mem h3)).few
  exact ⟨v', tab_get (by omega) h3, h2⟩
/-! draws -/
def drawnM (ns : List Int) (m : Int) : Nat → List Int × List Int
  | 0 => ([], upTo m)
  | n + 1 => ((drawnM ns m n).1 ++ [(drawnM ns m n).2.getD (cellAt ns (33 + (n : Int)) % ((drawnM ns m n).2.length : Int)).toNat 0], cutD (drawnM ns m n).2 none (some (cellAt ns (33 + (n : Int)) % ((drawnM ns m n).2.length : Int))) ++ cutD (drawnM ns m n).2 (some (cellAt ns (33 + (n : Int)) % ((drawnM ns m n).2.length : Int) + 1)) none)
theorem take_drop_perm {l : List Int} {i : Nat} (h : i < l.length) : (l.getD i 0 :: (l.take i ++ l.drop (i + 1))).Perm l := by
  have e : l = l.take i ++ l.getD i 0 :: l.drop (i + 1) := by
    rw [List.getD_eq_getElem?_getD, List.getElem?_eq_getElem h]
    show l = l.take i ++ l[i] :: l.drop (i + 1)
    rw [← List.drop_eq_getElem_cons h, List.take_append_drop]
  exact (List.perm_middle.symm).trans (List.Perm.of_eq e.symm)
theorem drawnM_ok {ns : List Int} {m : Int} : ∀ {n : Nat}, n ≤ m.toNat → (drawnM ns m n).1.length = n ∧ (drawnM ns m n).2.length = m.toNat - n ∧ ((drawnM ns m n).1 ++ (drawnM ns m n).2).Perm (upTo m)
  | 0, _ => ⟨rfl, upTo_len m, List.Perm.refl _⟩
  | n + 1, h => by
    obtain ⟨h1, h2, h3⟩ := drawnM_ok (ns := ns) (m := m) (n := n) (by omega)
    have a := Int.emod_nonneg (cellAt ns (33 + (n : Int))) (b := ((drawnM ns m n).2.length : Int)) (by omega)
    have b := Int.emod_lt_of_pos (cellAt ns (33 + (n : Int))) (b := ((drawnM ns m n).2.length : Int)) (by omega)
    unfold drawnM
    refine ⟨by rw [List.length_append, h1]; rfl, ?_, ?_⟩
    · rw [List.length_append, cutD_to _ a, cutD_from _ (by omega), List.length_take, List.length_drop]
      omega
    · rw [cutD_to _ a, cutD_from _ (by omega)]
      generalize hq : (cellAt ns (33 + (n : Int)) % ((drawnM ns m n).2.length : Int)) = q at a b
      rw [show (q + 1).toNat = q.toNat + 1 by omega]
      have hp := take_drop_perm (l := (drawnM ns m n).2) (i := q.toNat) (by omega)
      dsimp only
      rw [List.append_assoc]
      exact (List.Perm.append_left _ hp).trans h3
def begunBy (ns : List Int) (m most : Int) : List Int := (drawnM ns m (cellAt ns 32 % (minI m most + 1)).toNat).1
theorem upTo_nodup (m : Int) : (upTo m).Nodup := by
  unfold upTo
  rw [List.Nodup, List.pairwise_map]
  exact List.nodup_range.imp fun h e => h (by omega)
theorem begunBy_ok {ns : List Int} {m : Nat} {most : Int} (hm : 0 ≤ most) : goodO m (begunBy ns m most) := by
  have a := Int.emod_nonneg (cellAt ns 32) (b := minI m most + 1) (by rw [minI_def]; omega)
  have b := Int.emod_lt_of_pos (cellAt ns 32) (b := minI m most + 1) (by rw [minI_def]; omega)
  have c : cellAt ns 32 % (minI m most + 1) ≤ m := by
    have : minI m most ≤ (m : Int) := by rw [minI_def]; omega
    omega
  obtain ⟨h1, h2, h3⟩ := drawnM_ok (ns := ns) (m := (m : Int)) (n := (cellAt ns 32 % (minI m most + 1)).toNat) (by omega)
  have nd := h3.nodup_iff.mpr (upTo_nodup m)
  refine ⟨fun z hz => ?_, (List.nodup_append.mp nd).1⟩
  have hm2 : z ∈ upTo (m : Int) := h3.mem_iff.mp (List.mem_append_left _ hz)
  obtain ⟨i, hi⟩ := List.getElem?_of_mem hm2
  obtain ⟨rfl, h⟩ := upTo_get hi
  omega
def manyBy (c : Int) : Int := if c / 6 % 9 = 4 then 6 + c / 54 % 2 else c % 6
theorem manyBy_ok (c : Int) : 0 ≤ manyBy c ∧ manyBy c ≤ 7 := by
  unfold manyBy
  split <;> omega
def dayBy2 (ns : List Int) : DayR :=
  let r := roadBy (cellAt ns 0)
  let s := startBy r (cellAt ns 2)
  ⟨r, placeBy r (cellAt ns 1), s, stopsBy r s ns (manyBy (cellAt ns 3))⟩
theorem dayBy2_ok (ns : List Int) : (dayBy2 ns).ok := by
  refine ⟨roadBy_ok _, placeBy_ok (roadBy_ok _) _, startBy_ok (roadBy_ok _) _, ?_, fun s hs => ?_⟩
  · show (stopsBy _ _ _ _).length ≤ 7
    rw [stopsBy_len]
    have := manyBy_ok (cellAt ns 3)
    omega
  · obtain ⟨k, _, rfl⟩ := List.mem_map.mp hs
    exact stopBy_ok (roadBy_ok _) (startBy_ok (roadBy_ok _) _) _ _
end Rv

/-! ### Part U: min(xs, default=None) -/
namespace Rv
open PySem L2
/-- the least, if there is one -/
def leastM : List Int → Option Int
  | [] => none
  | x :: xs => some (xs.foldl (fun a b => if b < a then b else a) x)
theorem fold_min : ∀ (xs : List Int) (x : Int), (∀ y ∈ x :: xs, xs.foldl (fun a b => if b < a then b else a) x ≤ y) ∧ xs.foldl (fun a b => if b < a then b else a) x ∈ x :: xs
  | [], x => ⟨fun y hy => by cases List.mem_singleton.mp hy; exact Int.le_refl _, List.mem_singleton.mpr rfl⟩
  | b :: xs, x => by
    obtain ⟨h1, h2⟩ := fold_min xs (if b < x then b else x)
    rw [List.foldl_cons]
    have h3 := h1 _ List.mem_cons_self
    refine ⟨fun y hy => ?_, ?_⟩
    · rcases List.mem_cons.mp hy with rfl | hy
      · refine Int.le_trans h3 ?_
        split <;> omega
      · rcases List.mem_cons.mp hy with rfl | hy
        · refine Int.le_trans h3 ?_
          split <;> omega
        · exact h1 y (List.mem_cons_of_mem _ hy)
    · rcases List.mem_cons.mp h2 with e | h
      · rw [e]
        split
        · exact List.mem_cons_of_mem _ List.mem_cons_self
        · exact List.mem_cons_self
      · exact List.mem_cons_of_mem _ (List.mem_cons_of_mem _ h)
theorem least_none {l : List Int} : leastM l = none ↔ l = [] := by
  cases l with
  | nil => simp [leastM]
  | cons x xs => simp [leastM]
theorem least_some {l : List Int} {m : Int} : leastM l = some m ↔ m ∈ l ∧ ∀ y ∈ l, m ≤ y := by
  cases l with
  | nil => simp [leastM]
  | cons x xs =>
    obtain ⟨h1, h2⟩ := fold_min xs x
    refine ⟨fun h => ?_, fun h => ?_⟩
    · cases h
      exact ⟨h2, h1⟩
    · show some _ = some m
      rw [Int.le_antisymm (h1 m h.1) (h.2 _ h2)]
section
variable {X : Cx} {C : Addr} {B : Bs} {δ : DEnv} {e : Expr} {pos p : Pos} {k : Nat}
def rMinD (K : PySem.W.Frag) : List V → List V → Hp → VK → Prop := fun vs zs H Q => ∃ (a : Addr) (ns : List Int), vs = [.ref a] ∧ zs = [.non] ∧ SqL K H a (ns.map V.int) ∧ Q (match leastM ns with | none => .non | some m => .int m) H
theorem reads_ints {h : Heap} : ∀ {vs : List Value} {ns : List Int}, PyProof.Rows.IntsAre vs ns → ReadsAll h vs (ns.map PyData.int) []
  | _, _, .nil => .nil
  | _, _, .cons _ _ r => .cons (.int _ _) (reads_ints r)
theorem call_minD (hc : X.calm = true) (hu : X.A.units + 64 < cLine) : CallRK X (.builtin "min") [Str.ofString "default"] (rMinD X.K) := by
  intro pins s σ H vs zs us ws Q I r rz h
  obtain ⟨a, ns, rfl, rfl, hs, q⟩ := h
  obtain ⟨its, rv, hl, _⟩ := I.list hs
  rw [Vals.ref1 r]
  cases rz with
  | cons z rz =>
    cases rz
    obtain rfl : _ = Value.none := z
    refine PySem.W.min_list_datum_default (α := Int) (xs := ns) (I.ok.hd hc) hl.isList ⟨[], reads_ints (by simpa using rv.ints)⟩ (by show X.A.units + 1 + 0 < cLine; omega) (fun e h' tk hk => ?_) fun y ys i v h' tk e hv hh hk => ?_
    · subst e
      exact ⟨.non, H, I.kept hk, rfl, q⟩
    · subst e
      obtain ⟨as, hr⟩ := hh
      have q' : Q (.int (PySem.W.minOf y ys)) H := by
        have e : PySem.W.minOf y ys = ys.foldl (fun a b => if b < a then b else a) y := by
          unfold PySem.W.minOf
          congr 1
          funext a b
          show (if decide (b < a) = true then b else a) = _
          by_cases h : b < a <;> simp [h]
        rw [e]
        exact q
      cases hr
      exact ⟨.int _, H, I.kept hk, ⟨_, rfl⟩, q'⟩
theorem de_minD {ns : List Int} {p2 p3 : Pos} {j : Nat} (T : Bi X.mg) (hx : XOk X C B k) (h : DL X C B δ e (ns.map .int)) (hg : Gl X "min" := by rfl)
    (he : starEach [e] X.env = (false, eval e X.env) :: starEach [] X.env := by rfl)
    (he2 : backTo pos (starEach [e] X.env) = (false, eval e X.env) :: backTo pos (starEach [] X.env) := by rfl) (hpl : (backTo pos (starEach [e] X.env)).any (·.1) = false := by rfl)
    (hall : (backToKw pos (keywordEach [⟨some "default", .Constant .none j p2, p3⟩] X.env)).all (·.1.isSome) = true := by rfl) (hnone : (backToKw pos (keywordEach [⟨some "default", .Constant .none j p2, p3⟩] X.env)).any (·.1.isNone) = false := by rfl)
    (hks : (backToKw pos (keywordEach [⟨some "default", .Constant .none j p2, p3⟩] X.env)).filterMap (·.1) = [Str.ofString "default"] := by rfl) :
    DE X C B δ (.Call (.Name "min" p) [e] [⟨some "default", .Constant .none j p2, p3⟩] pos) (oD (leastM ns)) := ⟨fun R σ G H Q N q =>
  we (pe_callBK (call_minD hx.calm hx.hr.units) hg T.min (by decide +kernel) (pa_cons pe_we pa_nil he) (pk_cons pe_non pk_nil) (by decide) (by decide) he2 hpl hall hnone hks) (h.run R σ G H _ N fun a xs G' H' g r1 r2 => by
    obtain rfl := r2.ints
    refine ⟨a, ns, rfl, rfl, .of r1, ?_⟩
    cases e0 : leastM ns with
    | none =>
      rw [e0] at q
      exact q _ G' H' g .non
    | some m =>
      rw [e0] at q
      exact q _ G' H' g (.int m))⟩
end
end Rv

/-! ### what the tables tell of orders -/
namespace Rv
open PySem L2
/-- a later start leaves no earlier -/
theorem leave_mono {y : DayR} {pl t t' n z : Int} (h : leaveM y pl t n = some z) (ht : t' ≤ t) : ∃ z', leaveM y pl t' n = some z' ∧ z' ≤ z := by
  unfold leaveM servedM at *
  dsimp only at *
  rw [maxI_def] at *
  split at h
  · cases h
  · rename_i q
    cases h
    rw [if_neg (by omega)]
    exact ⟨_, rfl, by show max (t' + apartM y.road pl (y.at n).p) (y.at n).o + (y.at n).s ≤ max (t + apartM y.road pl (y.at n).p) (y.at n).o + (y.at n).s; omega⟩
theorem behind_mono {y : DayR} : ∀ {order : List Int} {pl t t' : Int} {z : Int × Int}, behindM y pl t order = some z → t' ≤ t → ∃ z', behindM y pl t' order = some (z.1, z') ∧ z' ≤ z.2
  | [], pl, t, t', z, h, ht => by
    cases h
    exact ⟨t', rfl, ht⟩
  | n :: r, pl, t, t', z, h, ht => by
    rw [behindM] at h
    cases hs : leaveM y pl t n with
    | none =>
      rw [hs] at h
      cases h
    | some u =>
      rw [hs] at h
      obtain ⟨u', h1, h2⟩ := leave_mono hs ht
      rw [behindM, h1]
      exact behind_mono h h2
theorem behind_append {y : DayR} : ∀ {a b : List Int} {pl t : Int}, behindM y pl t (a ++ b) = (behindM y pl t a).bind fun z => behindM y z.1 z.2 b
  | [], _, _, _ => rfl
  | n :: a, b, pl, t => by
    rw [List.cons_append, behindM, behindM]
    cases leaveM y pl t n with
    | none => rfl
    | some u => exact behind_append
/-- where a layer's entry comes from -/
theorem step_from {t : Tb} {c : Cand} {K : Ky} {v : Vl} (h : getT (stepM t c) K = some v) : getT t K = some v ∨ (c.1 = K ∧ v = (c.2.1, some c.2.2)) := by
  unfold stepM at h
  split at h
  · rw [getT_put] at h
    split at h
    · rename_i e
      cases h
      exact .inr ⟨e, rfl⟩
    · exact .inl h
  · exact .inl h
/-- the ways on from a layer -/
structure From (y : DayR) (left : List Int) (layer : Tb) (K : Ky) (v : Vl) : Prop where
  ex : ∃ k w n z, getT layer k = some w ∧ n ∈ outOf left k ∧ leaveM y (y.at k.2).p w.1 n = some z ∧ K = (srt (k.1 ++ [n]), n) ∧ v = (z, some k.2)
theorem further_from {y : DayR} {left : List Int} {layer : Tb} (hn : (layer.map (·.1)).Nodup) {K : Ky} {v : Vl} (h : getT (furtherM y left layer) K = some v) : From y left layer K v := by
  have key : ∀ K v, getT (furtherM y left layer) K = some v → From y left layer K v := by
    refine fold_inv (fun t => ∀ K v, getT t K = some v → From y left layer K v) _ (layer.map (·.1)) [] (fun K v h => by cases h) fun tb k hk ht => ?_
    obtain ⟨p, hp, rfl⟩ := List.mem_map.mp hk
    have hg : getT layer p.1 = some p.2 := getT_of_mem hn hp
    unfold furStep
    rw [hg]
    refine fold_inv (fun t => ∀ K v, getT t K = some v → From y left layer K v) _ (outOf left p.1) tb ht fun tb n hno ht => ?_
    intro K v h
    change getT (furStep1 y p.1 p.2 tb n) K = some v at h
    unfold furStep1 at h
    cases hz : leaveM y (y.at p.1.2).p p.2.1 n with
    | none =>
      rw [hz] at h
      exact ht K v h
    | some z =>
      rw [hz] at h
      rcases step_from h with h | ⟨e1, e2⟩
      · exact ht K v h
      · exact ⟨p.1, p.2, n, z, hg, hno, hz, e1.symm, e2⟩
  exact key K v h
/-- each entry of a layer is the end of an order of its stops -/
theorem layer_attained {y : DayR} {pl t : Int} {left : List Int} (hn : left.Nodup) : ∀ (j : Nat) {K : Ky} {v : Vl}, getT (layerM y pl t left j) K = some v → ∃ r : List Int, r.Perm K.1 ∧ r.getLast? = some K.2 ∧ behindM y pl t r = some ((y.at K.2).p, v.1)
  | 0, K, v, h => by
    have hk := firstM_ok (y := y) (pl := pl) (t := t) (left := left)
    have hm := getT_mem h
    have ok := hk.keys _ hm
    obtain ⟨S, l⟩ := K
    have h1 := ok.len
    have h2 := ok.mem
    dsimp only at h1 h2
    obtain ⟨a, rfl⟩ := List.length_eq_one_iff.mp h1
    obtain rfl : l = a := List.mem_singleton.mp h2
    have e := first_get (y := y) (pl := pl) (t := t) left hn l
    have h' : getT (firstM y pl t left) ([l], l) = some v := h
    rw [e] at h'
    split at h'
    · obtain ⟨z, hz, rfl⟩ := Option.map_eq_some_iff.mp h'
      refine ⟨[l], List.Perm.refl _, rfl, ?_⟩
      rw [behindM, hz]
      rfl
    · cases h'
  | j + 1, K, v, h => by
    obtain ⟨k, w, n, z, h1, h2, h3, rfl, rfl⟩ := (further_from (layer_ok j).nd h).ex
    obtain ⟨r, p, _, hb⟩ := layer_attained hn j h1
    refine ⟨r ++ [n], (List.Perm.append_right _ p).trans (srt_perm _).symm, by rw [List.getLast?_append]; rfl, ?_⟩
    rw [behind_append, hb]
    show behindM y _ _ [n] = _
    rw [behindM, h3]
    rfl
/-- no order leaves earlier than the table tells -/
theorem layer_lower {y : DayR} {pl t : Int} {left : List Int} (hn : left.Nodup) : ∀ (r : List Int) (n : Int) {z : Int × Int}, (r ++ [n]).Nodup → (∀ x ∈ r ++ [n], x ∈ left) → behindM y pl t (r ++ [n]) = some z → ∃ v, getT (layerM y pl t left r.length) (srt (r ++ [n]), n) = some v ∧ v.1 ≤ z.2 := by
  intro r
  induction hr : r.length generalizing r with
  | zero =>
    intro n z _ hs h
    obtain rfl := List.length_eq_zero_iff.mp hr
    rw [List.nil_append, behindM] at h
    cases hz : leaveM y pl t n with
    | none =>
      rw [hz] at h
      cases h
    | some u =>
      rw [hz] at h
      cases h
      refine ⟨(u, none), ?_, Int.le_refl _⟩
      rw [List.nil_append, srt_self (List.pairwise_singleton _ _)]
      show getT (firstM y pl t left) _ = _
      rw [first_get left hn, if_pos (hs n (by simp)), hz]
      rfl
  | succ j ih =>
    intro n z nd hs h
    have hne : r ≠ [] := fun q => by rw [q] at hr; cases hr
    obtain ⟨r', m, rfl⟩ : ∃ r' m, r = r' ++ [m] := ⟨_, _, (List.dropLast_concat_getLast hne).symm⟩
    rw [List.length_append, List.length_singleton] at hr
    have nd' := (List.nodup_append.mp nd).1
    rw [behind_append] at h
    cases hb : behindM y pl t (r' ++ [m]) with
    | none =>
      rw [hb] at h
      cases h
    | some u =>
      rw [hb] at h
      obtain ⟨w, hw, hle⟩ := ih r' (by omega) m nd' (fun x hx => hs x (List.mem_append_left _ hx)) hb
      have hu : u.1 = (y.at m).p := by
        rw [behind_append] at hb
        cases hq : behindM y pl t r' with
        | none =>
          rw [hq] at hb
          cases hb
        | some q =>
          rw [hq] at hb
          change behindM y q.1 q.2 [m] = some u at hb
          rw [behindM] at hb
          cases hz : leaveM y q.1 q.2 m with
          | none =>
            rw [hz] at hb
            cases hb
          | some a =>
            rw [hz] at hb
            cases hb
            rfl
      change behindM y u.1 u.2 [n] = some z at h
      rw [behindM] at h
      cases hz : leaveM y u.1 u.2 n with
      | none =>
        rw [hz] at h
        cases h
      | some a =>
        rw [hz] at h
        cases h
        rw [hu] at hz
        obtain ⟨a', ha, hle2⟩ := leave_mono hz hle
        have hno : n ∈ outOf left (srt (r' ++ [m]), m) := by
          refine mem_out.mpr ⟨hs n (by simp), fun q => ?_⟩
          have q2 := (srt_perm (r' ++ [m])).mem_iff.mp q
          exact (List.nodup_append.mp nd).2.2 n q2 n (List.mem_singleton.mpr rfl) rfl
        obtain ⟨v, hv, hvle⟩ := (further_le hw hno ha).le
        refine ⟨v, ?_, Int.le_trans hvle hle2⟩
        have e : srt (srt (r' ++ [m]) ++ [n]) = srt (r' ++ [m] ++ [n]) := srt_of ((srt_perm _).trans (List.Perm.append_right _ (srt_perm _))) (srt_le _)
        rw [e] at hv
        exact hv
end Rv

/-! ### Part Y: reversed(range(n)), sorted of a list -/
namespace Rv
open PySem L2
section
variable {X : Cx} {C : Addr} {B : Bs} {δ : DEnv} {tg e e2 : Expr} {d : D} {pos p : Pos} {k : Nat}
theorem di_revR1 {p p2 pos2 : Pos} {m : Int} (T : Bi X.mg) (h : DE X C B δ e (.int m)) (b1 : 0 ≤ m ∧ m < 2 ^ 62) (hg : Gl X "reversed" := by rfl) (hg2 : Gl X "range" := by rfl)
    (hse : starEach [.Call (.Name "range" p2) [e] [] pos2] X.env = (false, eval (.Call (.Name "range" p2) [e] [] pos2) X.env) :: starEach [] X.env := by rfl) (hse2 : starEach [e] X.env = (false, eval e X.env) :: starEach [] X.env := by rfl) :
    DI X C B δ tg (.Call (.Name "reversed" p) [.Call (.Name "range" p2) [e] [] pos2] [] pos) (rngC (m - 1) (-1) m.toNat) :=
  ⟨_, pi_revR hg T.reversed (prg_1 hg2 T.range pe_we hse2) hse, fun R σ G H Rr N q => h.run R σ G H _ N fun v G1 H1 g r => by
    obtain rfl := r.i
    refine ⟨m, rfl, by decide, by decide, by omega, b1.2, ?_⟩
    have e : (0 : Int) + (((m - 0).toNat : Nat) : Int) - 1 = m - 1 := by omega
    rw [e, Int.sub_zero]
    exact q _ G1 H1 g (wk_c _ _ _)⟩
theorem do_sortL {ns : List Int} (T : Bi X.mg) (h : DL X C B δ e (ns.map .int)) (hz : ns.length < 64) (hg : Gl X "sorted" := by rfl) (he : starEach [e] X.env = (false, eval e X.env) :: starEach [] X.env := by rfl) : DO X C B δ (.Call (.Name "sorted" p) [e] [] pos) (.lst ((srt ns).map .int)) := ⟨fun R σ G H Q N q =>
  b1 cr_sorted hg T.sorted (by decide +kernel) he (by decide) (by decide) (h.run R σ G H _ N fun c xs G' H' g r1 r2 => by
    obtain rfl := r2.ints
    refine ⟨c, ns, rfl, .of r1, hz, fun ms p o1 o2 hp => ?_⟩
    rw [srt_of o1 o2]
    exact q p G' _ (g.trans (Grow.own g.gh hp)) (g.hh.free hp) (g.gh.free hp) ⟨_, upd_same, Reps.of_ints _⟩)⟩
end
theorem rngC_rev (m : Int) : rngC (m - 1) (-1) m.toNat = (upTo m).reverse.map .int := by
  refine List.ext_getElem? fun i => ?_
  by_cases h : i < m.toNat
  · rw [rngC_get h, List.getElem?_map, List.getElem?_reverse (by rw [upTo_len]; exact h), upTo_len]
    unfold upTo
    rw [List.getElem?_map, List.getElem?_range (by omega)]
    show some (D.int (m - 1 + (i : Int) * -1)) = some (D.int ((m.toNat - 1 - i : Nat) : Int))
    congr 2
    omega
  · rw [List.getElem?_eq_none (by rw [rngC_len]; omega), List.getElem?_eq_none (by rw [List.length_map, List.length_reverse, upTo_len]; omega)]
theorem at_i {l : List Int} {i q : Int} (h0 : 0 ≤ i) (hq : l[i.toNat]? = some q) : atI (l.map D.int) i = some (.int q) := by
  have h1 := (List.getElem?_eq_some_iff.mp hq).1
  refine atI_get h0 (by rw [List.length_map]; omega) ?_
  rw [List.getElem?_map, hq]
  rfl
theorem mem_upTo {m n : Int} : n ∈ upTo m ↔ 0 ≤ n ∧ n < m := by
  unfold upTo
  constructor
  · intro h
    obtain ⟨k, hk, rfl⟩ := List.mem_map.mp h
    have := List.mem_range.mp hk
    omega
  · intro h
    exact List.mem_map.mpr ⟨n.toNat, List.mem_range.mpr (by omega), by omega⟩
theorem upTo_lt (m : Int) : (upTo m).Pairwise (· < ·) := by
  unfold upTo
  rw [List.pairwise_map]
  exact List.pairwise_lt_range.imp fun h => by omega
/-- none ahead of the first one -/
theorem find_first {m q : Int} {p : Int → Bool} (h : (upTo m).find? p = some q) {n : Int} (h0 : 0 ≤ n) (hn : n < q) : p n = false := by
  obtain ⟨_, as, bs, e, ha⟩ := List.find?_eq_some_iff_append.mp h
  have hq := mem_upTo.mp (List.mem_of_find?_eq_some h)
  have hm : n ∈ upTo m := mem_upTo.mpr ⟨h0, by omega⟩
  have hp := upTo_lt m
  rw [e] at hm hp
  rcases List.mem_append.mp hm with hm | hm
  · simpa using ha n hm
  · have h2 := (List.pairwise_append.mp hp).2.1
    rcases List.mem_cons.mp hm with rfl | hm
    · omega
    · have := (List.pairwise_cons.mp h2).1 n hm
      omega
theorem find_take {α : Type} {l : List α} {p : α → Bool} {n : Nat} {a : α} (h : l[n]? = some a) (h0 : ∀ x ∈ l.take n, p x = false) (ha : p a = true) : l.find? p = some a := by
  obtain ⟨h1, rfl⟩ := List.getElem?_eq_some_iff.mp h
  have e : l = l.take n ++ l[n] :: l.drop (n + 1) := by
    rw [← List.drop_eq_getElem_cons h1, List.take_append_drop]
  rw [List.find?_eq_some_iff_append]
  exact ⟨ha, _, _, e, fun x hx => by rw [h0 x hx]; rfl⟩
theorem good_snoc {m : Nat} {order : List Int} {n : Int} (hg : goodO m order) (h : 0 ≤ n ∧ n < (m : Int)) (hn : n ∉ order) : goodO m (order ++ [n]) :=
  ⟨fun x hx => by
    rcases List.mem_append.mp hx with hx | hx
    · exact hg.1 x hx
    · cases List.mem_singleton.mp hx
      exact h, List.nodup_append.mpr ⟨hg.2, List.nodup_cons.mpr ⟨List.not_mem_nil, List.nodup_nil⟩, fun a ha b hb e => by
    cases List.mem_singleton.mp hb
    exact hn (e ▸ ha)⟩⟩
theorem srt_tour {m : Nat} {o : List Int} (hg : goodO m o) (hl : o.length = m) : srt o = upTo (m : Int) := by
  have hp : (upTo (m : Int)).Perm o := by
    refine (List.perm_ext_iff_of_nodup (upTo_nodup _) hg.2).mpr fun x => ⟨fun hx => ?_, fun hx => mem_upTo.mpr (hg.1 x hx)⟩
    by_cases q : x ∈ o
    · exact q
    · have h1 := mem_upTo.mp hx
      have := goodO_len (good_snoc hg h1 q)
      rw [List.length_append, List.length_singleton] at this
      omega
  refine (srt_of hp ?_).symm
  exact (upTo_lt _).imp fun h => by omega
/-! the day of some stops alone -/
def partM (y : DayR) (l : List Int) : DayR := ⟨y.road, y.home, y.start, l.map y.at⟩
theorem part_ok {y : DayR} (hy : y.ok) {l : List Int} (hg : goodO y.stops.length l) : (partM y l).ok := by
  refine ⟨hy.road, hy.home, hy.start, ?_, fun s hs => ?_⟩
  · show (l.map y.at).length ≤ 7
    rw [List.length_map]
    exact Nat.le_trans (goodO_len hg) hy.few
  · obtain ⟨n, hn, rfl⟩ := List.mem_map.mp hs
    have h := hg.1 n hn
    have hl2 : n.toNat < y.stops.length := by omega
    have e : y.at n = y.stops[n.toNat] := by
      unfold DayR.at
      rw [List.getD_eq_getElem?_getD, List.getElem?_eq_getElem hl2]
      rfl
    rw [e]
    exact hy.stops _ (List.getElem_mem hl2)
theorem part_all (y : DayR) : partM y (upTo (y.stops.length : Int)) = y := by
  unfold partM
  have : (upTo (y.stops.length : Int)).map y.at = y.stops := by
    refine List.ext_getElem? fun i => ?_
    rw [List.getElem?_map]
    unfold upTo
    rw [List.getElem?_map]
    by_cases h : i < y.stops.length
    · rw [List.getElem?_range (by omega), List.getElem?_eq_getElem h]
      show some (y.at (i : Int)) = _
      unfold DayR.at
      rw [Int.toNat_natCast, List.getD_eq_getElem?_getD, List.getElem?_eq_getElem h]
      rfl
    · rw [List.getElem?_eq_none (by rw [List.length_range]; omega), List.getElem?_eq_none (by omega)]
      rfl
  rw [this]
end Rv

/-! ### Part Z: lists within tuples and lists, changed -/
namespace Rv
open PySem L2
theorem itOwn_set {q : Addr} {xs ys : List D} : ∀ {l : List Itm} {k : Nat}, l[k]? = some (.ow q xs) → itOwn (l.set k (.ow q ys)) = itOwn l
  | .st d :: l, 0, h => by cases h
  | .ow q' zs :: l, 0, h => by cases h; rfl
  | .st d :: l, k + 1, h => itOwn_set (l := l) h
  | .ow q' zs :: l, k + 1, h => congrArg (q' :: ·) (itOwn_set (l := l) h)
theorem mem_itOwn {q : Addr} {xs : List D} : ∀ {l : List Itm} {k : Nat}, l[k]? = some (.ow q xs) → q ∈ itOwn l
  | .st d :: l, 0, h => by cases h
  | .ow q' zs :: l, 0, h => by cases h; exact List.mem_cons_self
  | .st d :: l, k + 1, h => mem_itOwn (l := l) h
  | .ow q' zs :: l, k + 1, h => List.mem_cons_of_mem _ (mem_itOwn (l := l) h)
theorem ItsAt.at {M : Md} {H0 G H : Hp} {q : Addr} {xs : List D} : ∀ {vs : List V} {l : List Itm} {k : Nat}, ItsAt M H0 G H vs l → l[k]? = some (.ow q xs) → vs[k]? = some (.ref q) ∧ OwnAt M G H q (.lst xs)
  | v :: vs, .ow q' zs :: l, 0, h, e => by
    cases e
    obtain ⟨⟨rfl, _, _, h4⟩, _⟩ := h
    exact ⟨rfl, h4⟩
  | v :: vs, .st d :: l, k + 1, h, e => ItsAt.at (k := k) h.2 e
  | v :: vs, .ow q' zs :: l, k + 1, h, e => ItsAt.at (k := k) h.2 e
  | v :: vs, .st d :: l, 0, h, e => by cases e
  | [], [], _, _, e => by cases e
  | [], .st _ :: _, _, h, _ => False.elim h
  | [], .ow _ _ :: _, _, h, _ => False.elim h
  | _ :: _, [], _, h, _ => False.elim h
theorem ItsAt.setAt {M : Md} {H0 G H : Hp} {q : Addr} {xs ys : List D} {u : HO} (r : OwnAt M G (L2.upd H q u) q (.lst ys)) : ∀ {vs : List V} {l : List Itm} {k : Nat}, ItsAt M H0 G H vs l → (itOwn l).Nodup → l[k]? = some (.ow q xs) → ItsAt M H0 G (L2.upd H q u) vs (l.set k (.ow q ys))
  | v :: vs, .ow q' zs :: l, 0, h, nd, e => by
    cases e
    obtain ⟨⟨rfl, h1, h2, h4⟩, h5⟩ := h
    exact ⟨⟨rfl, h1, h2, r⟩, h5.upd (List.nodup_cons.mp nd).1⟩
  | v :: vs, .st d :: l, k + 1, h, nd, e => ⟨h.1, ItsAt.setAt r (k := k) h.2 nd e⟩
  | v :: vs, .ow q' zs :: l, k + 1, h, nd, e => by
    have nd := List.nodup_cons.mp nd
    have hm : q ∈ itOwn l := mem_itOwn (k := k) e
    have ne : q' ≠ q := fun z => nd.1 (z ▸ hm)
    obtain ⟨⟨h0, h1, h2, h4⟩, h5⟩ := h
    exact ⟨⟨h0, h1, h2, h4.upd ne⟩, ItsAt.setAt r (k := k) h5 nd.2 e⟩
  | v :: vs, .st d :: l, 0, h, nd, e => by cases e
  | [], [], _, _, _, e => by cases e
  | [], .st _ :: _, _, h, _, _ => False.elim h
  | [], .ow _ _ :: _, _, h, _, _ => False.elim h
  | _ :: _, [], _, h, _, _ => False.elim h
section
variable {X : Cx} {C : Addr} {B : Bs} {P : Post} {δ : DEnv} {a b e e2 e3 : Expr} {d : D} {p pos : Pos} {k : Nat}
theorem Fit.nestSet {M : Md} {R : Hp} {σ : St} {G H : Hp} (N : Fit M B R σ G H δ) {i : Nat} {c q : Addr} {t : Bool} {its : List Itm} {n : Nat} {xs ys : List D} {u : HO} (hi : δ[i]? = some (.nest c t its)) (hk : its[n]? = some (.ow q xs)) (r : OwnAt M G (L2.upd H q u) q (.lst ys)) : Fit M B R σ G (L2.upd H q u) (δ.set i (.nest c t (its.set n (.ow q ys)))) := by
  obtain ⟨h1, h2, h5, vs, h3, h4⟩ := N.slot i _ hi
  have hq := mem_itOwn hk
  have eo := itOwn_set (ys := ys) hk
  refine N.chg hi (.inr hq) ⟨h1, by rw [eo]; exact h2, by rw [eo]; exact h5, vs, h3.setAt r h2 hk, ?_⟩ fun z hz => by
    rcases hz with hz | hz
    · exact .inl hz
    · rw [eo] at hz
      exact .inr hz
  split
  · rename_i ht
    rw [if_pos ht] at h4
    have ne : c ≠ q := fun z => h5 ht (by rw [z]; exact hq)
    exact ⟨h4.1, h4.2.1, by rw [upd_ne ne]; exact h4.2.2⟩
  · rename_i ht
    rw [if_neg ht] at h4
    exact h4
theorem dw_nestT (i : Nat) {a : Addr} {its : List Itm} {x : Str} (h : δ[i]? = some (.nest a false its)) (hN : X.N[i]? = some x := by rfl) (hv : Vis X.env.scope x := by first | exact Or.inl rfl | exact Or.inr (Or.inl rfl) | exact Or.inr (Or.inr rfl))
    (hd : (x == ("__debug__" : Str)) = false := by decide) (hcd : (x == ("__classdict__" : Str)) = false := by decide) : DW X C B δ (.Name x pos) (.tup (its.map itD)) := dw_nest i h hN hv hd hcd
theorem dw_nestL (i : Nat) {a : Addr} {its : List Itm} {x : Str} (h : δ[i]? = some (.nest a true its)) (hN : X.N[i]? = some x := by rfl) (hv : Vis X.env.scope x := by first | exact Or.inl rfl | exact Or.inr (Or.inl rfl) | exact Or.inr (Or.inr rfl))
    (hd : (x == ("__debug__" : Str)) = false := by decide) (hcd : (x == ("__classdict__" : Str)) = false := by decide) : DW X C B δ (.Name x pos) (.lst (its.map itD)) := dw_nest i h hN hv hd hcd
theorem atI_at {vs : List V} {j : Int} {v : V} (hj : 0 ≤ j) (h : vs[j.toNat]? = some v) : atI vs j = some v := atI_get hj (by have := (List.getElem?_eq_some_iff.mp h).1; omega) h
/-- x[j].append(e), x a tuple (t = false) or own list that holds own lists -/
theorem ds_appendAt (i : Nat) {c q : Addr} {its : List Itm} {t : Bool} {j : Int} {l : List D} {x : Str} {jj : Nat} {p0 p1 p2 p3 pj : Pos} (hi : δ[i]? = some (.nest c t its)) (hj : 0 ≤ j) (hk : its[j.toNat]? = some (.ow q l)) (he : DE X C B δ e d) (hz : l.length < sizeLine) (h : P.nx (δ.set i (.nest c t (its.set j.toNat (.ow q (l ++ [d])))))) (hN : X.N[i]? = some x := by rfl) (hv : Vis X.env.scope x := by first | exact Or.inl rfl | exact Or.inr (Or.inl rfl) | exact Or.inr (Or.inr rfl))
    (hd : (x == ("__debug__" : Str)) = false := by decide) (hcd : (x == ("__classdict__" : Str)) = false := by decide)
    (hbase : attributeBase (.Subscript (.Name x p0) (.Constant (.int j) jj pj) p1) "append" X.env (eval (.Subscript (.Name x p0) (.Constant (.int j) jj pj) p1) X.env) = eval (.Subscript (.Name x p0) (.Constant (.int j) jj pj) p1) X.env := by rfl)
    (hfew : ((backTo p3 (starEach [e] X.env)).all (fun x => !x.1) && (backToKw p3 (keywordEach [] X.env)).all (fun x => x.1.isSome)
      && decide (([e] : List Expr).length + ([] : List Keyword).length + (if ([] : List Keyword).isEmpty then 0 else 1) < 30)) = true := by rfl)
    (hline : (p2.endLine == p3.line) = true := by rfl) (hs : starEach [e] X.env = (false, eval e X.env) :: starEach [] X.env := by rfl) (hplain : (backTo p3 (starEach [] X.env)).any (·.1) = false := by rfl)
    (hsw : swapsWith (.Call (.Attribute (.Subscript (.Name x p0) (.Constant (.int j) jj pj) p1) "append" p2) [e] [] p3) none pos.line X.env = pure false := by rfl) :
    DS X C B P δ (.Expr (.Call (.Attribute (.Subscript (.Name x p0) (.Constant (.int j) jj pj) p1) "append" p2) [e] [] p3) pos) := ⟨fun R D' pk σ G H N => by
  obtain ⟨h1, h2, h5, vs, h3, h4⟩ := N.slot i _ hi
  obtain ⟨k1, xs, k2, k3⟩ := h3.at hk
  have fin : ∀ v G' H', Grow G H G' H' → Rep (md X C) G' v d → H' q = some (.lst xs) ∧ xs.length < sizeLine ∧ D'.nx σ (L2.upd H' q (.lst (xs ++ [v]))) := fun v G' H' g r => by
    have k2' := g.hh q _ k2
    exact ⟨k2', by rw [k3.length]; exact hz, pk.nx _ _ G' _ h ((N.go g).nestSet hi hk ⟨xs ++ [v], upd_same, (k3.mono g.gg).append (.cons r .nil)⟩)⟩
  cases t with
  | false =>
    rw [if_neg Bool.false_ne_true] at h4
    refine ws (ps_expr (pe_bm PySem.F.plainAttrs_list PySem.F.slot_list_append PySem.F.type_list_append mt_append (pe_ix ix_tup (pe_var hN hv hd hcd) pe_int (fun _ _ => rfl)) (pa_cons pe_we pa_nil hs) hbase hfew hline hs hplain) hsw) ⟨_, h1, _, vs, j, _, rfl, rfl, N.gh.st h4, atI_at hj k1, .inl ⟨rfl, _, .of k2⟩, ?_⟩
    exact he.run R σ G H _ N fun v G' H' g r => ⟨q, xs, v, rfl, rfl, fin v G' H' g r⟩
  | true =>
    rw [if_pos rfl] at h4
    refine ws (ps_expr (pe_bm PySem.F.plainAttrs_list PySem.F.slot_list_append PySem.F.type_list_append mt_append (pe_ix ix_list (pe_var hN hv hd hcd) pe_int (fun _ _ => rfl)) (pa_cons pe_we pa_nil hs) hbase hfew hline hs hplain) hsw) ⟨_, h1, _, vs, j, _, rfl, rfl, .of h4.2.2, atI_at hj k1, .inl ⟨rfl, _, .of k2⟩, ?_⟩
    exact he.run R σ G H _ N fun v G' H' g r => ⟨q, xs, v, rfl, rfl, fin v G' H' g r⟩⟩
end
end Rv

/-! ### Part W: tables compared, copied, emptied -/
namespace Rv
open PySem L2 PyProof.Rows
section
variable {prog : Program} {w : World} {K : Type} [DecidableEq K] {knd : HeapKind prog w K} {A : Around} {E : Value → Shared → Prop} {s : Shared}
theorem samePairsH {nm : String} {a b : Addr} {xa xb : List (K × Addr × Value)} {Q : Bool → Shared → Prop} (ha : (a == sysModules) = false) (hb : (b == sysModules) = false)
    (da : s.heap.DictOfH knd a xa) (db : s.heap.DictOfH knd b xb) (hu : knd.room A) (hl : xa.length = xb.length)
    (hits : ∀ (i : Nat) (k : K) (p : Addr) (v : Value), xa[i]? = some (k, p, v) → (∃ (j : Nat) (p' : Addr) (v' : Value), xb[j]? = some (k, p', v')) ∧ ∀ (j : Nat) (p' : Addr) (v' : Value), xb[j]? = some (k, p', v') → SeqAt.EqAt A s v v' true) (h : Q true s) :
    wpAny (model prog w) A (Builtin.Dict.samePairs nm a b) Q E s := by
  obtain ⟨oa, es, ep, hoa, _, hda, hea, hia, hna⟩ := da
  obtain ⟨ob, es', ep', hob, _, hdb, heb, hib, hnb⟩ := db
  have hla : xa.length = es.size := by rw [← Array.length_toList, hea, List.length_map]
  have hlb : xb.length = es'.size := by rw [← Array.length_toList, heb, List.length_map]
  unfold Builtin.Dict.samePairs Builtin.Dict.showsAll
  rw [if_neg (show ¬ (a == sysModules) = true by rw [ha]; exact Bool.false_ne_true), if_neg (show ¬ (b == sysModules) = true by rw [hb]; exact Bool.false_ne_true)]
  refine wpAny_bind (wpAny_pure (wpAny_bind (wpAny_pure ?_)))
  refine wpAny_bind (wpAny_dictEntries hoa hda ?_)
  dsimp only
  refine wpAny_bind (wpAny_dictEntries hob hdb ?_)
  have hsz : es.size = es'.size := by omega
  rw [if_neg (by rw [hsz]; simp)]
  refine wpAny_bind (wpAny_dictEpoch hoa hda ?_)
  refine wpAny_bind ?_
  rw [Std.Legacy.Range.forIn_eq_forIn_range']
  simp only [Std.Legacy.Range.size, Nat.sub_zero, Nat.add_sub_cancel, Nat.div_one]
  refine wpAny_forIn_list _
    (fun rest q s' => s' = s ∧ q = (none, ()) ∧ ∃ i, rest = List.range' i (es.size - i) ∧ i ≤ es.size)
    _ ?_ ?_ _ _ ⟨rfl, rfl, 0, by simp, Nat.zero_le _⟩
  · rintro x rest q s' ⟨rfl, rfl, i, hr, hi⟩
    have hlt : i < es.size := by
      rcases Nat.lt_or_ge i es.size with h | h
      · exact h
      · rw [Nat.sub_eq_zero_of_le h] at hr; simp at hr
    obtain ⟨rfl, hrest⟩ : x = i ∧ rest = List.range' (i + 1) (es.size - (i + 1)) := by
      have e : es.size - i = (es.size - (i + 1)) + 1 := by omega
      rw [e, List.range'_succ] at hr
      injection hr with h1 h2
      exact ⟨h1, h2⟩
    refine wpAny_bind (wpAny_dictEntries hoa hda ?_)
    rw [Array.getElem?_eq_getElem hlt]
    have hlt' : x < xa.length := by rw [hla]; exact hlt
    obtain ⟨k, p, v, hkv⟩ : ∃ k p v, xa[x]? = some (k, p, v) := ⟨_, _, _, List.getElem?_eq_getElem hlt'⟩
    have hent : es[x] = entryOfKey knd (k, p, v) := by
      have : es.toList[x]? = some (entryOfKey knd (k, p, v)) := by rw [hea, List.getElem?_map, hkv]; rfl
      rw [Array.getElem?_toList, Array.getElem?_eq_getElem hlt] at this
      exact Option.some.inj this
    obtain ⟨⟨j0, p0, v0, h0⟩, hv⟩ := hits x k p v hkv
    have hkp := hia _ (List.mem_of_getElem? hkv)
    show wpAny _ _ (holding [es[x].key, es[x].val] _ >>= _) _ _ _
    rw [hent]
    refine wpAny_bind (wpAny_holding (wpAny_bind (wpAny_dictFind_heap (k := k) hu hkp hob hdb heb hib hnb (fun hno => absurd h0 (hno j0 (p0, v0))) fun j q hj => ?_)))
    obtain ⟨p', v'⟩ := q
    refine wpAny_bind (wpAny_dictEntries hob hdb ?_)
    have hjl : j < es'.size := by rw [← hlb]; exact (List.getElem?_eq_some_iff.mp hj).1
    have hent' : es'[j] = entryOfKey knd (k, p', v') := by
      have : es'.toList[j]? = some (entryOfKey knd (k, p', v')) := by rw [heb, List.getElem?_map, hj]; rfl
      rw [Array.getElem?_toList, Array.getElem?_eq_getElem hjl] at this
      exact Option.some.inj this
    rw [Array.getElem?_eq_getElem hjl]
    dsimp only
    rw [hent']
    refine wpAny_holding (hv j p' v' hj _ _ _ _ ?_)
    show wpAny _ _ (if (!true) = true then _ else _) _ _ _
    rw [if_neg (by decide)]
    refine wpAny_bind (wpAny_dictEpoch hoa hda ?_)
    rw [if_neg (by simp)]
    exact wpAny_pure ⟨rfl, rfl, x + 1, hrest, hlt⟩
  · rintro q s' ⟨rfl, rfl, i, hr, hi⟩
    exact wpAny_pure h
theorem keqH {a b : Addr} {xa xb : List (K × Addr × Value)} {Q : Value → Shared → Prop} (ha : (a == sysModules) = false) (hb : (b == sysModules) = false)
    (da : s.heap.DictOfH knd a xa) (db : s.heap.DictOfH knd b xb) (hu : knd.room A.in1) (hu2 : A.units < cLine) (hl : xa.length = xb.length)
    (hits : ∀ (i : Nat) (k : K) (p : Addr) (v : Value), xa[i]? = some (k, p, v) → (∃ (j : Nat) (p' : Addr) (v' : Value), xb[j]? = some (k, p', v')) ∧ ∀ (j : Nat) (p' : Addr) (v' : Value), xb[j]? = some (k, p', v') → SeqAt.EqAt A.in1 s v v' true) (h : Q (.bool true) s) :
    wpAny (model prog w) A (compareOp .Eq (.ref a) (.ref b)) Q E s := by
  refine wpAny_richCompare_same_room (op := .Eq) da.typeIs db.typeIs PySem.F.slot_dict_eq (wpAny_call_entry PySem.F.slot_dict_eq da.typeIs PySem.F.entry_dict_eq ?_ (PySem.F.args_dict_eq_2 _ _)) hu2
  show wpAny _ _ (Builtin.Dict.dictSlotArgs "__eq__" ⟨[.ref a, .ref b], []⟩ >>= _) _ _ s
  refine wpAny_bind ?_
  unfold Builtin.Dict.dictSlotArgs
  refine wpAny_bind (wpAny_notOrdered_dict da.typeIs ?_)
  show wpAny _ _ (pure (Value.ref a, Value.ref b)) _ _ s
  refine wpAny_pure ?_
  refine wpAny_bind (wpAny_isInstance (T := "dict") db.typeIs PySem.F.sub_dict_dict ?_)
  simp only [Bool.not_true, Bool.false_eq_true, if_false]
  refine wpAny_bind (wpAny_pure (wpAny_bind (wpAny_pure ?_)))
  refine wpAny_bind (samePairsH ha hb da db hu hl hits ?_)
  exact wpAny_pure ⟨_, rfl, (fun x => nomatch x), h⟩
theorem kneH {a b : Addr} {xa xb : List (K × Addr × Value)} {Q : Value → Shared → Prop} (ha : (a == sysModules) = false) (hb : (b == sysModules) = false)
    (da : s.heap.DictOfH knd a xa) (db : s.heap.DictOfH knd b xb) (hu : knd.room A.in1) (hu2 : A.units < cLine) (hl : xa.length = xb.length)
    (hits : ∀ (i : Nat) (k : K) (p : Addr) (v : Value), xa[i]? = some (k, p, v) → (∃ (j : Nat) (p' : Addr) (v' : Value), xb[j]? = some (k, p', v')) ∧ ∀ (j : Nat) (p' : Addr) (v' : Value), xb[j]? = some (k, p', v') → SeqAt.EqAt A.in1 s v v' true) (h : Q (.bool false) s) :
    wpAny (model prog w) A (compareOp .NotEq (.ref a) (.ref b)) Q E s := by
  refine wpAny_richCompare_same_room (op := .NotEq) da.typeIs db.typeIs PySem.F.slot_dict_ne (wpAny_call_entry PySem.F.slot_dict_ne da.typeIs PySem.F.entry_dict_ne ?_ (PySem.F.args_dict_ne_2 _ _)) hu2
  show wpAny _ _ (Builtin.Dict.dictSlotArgs "__ne__" ⟨[.ref a, .ref b], []⟩ >>= _) _ _ s
  refine wpAny_bind ?_
  unfold Builtin.Dict.dictSlotArgs
  refine wpAny_bind (wpAny_notOrdered_dict da.typeIs ?_)
  show wpAny _ _ (pure (Value.ref a, Value.ref b)) _ _ s
  refine wpAny_pure ?_
  refine wpAny_bind (wpAny_isInstance (T := "dict") db.typeIs PySem.F.sub_dict_dict ?_)
  simp only [Bool.not_true, Bool.false_eq_true, if_false]
  refine wpAny_bind (wpAny_pure (wpAny_bind (wpAny_pure ?_)))
  refine wpAny_bind (samePairsH ha hb da db hu hl hits ?_)
  exact wpAny_pure ⟨_, rfl, (fun x => nomatch x), h⟩
/-- dict(d): keys that are tuples -/
theorem call_dict_ofH {o : Addr} {more : List (K × Addr × Value)} {Q : Value → Shared → Prop} (hu : knd.room A.in1.in1) (hoS : (o == sysModules) = false) (ho : s.heap.DictOfH knd o more) (hst : ∀ h' : Heap, (∀ b ob, s.heap.get? b = some ob → h'.get? b = some ob) → h'.DictOfH knd o more)
    (hty : ∀ x ∈ more, s.TypeIs (.ref x.2.1) "tuple") (hap : (more.map fun x => knd.hash x.1).Nodup) (hsz : more.length ≤ sizeLine)
    (h : ∀ h' : Heap, h'.DictOfH knd s.heap.objs.size more → (∀ b ob, s.heap.get? b = some ob → h'.get? b = some ob) → Q (.ref s.heap.objs.size) { s with heap := h' }) :
    wpAny (model prog w) A (call (.type "dict") [.ref o]) Q E s := by
  have hn := ho.nodup
  have hdo : s.heap.objs.size ≠ o := by
    obtain ⟨_, _, _, hg, _⟩ := ho
    exact fun e => absurd (Heap.lt_size hg) (by rw [e]; exact Nat.lt_irrefl _)
  refine callType_codes (Q₁ := fun obj s₁ => obj = .ref s.heap.objs.size ∧ s₁ = { s with heap := s.heap.push { cls := .type "dict", data := .dict #[] } }) PySem.F.kt_called_dict (PySem.F.kt_typeCall_dict_1 _) PySem.F.entry_dict_init (kt_code_dict_new _ ⟨rfl, rfl⟩) ?_
  rintro obj s₁ ⟨rfl, rfl⟩
  have hT : Shared.TypeIs { s with heap := s.heap.push { cls := .type "dict", data := .dict #[] } } (.ref s.heap.objs.size) "dict" := ⟨_, Heap.get?_push_size _ rfl, rfl⟩
  have keep : ∀ b ob, s.heap.get? b = some ob → (s.heap.push { cls := .type "dict", data := .dict #[] }).get? b = some ob := fun b ob e => Heap.get?_push_of_some _ e
  refine ⟨hT, PySem.F.args_dict_init_2 _ _, ?_⟩
  unfold Builtin.«dict.__init__»
  refine wpAny_bind ?_
  unfold Builtin.Dict.selfAndRest
  refine wpAny_bind (wpAny_notOrdered_dict hT ?_)
  show wpAny _ _ (pure (s.heap.objs.size, [Value.ref o])) _ _ _
  refine wpAny_pure ?_
  refine updateFrom_dictH (A := A.in1) (knd := knd) (kvs := []) (more := more) .none hu hdo hoS (Heap.DictOfH.new s.heap) (hst _ keep) (.inr ⟨fun x hx => ?_, hap⟩) (by simpa using hsz) fun h' hd' ho' hs => ?_
  · obtain ⟨ob, e1, e2⟩ := hty x hx
    exact ⟨ob, keep _ _ e1, e2⟩
  · rw [storedAllH_nil_of_nodup more hn] at hd'
    exact ⟨rfl, h h' hd' fun b ob e => (hs.2 b (fun z => by subst z; exact absurd (Heap.lt_size e) (Nat.lt_irrefl _))).trans (keep b ob e)⟩
end
/-! #### the rules -/
theorem RepE.get {M : Md} {G : Hp} : ∀ {xs : List (NestedKey × Addr × Addr)} {t : Tb} {i : Nat} {x : NestedKey × Addr × Addr}, RepE M G xs (tD t) → xs[i]? = some x → ∃ p, t[i]? = some p ∧ x.1 = nk (kD p.1) ∧ Rep M G (.ref x.2.1) (kD p.1) ∧ Rep M G (.ref x.2.2) (vD p.2)
  | [], _, _, _, _, h => by cases h
  | _ :: _, [], _, _, r, _ => by cases r
  | x :: xs, p :: t, 0, y, .cons hk h1 h2 _, h => by
    cases h
    exact ⟨p, rfl, hk, h1, h2⟩
  | x :: xs, p :: t, i + 1, y, .cons _ _ _ r, h => RepE.get (i := i) r h
theorem RepE.keys {M : Md} {G : Hp} : ∀ {xs : List (NestedKey × Addr × Addr)} {t : Tb}, RepE M G xs (tD t) → xs.map (·.1) = t.map fun p => nk (kD p.1)
  | [], [], _ => rfl
  | [], _ :: _, r => by cases r
  | _ :: _, [], r => by cases r
  | x :: xs, p :: t, .cons hk _ _ r => by rw [List.map_cons, List.map_cons, hk, RepE.keys r]
theorem PdN.vD (v : Vl) : PdN 2 (Rv.vD v) := .tup fun d hd => by
  simp only [List.mem_cons, List.not_mem_nil, or_false] at hd
  rcases hd with rfl | rfl
  · exact .int _
  · obtain ⟨z, o⟩ := v
    cases o with
    | none => exact .non
    | some b => exact .int b
section
variable {X : Cx} {C : Addr} {B : Bs} {P : Post} {δ : DEnv} {a b e : Expr} {d : D} {pos p : Pos} {k : Nat} {pins : List (Addr × Obj)} {σ : St} {H : Hp} {s : Shared}
/-- two dicts of like tables -/
def rEqN (X : Cx) (C : Addr) (v : Bool) : R2 := fun x y H Q => ∃ (c1 c2 : Addr) (xs1 xs2 : List (NestedKey × Addr × Addr)) (e1 e2 : Nat) (t : Tb), x = .ref c1 ∧ y = .ref c2 ∧ H c1 = some (dN X.prog X.w c1 xs1 e1) ∧ H c2 = some (dN X.prog X.w c2 xs2 e2) ∧ RepE (md X C) H xs1 (tD t) ∧ RepE (md X C) H xs2 (tD t) ∧ (t.map (·.1)).Nodup ∧ Q (.bl v) H
theorem hits_n {A : Around} {xs1 xs2 : List (NestedKey × Addr × Addr)} {t : Tb} (I : Inv X pins σ H s) (hu : A.units + 64 < cLine) (r1 : RepE (md X C) H xs1 (tD t)) (r2 : RepE (md X C) H xs2 (tD t)) (nd : (t.map (·.1)).Nodup) :
    ∀ (i : Nat) (k : NestedKey) (p : Addr) (v : Value), (xs1.map vx)[i]? = some (k, p, v) → (∃ (j : Nat) (p' : Addr) (v' : Value), (xs2.map vx)[j]? = some (k, p', v')) ∧ ∀ (j : Nat) (p' : Addr) (v' : Value), (xs2.map vx)[j]? = some (k, p', v') → SeqAt.EqAt A s v v' true := by
  intro i k p v h
  rw [List.getElem?_map] at h
  obtain ⟨x, hx, ex⟩ := Option.map_eq_some_iff.mp h
  obtain ⟨q, hq, k1, k2, k3⟩ := r1.get hx
  cases ex
  have l1 := r1.length
  have l2 := r2.length
  have hi : i < xs2.length := by
    have := (List.getElem?_eq_some_iff.mp hx).1
    omega
  constructor
  · obtain ⟨x2, hx2⟩ := lt_get hi
    obtain ⟨q2, hq2, j1, j2, j3⟩ := r2.get hx2
    rw [hq] at hq2
    cases hq2
    refine ⟨i, x2.2.1, .ref x2.2.2, ?_⟩
    rw [List.getElem?_map, hx2]
    show some (x2.1, x2.2.1, Value.ref x2.2.2) = _
    rw [j1, ← k1]
  · intro j p' v' hj
    rw [List.getElem?_map] at hj
    obtain ⟨x2, hx2, ex2⟩ := Option.map_eq_some_iff.mp hj
    obtain ⟨q2, hq2, j1, j2, j3⟩ := r2.get hx2
    have e1 : x2.1 = x.1 := congrArg (fun z : NestedKey × Addr × Value => z.1) ex2
    have e3 : v' = .ref x2.2.2 := (congrArg (fun z : NestedKey × Addr × Value => z.2.2) ex2).symm
    have ek : q2.1 = q.1 := nk_inj.mp (j1.symm.trans (e1.trans k1))
    have g1 := getT_of_mem nd (List.mem_of_getElem? hq)
    have g2 := getT_of_mem nd (List.mem_of_getElem? hq2)
    rw [ek, g1] at g2
    have ev : q.2 = q2.2 := Option.some.inj g2
    rw [← ev] at j3
    obtain ⟨y, y1, y2, y3⟩ := (PdN.vD q.2).ex
    obtain ⟨as, ra⟩ := Dp.reads I y _ _ (rep_dp k3 y1) (show RelV (V.ref x.2.2) (Value.ref x.2.2) from rfl)
    obtain ⟨bs, rb⟩ := Dp.reads I y _ _ (rep_dp j3 y1) (show RelV (V.ref x2.2.2) (Value.ref x2.2.2) from rfl)
    have := SeqAt.eqAt_reads y y A s _ _ as bs ra rb y2 y2 (by rw [Nat.min_self]; omega)
    rw [SeqAt.eqv_refl y y2] at this
    rw [e3]
    exact this
theorem op_eqN (hu : X.A.units + 128 < cLine) : OpR X (compareOp .Eq) (rEqN X C true) := by
  intro pins s σ H x y v u Q I rx ry h
  obtain ⟨c1, c2, xs1, xs2, e1, e2, t, rfl, rfl, h1, h2, r1, r2, nd, q⟩ := h
  obtain rfl : v = Value.ref c1 := rx
  obtain rfl : u = Value.ref c2 := ry
  obtain ⟨_, d1, s1, _⟩ := dn_of I h1 r1
  obtain ⟨_, d2, s2, _⟩ := dn_of I h2 r2
  exact keqH s1 s2 d1 d2 (by show X.A.units + 1 + 8 < cLine; omega) (by omega) (by rw [List.length_map, List.length_map, r1.length, r2.length]) (hits_n I (by show X.A.units + 1 + 64 < cLine; omega) r1 r2 nd) ⟨.bl true, H, I, rfl, q⟩
theorem op_neN (hu : X.A.units + 128 < cLine) : OpR X (compareOp .NotEq) (rEqN X C false) := by
  intro pins s σ H x y v u Q I rx ry h
  obtain ⟨c1, c2, xs1, xs2, e1, e2, t, rfl, rfl, h1, h2, r1, r2, nd, q⟩ := h
  obtain rfl : v = Value.ref c1 := rx
  obtain rfl : u = Value.ref c2 := ry
  obtain ⟨_, d1, s1, _⟩ := dn_of I h1 r1
  obtain ⟨_, d2, s2, _⟩ := dn_of I h2 r2
  exact kneH s1 s2 d1 d2 (by show X.A.units + 1 + 8 < cLine; omega) (by omega) (by rw [List.length_map, List.length_map, r1.length, r2.length]) (hits_n I (by show X.A.units + 1 + 64 < cLine; omega) r1 r2 nd) ⟨.bl false, H, I, rfl, q⟩
theorem Rep.mD {M : Md} {G : Hp} {v : V} {t : Tb} (h : Rep M G v (.dic (tD t))) : ∃ c xs ep, v = .ref c ∧ G c = some (dN M.P M.w c xs ep) ∧ RepE M G xs (tD t) := h.m
theorem dc_eqD (hx : XOk X C B k) {t : Tb} (ha : DW X C B δ a (.dic (tD t))) (hb : DW X C B δ b (.dic (tD t))) (nd : (t.map (·.1)).Nodup) : DC X C B δ .Eq a b true :=
  ⟨_, op_eqN (C := C) (by have := hx.hr.un; omega), nomark b, fun R σ G H Q N z => ha.run R σ G H _ N fun v G1 H1 g1 r1 => hb.run R σ G1 H1 _ (N.go g1) fun u G2 H2 g2 r2 => by
    obtain ⟨c1, x1, p1, rfl, h1, q1⟩ := (r1.mono g2.hh).m
    obtain ⟨c2, x2, p2, rfl, h2, q2⟩ := r2.m
    exact ⟨c1, c2, x1, x2, p1, p2, t, rfl, rfl, h1, h2, q1, q2, nd, z G2 H2 (g1.trans g2)⟩⟩
theorem dc_neD (hx : XOk X C B k) {t : Tb} (ha : DW X C B δ a (.dic (tD t))) (hb : DW X C B δ b (.dic (tD t))) (nd : (t.map (·.1)).Nodup) : DC X C B δ .NotEq a b false :=
  ⟨_, op_neN (C := C) (by have := hx.hr.un; omega), nomark b, fun R σ G H Q N z => ha.run R σ G H _ N fun v G1 H1 g1 r1 => hb.run R σ G1 H1 _ (N.go g1) fun u G2 H2 g2 r2 => by
    obtain ⟨c1, x1, p1, rfl, h1, q1⟩ := (r1.mono g2.hh).m
    obtain ⟨c2, x2, p2, rfl, h2, q2⟩ := r2.m
    exact ⟨c1, c2, x1, x2, p1, p2, t, rfl, rfl, h1, h2, q1, q2, nd, z G2 H2 (g1.trans g2)⟩⟩
/-! d.clear() -/
def rClearN (X : Cx) (C : Addr) : V → List V → Hp → VK → Prop := fun x vs H Q => ∃ (c : Addr) (xs : List (NestedKey × Addr × Addr)) (ep : Nat) (t : Tb), x = .ref c ∧ vs = [] ∧ H c = some (dN X.prog X.w c xs ep) ∧ RepE (md X C) H xs (tD t) ∧ ∀ ep', Q .non (upd H c (dN X.prog X.w c [] ep'))
theorem mtd_clearN : MtR X "dict.clear" (rClearN X C) := by
  intro pins s σ H x vs v us Q I rx rv h
  obtain ⟨c, xs, ep, t, ex, ev, e, r, q⟩ := h
  subst ex
  subst ev
  obtain rfl : v = Value.ref c := rx
  have hus := rv.zero
  subst hus
  obtain ⟨_, dd, hd, z⟩ := dn_of I e r
  refine clear_keyed (kvs := pairsH (xs.map vx)) ⟨_, dd, rfl⟩ (fun h' hm sb => ?_) (by rw [pairsH_length, List.length_map]; exact z)
  obtain ⟨ys, dd', ey⟩ := hm
  have : ys = ([] : List (NestedKey × Addr × Addr)).map vx := by
    cases ys with
    | nil => rfl
    | cons a l => cases ey
  subst this
  obtain ⟨ep', ok⟩ := dn_ok (X := X) dd' hd (Nat.zero_le _)
  obtain ⟨o, _, _, ho', _⟩ := id dd'
  exact ⟨.non, _, I.write (t' := s.toks) (by rw [e]; exact True.intro) (.inl rfl) (fun b u hb q => (sb.2 b hb).trans q) ⟨o, ho'⟩ (ok _), rfl, q ep'⟩
theorem pe_clearN {o : Expr} {to : TE} {apos cpos : Pos} (ho : PE X o to) (hbase : attributeBase o "clear" X.env (eval o X.env) = eval o X.env := by rfl) (hline : (apos.endLine == cpos.line) = true := by rfl) : PE X (.Call (.Attribute o "clear" apos) [] [] cpos) (fun σ H Q => to σ H fun x H1 => rClearN X C x [] H1 Q) := by
  refine ⟨fun pins s σ H Q I h => ?_⟩
  refine wpAny_Call_method0_late hbase hline (thn (ho.run pins s σ H _ I h) fun v s1 ⟨x, H1, I1, r1, q1⟩ => ?_)
  obtain ⟨c, xs, ep, t, ex, ev, e, r, q⟩ := id q1
  subst ex
  obtain rfl : v = Value.ref c := r1
  obtain ⟨⟨ob, es, k1, k2, _⟩, _⟩ := I1.hok c _ e
  exact ⟨"dict", "dict.clear", PySem.F.plainAttrs_dict, PySem.F.slot_dict_clear, PySem.F.type_dict_clear, ⟨ob, k1, k2.1⟩, (fun a ea => by cases ea; exact ⟨ob, k1, k2.2.1⟩), Calls.callWith_builtin rfl (PySem.evalArgs_none (mtd_clearN (C := C) pins s1 σ H1 (.ref c) [] (.ref c) [] Q I1 rfl .nil q1))⟩
theorem ds_clearD (i : Nat) {t : Tb} {x : Str} {p1 p2 p3 : Pos} (hi : δ[i]? = some (.ow (.dic (tD t)))) (h : P.nx (δ.set i (.ow (.dic (tD []))))) (hN : X.N[i]? = some x := by rfl) (hv : Vis X.env.scope x := by first | exact Or.inl rfl | exact Or.inr (Or.inl rfl) | exact Or.inr (Or.inr rfl))
    (hd : (x == ("__debug__" : Str)) = false := by decide) (hcd : (x == ("__classdict__" : Str)) = false := by decide)
    (hbase : attributeBase (.Name x p1) "clear" X.env (eval (.Name x p1) X.env) = eval (.Name x p1) X.env := by rfl) (hline : (p2.endLine == p3.line) = true := by rfl)
    (hsw : swapsWith (.Call (.Attribute (.Name x p1) "clear" p2) [] [] p3) none pos.line X.env = pure false := by rfl) : DS X C B P δ (.Expr (.Call (.Attribute (.Name x p1) "clear" p2) [] [] p3) pos) := ⟨fun R D' pk σ G H N => by
  obtain ⟨p, h1, h2, h3, xs, ep, h4, h5⟩ := N.slot i _ hi
  refine ws (ps_expr (pe_clearN (C := C) (pe_var hN hv hd hcd) hbase hline) hsw) ⟨_, h1, p, xs, ep, t, rfl, rfl, h4, h5.mono N.gh, fun ep' => pk.nx _ _ G _ h (N.write hi h1 ⟨[], ep', upd_same, .nil⟩)⟩⟩
/-! dict(d) -/
def HashOk (w : World) (t : Tb) : Prop := (t.map fun p => (nk (kD p.1)).hash w).Nodup
def rDictN (X : Cx) (C : Addr) : List V → Hp → VK → Prop := fun vs H Q => ∃ (c : Addr) (xs : List (NestedKey × Addr × Addr)) (ep : Nat) (t : Tb), vs = [.ref c] ∧ H c = some (dN X.prog X.w c xs ep) ∧ RepE (md X C) H xs (tD t) ∧ HashOk X.w t ∧ ∀ p ep', H p = none → Q (.ref p) (upd H p (dN X.prog X.w p xs ep'))
theorem rep_ty {c : Addr} {q : Ky} (I : Inv X pins σ H s) (r : Rep (md X C) H (.ref c) (kD q)) : s.TypeIs (.ref c) "tuple" := by
  obtain ⟨c0, xs, e, h1, h2⟩ := r.t
  cases e
  obtain ⟨its, rv, ⟨ob, ho, hc, _⟩, _⟩ := I.tuple h1
  exact ⟨ob, ho, hc⟩
theorem call_dictN (hu : X.A.units + 64 < cLine) : CallR X (.type "dict") (rDictN X C) := by
  intro pins s σ H vs us Q I r h
  obtain ⟨c, xs, ep, t, rfl, e, r2, hh, q⟩ := h
  obtain ⟨u, rfl, rx⟩ := vals1 r
  obtain rfl : u = .ref c := rx
  obtain ⟨_, dd, hd, z⟩ := dn_of I e r2
  have em : ((xs.map vx).map fun x => (nestedKind X.prog X.w).hash x.1) = t.map fun p => (nk (kD p.1)).hash X.w := by
    have := congrArg (List.map fun k : NestedKey => k.hash X.w) r2.keys
    rw [List.map_map, List.map_map] at this
    rw [List.map_map]
    exact this
  refine call_dict_ofH (by show X.A.units + 1 + 1 + 8 < cLine; omega) hd dd (fun h' k => (dn_of (I.kept (t' := s.toks) k) e r2).2.1) (fun x hx => ?_) (by rw [em]; exact hh) (by rw [List.length_map]; exact z) fun h' hm k => ?_
  · obtain ⟨y, hy, rfl⟩ := List.mem_map.mp hx
    obtain ⟨q2, _, e2⟩ := rep_dn r2 y hy
    exact rep_ty I e2
  · obtain ⟨ep', ok⟩ := dn_ok (X := X) hm (beq_eq_false_iff_ne.mpr (Ne.symm (Nat.ne_of_lt I.big))) z
    exact ⟨.ref _, _, I.laid (t' := s.toks) k (Nat.le_refl _) (ok _), rfl, q _ ep' (I.hok.fresh (Nat.le_refl _))⟩
theorem do_dictD {t : Tb} (T : Bi X.mg) (hx : XOk X C B k) (h : DM X C B δ e (tD t)) (hh : HashOk X.w t) (hg : Gl X "dict" := by rfl) (he : starEach [e] X.env = (false, eval e X.env) :: starEach [] X.env := by rfl) : DO X C B δ (.Call (.Name "dict" p) [e] [] pos) (.dic (tD t)) := ⟨fun R σ G H Q N q =>
  t1 (call_dictN (C := C) hx.hr.units) hg T.dict (by decide +kernel) he (by decide) (by decide) (h.run R σ G H _ N fun c xs ep G' H' g r1 r2 => ⟨c, xs, ep, t, rfl, r1, r2.mono g.gh, hh, fun p ep' hp => q p G' _ (g.trans (Grow.own g.gh hp)) (g.hh.free hp) (g.gh.free hp) ⟨xs, ep', upd_same, r2⟩⟩)⟩
end
end Rv

/-! ### Part V: the tables' keys hash apart -/
namespace Rv
open PySem L2
/-- hash(k), of a table's key -/
def hk (k : Ky) : Int := reduceHash (Builtin.Tuple.tupleHashOf [reduceHash (Builtin.Tuple.tupleHashOf (k.1.map hashInt)), hashInt k.2])
theorem hashes_ints (w : World) : ∀ l : List Int, NestedKey.hashes w (l.map NestedKey.num) = l.map hashInt
  | [] => rfl
  | a :: l => by
    rw [List.map_cons, List.map_cons, NestedKey.hashes, hashes_ints w l, NestedKey.hash]
theorem hash_kD (w : World) (k : Ky) : (nk (kD k)).hash w = hk k := by
  rw [nk_kD]
  simp only [NestedKey.hash, NestedKey.hashes, hashes_ints]
  rfl
def sevenS : List (List Int) := ([0, 1, 2, 3, 4, 5, 6] : List Int).foldr (fun a ls => ls.map (a :: ·) ++ ls) [[]]
def allKy : List Ky := sevenS.flatMap fun S => S.map fun l => (S, l)
/-- whole numbers that differ by 11323 -/
def chk : List Int → Nat → Bool
  | [], _ => true
  | h :: r, acc => !Nat.testBit acc (h % 11323).toNat && chk r (acc ||| 2 ^ (h % 11323).toNat)
theorem chk_ok : ∀ (l : List Int) (acc : Nat), chk l acc = true → l.Nodup ∧ ∀ h ∈ l, Nat.testBit acc (h % 11323).toNat = false
  | [], _, _ => ⟨List.nodup_nil, fun _ h => by cases h⟩
  | h :: r, acc, q => by
    unfold chk at q
    rw [Bool.and_eq_true] at q
    obtain ⟨h1, h2⟩ := chk_ok r _ q.2
    have q1 : Nat.testBit acc (h % 11323).toNat = false := by simpa using q.1
    refine ⟨List.nodup_cons.mpr ⟨fun hm => ?_, h1⟩, fun x hx => ?_⟩
    · have := h2 h hm
      rw [Nat.testBit_or, Nat.testBit_two_pow_self, Bool.or_true] at this
      cases this
    · rcases List.mem_cons.mp hx with rfl | hx
      · exact q1
      · have := h2 x hx
        rw [Nat.testBit_or, Bool.or_eq_false_iff] at this
        exact this.1
theorem hk_chk : chk (allKy.map hk) 0 = true := by decide +kernel
theorem hk_apart : (allKy.map hk).Nodup := (chk_ok _ 0 hk_chk).1
theorem subs_mem : ∀ (bs S : List Int), bs.Pairwise (· < ·) → S.Pairwise (· < ·) → (∀ x ∈ S, x ∈ bs) → S ∈ bs.foldr (fun a ls => ls.map (a :: ·) ++ ls) [[]]
  | [], S, _, _, h => by
    cases S with
    | nil => exact List.mem_singleton.mpr rfl
    | cons x S => cases h x List.mem_cons_self
  | b :: bs, S, hb, hS, h => by
    have hb' := List.pairwise_cons.mp hb
    rw [List.foldr_cons, List.mem_append]
    cases S with
    | nil => exact .inr (subs_mem bs [] hb'.2 .nil fun _ hx => by cases hx)
    | cons x S =>
      have hS' := List.pairwise_cons.mp hS
      rcases List.mem_cons.mp (h x List.mem_cons_self) with rfl | hx
      · refine .inl (List.mem_map.mpr ⟨S, subs_mem bs S hb'.2 hS'.2 fun y hy => ?_, rfl⟩)
        rcases List.mem_cons.mp (h y (List.mem_cons_of_mem _ hy)) with rfl | hy2
        · exact absurd (hS'.1 y hy) (Int.lt_irrefl _)
        · exact hy2
      · refine .inr (subs_mem bs (x :: S) hb'.2 hS fun y hy => ?_)
        rcases List.mem_cons.mp (h y hy) with rfl | hy2
        · have h1 := hb'.1 x hx
          rcases List.mem_cons.mp hy with rfl | hy3
          · exact hx
          · have := hS'.1 y hy3
            omega
        · exact hy2
theorem mem_allKy {left : List Int} {j : Nat} {k : Ky} (h : KeyOk left j k) (h7 : ∀ x ∈ left, 0 ≤ x ∧ x < 7) : k ∈ allKy := by
  unfold allKy
  rw [List.mem_flatMap]
  refine ⟨k.1, subs_mem _ _ (by decide) h.inc fun x hx => ?_, List.mem_map.mpr ⟨k.2, h.mem, rfl⟩⟩
  have := h7 x (h.sub x hx)
  simp only [List.mem_cons, List.not_mem_nil, or_false]
  omega
theorem inj_nodup {α β : Type} (f : α → β) : ∀ {l : List α}, (l.map f).Nodup → ∀ {a b : α}, a ∈ l → b ∈ l → f a = f b → a = b
  | [], _, _, _, h, _, _ => by cases h
  | x :: l, hn, a, b, ha, hb, e => by
    rw [List.map_cons, List.nodup_cons] at hn
    rcases List.mem_cons.mp ha with rfl | ha2
    · rcases List.mem_cons.mp hb with h | hb2
      · exact h.symm
      · exact absurd (List.mem_map.mpr ⟨b, hb2, e.symm⟩) hn.1
    · rcases List.mem_cons.mp hb with rfl | hb2
      · exact absurd (List.mem_map.mpr ⟨a, ha2, e⟩) hn.1
      · exact inj_nodup f hn.2 ha2 hb2 e
theorem map_apart {α β : Type} (f : α → β) (all : List α) (h : (all.map f).Nodup) {l : List α} (nd : l.Nodup) (hs : ∀ a ∈ l, a ∈ all) : (l.map f).Nodup := by
  rw [List.Nodup, List.pairwise_map]
  refine List.Pairwise.imp_of_mem ?_ nd
  intro a b ha hb hne he
  exact hne (inj_nodup f h (hs a ha) (hs b hb) he)
theorem keys_all {left : List Int} {t : Tb} (ks : ∀ p ∈ t, ∃ j, KeyOk left j p.1) (h7 : ∀ x ∈ left, 0 ≤ x ∧ x < 7) : ∀ a ∈ t.map (·.1), a ∈ allKy := fun a ha => by
  obtain ⟨p, hp, rfl⟩ := List.mem_map.mp ha
  obtain ⟨i, hi⟩ := ks p hp
  exact mem_allKy hi h7
theorem hash_map (w : World) : ∀ t : Tb, (t.map fun p => (nk (kD p.1)).hash w) = (t.map (·.1)).map hk
  | [] => rfl
  | p :: t => by rw [List.map_cons, List.map_cons, List.map_cons, hash_kD, hash_map w t]
theorem hash_ok {w : World} {left : List Int} {t : Tb} (nd : (t.map (·.1)).Nodup) (ks : ∀ p ∈ t, ∃ j, KeyOk left j p.1) (h7 : ∀ x ∈ left, 0 ≤ x ∧ x < 7) : HashOk w t := by
  unfold HashOk
  rw [hash_map]
  exact map_apart hk allKy hk_apart nd (keys_all ks h7)
section
variable {X : Cx} {C : Addr} {B : Bs} {P : Post} {δ : DEnv} {tg : Expr} {pos pos2 : Pos} {k : Nat}
/-- for key in x, x an own dict -/
theorem ds_forFix {u : D → DEnv → DEnv} {ok : D → Prop} (hx : XOk X C B k) (i : Nat) {p : Addr} {ob : HO} {t : Tb} {x : Str} {body : List Stmt} (hi : δ[i]? = some (.fix p ob (.dic (tD t)))) (J : Nat → DEnv → Prop) (hJ : ∀ n δ', J n δ' → δ'[i]? = some (.fix p ob (.dic (tD t)))) (hg : DG X C B tg u ok) (hok : ∀ d, d ∈ tKeys t → ok d) (h0 : J 0 δ)
    (hs : ∀ (n : Nat) (d : D) δ', (tKeys t)[n]? = some d → J n δ' → DB X C B (P.loop (J (n + 1))) (u d δ') body) (hd : ∀ δ', J t.length δ' → P.nx δ') (hN : X.N[i]? = some x := by rfl) (hv : Vis X.env.scope x := by first | exact Or.inl rfl | exact Or.inr (Or.inl rfl) | exact Or.inr (Or.inr rfl))
    (hdb : (x == ("__debug__" : Str)) = false := by decide) (hcd : (x == ("__classdict__" : Str)) = false := by decide) (hfs : ∀ y, foldedSetIterable (.Name x pos2) X.env y = pure y := by intro _; rfl) (hst : X.stack = X.env :: X.outer := by rfl) : DS X C B P δ (.For tg (.Name x pos2) body [] pos) := ⟨fun R D' pk σ G H N => by
  obtain ⟨g, hg1, hg2⟩ := hg.ex
  refine ws (ps_for (hx.po hst) hx.calm (pi_n (C := C) (pe_var hN hv hdb hcd)) hg1 pss_wb hfs) ?_
  obtain ⟨h1, h2, h3, hu, xs, ep, h4, h5⟩ := N.slot i _ hi
  have eu : ob = dN X.prog X.w p xs ep := by
    rw [hu] at h4
    exact Option.some.inj h4
  have hl : xs.length = t.length := h5.length.trans (tD_len t)
  have hkl : (tKeys t).length = t.length := by unfold tKeys; rw [List.length_map]
  refine ⟨_, h1, p, xs, ep, t, rfl, h4, h5.mono N.gh, ?_⟩
  refine ⟨fun n m σ' H' => m = t.length - n ∧ n ≤ t.length ∧ ∃ δ' G', J n δ' ∧ Fit (md X C) B G σ' G' H' δ', ⟨t.length, by simp, Nat.zero_le _, δ, G, h0, N.root⟩, fun n m σ' H' ⟨hm, hn, δ', G', hJ', N'⟩ => ?_⟩
  have e1 : Ex G H' := N'.grow.gg.trans N'.gh
  obtain ⟨_, _, _, hu', _⟩ := N'.slot i _ (hJ n δ' hJ')
  rw [eu] at hu'
  by_cases hlt : n < t.length
  · refine .inr ⟨⟨hu', h5.mono e1, by omega⟩, fun σ2 H2 => ∃ δ' G', J (n + 1) δ' ∧ Fit (md X C) B G σ2 G' H2 δ', fun σ2 H2 q => ⟨t.length - (n + 1), by omega, rfl, hlt, q⟩, fun v H'' y => ?_⟩
    obtain ⟨rfl, z, hz, rfl⟩ := y
    obtain ⟨d, h6, h7⟩ := key_at h5 hz
    exact hg2 G σ' G' H'' δ' _ d _ (hok d (List.mem_of_getElem? h6)) N' (h7.mono N'.grow.gg) fun σ2 N2 => (hs n d δ' h6 hJ').run G _ (PostOk.loop N pk (J (n + 1))) σ2 G' H'' N2
  · have en : n = t.length := by omega
    subst en
    exact .inl ⟨⟨hu', h5.mono e1, by omega⟩, pk.nx δ' σ' G' H' (hd δ' hJ') (N.unroot N')⟩⟩
end
end Rv

/-! ### Part P: texts -/
namespace Rv
open PySem L2
/-- a text by its signs -/
abbrev ts (l : List Nat) : D := .str (SX.S l)
/-- the signs of a word -/
abbrev wd (s : String) : List Nat := s.toList.map Char.toNat
theorem str_S (s : String) : Str.ofString s = SX.S (wd s) := TL.ext_tl (TL.tl_ofString s)
theorem S_dec {a b : List Nat} : decide (SX.S a = SX.S b) = decide (a = b) := by
  by_cases h : a = b
  · subst h; simp
  · rw [decide_eq_false h, decide_eq_false fun z => h (SX.S_inj z)]
theorem reps_strs {M : Md} {G : Hp} : ∀ l : List Str, Reps M G (l.map V.str) (l.map D.str)
  | [] => .nil
  | a :: l => .cons (.str a) (reps_strs l)
theorem reps_strs' {M : Md} {G : Hp} : ∀ {l : List Str} {xs : List V}, Reps M G xs (l.map D.str) → xs = l.map V.str
  | [], _, h => by cases h; rfl
  | a :: l, _, h => by
    cases h with
    | cons h r =>
      cases h
      rw [reps_strs' (l := l) r]
      rfl
theorem map_ts (l : List (List Nat)) : l.map ts = (l.map SX.S).map D.str := by rw [List.map_map]; rfl
section
variable {X : Cx} {C : Addr} {B : Bs} {P : Post} {δ : DEnv} {tg e o a b : Expr} {d : D} {pos p apos : Pos} {k : Nat}
/-- x.split(y) -/
theorem do_split {x y : List Nat} (ho : DE X C B δ o (ts x)) (he : DE X C B δ e (ts y)) (hz : x.length + 2 ≤ sizeLine) (hb : y ≠ [] := by decide) (hk : y.all (· < 256) = true := by decide) (hs : starEach [e] X.env = [(false, eval e X.env)] := by rfl) (hbase : attributeBase o "split" X.env (eval o X.env) = eval o X.env := by rfl) (hline : (apos.endLine == pos.line) = true := by rfl) :
    DO X C B δ (.Call (.Attribute o "split" apos) [e] [] pos) (.lst ((TL.spl y 0 [] x).map ts)) := ⟨fun R σ G H Q N q =>
  we (pe_split pe_we pe_we hs hbase hline) (ho.run R σ G H _ N fun v G1 H1 g1 r1 => by
    obtain rfl := r1.s
    refine ⟨⟨_, rfl⟩, he.run R σ G1 H1 _ (N.go g1) fun v2 G2 H2 g2 r2 => ?_⟩
    obtain rfl := r2.s
    have g := g1.trans g2
    refine ⟨_, _, rfl, rfl, ?_, by rw [SX.S_len]; exact hz, ?_⟩
    · rw [SX.S_len]
      cases y with
      | nil => exact absurd rfl hb
      | cons _ _ => rfl
    · rw [SX.split_S hb hk]
      exact fun p hp => q p G2 _ (g.trans (Grow.own g.gh hp)) (g.hh.free hp) (g.gh.free hp) ⟨_, upd_same, by rw [map_ts]; exact reps_strs _⟩)⟩
/-- x.join(ys) -/
theorem de_join {x : List Nat} {ys : List (List Nat)} (ho : DE X C B δ o (ts x)) (he : DL X C B δ e (ys.map ts)) (hz : (ys.map (·.length)).sum + ys.length * x.length ≤ 16777216) (hs : starEach [e] X.env = [(false, eval e X.env)] := by rfl) (hbase : attributeBase o "join" X.env (eval o X.env) = eval o X.env := by rfl) (hline : (apos.endLine == pos.line) = true := by rfl) :
    DE X C B δ (.Call (.Attribute o "join" apos) [e] [] pos) (ts (TL.joinL x ys)) := ⟨fun R σ G H Q N q =>
  we (pe_join pe_we pe_we hs hbase hline) (ho.run R σ G H _ N fun v G1 H1 g1 r1 => by
    obtain rfl := r1.s
    refine ⟨⟨_, rfl⟩, he.run R σ G1 H1 _ (N.go g1) fun p xs G2 H2 g2 h2 r2 => ?_⟩
    rw [map_ts] at r2
    obtain rfl := reps_strs' r2
    refine ⟨_, p, ys.map SX.S, rfl, rfl, .inl (.of h2), by rw [SX.lens, List.length_map, SX.S_len]; exact hz, ?_⟩
    rw [SX.join_S]
    exact q _ G2 H2 (g1.trans g2) (.str _))⟩
/-- str(n), n a number from 0 on -/
theorem nat_log {n : Nat} (h : n < 2 ^ 64) : n.log2 < 1920 := by
  by_cases h0 : n = 0
  · subst h0; decide
  · exact Nat.lt_trans ((Nat.log2_lt h0).mpr h) (by decide)
theorem de_strN {n : Nat} (T : Bi X.mg) (h : DE X C B δ e (.int (n : Int))) (hz : n < 2 ^ 64) (hg : Gl X "str" := by rfl) (he : starEach [e] X.env = (false, eval e X.env) :: starEach [] X.env := by rfl) : DE X C B δ (.Call (.Name "str" p) [e] [] pos) (ts (TL.numL n)) := ⟨fun R σ G H Q N q =>
  t1 call_str_int hg T.str (by decide +kernel) he (by decide) (by decide) (h.run R σ G H _ N fun v G' H' g r => by
    obtain rfl := r.i
    refine ⟨_, rfl, by rw [Int.natAbs_natCast]; exact nat_log hz, ?_⟩
    have e := q _ G' H' g (.str _)
    rw [← SX.num_S] at e
    exact e)⟩
def figs (n : Int) : List Nat := TL.numL n.toNat
theorem de_strI {n : Int} (T : Bi X.mg) (h : DE X C B δ e (.int n)) (h0 : 0 ≤ n) (hz : n < 2 ^ 64) (hg : Gl X "str" := by rfl) (he : starEach [e] X.env = (false, eval e X.env) :: starEach [] X.env := by rfl) : DE X C B δ (.Call (.Name "str" p) [e] [] pos) (ts (figs n)) := by
  have e1 : n = ((n.toNat : Nat) : Int) := by omega
  refine de_strN T (h.eq (by rw [← e1])) ?_ hg he
  have : ((n.toNat : Nat) : Int) < ((2 ^ 64 : Nat) : Int) := by rw [← e1]; exact_mod_cast hz
  exact_mod_cast this
/-- int(x), x figures -/
theorem de_intS {x : List Nat} (T : Bi X.mg) (h : DE X C B δ e (ts x)) (hd : x.all (fun c => decide (48 ≤ c) && decide (c ≤ 57)) = true) (hne : x ≠ []) (hz : x.length ≤ 640) (hg : Gl X "int" := by rfl) (he : starEach [e] X.env = (false, eval e X.env) :: starEach [] X.env := by rfl) : DE X C B δ (.Call (.Name "int" p) [e] [] pos) (.int ((NumText.digitsVal x : Nat) : Int)) := ⟨fun R σ G H Q N q =>
  t1 call_int_str hg T.int (by decide +kernel) he (by decide) (by decide) (h.run R σ G H _ N fun v G' H' g r => by
    obtain rfl := r.s
    exact ⟨_, _, rfl, SX.int_S hd hne (by omega), by rw [SX.S_len]; exact hz, q _ G' H' g (.int _)⟩)⟩
/-- a sign in a text -/
theorem dc_inSign {c : Nat} {z : List Nat} (ha : DE X C B δ a (ts [c])) (hb : DE X C B δ b (ts z)) (hm : behindInMarks .In b = false := by rfl) : DC X C B δ .In a b (decide (c ∈ z)) :=
  ⟨_, op_in_sign, hm, fun R σ G H Q N q => d2 ha hb N fun x y G' H' g r1 r2 => by
    obtain rfl := r1.s
    obtain rfl := r2.s
    exact ⟨c, _, rfl, rfl, q G' H' g⟩⟩
theorem dc_notinSign {c : Nat} {z : List Nat} (ha : DE X C B δ a (ts [c])) (hb : DE X C B δ b (ts z)) (hm : behindInMarks .NotIn b = false := by rfl) : DC X C B δ .NotIn a b (!decide (c ∈ z)) :=
  ⟨_, op_notIn_sign, hm, fun R σ G H Q N q => d2 ha hb N fun x y G' H' g r1 r2 => by
    obtain rfl := r1.s
    obtain rfl := r2.s
    exact ⟨c, _, rfl, rfl, q G' H' g⟩⟩
/-- texts compared -/
theorem dc_eqX {x y : List Nat} (ha : DE X C B δ a (ts x)) (hb : DE X C B δ b (ts y)) : DC X C B δ .Eq a b (decide (x = y)) := by
  have := dc_eqS ha hb
  rw [S_dec] at this
  exact this
theorem dc_neX {x y : List Nat} (ha : DE X C B δ a (ts x)) (hb : DE X C B δ b (ts y)) : DC X C B δ .NotEq a b (!decide (x = y)) := by
  have := dc_neS ha hb
  rw [S_dec] at this
  exact this
/-- x + y -/
theorem de_catX {x y : List Nat} (ha : DE X C B δ a (ts x)) (hb : DE X C B δ b (ts y)) (h : x.length + y.length ≤ sizeLine) : DE X C B δ (.BinOp a .Add b pos) (ts (x ++ y)) := by
  have := de_adds (pos := pos) ha hb (by rw [SX.S_len, SX.S_len]; exact h)
  rw [SX.S_cat] at this
  exact this
/-- len(x) -/
theorem de_lenX {x : List Nat} (T : Bi X.mg) (h : DE X C B δ e (ts x)) (hz : x.length ≤ sizeLine) (hg : Gl X "len" := by rfl) (he : starEach [e] X.env = (false, eval e X.env) :: starEach [] X.env := by rfl) : DE X C B δ (.Call (.Name "len" p) [e] [] pos) (.int (x.length : Int)) := by
  have := de_lenS (p := p) (pos := pos) T h (by rw [SX.S_len]; exact hz) hg he
  rw [SX.S_len] at this
  exact this
/-- x[i], a sign -/
theorem de_ixX {x : List Nat} {i : Int} {c : Nat} (ha : DE X C B δ a (ts x)) (hb : DE X C B δ b (.int i)) (hl : x.length ≤ sizeLine) (h : atI x i = some c) (hs : PlainIx b := by exact fun _ _ => rfl) : DE X C B δ (.Subscript a b pos) (ts [c]) :=
  de_ixS ha hb (by rw [SX.S_len]; exact hl) h hs
/-- x[:n] -/
theorem de_toX {x : List Nat} {n : Int} {hi : Option Expr} {p2 : Pos} (ha : DE X C B δ a (ts x)) (h2 : DP X C B δ hi (some n)) (hz : x.length ≤ sizeLine) (h0 : 0 ≤ n) : DE X C B δ (.Subscript a (.Slice none hi none p2) pos) (ts (x.take n.toNat)) := by
  have := de_slS (pos := pos) (p2 := p2) ha dpo_none h2 (by rw [SX.S_len]; exact hz)
  rw [C8.cutS_slice, SX.slice_to h0] at this
  exact this
/-- a name of the module that is a text -/
theorem de_lit {s : String} {j : Nat} : DE X C B δ (.Constant (.str (Str.ofString s)) j pos) (ts (wd s)) := de_str.eq (by rw [str_S])
/-- for sign in x -/
theorem di_str {x : List Nat} (h : DE X C B δ e (ts x)) : DI X C B δ tg e (x.map fun c => ts [c]) := ⟨_, pi_str pe_we, fun R σ G H Rr N q => h.run R σ G H _ N fun v G1 H1 g r => by
  obtain rfl := r.s
  have sz : (SX.S x).cps.size = x.length := by simp [SX.S]
  refine ⟨_, rfl, q _ G1 H1 g ⟨fun i H' _ _ hi => ?_, fun i H' _ _ hi => ?_, fun i H' v H'' _ _ hi y => ?_⟩⟩
  · show i < (SX.S x).cps.size
    rw [List.length_map] at hi
    omega
  · show (SX.S x).cps.size ≤ i
    rw [List.length_map] at hi
    omega
  · obtain ⟨y1, c, hc, rfl⟩ := y
    refine ⟨y1, ts [c], ?_, .str _⟩
    have hc' : x[i]? = some c := by
      have : (SX.S x).cps[i]? = x[i]? := by simp [SX.S]
      rw [← this]
      exact hc
    rw [List.getElem?_map, hc']
    rfl⟩
theorem de_globX {x : Str} {s : String} {t : Tok} (hm : X.mg x = some (.str (Str.ofString s) t)) (hg : Gl X x := by rfl) (hd : (x == ("__debug__" : Str)) = false := by decide) : DE X C B δ (.Name x pos) (ts (wd s)) := (de_globS hm hg hd).eq (by rw [str_S])
/-! what raises within -/
theorem dx_ixT (ha : DX X C B δ a) (hs : PlainIx b := by exact fun _ _ => rfl) : DX X C B δ (.Subscript a b pos) := ⟨fun R σ G H Q N => we (pe_ix ix_list pe_we pe_we hs) (ha.run R σ G H _ N)⟩
theorem dx_tuple (T : Bi X.mg) (h : DX X C B δ e) (hg : Gl X "tuple" := by rfl) (he : starEach [e] X.env = (false, eval e X.env) :: starEach [] X.env := by rfl) : DX X C B δ (.Call (.Name "tuple" p) [e] [] pos) := ⟨fun R σ G H Q N =>
  t1 call_tuple_of hg T.tuple (by decide +kernel) he (by decide) (by decide) (h.run R σ G H _ N)⟩
theorem ds_appendX (i : Nat) {l : List D} {x : Str} {p1 p2 p3 : Pos} (hi : δ[i]? = some (.ow (.lst l))) (he : DX X C B δ e) (hN : X.N[i]? = some x := by rfl) (hv : Vis X.env.scope x := by first | exact Or.inl rfl | exact Or.inr (Or.inl rfl) | exact Or.inr (Or.inr rfl))
    (hd : (x == ("__debug__" : Str)) = false := by decide) (hcd : (x == ("__classdict__" : Str)) = false := by decide)
    (hbase : attributeBase (.Name x p1) "append" X.env (eval (.Name x p1) X.env) = eval (.Name x p1) X.env := by rfl)
    (hfew : ((backTo p3 (starEach [e] X.env)).all (fun x => !x.1) && (backToKw p3 (keywordEach [] X.env)).all (fun x => x.1.isSome)
      && decide (([e] : List Expr).length + ([] : List Keyword).length + (if ([] : List Keyword).isEmpty then 0 else 1) < 30)) = true := by rfl)
    (hline : (p2.endLine == p3.line) = true := by rfl) (hs : starEach [e] X.env = (false, eval e X.env) :: starEach [] X.env := by rfl) (hplain : (backTo p3 (starEach [] X.env)).any (·.1) = false := by rfl)
    (hsw : swapsWith (.Call (.Attribute (.Name x p1) "append" p2) [e] [] p3) none pos.line X.env = pure false := by rfl) :
    DS X C B P δ (.Expr (.Call (.Attribute (.Name x p1) "append" p2) [e] [] p3) pos) := ⟨fun R D' pk σ G H N => by
  obtain ⟨p, h1, h2, h3, xs, h4, h5⟩ := N.slot i _ hi
  exact ws (ps_expr (pe_bm PySem.F.plainAttrs_list PySem.F.slot_list_append PySem.F.type_list_append mt_append (pe_var hN hv hd hcd) (pa_cons pe_we pa_nil hs) hbase hfew hline hs hplain) hsw) ⟨_, h1, .inl ⟨rfl, _, .of h4⟩, he.run R σ G H _ N⟩⟩
end
theorem big1 {n : Nat} (h : n ≤ 1000000) : n ≤ sizeLine := Nat.le_trans h (by decide +kernel)
theorem at_head {l : List Nat} (h : decide (l = wd "") = false) : atI l 0 = some (l.headD 0) := by
  cases l with
  | nil => exact absurd h (by decide)
  | cons a l => exact atI_get (by omega) (by simp) rfl
theorem spl_le (S : List Nat) : ∀ (l acc : List Nat) (k : Nat), ∀ p ∈ TL.spl S k acc l, p.length ≤ acc.length + l.length
  | [], acc, k, p, hp => by
    rw [TL.spl_nil] at hp
    rw [List.mem_singleton.mp hp]
    omega
  | c :: r, acc, 0, p, hp => by
    have hp : p ∈ (if TL.pre S (c :: r) = true then acc :: TL.spl S (S.length - 1) [] r else TL.spl S 0 (acc ++ [c]) r) := hp
    split at hp
    · rcases List.mem_cons.mp hp with rfl | hp
      · omega
      · have := spl_le S r [] _ p hp
        simp at this ⊢
        omega
    · have := spl_le S r _ _ p hp
      simp at this ⊢
      omega
  | c :: r, acc, k + 1, p, hp => by
    have hp : p ∈ TL.spl S k acc r := hp
    have := spl_le S r acc k p hp
    simp
    omega
theorem getD_le {l : List (List Nat)} {m n : Nat} (h : ∀ p ∈ l, p.length ≤ m) : (l.getD n []).length ≤ m := by
  rw [List.getD_eq_getElem?_getD]
  cases e : l[n]? with
  | none => simp
  | some a => exact h a (List.mem_of_getElem? e)
theorem at_X {l : List (List Nat)} {i : Int} (h0 : 0 ≤ i) (h : i < (l.length : Int)) : atI (l.map ts) i = some (ts (l.getD i.toNat [])) := by
  have hl : i.toNat < l.length := by omega
  refine atI_get h0 (by rw [List.length_map]; exact h) ?_
  rw [List.getElem?_map, List.getD_eq_getElem?_getD, List.getElem?_eq_getElem hl]
  rfl
theorem at_lastX {l : List (List Nat)} (h : l ≠ []) : atI (l.map ts) (-1) = some (ts (l.getLastD [])) := by
  have hp : 0 < l.length := List.length_pos_iff.mpr h
  unfold atI
  have e : L2.ixN (l.map ts).length (-1) = some (l.length - 1) := by
    rw [List.length_map]
    unfold L2.ixN
    rw [if_neg (by omega), if_pos (by omega)]
    congr 1
    omega
  rw [e]
  show (l.map ts)[l.length - 1]? = _
  rw [List.getElem?_map, List.getLastD_eq_getLast?, List.getLast?_eq_getElem?, List.getElem?_eq_getElem (by omega)]
  rfl
end Rv

/-! ### mirrors: days written and read -/
namespace Rv
open PySem L2
def dig (c : Nat) : Bool := decide (48 ≤ c) && decide (c ≤ 57)
theorem dig_in (c : Nat) : decide (c ∈ wd "0123456789") = dig c := by
  have e : wd "0123456789" = [48, 49, 50, 51, 52, 53, 54, 55, 56, 57] := by decide
  rw [e]
  unfold dig
  by_cases h : 48 ≤ c ∧ c ≤ 57
  · have h2 : c ∈ [48, 49, 50, 51, 52, 53, 54, 55, 56, 57] := by simp; omega
    rw [decide_eq_true h2, decide_eq_true h.1, decide_eq_true h.2]; rfl
  · have h2 : c ∉ [48, 49, 50, 51, 52, 53, 54, 55, 56, 57] := by simp; omega
    rw [decide_eq_false h2]
    by_cases h3 : 48 ≤ c
    · have h4 : ¬ c ≤ 57 := fun z => h ⟨h3, z⟩
      simp [h3, h4]
    · simp [h3]
/-- figures: not none, not too many, no 0 ahead -/
def numOk (l : List Nat) : Bool := l.all dig && !(decide (l = []) || decide (15 < l.length) || (decide (l.head? = some 48) && decide (1 < l.length)))
def numOf (l : List Nat) : Option Int := if numOk l = true then some ((NumText.digitsVal l : Nat) : Int) else none
def numsTo (ws ns : List (List Nat)) : Nat → Option (List Int)
  | 0 => some []
  | k + 1 => match numsTo ws ns k with
    | none => none
    | some xs => if ws.getD (2 * k) [] = ns.getD k [] then (match numOf (ws.getD (2 * k + 1) []) with
      | none => none
      | some i => some (xs ++ [i])) else none
def numsIn (row : List Nat) (ns : List (List Nat)) : Option (List Int) :=
  let ws := TL.spl [32] 0 [] row
  if ws.length = 2 * ns.length then numsTo ws ns ns.length else none
theorem numsTo_none {ws ns : List (List Nat)} {k m : Nat} (h : k ≤ m) (e : numsTo ws ns k = none) : numsTo ws ns m = none := by
  induction m with
  | zero =>
    have : k = 0 := by omega
    subst this
    exact e
  | succ m ih =>
    by_cases q : k = m + 1
    · subst q; exact e
    · have := ih (by omega)
      show (match numsTo ws ns m with
        | none => none
        | some xs => _) = none
      rw [this]
theorem numsTo_len {ws ns : List (List Nat)} : ∀ {k : Nat} {xs : List Int}, numsTo ws ns k = some xs → xs.length = k
  | 0, xs, h => by cases h; rfl
  | k + 1, xs, h => by
    have h : (match numsTo ws ns k with
      | none => none
      | some xs => if ws.getD (2 * k) [] = ns.getD k [] then (match numOf (ws.getD (2 * k + 1) []) with
        | none => none
        | some i => some (xs ++ [i])) else none) = some xs := h
    cases e : numsTo ws ns k with
    | none => rw [e] at h; cases h
    | some ys =>
      rw [e] at h
      dsimp only at h
      split at h
      · cases e2 : numOf (ws.getD (2 * k + 1) []) with
        | none => rw [e2] at h; cases h
        | some i =>
          rw [e2] at h
          cases h
          rw [List.length_append, numsTo_len e]
          rfl
      · cases h
theorem numsIn_len {row : List Nat} {ns : List (List Nat)} {xs : List Int} (h : numsIn row ns = some xs) : xs.length = ns.length := by
  unfold numsIn at h
  dsimp only at h
  split at h
  · exact numsTo_len h
  · cases h
def stopNames : List (List Nat) := [wd "stop", wd "from", wd "to", wd "for"]
def toStop (xs : List Int) : Stop := ⟨xs.getD 0 0, xs.getD 1 0, xs.getD 2 0, xs.getD 3 0⟩
theorem toStop_d {xs : List Int} (h : xs.length = 4) : D.tup (xs.map .int) = (toStop xs).d := by
  match xs, h with
  | [a, b, c, d], _ => rfl
def stopsTo (rows : List (List Nat)) : Nat → Option (List Stop)
  | 0 => some []
  | k + 1 => match stopsTo rows k with
    | none => none
    | some l => match numsIn (rows.getD k []) stopNames with
      | none => none
      | some xs => some (l ++ [toStop xs])
theorem stopsTo_none {rows : List (List Nat)} {k m : Nat} (h : k ≤ m) (e : stopsTo rows k = none) : stopsTo rows m = none := by
  induction m with
  | zero =>
    have : k = 0 := by omega
    subst this
    exact e
  | succ m ih =>
    by_cases q : k = m + 1
    · subst q; exact e
    · have := ih (by omega)
      show (match stopsTo rows m with
        | none => none
        | some xs => _) = none
      rw [this]
theorem stopsTo_len {rows : List (List Nat)} : ∀ {k : Nat} {l : List Stop}, stopsTo rows k = some l → l.length = k
  | 0, l, h => by cases h; rfl
  | k + 1, l, h => by
    have h : (match stopsTo rows k with
      | none => none
      | some l => match numsIn (rows.getD k []) stopNames with
        | none => none
        | some xs => some (l ++ [toStop xs])) = some l := h
    cases e : stopsTo rows k with
    | none => rw [e] at h; cases h
    | some ys =>
      rw [e] at h
      dsimp only at h
      cases e2 : numsIn (rows.getD k []) stopNames with
      | none => rw [e2] at h; cases h
      | some xs =>
        rw [e2] at h
        cases h
        rw [List.length_append, stopsTo_len e]
        rfl
/-- the day that a text writes -/
def readM (t : List Nat) : Option DayR :=
  let rows := TL.spl [10] 0 [] t
  if rows.length < 3 ∨ rows.getLastD [] ≠ [] then none else
  let word := (rows.getD 0 []).take 4
  if word ≠ wd "line" ∧ word ≠ wd "ring" then none else
  match numsIn (rows.getD 0 []) [word] with
  | none => none
  | some a => match numsIn (rows.getD 1 []) [wd "home", wd "at"] with
    | none => none
    | some b => match stopsTo (cutD rows (some 2) (some (-1))) (cutD rows (some 2) (some (-1))).length with
      | none => none
      | some l => some ⟨⟨decide (word = wd "ring"), a.getD 0 0⟩, b.getD 0 0, b.getD 1 0, l⟩
/-! #### what is written -/
def Road.word (r : Road) : List Nat := if r.ring then wd "ring" else wd "line"
theorem Road.d_word (r : Road) : r.d = .tup [ts r.word, .int r.len] := by
  unfold Road.d Road.word
  cases r.ring
  · show D.tup [.str (Str.ofString "line"), _] = _
    rw [str_S]; rfl
  · show D.tup [.str (Str.ofString "ring"), _] = _
    rw [str_S]; rfl
def row1 (y : DayR) : List (List Nat) := [y.road.word, figs y.road.len]
def row2 (y : DayR) : List (List Nat) := [wd "home", figs y.home, wd "at", figs y.start]
def rowS (s : Stop) : List (List Nat) := [wd "stop", figs s.p, wd "from", figs s.o, wd "to", figs s.c, wd "for", figs s.s]
abbrev J1 (l : List (List Nat)) : List Nat := TL.joinL [32] l
theorem row1_eq (y : DayR) : y.road.word ++ wd " " ++ figs y.road.len = J1 (row1 y) := by
  show _ = y.road.word ++ ([32] ++ figs y.road.len)
  rw [List.append_assoc]
  rfl
theorem row2_eq (y : DayR) : wd "home " ++ figs y.home ++ wd " at " ++ figs y.start = J1 (row2 y) := by
  show _ = wd "home" ++ ([32] ++ (figs y.home ++ ([32] ++ (wd "at" ++ ([32] ++ figs y.start)))))
  rw [show wd "home " = wd "home" ++ [32] by decide, show wd " at " = [32] ++ wd "at" ++ [32] by decide]
  simp only [List.append_assoc]
theorem rowS_eq (s : Stop) : wd "stop " ++ figs s.p ++ (wd " from " ++ figs s.o ++ wd " to " ++ figs s.c ++ wd " for " ++ figs s.s) = J1 (rowS s) := by
  show _ = wd "stop" ++ ([32] ++ (figs s.p ++ ([32] ++ (wd "from" ++ ([32] ++ (figs s.o ++ ([32] ++ (wd "to" ++ ([32] ++ (figs s.c ++ ([32] ++ (wd "for" ++ ([32] ++ figs s.s)))))))))))))
  rw [show wd "stop " = wd "stop" ++ [32] by decide, show wd " from " = [32] ++ wd "from" ++ [32] by decide, show wd " to " = [32] ++ wd "to" ++ [32] by decide, show wd " for " = [32] ++ wd "for" ++ [32] by decide]
  simp only [List.append_assoc]
def dayRows (y : DayR) : List (List Nat) := J1 (row1 y) :: J1 (row2 y) :: y.stops.map fun s => J1 (rowS s)
def dayText (y : DayR) : List Nat := (dayRows y).flatMap (· ++ [10])
theorem join_flat : ∀ {l : List (List Nat)}, l ≠ [] → TL.joinL [10] l ++ [10] = l.flatMap (· ++ [10])
  | [], h => absurd rfl h
  | [a], _ => by simp [TL.joinL]
  | a :: b :: l, _ => by
    show (a ++ ([10] ++ TL.joinL [10] (b :: l))) ++ [10] = (a ++ [10]) ++ (b :: l).flatMap (· ++ [10])
    rw [← join_flat (by simp)]
    simp
theorem join_snoc : ∀ {l : List (List Nat)}, l ≠ [] → TL.joinL [10] (l ++ [[]]) = TL.joinL [10] l ++ [10]
  | [], h => absurd rfl h
  | [a], _ => by simp [TL.joinL]
  | a :: b :: l, _ => by
    show a ++ ([10] ++ TL.joinL [10] ((b :: l) ++ [[]])) = (a ++ ([10] ++ TL.joinL [10] (b :: l))) ++ [10]
    rw [join_snoc (by simp)]
    simp
theorem join_free {s c : Nat} (hs : c ≠ s) : ∀ {l : List (List Nat)}, (∀ p ∈ l, c ∉ p) → c ∉ TL.joinL [s] l
  | [], _ => by simp [TL.joinL]
  | [a], h => h a (by simp)
  | a :: b :: l, h => by
    show c ∉ a ++ ([s] ++ TL.joinL [s] (b :: l))
    intro z
    rcases List.mem_append.mp z with z | z
    · exact h a (by simp) z
    · rcases List.mem_append.mp z with z | z
      · exact hs (List.mem_singleton.mp z)
      · exact join_free hs (fun p hp => h p (List.mem_cons_of_mem _ hp)) z
theorem figs_free {n : Int} {s : Nat} (h : s < 48 ∨ 57 < s) : s ∉ figs n := TL.numL_free h
theorem word_free (r : Road) {s : Nat} (h : s < 97) : s ∉ r.word := by
  unfold Road.word
  cases r.ring
  · show s ∉ wd "line"
    rw [show wd "line" = [108, 105, 110, 101] by decide]
    simp; omega
  · show s ∉ wd "ring"
    rw [show wd "ring" = [114, 105, 110, 103] by decide]
    simp; omega
theorem row1_free (y : DayR) {s : Nat} (h : s < 48) : ∀ p ∈ row1 y, s ∉ p := by
  intro p hp
  rcases List.mem_cons.mp hp with rfl | hp
  · exact word_free _ (by omega)
  · rw [List.mem_singleton.mp hp]
    exact figs_free (.inl h)
theorem wd_free {s : Nat} (h : s < 48) : s ∉ wd "home" ∧ s ∉ wd "at" ∧ s ∉ wd "stop" ∧ s ∉ wd "from" ∧ s ∉ wd "to" ∧ s ∉ wd "for" := by
  rw [show wd "home" = [104, 111, 109, 101] by decide, show wd "at" = [97, 116] by decide, show wd "stop" = [115, 116, 111, 112] by decide, show wd "from" = [102, 114, 111, 109] by decide, show wd "to" = [116, 111] by decide, show wd "for" = [102, 111, 114] by decide]
  refine ⟨?_, ?_, ?_, ?_, ?_, ?_⟩ <;> simp <;> omega
theorem row2_free (y : DayR) {s : Nat} (h : s < 48) : ∀ p ∈ row2 y, s ∉ p := by
  obtain ⟨h1, h2, _⟩ := wd_free h
  intro p hp
  simp only [row2, List.mem_cons, List.not_mem_nil, or_false] at hp
  rcases hp with rfl | rfl | rfl | rfl
  · exact h1
  · exact figs_free (.inl h)
  · exact h2
  · exact figs_free (.inl h)
theorem rowS_free (y : Stop) {s : Nat} (h : s < 48) : ∀ p ∈ rowS y, s ∉ p := by
  obtain ⟨_, _, h1, h2, h3, h4⟩ := wd_free h
  intro p hp
  simp only [rowS, List.mem_cons, List.not_mem_nil, or_false] at hp
  rcases hp with rfl | rfl | rfl | rfl | rfl | rfl | rfl | rfl
  · exact h1
  · exact figs_free (.inl h)
  · exact h2
  · exact figs_free (.inl h)
  · exact h3
  · exact figs_free (.inl h)
  · exact h4
  · exact figs_free (.inl h)
theorem rows_free (y : DayR) : ∀ p ∈ dayRows y, 10 ∉ p := by
  intro p hp
  rcases List.mem_cons.mp hp with rfl | hp
  · exact join_free (by decide) (row1_free y (by decide))
  · rcases List.mem_cons.mp hp with rfl | hp
    · exact join_free (by decide) (row2_free y (by decide))
    · obtain ⟨s, _, rfl⟩ := List.mem_map.mp hp
      exact join_free (by decide) (rowS_free s (by decide))
theorem split_text (y : DayR) : TL.spl [10] 0 [] (dayText y) = dayRows y ++ [[]] := by
  unfold dayText
  rw [← join_flat (by simp [dayRows]), ← join_snoc (by simp [dayRows])]
  refine SX.spl_join (by simp) fun p hp => ?_
  rcases List.mem_append.mp hp with hp | hp
  · exact rows_free y p hp
  · rw [List.mem_singleton.mp hp]
    simp
/-! #### numbers -/
theorem numL_head {n : Nat} (h : 0 < n) : (TL.numL n).head? ≠ some 48 := by
  induction n using Nat.strongRecOn with
  | _ n ih =>
    by_cases h1 : n < 10
    · rw [TL.numL_lt h1]
      simp
      omega
    · rw [TL.numL_step (by omega)]
      have := ih (n / 10) (by omega) (by omega)
      cases e : TL.numL (n / 10) with
      | nil => exact absurd e (TL.numL_ne _)
      | cons a l =>
        rw [e] at this
        exact this
theorem figs_len {n : Int} (h : n ≤ 1000000000000) : (figs n).length ≤ 13 := TL.numL_len (by decide) (by omega)
theorem figs_pos (n : Int) : 1 ≤ (figs n).length := List.length_pos_iff.mpr (TL.numL_ne _)
theorem figs_num {n : Int} (h0 : 0 ≤ n) (h : n ≤ 1000000000000) : numOf (figs n) = some n := by
  have hl := figs_len h
  have hd : (figs n).all dig = true := List.all_eq_true.mpr fun c hc => by
    obtain ⟨a, b⟩ := TL.numL_digits _ c hc
    simp [dig, a, b]
  have hk : numOk (figs n) = true := by
    unfold numOk
    rw [hd]
    have h1 : figs n ≠ [] := TL.numL_ne _
    have h2 : ¬ 15 < (figs n).length := by omega
    have h3 : ¬ ((figs n).head? = some 48 ∧ 1 < (figs n).length) := by
      intro ⟨a, b⟩
      by_cases q : n.toNat = 0
      · unfold figs at b
        rw [q, TL.numL_lt (by decide)] at b
        simp at b
      · exact numL_head (by omega) a
    simp [h1]
    refine ⟨by omega, ?_⟩
    by_cases a : (figs n).head? = some 48
    · exact .inr (by
        have h4 : ¬ 1 < (figs n).length := fun b => h3 ⟨a, b⟩
        omega)
    · exact .inl a
  unfold numOf
  rw [if_pos hk]
  unfold figs
  rw [TL.numL_val]
  congr 1
  omega
theorem nums1 {w : List Nat} {n : Int} (h : numOf (figs n) = some n) (f : 32 ∉ w) : numsIn (J1 [w, figs n]) [w] = some [n] := by
  have e : TL.spl [32] 0 [] (J1 [w, figs n]) = [w, figs n] := SX.spl_join (by simp) fun p hp => by
    rcases List.mem_cons.mp hp with rfl | hp
    · exact f
    · rw [List.mem_singleton.mp hp]
      exact figs_free (.inl (by decide))
  unfold numsIn
  rw [e]
  simp [numsTo, h]
theorem nums2 {y : DayR} (h1 : numOf (figs y.home) = some y.home) (h2 : numOf (figs y.start) = some y.start) : numsIn (J1 (row2 y)) [wd "home", wd "at"] = some [y.home, y.start] := by
  have e : TL.spl [32] 0 [] (J1 (row2 y)) = row2 y := SX.spl_join (by simp [row2]) (row2_free y (by decide))
  unfold numsIn
  rw [e]
  simp [numsTo, row2, h1, h2]
theorem numsS {s : Stop} (h1 : numOf (figs s.p) = some s.p) (h2 : numOf (figs s.o) = some s.o) (h3 : numOf (figs s.c) = some s.c) (h4 : numOf (figs s.s) = some s.s) : numsIn (J1 (rowS s)) stopNames = some [s.p, s.o, s.c, s.s] := by
  have e : TL.spl [32] 0 [] (J1 (rowS s)) = rowS s := SX.spl_join (by simp [rowS]) (rowS_free s (by decide))
  unfold numsIn
  rw [e]
  simp [numsTo, rowS, stopNames, h1, h2, h3, h4]
/-- numbers that are written -/
structure DayR.small (y : DayR) : Prop where
  road : 0 ≤ y.road.len ∧ y.road.len ≤ 1000000000000
  home : 0 ≤ y.home ∧ y.home ≤ 1000000000000
  start : 0 ≤ y.start ∧ y.start ≤ 1000000000000
  stops : ∀ s ∈ y.stops, (0 ≤ s.p ∧ s.p ≤ 1000000000000) ∧ (0 ≤ s.o ∧ s.o ≤ 1000000000000) ∧ (0 ≤ s.c ∧ s.c ≤ 1000000000000) ∧ (0 ≤ s.s ∧ s.s ≤ 1000000000000)
theorem has_small {r : Road} {p : Int} (hr : r.ok) (h : r.has p) : 0 ≤ p ∧ p ≤ 1000000000000 := by
  obtain ⟨a, b⟩ := h
  obtain ⟨c, d⟩ := hr
  unfold Road.many at b
  split at b <;> omega
theorem DayR.ok.small {y : DayR} (h : y.ok) : y.small := ⟨by have := h.road; unfold Road.ok at this; omega, has_small h.road h.home, h.start, fun s hs => by
  have k := h.stops s hs
  exact ⟨has_small h.road k.hp, k.ho, k.hc, k.hs⟩⟩
theorem stops_back {l : List Stop} (h : ∀ s ∈ l, (0 ≤ s.p ∧ s.p ≤ 1000000000000) ∧ (0 ≤ s.o ∧ s.o ≤ 1000000000000) ∧ (0 ≤ s.c ∧ s.c ≤ 1000000000000) ∧ (0 ≤ s.s ∧ s.s ≤ 1000000000000)) : ∀ k, k ≤ l.length → stopsTo (l.map fun s => J1 (rowS s)) k = some (l.take k)
  | 0, _ => by simp [stopsTo]
  | k + 1, hk => by
    have ih := stops_back h k (by omega)
    have hl : k < l.length := by omega
    have e : l[k]? = some l[k] := List.getElem?_eq_getElem hl
    obtain ⟨a, b, c, d⟩ := h l[k] (List.getElem_mem hl)
    have e2 : (l.map fun s => J1 (rowS s)).getD k [] = J1 (rowS l[k]) := by
      rw [List.getD_eq_getElem?_getD, List.getElem?_map, e]
      rfl
    show (match stopsTo (l.map fun s => J1 (rowS s)) k with
      | none => none
      | some l' => match numsIn ((l.map fun s => J1 (rowS s)).getD k []) stopNames with
        | none => none
        | some xs => some (l' ++ [toStop xs])) = _
    rw [ih, e2, numsS (figs_num a.1 a.2) (figs_num b.1 b.2) (figs_num c.1 c.2) (figs_num d.1 d.2)]
    dsimp only
    rw [List.take_succ, e]
    rfl
theorem take4 (r : Road) (l : List Nat) : (J1 [r.word, l]).take 4 = r.word := by
  show (r.word ++ ([32] ++ l)).take 4 = r.word
  unfold Road.word
  cases r.ring
  · show (wd "line" ++ _).take 4 = wd "line"
    rw [show wd "line" = [108, 105, 110, 101] by decide]; rfl
  · show (wd "ring" ++ _).take 4 = wd "ring"
    rw [show wd "ring" = [114, 105, 110, 103] by decide]; rfl
theorem cut_rows {α : Type} (a b c : α) (l : List α) : cutD (a :: b :: (l ++ [c])) (some 2) (some (-1)) = l := by
  unfold cutD
  have h1 : HT.sIx (a :: b :: (l ++ [c])).length 0 (some 2) = 2 := by simp [HT.sIx]
  have h2 : HT.sIx (a :: b :: (l ++ [c])).length (a :: b :: (l ++ [c])).length (some (-1)) = l.length + 2 := by
    simp [HT.sIx]
    omega
  rw [h1, h2]
  simp
/-- what is written is read -/
theorem read_back {y : DayR} (h : y.small) : readM (dayText y) = some y := by
  unfold readM
  rw [split_text]
  have hw : y.road.word = wd "line" ∨ y.road.word = wd "ring" := by
    unfold Road.word
    cases y.road.ring
    · exact .inl rfl
    · exact .inr rfl
  have e0 : (dayRows y ++ [[]]).getD 0 [] = J1 (row1 y) := rfl
  have e1 : (dayRows y ++ [[]]).getD 1 [] = J1 (row2 y) := rfl
  have hl : ¬ ((dayRows y ++ [[]]).length < 3 ∨ (dayRows y ++ [[]]).getLastD [] ≠ []) := by
    intro q
    rcases q with q | q
    · rw [List.length_append] at q
      simp [dayRows] at q
      omega
    · simp at q
  have ec : cutD (dayRows y ++ [[]]) (some 2) (some (-1)) = y.stops.map fun s => J1 (rowS s) := cut_rows _ _ _ _
  dsimp only
  rw [if_neg hl, e0, e1, ec]
  have et : (J1 (row1 y)).take 4 = y.road.word := take4 _ _
  rw [et, if_neg (by rintro ⟨a, b⟩; rcases hw with q | q; exact a q; exact b q)]
  have en : numsIn (J1 (row1 y)) [y.road.word] = some [y.road.len] := nums1 (figs_num h.road.1 h.road.2) (word_free _ (by decide))
  rw [en, nums2 (figs_num h.home.1 h.home.2) (figs_num h.start.1 h.start.2), stops_back h.stops _ (by rw [List.length_map]; exact Nat.le_refl _)]
  dsimp only
  have er : decide (y.road.word = wd "ring") = y.road.ring := by
    unfold Road.word
    cases y.road.ring
    · show decide (wd "line" = wd "ring") = false
      decide
    · show decide (wd "ring" = wd "ring") = true
      decide
  rw [er, List.length_map, List.take_length]
  rfl
/-! #### sizes -/
theorem join_len (a : List Nat) : ∀ l : List (List Nat), (TL.joinL a l).length ≤ (l.map (·.length)).sum + l.length * a.length
  | [] => by simp [TL.joinL]
  | [x] => by simp [TL.joinL]
  | x :: b :: l => by
    have ih := join_len a (b :: l)
    show (x ++ (a ++ TL.joinL a (b :: l))).length ≤ _
    rw [List.length_append, List.length_append, List.map_cons, List.sum_cons, List.length_cons, Nat.add_mul]
    omega
theorem row_len {y : DayR} (h : y.small) : ∀ p ∈ dayRows y, p.length ≤ 120 := by
  intro p hp
  rcases List.mem_cons.mp hp with rfl | hp
  · have := figs_len h.road.2
    have h4 : y.road.word.length ≤ 4 := by unfold Road.word; cases y.road.ring <;> decide
    have := join_len [32] (row1 y)
    simp [row1, J1] at this ⊢
    omega
  · rcases List.mem_cons.mp hp with rfl | hp
    · have h1 := figs_len h.home.2
      have h2 := figs_len h.start.2
      have := join_len [32] (row2 y)
      simp [row2, J1] at this ⊢
      omega
    · obtain ⟨s, hs, rfl⟩ := List.mem_map.mp hp
      obtain ⟨a, b, c, d⟩ := h.stops s hs
      have h1 := figs_len a.2
      have h2 := figs_len b.2
      have h3 := figs_len c.2
      have h4 := figs_len d.2
      have := join_len [32] (rowS s)
      simp [rowS, J1] at this ⊢
      omega
theorem flat_len : ∀ {l : List (List Nat)} {m : Nat}, (∀ p ∈ l, p.length ≤ m) → (l.flatMap (· ++ [10])).length ≤ l.length * (m + 1)
  | [], _, _ => by simp
  | a :: l, m, h => by
    have ih := flat_len (l := l) (m := m) fun p hp => h p (List.mem_cons_of_mem _ hp)
    have := h a (by simp)
    rw [List.flatMap_cons, List.length_append, List.length_append, List.length_cons (as := l), Nat.add_mul l.length 1 (m + 1), Nat.one_mul]
    show a.length + 1 + _ ≤ _
    omega
theorem sum_len : ∀ {l : List (List Nat)} {m : Nat}, (∀ p ∈ l, p.length ≤ m) → (l.map (·.length)).sum ≤ l.length * m
  | [], _, _ => by simp
  | a :: l, m, h => by
    have ih := sum_len (l := l) (m := m) fun p hp => h p (List.mem_cons_of_mem _ hp)
    have := h a (by simp)
    rw [List.map_cons, List.sum_cons, List.length_cons, Nat.add_mul]
    omega
theorem text_big {y : DayR} (h : y.small) (hl : y.stops.length ≤ 1000) : ((dayRows y).map (·.length)).sum + (dayRows y).length * 1 ≤ 16777216 ∧ (TL.joinL [10] (dayRows y)).length + 1 ≤ 1000000 ∧ (dayText y).length ≤ 1000000 := by
  have rl := row_len h
  have dl : (dayRows y).length ≤ 1002 := by simp [dayRows]; omega
  have sl := sum_len rl
  have jl : (TL.joinL [10] (dayRows y)).length ≤ ((dayRows y).map (·.length)).sum + (dayRows y).length * 1 := join_len [10] (dayRows y)
  have fl : (dayText y).length ≤ (dayRows y).length * 121 := flat_len rl
  generalize ((dayRows y).map (·.length)).sum = a at sl jl ⊢
  generalize (dayRows y).length = b at dl sl jl fl ⊢
  generalize (TL.joinL [10] (dayRows y)).length = c at jl ⊢
  generalize (dayText y).length = e at fl ⊢
  omega
end Rv

/-! ### range by steps, counts of truth values, promises over things as they stood at the entry -/
namespace Rv
open PySem L2
section
variable {X : Cx} {C : Addr} {B : Bs} {P : Post} {δ : DEnv} {tg e e2 e3 o a b : Expr} {d : D} {pos p : Pos} {k : Nat}
theorem di_r3 {lo m c : Int} {n : Nat} (T : Bi X.mg) (h : DE X C B δ e (.int lo)) (h2 : DE X C B δ e2 (.int m)) (h3 : DE X C B δ e3 (.int c)) (hr : RgC lo m c n) (hg : Gl X "range" := by rfl) (hs1 : starEach [e, e2, e3] X.env = (false, eval e X.env) :: starEach [e2, e3] X.env := by rfl) (hs2 : starEach [e2, e3] X.env = (false, eval e2 X.env) :: starEach [e3] X.env := by rfl) (hs3 : starEach [e3] X.env = (false, eval e3 X.env) :: starEach [] X.env := by rfl) (hpl : (backTo pos (starEach [e2, e3] X.env)).any (·.1) = false := by rfl) :
    DI X C B δ tg (.Call (.Name "range" p) [e, e2, e3] [] pos) (rngC lo c n) :=
  ⟨_, pi_range3 hg T.range (pa_cons pe_we (pa_cons pe_we (pa_cons pe_we pa_nil hs3) hs2) hs1) hs1 hpl, fun R σ G H Rr N q => h.run R σ G H _ N fun v G0 H0 g0 r0 => h2.run R σ G0 H0 _ (N.go g0) fun v G1 H1 g1 r1 => h3.run R σ G1 H1 _ (N.go (g0.trans g1)) fun v G2 H2 g2 r2 => by
    obtain rfl := r0.i
    obtain rfl := r1.i
    obtain rfl := r2.i
    exact ⟨lo, m, c, n, rfl, hr, q _ G2 H2 ((g0.trans g1).trans g2) (wk_c lo c n)⟩⟩
theorem fits {i : Int} (h0 : -100 ≤ i) (h1 : i ≤ 10000000) : Builtin.Range.rangeFitsLong i = true := by
  show (decide (_ ≤ i) && decide (i < _)) = true
  rw [decide_eq_true (by omega), decide_eq_true (by omega)]
  rfl
theorem rg4 {n : Nat} (h : n ≤ 1000000) : RgC 4 (4 + 4 * (n : Int)) 4 n := by
  have e : Builtin.Range.rangeSize 4 (4 + 4 * (n : Int)) 4 = n := by
    unfold Builtin.Range.rangeSize
    rw [if_pos (by decide)]
    split <;> omega
  refine ⟨by decide, by decide, ?_, e⟩
  unfold Builtin.Range.small
  rw [e]
  rw [fits (i := 4) (by decide) (by decide), fits (i := 4 + 4 * (n : Int)) (by omega) (by omega), fits (i := (n : Int)) (by omega) (by omega), if_pos (by decide), fits (i := 4 + 4 * (n : Int) + (4 - 1)) (by omega) (by omega)]
  simp
theorem dc_isB {i j : Bool} (ha : DE X C B δ a (.bl i)) (hb : DE X C B δ b (.bl j)) : DC X C B δ .Is a b (decide (i = j)) :=
  ⟨_, op_is_bl, nomark b, fun R σ G H Q N q => d2 ha hb N fun x y G' H' g r1 r2 => by
    obtain rfl := r1.b
    obtain rfl := r2.b
    exact ⟨i, j, rfl, rfl, q G' H' g⟩⟩
theorem de_chain {op op' : CmpOp} {c : Expr} {p p' : Int → Int → Bool} {i j z : Int} (ho : OpR X (compareOp op) (rI0 fun i j => .bl (p i j))) (ho' : OpR X (compareOp op') (rI0 fun i j => .bl (p' i j)))
    (ha : DE X C B δ a (.int i)) (hb : DE X C B δ b (.int j)) (hc : DE X C B δ c (.int z)) (hm : lastMarks [op, op'] [b, c] = false) : DE X C B δ (.Compare a [op, op'] [b, c] pos) (.bl (p i j && p' j z)) := ⟨fun R σ G H Q N q =>
  we (pe_chain ho ho' pe_we pe_we pe_we hm) (ha.run R σ G H _ N fun x G1 H1 g1 r1 => hb.run R σ G1 H1 _ (N.go g1) fun y G2 H2 g2 r2 => by
    obtain rfl := r1.i
    obtain rfl := r2.i
    refine ⟨i, j, rfl, rfl, p i j, rfl, ?_⟩
    revert q
    cases p i j with
    | true =>
      intro q
      refine hc.run R σ G2 H2 _ (N.go (g1.trans g2)) fun w G3 H3 g3 r3 => ?_
      obtain rfl := r3.i
      exact ⟨j, z, rfl, rfl, q _ G3 H3 ((g1.trans g2).trans g3) (.bl _)⟩
    | false =>
      intro q
      exact q _ G2 H2 (g1.trans g2) (.bl _))⟩
theorem de_le_lt {c : Expr} {i j z : Int} (ha : DE X C B δ a (.int i)) (hb : DE X C B δ b (.int j)) (hc : DE X C B δ c (.int z)) (hm : lastMarks [.LtE, .Lt] [b, c] = false := by with_unfolding_all rfl) : DE X C B δ (.Compare a [.LtE, .Lt] [b, c] pos) (.bl (decide (i ≤ j) && decide (j < z))) := de_chain op_le op_lt ha hb hc hm
theorem de_le_le {c : Expr} {i j z : Int} (ha : DE X C B δ a (.int i)) (hb : DE X C B δ b (.int j)) (hc : DE X C B δ c (.int z)) (hm : lastMarks [.LtE, .LtE] [b, c] = false := by with_unfolding_all rfl) : DE X C B δ (.Compare a [.LtE, .LtE] [b, c] pos) (.bl (decide (i ≤ j) && decide (j ≤ z))) := de_chain op_le op_le ha hb hc hm
/-! xs.count(True) of truth values -/
def eqb (k : Bool) (v : Value) : Bool := match v with
  | .bool n => n == k
  | _ => false
def rCntB (K : PySem.W.Frag) : V → List V → Hp → VK → Prop := fun x xs H Q => ∃ (p : Addr) (ns : List Bool) (k : Bool), x = .ref p ∧ xs = [.bl k] ∧ SqL K H p (ns.map V.bl) ∧ Q (.int (ns.count k : Nat)) H
theorem eqb_count {k : Bool} : ∀ ns : List Bool, (ns.map Value.bool).countP (eqb k) = ns.count k
  | [] => rfl
  | n :: ns => by
    rw [List.map_cons, List.countP_cons, List.count_cons, eqb_count ns]
    rfl
theorem mt_lcountB : MtR X "list.count" (rCntB X.K) := by
  intro pins s σ H x xs v us Q I rx rxs h
  obtain ⟨p, ns, k, rfl, rfl, hs, q⟩ := h
  cases rx
  obtain ⟨u, rfl, ru⟩ := rxs.one
  cases (show u = Value.bool k from ru)
  obtain ⟨its, rv, ⟨⟨cls, dd, data, sl⟩, n, ho, hc, hdn, hd⟩, hlen⟩ := I.list hs
  simp only at hc hd
  subst hc hd
  have hi := rv.bls
  refine call_meets PySem.F.slot_list_count ⟨_, ho, rfl⟩ PySem.F.entry_list_count (PySem.F.args_list_count_2 _ _)
    (SeqAt.list_countAt p its.toArray n dd sl (.bool k) (eqb k)) ⟨ho, fun y hy => ?_, ?_⟩
  · have hy : y ∈ its := by simpa using hy
    rw [hi] at hy
    obtain ⟨z, _, rfl⟩ := List.mem_map.mp hy
    exact SeqAt.EqAt.bool_bool z k
  · have ec : its.toArray.toList.countP (eqb k) = ns.count k := by
      show its.countP (eqb k) = _
      rw [hi]
      exact eqb_count ns
    refine ⟨.int (ns.count k : Nat), H, I.tok _, ⟨s.toks, ?_⟩, q⟩
    show Value.int ((its.toArray.toList.countP (eqb k) : Nat) : Int) s.toks = Value.int ((ns.count k : Nat) : Int) s.toks
    rw [ec]
theorem de_countB {ns : List Bool} {i : Bool} {p2 p3 : Pos} (ha : DE X C B δ o (.lst (ns.map .bl))) (he : DE X C B δ e (.bl i))
    (hbase : attributeBase o "count" X.env (eval o X.env) = eval o X.env := by rfl)
    (hfew : ((backTo p3 (starEach [e] X.env)).all (fun x => !x.1) && (backToKw p3 (keywordEach [] X.env)).all (fun x => x.1.isSome)
      && decide (([e] : List Expr).length + ([] : List Keyword).length + (if ([] : List Keyword).isEmpty then 0 else 1) < 30)) = true := by rfl)
    (hline : (p2.endLine == p3.line) = true := by rfl) (hs : starEach [e] X.env = (false, eval e X.env) :: starEach [] X.env := by rfl) (hplain : (backTo p3 (starEach [] X.env)).any (·.1) = false := by rfl) :
    DE X C B δ (.Call (.Attribute o "count" p2) [e] [] p3) (.int (ns.count i : Nat)) := ⟨fun R σ G H Q N q => by
  refine we (pe_bm PySem.F.plainAttrs_list PySem.F.slot_list_count PySem.F.type_list_count mt_lcountB pe_we (pa_cons pe_we pa_nil hs) hbase hfew hline hs hplain) ?_
  refine ha.run R σ G H _ N fun v G1 H1 g1 r1 => ?_
  obtain ⟨a, xs, rfl, h1, h2⟩ := r1.l
  obtain rfl := h2.bls
  refine ⟨.inl ⟨rfl, _, .of (g1.gh _ _ h1)⟩, he.run R σ G1 H1 _ (N.go g1) fun w G2 H2 g2 r2 => ?_⟩
  obtain rfl := r2.b
  exact ⟨a, ns, i, rfl, rfl, .of (g2.hh _ _ (g1.gh _ _ h1)), q _ G2 H2 (g1.trans g2) (.int _)⟩⟩
end
/-! #### defs whose last arguments are taken as they stood at the entry -/
def spO {α : Type} (M : Md) (n c : Nat) (enc : α → List D) (pre : α → Prop) (res : α → Out) : Sp := fun vs H Q E => ∃ (a : α) (G : Hp) (ws ws2 : List V), vs = ws ++ ws2 ∧ Ex G H ∧ Reps M G ws ((enc a).take c) ∧ Reps M H ws2 ((enc a).drop c) ∧ vs.length = n ∧ pre a ∧ OutOk M G H Q E (res a)
structure FnO (P : Program) (w : World) (K : PySem.W.Frag) (mg : Str → Option Value) (base : Heap) (C : Addr) (k : Nat) (name : Str) (ps : List Str) (c : Nat) {α : Type} (enc : α → List D) (pre : α → Prop) (res : α → Out) : Prop where
  ex : ∃ (f : Addr) (fd : FuncData), FnOk P w K mg base (L2.CX P w) k f fd ps (spO ⟨P, w, K, C⟩ ps.length c enc pre res) ∧ mg name = some (.ref f) ∧ PySem.W.keepIn K (.ref f) = true ∧ Binds K fd ps []
theorem start_slotO {l1 l2 : List D} {n i : Nat} {s : Sl} (e : (l1.map Sl.sh ++ l2.map Sl.old ++ List.replicate n Sl.un)[i]? = some s) : (∃ d, s = .sh d ∧ l1[i]? = some d) ∨ (∃ d, s = .old d ∧ l1.length ≤ i ∧ l2[i - l1.length]? = some d) ∨ s = .un := by
  rw [List.getElem?_append] at e
  split at e
  · rw [List.getElem?_append] at e
    split at e
    · rw [List.getElem?_map] at e
      obtain ⟨d, hd, rfl⟩ := Option.map_eq_some_iff.mp e
      exact .inl ⟨d, rfl, hd⟩
    · rename_i h
      rw [List.getElem?_map] at e
      obtain ⟨d, hd, rfl⟩ := Option.map_eq_some_iff.mp e
      rw [List.length_map] at hd h
      exact .inr (.inl ⟨d, rfl, Nat.le_of_not_lt h, hd⟩)
  · rw [List.getElem?_replicate] at e
    split at e <;> cases e
    exact .inr (.inr rfl)
section
variable {P : Program} {w : World} {K : PySem.W.Frag} {mg : Str → Option Value} {base : Heap} {C : Addr} {k c : Nat} {name qual : Str} {st : Stmt} {N ps : List Str} {α : Type} {enc : α → List D} {pre : α → Prop} {res : α → Out}
theorem fn_o {f : Addr} {fd : FuncData} (F : Fun K name qual st f fd) (hm : mg name = some (.ref f)) (hb : Binds K fd ps []) (S : FnScope N ps (defScope st)) (hN : ps.length ≤ N.length)
    (body : ∀ (cdv : Value) (A : Around) (outer : List PySem.Env) (s : Shared) (H : Hp) (E : XK) (B : Bs) (a : α), pre a → XOk (cxOf (L2.CX P w) P w K mg base N qual (defScope st) f cdv A outer s H E) C B k → (∀ δ c, res a = .err c → B.ex δ c) →
      DB (cxOf (L2.CX P w) P w K mg base N qual (defScope st) f cdv A outer s H E) C B (postOf (res a)) (((enc a).take c).map Sl.sh ++ ((enc a).drop c).map Sl.old ++ List.replicate (N.length - ps.length) Sl.un) (defBody st)) :
    FnO P w K mg base C (k + 1) name ps c enc pre res := by
  refine ⟨f, fd, F.okX S (fun vs H Q E ⟨a, G, ws, ws2, _, _, _, _, h, _⟩ => h) (fun cdv A outer s H vs Q E hr h => ?_), hm, F.kp, hb⟩
  obtain ⟨a, G, ws, ws2, rfl, hG, hR, hR2, hl, hp, ho⟩ := h
  have hx : XOk (cxOf (L2.CX P w) P w K mg base N qual (defScope st) f cdv A outer s H E) C ⟨G, H, fun _ => E, fun _ c => res a = .err c⟩ k :=
    ⟨rfl, S.nd, hr, fun _ => takes_of rfl rfl rfl rfl, fun σ => passAt (W := fun cls d _ H => E cls d H) (takes_of rfl rfl rfl rfl) σ, fun _ => passes_of rfl, fun R δ σ G' H' H2 c hc N' e' => by
      have hc : res a = .err c := hc
      rw [hc] at ho
      exact ho H2 (N'.grow.hh.trans e')⟩
  refine ⟨_, pss_wb, (body cdv A outer s H E _ a hp hx (fun _ _ h => h)).run G _ ⟨fun d v G' H' q g r => ?_, fun o p G' H' q g n n' r => ?_, fun l b its G' H' q g n r => ?_, fun δ σ G' H' q N' => ?_, fun _ _ _ _ z => z.elim, fun _ _ _ _ z => z.elim⟩ (start N (ws ++ ws2)) G H ?_⟩
  · have q : res a = .ok d := q
    rw [q] at ho
    exact ho v G' H' g r
  · have q : res a = .own o := q
    rw [q] at ho
    exact ho p G' H' g n n' r
  · have q : res a = .tow l := q
    rw [q] at ho
    exact ho b its G' H' g n r
  · have q : res a = .ok .non := q
    rw [q] at ho
    exact ho .non G' H' N'.all .non
  · have h1 := hR.length
    have h2 := hR2.length
    have get : ∀ (i : Nat) v, (ws ++ ws2)[i]? = some v → (start N (ws ++ ws2))[i]? = some (some v) := fun i v hv => by
      have hi := (List.getElem?_eq_some_iff.mp hv).1
      unfold L2.start
      rw [List.getElem?_append_left (by rw [List.length_map]; exact hi), List.getElem?_map, hv]
      rfl
    refine ⟨⟨Ex.refl G, fun _ h _ => h⟩, ?_, Grow.refl hG, fun i sl e => ?_, fun i j o o' p _ e => ?_⟩
    · simp only [L2.start, List.length_append, List.length_map, List.length_replicate] at hl ⊢
      omega
    · rcases start_slotO e with ⟨d, rfl, hd⟩ | ⟨d, rfl, hi, hd⟩ | rfl
      · obtain ⟨v, k1, k2⟩ := hR.get hd
        exact ⟨v, get i v (by rw [List.getElem?_append_left (List.getElem?_eq_some_iff.mp k1).1]; exact k1), k2⟩
      · obtain ⟨v, k1, k2⟩ := hR2.get hd
        exact ⟨v, get i v (by rw [List.getElem?_append_right (by omega), h1]; exact k1), k2⟩
      · trivial
    · intro _ ho
      rcases start_slotO e with ⟨d, rfl, hd⟩ | ⟨d, rfl, hi, hd⟩ | rfl <;> exact False.elim ho
end
section
variable {X : Cx} {C : Addr} {B : Bs} {δ : DEnv} {e : Expr} {es : List Expr} {d : D} {pos p : Pos} {k k' c : Nat} {name : Str} {ps : List Str} {α : Type} {enc : α → List D} {pre : α → Prop} {res : α → Out}
theorem de_callO (F : FnO X.prog X.w X.K X.mg X.base C k' name ps c enc pre res) (hx : XOk X C B k) (a : α) (ha : DAL X C B δ (e :: es) ((enc a).take c) ((enc a).drop c)) (hp : pre a) (hres : res a = .ok d) (hn : (enc a).length = ps.length := by rfl) (hk : k' ≤ k := by decide)
    (hg : Gl X name := by rfl) (hdb : (name == ("__debug__" : Str)) = false := by decide) (he : starEach (e :: es) X.env = (false, eval e X.env) :: starEach es X.env := by rfl) (hpl : (backTo pos (starEach es X.env)).any (·.1) = false := by rfl) :
    DE X C B δ (.Call (.Name name p) (e :: es) [] pos) d := ⟨fun R σ G H Q N q => by
  obtain ⟨f, fd, h1, h2, h3, h4⟩ := F.ex
  refine we (pe_callS (E := B.E) h1 (hx.hr.mono hk) hg h2 h3 h4 (fun σ => hx.pa σ) pa_wa hdb he hpl) (ha.run R σ G H _ N fun vs ws G1 H1 g1 r1 r2 => ⟨a, G1, vs, ws, rfl, g1.gh, r1, r2, ?_, hp, by rw [hres]; exact fun v G' H' g r => q v G' H' (g1.trans g) r⟩)
  have l1 := r1.length
  have l2 := r2.length
  rw [List.length_append, l1, l2, ← List.length_append, List.take_append_drop, hn]⟩
end
end Rv

/-! ### replace, find, max of three -/
namespace Rv
open PySem L2
open Builtin Builtin.Str in
/-- x.replace(y, z, 1) -/
def replace1 (x y z : Str) : Str := if ((occurrences x y 0 x.length 1).isEmpty || (y.length == 0 && z.length == 0)) = true then x else glued z (partsBetween x (occurrences x y 0 x.length 1) y.length)
open Builtin Builtin.Str in
theorem gives_repl1 (x y z : Str) (t u v n : Tok)
    (hf : ((occurrences x y 0 x.length 1).isEmpty || (y.length == 0 && z.length == 0)) = false →
      (u == 0 || v == 0) = false ∧ (u == v) = false ∧ (y == z) = false ∧ tooLong (x.length + (occurrences x y 0 x.length 1).length * z.length) = false) :
    Gives («str.replace» ⟨[.str x t, .str y u, .str z v, .int 1 n], []⟩) (if ((occurrences x y 0 x.length 1).isEmpty || (y.length == 0 && z.length == 0)) = true then .val (.str x t) else .str (glued z (partsBetween x (occurrences x y 0 x.length 1) y.length))) := by
  show Gives (if ((occurrences x y 0 x.length 1).isEmpty || (y.length == 0 && z.length == 0)) = true then (do rule "str.replace.nothing"; ret (.str x t)) else
          (do let same ← isSame (.str y u) (.str z v)
              if same = true then (do rule "str.replace.old-is-new"; ret (.str x t)) else
              if tooLong (x.length + (occurrences x y 0 x.length 1).length * z.length) = true then unsupported "str.replace:memory" else
              retStr (glued z (partsBetween x (occurrences x y 0 x.length 1) y.length)))) _
  cases hc : ((occurrences x y 0 x.length 1).isEmpty || (y.length == 0 && z.length == 0))
  · obtain ⟨h0, huv, hyz, hl⟩ := hf hc
    rw [isSame_str_other y z u v h0 huv hyz, hl]
    exact .of_eq rfl
  · exact .rule (.of_eq rfl)
open Builtin Builtin.Str in
theorem repl1_len (x y z : Str) : (replace1 x y z).length ≤ x.length + z.length := by
  unfold replace1
  split
  · omega
  · have h1 := StrLaws.occ_length_le x y 0 x.length 1
    have hy : (glued y (partsBetween x (occurrences x y 0 x.length 1) y.length)).length = x.length := by rw [StrLaws.glued_between_self]
    rw [size_glued, length_partsBetween, Nat.add_sub_cancel] at hy
    rw [size_glued, length_partsBetween, Nat.add_sub_cancel]
    have h2 : (occurrences x y 0 x.length 1).length * z.length ≤ 1 * z.length := Nat.mul_le_mul_right _ h1
    omega
section
variable {prog : Program} {w : World} {A : Around} {E : Value → Shared → Prop} {s : Shared} {x y z : Str} {t u v n : Tok} {Q : Value → Shared → Prop}
open Builtin Builtin.Str in
theorem sc_repl1 (hu : u ≠ 0) (hv : v ≠ 0) (huv : u ≠ v) (hyz : (y == z) = false) (hb : x.length + z.length ≤ 16777216)
    (hq : ∀ t' k, Q (.str (replace1 x y z) t') { s with toks := k }) : wpAny (model prog w) A (call (.builtin "str.replace") [.str x t, .str y u, .str z v, .int 1 n]) Q E s := by
  have h1 := StrLaws.occ_length_le x y 0 x.length 1
  have h2 : (occurrences x y 0 x.length 1).length * z.length ≤ 1 * z.length := Nat.mul_le_mul_right _ h1
  have hl : tooLong (x.length + (occurrences x y 0 x.length 1).length * z.length) = false := by
    have e : (2 : Nat) ^ 24 = 16777216 := by decide
    unfold tooLong sizeLine
    exact decide_eq_false (by omega)
  refine call_gives F.slot_str_replace (typeIs_str _ _ _) F.entry_str_replace (F.args_str_replace_4 _ _ _ _)
    (gives_repl1 x y z t u v n fun _ => ⟨by simp [hu, hv], by simp [huv], hyz, hl⟩) ?_
  have hq' := hq
  have hlen := repl1_len x y z
  unfold replace1 at hq' hlen
  cases hc : ((occurrences x y 0 x.length 1).isEmpty || (y.length == 0 && z.length == 0))
  · rw [hc] at hq' hlen
    simp only [Bool.false_eq_true, if_false] at hq' hlen ⊢
    exact ⟨by rw [sizeLine_eq]; omega, hq' _ _⟩
  · rw [hc] at hq'
    simp only [if_true] at hq' ⊢
    exact hq' t s.toks
end
/-! #### where a token is out -/
def WEt (X : Cx) (e : Expr) (σ : St) (H : Hp) (Q : VK) : Prop := ∀ (pins : List (Addr × Obj)) (s : Shared), 1 ≤ s.toks → Inv X pins σ H s → wpAny (model X.prog X.w) X.A (eval e X.env) (EP X pins σ Q) X.xe s
structure DEt (X : Cx) (C : Addr) (B : Bs) (δ : DEnv) (e : Expr) (d : D) : Prop where
  run : ∀ (R : Hp) (σ : St) (G H : Hp) (Q : VK), Fit (md X C) B R σ G H δ →
  (∀ v G' H', Grow G H G' H' → Rep (md X C) G' v d → Q v H') → WEt X e σ H Q
section
variable {X : Cx} {C : Addr} {B : Bs} {P : Post} {δ : DEnv} {a e o : Expr} {d : D} {y z : Str} {j k l : Nat} {c0 c1 c2 apos pos p cp rp pos' : Pos}
theorem det_repl {x : Str} (ho : DE X C B δ o (.str x)) (hz : x.length + (x.length + 1) * z.length ≤ 16777216) (hyz : (y == z) = false := by decide)
    (hst : starEach [.Constant (.str y) j c0, .Constant (.str z) k c1] X.env = [(false, eval (.Constant (.str y) j c0) X.env), (false, eval (.Constant (.str z) k c1) X.env)] := by rfl)
    (hbase : attributeBase o "replace" X.env (eval o X.env) = eval o X.env := by rfl) (hline : (apos.endLine == pos.line) = true := by rfl) :
    DEt X C B δ (.Call (.Attribute o "replace" apos) [.Constant (.str y) j c0, .Constant (.str z) k c1] [] pos) (.str (Txt.replace x y z)) := ⟨fun R σ G H Q N q pins s h0 I =>
  CwR.pet_replC pe_we hyz hst hbase hline pins s σ H Q h0 I (ho.run R σ G H _ N fun v G' H' g r => by
    obtain rfl := r.s
    exact ⟨x, rfl, hz, q _ G' H' g (.str _)⟩)⟩
theorem det_repl1 {x : Str} (ho : DE X C B δ o (.str x)) (hz : x.length + z.length ≤ 16777216) (hyz : (y == z) = false := by decide)
    (hst : backTo pos (starEach [.Constant (.str y) j c0, .Constant (.str z) k c1, .Constant (.int 1) l c2] X.env) = [(false, eval (.Constant (.str y) j c0) X.env), (false, eval (.Constant (.str z) k c1) X.env), (false, eval (.Constant (.int 1) l c2) X.env)] := by rfl)
    (hbase : attributeBase o "replace" X.env (eval o X.env) = eval o X.env := by rfl) (hline : (apos.endLine == pos.line) = true := by rfl)
    (hfew : ((backTo pos (starEach [.Constant (.str y) j c0, .Constant (.str z) k c1, .Constant (.int 1) l c2] X.env)).all (fun x => !x.1) && (backToKw pos (keywordEach [] X.env)).all (fun x => x.1.isSome)
      && decide (([.Constant (.str y) j c0, .Constant (.str z) k c1, .Constant (.int 1) l c2] : List Expr).length + ([] : List Keyword).length + (if ([] : List Keyword).isEmpty then 0 else 1) < 30)) = true := by rfl) :
    DEt X C B δ (.Call (.Attribute o "replace" apos) [.Constant (.str y) j c0, .Constant (.str z) k c1, .Constant (.int 1) l c2] [] pos) (.str (replace1 x y z)) := ⟨fun R σ G H Q N q pins s h0 I => by
  refine wpAny_Call_method_lateS hbase hfew hline (wpAny_mono (PySem.wpAny_toks (ho.run R σ G H (fun v H1 => v = .str x ∧ Q (.str (replace1 x y z)) H1) N (fun v G' H' g r => by
    obtain rfl := r.s
    exact ⟨rfl, q _ G' H' g (.str _)⟩) pins s I)) (fun v s1 qq => ?_) fun _ _ z => z.2)
  obtain ⟨hk, v', H1, I1, r1, e1, q1⟩ := qq
  subst e1
  obtain ⟨tx, e2⟩ := r1
  subst e2
  rw [hst]
  refine ⟨"str", _, PySem.F.plainAttrs_str, PySem.F.slot_str_replace, PySem.F.type_str_replace, typeIs_str _ _ _, (fun _ e => nomatch e), Calls.callWith_builtin rfl (Calls.evalArgs_plain (Calls.spliced_cons ?_))⟩
  refine Calls.Constant_str (Calls.spliced_cons (Calls.Constant_str (Calls.spliced_cons (wpAny_Constant_int (Calls.spliced_nil ?_)))))
  exact sc_repl1 (by show s1.toks ≠ 0; omega) (by show s1.toks + 1 ≠ 0; omega) (by show s1.toks ≠ s1.toks + 1; omega) hyz hz fun t' k => ⟨.str (replace1 x y z), H1, I1.tok k, ⟨t', rfl⟩, q1⟩⟩
/-- if a == 3: return e, where e wants a token -/
theorem db_ifRetT {sts : List Stmt} {m i : Int} (ha : DE X C B δ a (.int m)) (he : m = i → DEt X C B δ e d) (h1 : m = i → P.rt d) (h2 : m ≠ i → DB X C B P δ sts) (hm : behindInMarks .Eq (.Constant (.int i) j p) = false := by rfl) :
    DB X C B P δ (.If (.Compare a [.Eq] [.Constant (.int i) j p] cp) [.Return (some e) rp] [] pos :: sts) := ⟨fun R D' pk σ G H N pins s I => by
  refine wpAny_execs_cons (wpAny_If (wpAny_mono (Q := fun b s' => 1 ≤ s'.toks ∧ TP X pins σ (fun b H1 => b = decide (m = i) ∧ ∃ G1, Grow G H G1 H1) b s') ?_ (fun b s1 q => ?_) fun _ _ z => z))
  · refine wpAny_isTrue_Compare1 (thn (ha.run R σ G H (fun v H1 => v = .int m ∧ ∃ G1, Grow G H G1 H1) N (fun v G' H' g r => by
      obtain rfl := r.i
      exact ⟨rfl, G', g⟩) pins s I) fun v s1 ⟨x, H1, I1, r1, e1, q1⟩ => ?_) hm
    subst e1
    refine wpAny_Constant_int ?_
    refine wpAny_mono (PySem.wpAny_toks (op_eq pins { s1 with toks := s1.toks + 1 } σ H1 (.int m) (.int i) v (.int i s1.toks) (fun z H2 => z = .bl (decide (m = i)) ∧ H2 = H1) (I1.tok _) r1 ⟨_, rfl⟩ ⟨rfl, by rw [dec_vint]; exact ⟨rfl, rfl⟩⟩)) (fun c s3 q => ?_) fun _ _ z => z.2
    obtain ⟨hk, z, H3, I3, r3, e3, e4⟩ := q
    subst e3 e4
    cases r3
    exact wpAny_truthy_bool ⟨by have : s1.toks + 1 ≤ s3.toks := hk; omega, H3, I3, rfl, q1⟩
  · obtain ⟨hk, H1, I1, rfl, G1, g1⟩ := q
    have N1 := N.go g1
    by_cases hmi : m = i
    · rw [decide_eq_true hmi]
      refine wpAny_execs_cons (wpAny_Return_some (thn ((he hmi).run R σ G1 H1 _ N1 (fun v G' H' g r => pk.rt d v G' H' (h1 hmi) (N1.all.trans g) r) pins s1 hk I1) fun v s2 ⟨x, H2, I2, r2, q2⟩ => ?_))
      exact ⟨x, σ, H2, I2, r2, q2⟩
    · rw [decide_eq_false hmi]
      exact wpAny_execs_nil ((h2 hmi).run R D' pk σ G1 H1 N1 pins s1 I1)⟩
/-- x.find(y) -/
theorem de_find {x y' : Str} (ho : DE X C B δ o (.str x)) (he : DE X C B δ e (.str y')) (hs : starEach [e] X.env = [(false, eval e X.env)] := by rfl) (hbase : attributeBase o "find" X.env (eval o X.env) = eval o X.env := by rfl) (hline : (apos.endLine == pos.line) = true := by rfl) :
    DE X C B δ (.Call (.Attribute o "find" apos) [e] [] pos) (.int (Txt.find x y')) := ⟨fun R σ G H Q N q =>
  we (pe_m1 PySem.F.slot_str_find PySem.F.type_str_find mt_find pe_we pe_we hs hbase hline) (ho.run R σ G H _ N fun v G1 H1 g1 r1 => by
    obtain rfl := r1.s
    refine ⟨⟨_, rfl⟩, he.run R σ G1 H1 _ (N.go g1) fun v2 G2 H2 g2 r2 => ?_⟩
    obtain rfl := r2.s
    exact ⟨x, y', rfl, rfl, q _ G2 H2 (g1.trans g2) (.int _)⟩)⟩
theorem nuM (i j : Int) : nuMax2 (.int i) (.int j) = some (.int (maxI i j)) := by
  show some (if decide (i < j) = true then V.int j else V.int i) = _
  unfold maxI
  by_cases h : i < j
  · rw [decide_eq_true h, if_pos rfl, if_pos h]
  · rw [decide_eq_false h, if_neg Bool.false_ne_true, if_neg h]
theorem de_max3 {e1 e2 e3 : Expr} {kk : Nat} {i1 i2 i3 : Int} (T : Bi X.mg) (hx : XOk X C B kk) (h1 : DE X C B δ e1 (.int i1)) (h2 : DE X C B δ e2 (.int i2)) (h3 : DE X C B δ e3 (.int i3)) (hg : Gl X "max" := by rfl) (he : starEach [e1, e2, e3] X.env = (false, eval e1 X.env) :: starEach [e2, e3] X.env := by rfl) (he2 : starEach [e2, e3] X.env = (false, eval e2 X.env) :: starEach [e3] X.env := by rfl) (he3 : starEach [e3] X.env = (false, eval e3 X.env) :: starEach [] X.env := by rfl) (hpl : (backTo pos (starEach [e2, e3] X.env)).any (·.1) = false := by rfl) :
    DE X C B δ (.Call (.Name "max" p) [e1, e2, e3] [] pos) (.int (maxI (maxI i1 i2) i3)) := ⟨fun R σ G H Q N q =>
  we (pe_callB (call_max3Nu hx.calm) hg T.max (by decide +kernel) (pa_cons pe_we (pa_cons pe_we (pa_cons pe_we pa_nil he3) he2) he) (by decide) (by decide) he hpl) (h1.run R σ G H _ N fun v1 G1 H1 g1 r1 => h2.run R σ G1 H1 _ (N.go g1) fun v2 G2 H2 g2 r2 => h3.run R σ G2 H2 _ (N.go (g1.trans g2)) fun v3 G3 H3 g3 r3 => by
    obtain rfl := r1.i
    obtain rfl := r2.i
    obtain rfl := r3.i
    refine ⟨.int i1, .int i2, .int i3, .int (maxI (maxI i1 i2) i3), rfl, ?_, q _ G3 H3 ((g1.trans g2).trans g3) (.int _)⟩
    show (nuMax2 (.int i1) (.int i2)).bind (fun m => nuMax2 m (.int i3)) = _
    rw [nuM]
    exact nuM _ _)⟩
theorem op_mulS : OpR X (binaryOp .Mult) (fun x y H Q => ∃ s n, x = .str s ∧ y = .int n ∧ PySem.MulOk s n ∧ Q (.str (Txt.mul s n)) H) := by
  intro pins s σ H x y v u Q I rx ry h
  obtain ⟨i, n, rfl, rfl, hok, q⟩ := h
  obtain ⟨t, rfl⟩ := rx
  obtain ⟨t', rfl⟩ := ry
  exact PySem.SB.mul hok fun t'' k => ⟨.str _, H, I.tok k, ⟨t'', rfl⟩, q⟩
theorem de_mulS {s : Str} {n : Int} {b : Expr} (ha : DE X C B δ a (.str s)) (hb : DE X C B δ b (.int n)) (hok : PySem.MulOk s n) : DE X C B δ (.BinOp a .Mult b pos) (.str (Txt.mul s n)) := ⟨fun R σ G H Q N q =>
  we (pe_op op_mulS pe_we pe_we) (d2 ha hb N fun x y G' H' g r1 r2 => by
    obtain rfl := r1.s
    obtain rfl := r2.i
    exact ⟨s, n, rfl, rfl, hok, q _ G' H' g (.str _)⟩)⟩
end
theorem fold_size (a : Array Nat) : ∀ (n : Nat) (acc : Array Nat), ((List.replicate n a).foldl (· ++ ·) acc).size = acc.size + n * a.size
  | 0, acc => by simp
  | n + 1, acc => by
    rw [List.replicate_succ, List.foldl_cons, fold_size a n, Array.size_append, Nat.add_mul]
    omega
theorem mul_len (s : Str) {n : Int} (h : 1 ≤ n) : (Txt.mul s n).length ≤ n.toNat * s.length := by
  unfold Txt.mul
  rw [if_neg (by omega)]
  split
  · have : 1 * s.length ≤ n.toNat * s.length := Nat.mul_le_mul_right _ (by omega)
    omega
  · show ((List.replicate n.toNat s.cps).foldl (· ++ ·) #[]).size ≤ _
    rw [fold_size]
    simp [Str.length]
end Rv

/-! ### outcomes of every kind, what is handed to be changed, sets of a list's numbers -/
namespace Rv
open PySem L2
/-! len(set(xs)), whole numbers -/
theorem oss_nodup : ∀ (l ks : List Int), ks.Nodup → ((l.foldl PyProof.Rows.step_dedup ks).length < ks.length + l.length ↔ ¬ (ks ++ l).Nodup)
  | [], ks, h => by simp [h]
  | a :: r, ks, h => by
    rw [List.foldl_cons, PySem.W.oss_step]
    by_cases m : a ∈ ks
    · rw [if_pos m]
      have := PySem.W.oss_len_from r ks
      refine ⟨fun _ nd => ?_, fun _ => by rw [List.length_cons]; omega⟩
      exact (List.nodup_append.mp nd).2.2 a m a List.mem_cons_self rfl
    · rw [if_neg m]
      have nd : (ks ++ [a]).Nodup := List.nodup_append.mpr ⟨h, List.nodup_cons.mpr ⟨List.not_mem_nil, List.nodup_nil⟩, fun x hx y hy e => by
        rw [List.mem_singleton] at hy
        exact m (hy ▸ e ▸ hx)⟩
      have := oss_nodup r (ks ++ [a]) nd
      rw [List.length_append, List.append_assoc] at this
      rw [List.length_cons, show ks.length + (r.length + 1) = ks.length + 1 + r.length by omega]
      exact this
theorem oss_lt (l : List Int) : (PySem.W.ossOf l).length < l.length ↔ ¬ l.Nodup := by
  have := oss_nodup l [] List.nodup_nil
  simpa [PySem.W.ossOf] using this
section
open PyProof.Rows
def tLenSetG (K : PySem.W.Frag) (ta : TE) : TE := fun σ H Q => ta σ H fun x H1 => ∃ (l : Addr) (ns : List Int), x = V.ref l ∧ SqL K H1 l (ns.map V.int) ∧ ns.length < 64 ∧ Q (.int ((PySem.W.ossOf ns).length : Nat)) H1
theorem pe_lenSetG {X : Cx} {a : Expr} {ta : TE} {p p2 q pos : Pos} (hc : X.calm = true) (hg : Gl X "len") (hm : X.mg "len" = none) (hg2 : Gl X "set") (hm2 : X.mg "set" = none) (ha : PE X a ta)
    (na : starEach [a] X.env = (false, eval a X.env) :: starEach [] X.env) (nb : starEach [.Call (.Name "set" p2) [a] [] q] X.env = (false, eval (.Call (.Name "set" p2) [a] [] q) X.env) :: starEach [] X.env) : PE X (.Call (.Name "len" p) [.Call (.Name "set" p2) [a] [] q] [] pos) (tLenSetG X.K ta) := by
  refine ⟨fun pins s σ H Q I h => ?_⟩
  refine Call_ (ld_blt I hg hm PySem.boot_len ?_)
  refine PyProof.Rows.callWith_builtin1 (PyProof.Rows.args_cons ?_ nb) nb rfl
  refine Call_ (ld_blt I hg2 hm2 PyProof.Rows.boot_set ?_)
  refine PyProof.Rows.callWith_type1 (PyProof.Rows.args_cons (thn (ha.run pins s σ H _ I h) fun v s1 ⟨x, H1, I1, r1, q1⟩ => PyProof.Rows.args_nil ?_) na) na rfl
  obtain ⟨l, ns, rfl, hq, h1, q1⟩ := q1
  cases r1
  obtain ⟨its, r, pl, hz⟩ := I1.list hq
  have hl : its.toArray.size = ns.length := by rw [List.size_toArray, ← r.length, List.length_map]
  refine call_set_list (I1.ok.hd hc) pl.isList (ns := ns) (by simpa using r.ints) (by unfold scanBound; omega) fun h' tk hS hk => ?_
  rw [hl, PySem.W.oss_met] at hS
  refine PyProof.Rows.args_nil ?_
  obtain ⟨o, es, ep, t, ho, hex, hd, _, _, _, hf, hn⟩ := hS
  have hle := PySem.W.oss_len ns
  have I2 : Inv X pins σ H1 { s1 with heap := h', toks := tk } := I1.kept fun b o e => hk b o (Heap.lt_size e) e
  refine call_len_set ho hex hd hf (by rw [hn] <;> omega) ⟨.int (PySem.W.ossOf ns).length, H1, I2.tok _, ⟨_, by rw [hn]⟩, q1⟩
end
section
variable {X : Cx} {C : Addr} {B : Bs} {P : Post} {δ : DEnv} {a b e e2 e3 : Expr} {es : List Expr} {d : D} {p pos : Pos} {k k' : Nat} {sts : List Stmt}
theorem de_lenSet {ns : List Int} {p2 q : Pos} (T : Bi X.mg) (hx : XOk X C B k) (h : DE X C B δ e (.lst (ns.map .int))) (hl : ns.length < 64) (hg : Gl X "len" := by rfl) (hg2 : Gl X "set" := by rfl)
    (na : starEach [e] X.env = (false, eval e X.env) :: starEach [] X.env := by rfl) (nb : starEach [.Call (.Name "set" p2) [e] [] q] X.env = (false, eval (.Call (.Name "set" p2) [e] [] q) X.env) :: starEach [] X.env := by rfl) : DE X C B δ (.Call (.Name "len" p) [.Call (.Name "set" p2) [e] [] q] [] pos) (.int ((PySem.W.ossOf ns).length : Nat)) := ⟨fun R σ G H Q N z =>
  we (pe_lenSetG hx.calm hg T.len hg2 T.set pe_we na nb) (h.run R σ G H _ N fun v G' H' g r => by
    obtain ⟨a, xs, rfl, h1, h2⟩ := r.l
    obtain rfl := Reps.ints h2
    exact ⟨a, ns, rfl, .of (g.gh _ _ h1), hl, z _ G' H' g (.int _)⟩)⟩
/-- len of a tuple, as it stands now -/
theorem dw_lenT {l : List D} (T : Bi X.mg) (h : DW X C B δ e (.tup l)) (hg : Gl X "len" := by rfl) (he : starEach [e] X.env = (false, eval e X.env) :: starEach [] X.env := by rfl) : DE X C B δ (.Call (.Name "len" p) [e] [] pos) (.int (l.length : Int)) := ⟨fun R σ G H Q N q =>
  b1 call_len_seq hg T.len PySem.boot_len he (by decide) (by decide) (h.run R σ G H _ N fun v G' H' g r => by
    obtain ⟨a, xs, rfl, r1, r2⟩ := r.t
    exact ⟨a, xs, rfl, .inr r1, by rw [r2.length]; exact q _ G' H' g (.int _)⟩)⟩
/-- xs != [] -/
theorem dc_neNil (hx : XOk X C B k) {ns : List Int} (ha : DW X C B δ a (.lst (ns.map .int))) (hb : DW X C B δ b (.lst [])) : DC X C B δ .NotEq a b (!decide (ns = [])) := by
  cases ns with
  | nil => exact dc_neSame hx ha hb (PdN.ints [])
  | cons n ns =>
    obtain ⟨x, h1, h2, h3⟩ := PdN.ints (n :: ns)
    have s : SeqAt.shaped x = true := by
      unfold SeqAt.shaped
      rw [h2, decide_eq_true (Nat.le_trans h3 (by decide))]
      rfl
    have e : PyData.eqv x (.list []) = false := by
      have h1 : ((pd (.int n)).bind fun x => (pds (ns.map .int)).map fun r => x :: r).map PyData.list = some x := h1
      obtain ⟨z, hz, rfl⟩ := Option.map_eq_some_iff.mp h1
      obtain ⟨y, hy, hz⟩ := Option.bind_eq_some_iff.mp hz
      obtain ⟨w, hw, rfl⟩ := Option.map_eq_some_iff.mp hz
      simp only [PyData.eqv, PyData.eqvAll]
    have := dc_neP hx ha hb h1 (y := .list []) rfl s (by decide +kernel)
    rw [e] at this
    simpa using this
/-! a, b, c, d = e -/
def set4 (i j m n : Nat) : D → DEnv → DEnv
  | .tup [a, b, c, d], δ => (((δ.set i (.sh a)).set j (.sh b)).set m (.sh c)).set n (.sh d)
  | _, δ => δ
theorem dg_4 (hx : XOk X C B k) (i j m n : Nat) {x y z u : Str} {p1 p2 p3 p4 : Pos} {kk : Nat} (hi : X.N[i]? = some x := by rfl) (hl : Loc X.env.scope x := by first | exact Or.inl rfl | exact Or.inr rfl) (hf : X.fn x = true ∨ X.env.scope.names.lookup x = some .local := by first | exact .inl rfl | exact .inr rfl)
    (hj : X.N[j]? = some y := by rfl) (hl2 : Loc X.env.scope y := by first | exact Or.inl rfl | exact Or.inr rfl) (hf2 : X.fn y = true ∨ X.env.scope.names.lookup y = some .local := by first | exact .inl rfl | exact .inr rfl)
    (hm : X.N[m]? = some z := by rfl) (hl3 : Loc X.env.scope z := by first | exact Or.inl rfl | exact Or.inr rfl) (hf3 : X.fn z = true ∨ X.env.scope.names.lookup z = some .local := by first | exact .inl rfl | exact .inr rfl)
    (hn : X.N[n]? = some u := by rfl) (hl4 : Loc X.env.scope u := by first | exact Or.inl rfl | exact Or.inr rfl) (hf4 : X.fn u = true ∨ X.env.scope.names.lookup u = some .local := by first | exact .inl rfl | exact .inr rfl)
    (hs1 : (assignEach [.Name x p1, .Name y p2, .Name z p3, .Name u p4] X.env).map (·.2) = assign (.Name x p1) X.env :: (assignEach [.Name y p2, .Name z p3, .Name u p4] X.env).map (·.2) := by rfl) (hs2 : (assignEach [.Name y p2, .Name z p3, .Name u p4] X.env).map (·.2) = assign (.Name y p2) X.env :: (assignEach [.Name z p3, .Name u p4] X.env).map (·.2) := by rfl)
    (hs3 : (assignEach [.Name z p3, .Name u p4] X.env).map (·.2) = assign (.Name z p3) X.env :: (assignEach [.Name u p4] X.env).map (·.2) := by rfl) (hs4 : (assignEach [.Name u p4] X.env).map (·.2) = assign (.Name u p4) X.env :: (assignEach [] X.env).map (·.2) := by rfl)
    (hn4 : (assignEach [.Name x p1, .Name y p2, .Name z p3, .Name u p4] X.env).length = 4 := by rfl) (hst : (assignEach [.Name x p1, .Name y p2, .Name z p3, .Name u p4] X.env).findIdx? (·.1) = none := by rfl) :
    DG X C B (.Tuple [.Name x p1, .Name y p2, .Name z p3, .Name u p4] kk pos) (set4 i j m n) (fun d => ∃ a b c e, d = .tup [a, b, c, e]) :=
  ⟨_, pg_tup hx.calm (pgs_cons (pg_name (i := i) hx.nd hi hl hf) (pgs_cons (pg_name (i := j) hx.nd hj hl2 hf2) (pgs_cons (pg_name (i := m) hx.nd hm hl3 hf3) (pgs_cons (pg_name (i := n) hx.nd hn hl4 hf4) pgs_nil hs4) hs3) hs2) hs1) hn4 hst, fun R σ G H δ x d Q ⟨a, b, c, e, h⟩ N r q => by
    subst h
    obtain ⟨p, xs, rfl, h1, h2⟩ := r.t
    cases h2 with
    | cons ra r2 =>
      cases r2 with
      | cons rb r3 =>
        cases r3 with
        | cons rc r4 =>
          cases r4 with
          | cons rd r5 =>
            cases r5
            exact ⟨p, _, rfl, N.gh.st h1, rfl, _, _, rfl, _, _, rfl, _, _, rfl, _, _, rfl, rfl, q _ ((((N.setSh ra).setSh rb).setSh rc).setSh rd)⟩⟩
/-! x = [e, e2], two new lists -/
theorem ds_setLL (hx : XOk X C B k) (i : Nat) {l m : List D} {x : Str} {pos' p2 : Pos} (ha : DO X C B δ a (.lst l)) (hb : DO X C B δ b (.lst m)) (h : ∀ c q r, P.nx (δ.set i (.nest c true [.ow q l, .ow r m]))) (hi : X.N[i]? = some x := by rfl) (hl : Loc X.env.scope x := by first | exact Or.inl rfl | exact Or.inr rfl)
    (h1 : starEach [a, b] X.env = (false, eval a X.env) :: starEach [b] X.env := by rfl) (h2 : starEach [b] X.env = (false, eval b X.env) :: starEach [] X.env := by rfl)
    (hs : swapsWith (.List [a, b] p2) (some (.Name x pos')) pos.line X.env = pure false := by rfl) (hf : X.fn x = true ∨ X.env.scope.names.lookup x = some .local := by first | exact .inl rfl | exact .inr rfl) : DS X C B P δ (.Assign [.Name x pos'] (.List [a, b] p2) pos) := ⟨fun R D' pk σ G H N =>
  ws (ps_set (i := i) hx.nd hi hl (pe_lst (pa_cons pe_we (pa_cons pe_we pa_nil h2) h1)) hs hf) (ha.run R σ G H _ N fun q G1 H1 g1 n1 n1' r1 => hb.run R σ G1 H1 _ (N.go g1) fun r G2 H2 g2 n2 n2' r2 => ⟨small (Nat.le_of_ble_eq_true rfl), fun c hc => by
    have k1 : OwnAt (md X C) G2 H2 q (.lst l) := r1.grow g2
    have qr : q ≠ r := fun z => r1.some (z ▸ n2)
    have cq : q ≠ c := fun z => k1.some (z ▸ hc)
    have cr : r ≠ c := fun z => r2.some (z ▸ hc)
    have g := g1.trans g2
    have hr : H r = none := g1.hh.free n2
    refine pk.nx _ _ G2 _ (h c q r) (N.setNest (g.trans (Grow.own g.gh hc)) (fun z hz => ?_) (fun _ => g.hh.free hc) ⟨rfl, ?_, fun _ hz => ?_, [.ref q, .ref r], ⟨⟨rfl, N.grow.hh.free n1, r1.out g2 n1', k1.upd cq⟩, ⟨rfl, N.grow.hh.free hr, n2', r2.upd cr⟩, trivial⟩, ?_⟩)
    · rcases List.mem_cons.mp hz with rfl | hz
      · exact n1
      · rcases List.mem_cons.mp hz with rfl | hz
        · exact hr
        · cases hz
    · refine List.nodup_cons.mpr ⟨fun z => ?_, List.nodup_cons.mpr ⟨List.not_mem_nil, List.nodup_nil⟩⟩
      rcases List.mem_cons.mp z with z | z
      · exact qr z
      · cases z
    · rcases List.mem_cons.mp hz with z | hz
      · exact cq z.symm
      · rcases List.mem_cons.mp hz with z | hz
        · exact cr z.symm
        · cases hz
    · rw [if_pos rfl]
      exact ⟨N.grow.hh.free (g.hh.free hc), g.gh.free hc, upd_same⟩⟩)⟩
/-! x[j].clear(), x an own list that holds own lists -/
theorem ds_clearAt (i : Nat) {c q : Addr} {its : List Itm} {j : Int} {l : List D} {x : Str} {jj : Nat} {p0 p1 p2 p3 pj : Pos} (hi : δ[i]? = some (.nest c true its)) (hj : 0 ≤ j) (hk : its[j.toNat]? = some (.ow q l)) (h : P.nx (δ.set i (.nest c true (its.set j.toNat (.ow q []))))) (hN : X.N[i]? = some x := by rfl) (hv : Vis X.env.scope x := by first | exact Or.inl rfl | exact Or.inr (Or.inl rfl) | exact Or.inr (Or.inr rfl))
    (hd : (x == ("__debug__" : Str)) = false := by decide) (hcd : (x == ("__classdict__" : Str)) = false := by decide)
    (hbase : attributeBase (.Subscript (.Name x p0) (.Constant (.int j) jj pj) p1) "clear" X.env (eval (.Subscript (.Name x p0) (.Constant (.int j) jj pj) p1) X.env) = eval (.Subscript (.Name x p0) (.Constant (.int j) jj pj) p1) X.env := by rfl)
    (hline : (p2.endLine == p3.line) = true := by rfl)
    (hsw : swapsWith (.Call (.Attribute (.Subscript (.Name x p0) (.Constant (.int j) jj pj) p1) "clear" p2) [] [] p3) none pos.line X.env = pure false := by rfl) :
    DS X C B P δ (.Expr (.Call (.Attribute (.Subscript (.Name x p0) (.Constant (.int j) jj pj) p1) "clear" p2) [] [] p3) pos) := ⟨fun R D' pk σ G H N => by
  obtain ⟨h1, h2, h5, vs, h3, h4⟩ := N.slot i _ hi
  obtain ⟨k1, xs, k2, k3⟩ := h3.at hk
  rw [if_pos rfl] at h4
  exact ws (ps_expr (pe_bm0 PySem.F.plainAttrs_list PySem.F.slot_list_clear PySem.F.type_list_clear mt_clear (pe_ix ix_list (pe_var hN hv hd hcd) pe_int (fun _ _ => rfl)) hbase hline) hsw) ⟨_, h1, _, vs, j, _, rfl, rfl, .of h4.2.2, atI_at hj k1, .inl ⟨rfl, _, .of k2⟩, q, xs, rfl, rfl, k2, pk.nx _ _ G _ h (N.nestSet hi hk ⟨[], upd_same, .nil⟩)⟩⟩
/-! x[j] = e, x an own list -/
theorem Reps.set {M : Md} {G : Hp} {v : V} {d : D} (h : Rep M G v d) : ∀ {xs : List V} {l : List D} (j : Nat), Reps M G xs l → Reps M G (xs.set j v) (l.set j d)
  | _, _, _, .nil => .nil
  | _, _, 0, .cons _ r => .cons h r
  | _, _, j + 1, .cons h' r => .cons h' (Reps.set h j r)
theorem ds_putL (i : Nat) {l : List D} {n : Int} {j : Nat} {x : Str} {p2 p3 : Pos} (hi : δ[i]? = some (.ow (.lst l))) (hb : DE X C B δ b (.int n)) (hj : L2.ixN l.length n = some j) (he : DE X C B δ e d) (h : P.nx (δ.set i (.ow (.lst (l.set j d))))) (hN : X.N[i]? = some x := by rfl) (hv : Vis X.env.scope x := by first | exact Or.inl rfl | exact Or.inr (Or.inl rfl) | exact Or.inr (Or.inr rfl))
    (hd : (x == ("__debug__" : Str)) = false := by decide) (hcd : (x == ("__classdict__" : Str)) = false := by decide)
    (hs : swapsWithSole [.Subscript (.Name x p2) b p3] e pos.line X.env = pure false := by rfl) (hw : swappedStores [.Subscript (.Name x p2) b p3] e X.env = pure none := by rfl)
    (h1 : (assignEach [.Subscript (.Name x p2) b p3] X.env).map (·.2) = [assign (.Subscript (.Name x p2) b p3) X.env] := by rfl)
    (ha : ∀ v, assign (.Subscript (.Name x p2) b p3) X.env v = (do
      let ov ← holding [v] (eval (.Name x p2) X.env)
      let iv ← holding [v, ov] (eval b X.env)
      standAt p3
      holding [v, ov, iv] (setItem ov iv v)
      release [v, ov, iv] []) := by intro _; rfl) : DS X C B P δ (.Assign [.Subscript (.Name x p2) b p3] e pos) := ⟨fun R D' pk σ G H N =>
  ws (ps_asg pe_we (pg_sub (pe_var hN hv hd hcd) pe_we set_list ha) hs hw h1) (he.run R σ G H _ N fun v G1 H1 g1 r1 => by
    obtain ⟨pa, h1, h2, h3, xs, h4, h5⟩ := N.slot i _ hi
    refine ⟨_, h1, ?_⟩
    refine hb.run R σ G1 H1 _ (N.go g1) fun w G2 H2 g2 r2 => ?_
    obtain rfl := r2.i
    have h4' := g2.hh _ _ (g1.hh _ _ h4)
    exact ⟨pa, xs, n, j, rfl, rfl, h4', by rw [h5.length]; exact hj, pk.nx _ _ G2 _ h (((N.go g1).go g2).write hi h1 ⟨_, upd_same, Reps.set (r1.mono g2.gg) j ((h5.mono g1.gg).mono g2.gg)⟩)⟩)⟩
end
end Rv

/-! ### outcomes of every kind; what is handed away to be changed -/
namespace Rv
open PySem L2
def Nw.tp : Nw → Bool
  | .st d => d.tp
  | .ow l => tps l
/-- an answer made of tuples, lists and dicts of tuples -/
def Out.fine : Out → Prop
  | .ok d => d.tp = true
  | .own (.lst l) => tps l = true
  | .own (.dic kvs) => ∀ p ∈ kvs, p.1.tp = true ∧ p.2.tp = true
  | .own _ => False
  | .tow l => ∀ x ∈ l, x.tp = true
  | .err _ => False
def outD : Out → D
  | .ok d => d
  | .own (.lst l) => .lst l
  | .own (.dic kvs) => .dic kvs
  | .tow l => .tup (l.map nwD)
  | _ => .non
/-- e comes to the outcome -/
structure DR (X : Cx) (C : Addr) (B : Bs) (δ : DEnv) (e : Expr) (out : Out) : Prop where
  run : ∀ (R : Hp) (σ : St) (G H : Hp) (Q : VK), Fit (md X C) B R σ G H δ → OutOk (md X C) G H Q (fun _ _ _ => False) out → WE X e σ H Q
section
variable {M : Md} {G H G1 H1 : Hp} {Q : VK} {E E' : XK} {out : Out}
theorem OutOk.go (h : OutOk M G H Q E out) (g : Grow G H G1 H1) (f : out.fine) : OutOk M G1 H1 Q E' out := by
  cases out with
  | ok d => exact fun v G' H' g' r => h v G' H' (g.trans g') r
  | own o => exact fun p G' H' g' n n' r => h p G' H' (g.trans g') (g.hh.free n) n' r
  | tow l => exact fun a its G' H' g' n ⟨n1, vs, n2, n3⟩ => h a its G' H' (g.trans g') n ⟨n1, vs, n2.base (fun p hp => g.hh.free hp), n3⟩
  | err c => exact False.elim f
theorem sqt_pub {K : PySem.W.Frag} {a : Addr} {xs : List V} (h : SqT K H a xs) (e : Ex G H) : ∃ G2, Grow G H G2 H ∧ SqT K G2 a xs := by
  have key : ∀ o : HO, H a = some o → IsT o → Grow G H (upd G a o) H := fun o ho ht => by
    have ex : Ex G (upd G a o) := fun b u hb => by
      by_cases hab : b = a
      · subst hab
        rw [e b u hb] at ho
        cases ho
        exact upd_same
      · rw [upd_ne hab]
        exact hb
    refine ⟨Ex.refl H, ex, fun b u hb => ?_, fun p h1 h2 => ?_⟩
    · by_cases hab : b = a
      · subst hab
        rw [upd_same] at hb
        cases hb
        exact ho
      · rw [upd_ne hab] at hb
        exact e b u hb
    · intro u hu
      by_cases hab : p = a
      · subst hab
        rw [upd_same] at hu
        cases hu
        exact ht
      · rw [upd_ne hab] at hu
        exact h1 u hu
  rcases h with (h | ⟨ob, h⟩) | h
  · exact ⟨_, key _ h ⟨xs, .inl rfl⟩, .of upd_same⟩
  · exact ⟨_, key _ h ⟨xs, .inr ⟨ob, rfl⟩⟩, .inl (.inr ⟨ob, upd_same⟩)⟩
  · exact ⟨G, Grow.refl e, .inr h⟩
theorem ItsAt.pub {H0 G' : Hp} (e' : Ex G' H) : ∀ {vs : List V} {its : List Itm} {l : List Nw}, ItsAt M H0 G' H vs its → NwIt l its → (∀ x ∈ l, x.tp = true) → ∀ {G : Hp}, Ex G H → (∀ q ∈ itOwn its, G q = none) → ∃ G2, Grow G H G2 H ∧ ItsAt M H0 G2 H vs its
  | [], [], _, _, _, _, G, e, _ => ⟨G, Grow.refl e, trivial⟩
  | v :: vs, .st d :: m, _, h, t, f, G, e, n => by
    cases t with
    | st t =>
      obtain ⟨G1, g1, r1⟩ := (h.1.mono e').pub (f _ List.mem_cons_self) e
      obtain ⟨G2, g2, r2⟩ := ItsAt.pub e' h.2 t (fun x hx => f x (List.mem_cons_of_mem _ hx)) g1.gh (fun q hq => by
        obtain ⟨_, _, xs, o⟩ := h.2.own hq
        obtain ⟨u, hu, nt⟩ := o.notT
        exact g1.out (n q hq) hu nt)
      exact ⟨G2, g1.trans g2, r1.mono g2.gg, r2⟩
  | v :: vs, .ow q xs :: m, _, h, t, f, G, e, n => by
    cases t with
    | ow t =>
      obtain ⟨⟨h1, h2, h3, ys, h4, h5⟩, h6⟩ := h
      obtain ⟨G1, g1, r1⟩ := (h5.mono e').pub (f _ List.mem_cons_self) e
      have nt : ¬ IsT (.lst ys) := fun ⟨_, z⟩ => by rcases z with z | ⟨_, z⟩ <;> cases z
      have n1 : G1 q = none := g1.out (n q List.mem_cons_self) h4 nt
      obtain ⟨G2, g2, r2⟩ := ItsAt.pub e' h6 t (fun x hx => f x (List.mem_cons_of_mem _ hx)) g1.gh (fun q hq => by
        obtain ⟨_, _, xs, o⟩ := h6.own hq
        obtain ⟨u, hu, nt⟩ := o.notT
        exact g1.out (n q (List.mem_cons_of_mem _ hq)) hu nt)
      exact ⟨G2, g1.trans g2, ⟨h1, h2, g2.out n1 h4 nt, ys, h4, r1.mono g2.gg⟩, r2⟩
  | [], .st _ :: _, _, h, _, _, _, _, _ => False.elim h
  | [], .ow _ _ :: _, _, h, _, _, _, _, _ => False.elim h
  | _ :: _, [], _, h, _, _, _, _, _ => False.elim h
theorem Out.fine.ow {o : Ow} (f : (Out.own o).fine) : o.tp := by
  cases o with
  | lst l => exact f
  | dic l => exact f
  | seen l => exact False.elim f
  | ins x l => exact False.elim f
theorem OutOk.pub (h : OutOk M G H Q E out) (g : Grow G H G1 H1) (f : out.fine) : OutOk M H1 H1 Q E' out := by
  cases out with
  | ok d =>
    intro v G' H' g' r
    have g2 := g.trans (Grow.heap g.gh g'.hh)
    obtain ⟨G2, g3, r3⟩ := (r.mono g'.gh).pub f g2.gh
    exact h v G2 H' (g2.trans g3) r3
  | own o =>
    intro p G' H' g' n n' r
    have g2 := g.trans (Grow.heap g.gh g'.hh)
    obtain ⟨G2, g3, n3, r3⟩ := r.pub g'.gh f.ow g2.gh (g.gh.free n)
    exact h p G2 H' (g2.trans g3) (g.hh.free n) n3 r3
  | tow l =>
    intro a its G' H' g' n ⟨n1, vs, n2, n3⟩
    have g2 := g.trans (Grow.heap g.gh g'.hh)
    obtain ⟨G2, g3, r3⟩ := n2.pub g'.gh n f g2.gh (fun q hq => g.gh.free (n2.own hq).1)
    obtain ⟨G3, g4, r4⟩ := sqt_pub (g'.gh.st n3) g3.gh
    exact h a its G3 H' ((g2.trans g3).trans g4) n ⟨n1, vs, (r3.go g4).base (fun p hp => g.hh.free hp), r4⟩
  | err c => exact False.elim f
end
section
variable {X : Cx} {C : Addr} {B : Bs} {P : Post} {δ : DEnv} {a b e : Expr} {es : List Expr} {d : D} {p pos : Pos} {k k' : Nat} {name : Str} {ps : List Str} {α : Type} {enc : α → List D} {pre : α → Prop} {res : α → Out} {out : Out}
theorem dr_call (F : FnD X.prog X.w X.K X.mg X.base C k' name ps enc pre res) (hx : XOk X C B k) (a : α) (ha : DA X C B δ (e :: es) (enc a)) (hp : pre a) (f : (res a).fine) (hn : (enc a).length = ps.length := by rfl) (hk : k' ≤ k := by decide)
    (hg : Gl X name := by rfl) (hdb : (name == ("__debug__" : Str)) = false := by decide) (he : starEach (e :: es) X.env = (false, eval e X.env) :: starEach es X.env := by rfl) (hpl : (backTo pos (starEach es X.env)).any (·.1) = false := by rfl) :
    DR X C B δ (.Call (.Name name p) (e :: es) [] pos) (res a) := ⟨fun R σ G H Q N q =>
  F.call hx hk hg hdb he hpl (ha.run R σ G H _ N fun vs G1 H1 g1 r1 => ⟨a, G1, g1.gh, r1, r1.length.trans hn, hp, q.go g1 f⟩)⟩
theorem dr_callW (F : FnD X.prog X.w X.K X.mg X.base C k' name ps enc pre res) (hx : XOk X C B k) (a : α) (ha : DAW X C B δ (e :: es) (enc a)) (hp : pre a) (f : (res a).fine) (hn : (enc a).length = ps.length := by rfl) (hk : k' ≤ k := by decide)
    (hg : Gl X name := by rfl) (hdb : (name == ("__debug__" : Str)) = false := by decide) (he : starEach (e :: es) X.env = (false, eval e X.env) :: starEach es X.env := by rfl) (hpl : (backTo pos (starEach es X.env)).any (·.1) = false := by rfl) :
    DR X C B δ (.Call (.Name name p) (e :: es) [] pos) (res a) := ⟨fun R σ G H Q N q =>
  F.call hx hk hg hdb he hpl (ha.run R σ G H _ N fun vs G1 H1 g1 r1 => ⟨a, H1, Ex.refl _, r1, r1.length.trans hn, hp, q.pub g1 f⟩)⟩
theorem DR.ed (h : DR X C B δ e (.ok d)) : DE X C B δ e d := ⟨fun R σ G H Q N q => h.run R σ G H Q N q⟩
theorem DR.eo {o : Ow} (h : DR X C B δ e (.own o)) : DO X C B δ e o := ⟨fun R σ G H Q N q => h.run R σ G H Q N q⟩
theorem DR.en {l : List Nw} (h : DR X C B δ e (.tow l)) : DN X C B δ e l := ⟨fun R σ G H Q N q => h.run R σ G H Q N q⟩
theorem DR.s (h : DR X C B δ e out) (f : out.fine) : DE X C B δ e (outD out) := by
  cases out with
  | ok d => exact h.ed
  | own o =>
    cases o with
    | lst l => exact h.eo.s
    | dic l => exact h.eo.m
    | seen l => exact False.elim f
    | ins x l => exact False.elim f
  | tow l => exact h.en.s
  | err c => exact False.elim f
/-- a slot that holds an outcome -/
def OutSl : Out → Sl → Prop
  | .ok d, s => s = .sh d
  | .own o, s => s = .ow o
  | .tow l, s => ∃ a its, NwIt l its ∧ s = .nest a false its
  | .err _, _ => False
theorem ds_setR (hx : XOk X C B k) (i : Nat) {x : Str} {pos' : Pos} (he : DR X C B δ e out) (f : out.fine) (h : ∀ s, OutSl out s → P.nx (δ.set i s)) (hi : X.N[i]? = some x := by rfl) (hl : Loc X.env.scope x := by first | exact Or.inl rfl | exact Or.inr rfl)
    (hs : swapsWith e (some (.Name x pos')) pos.line X.env = pure false := by rfl) (hf : X.fn x = true ∨ X.env.scope.names.lookup x = some .local := by first | exact .inl rfl | exact .inr rfl) : DS X C B P δ (.Assign [.Name x pos'] e pos) := by
  cases out with
  | ok d => exact ds_set hx i he.ed (h _ rfl) hi hl hs hf
  | own o => exact ds_setO hx i he.eo (h _ rfl) hi hl hs hf
  | tow l => exact ds_setNs hx i he.en (fun a its n => h _ ⟨a, its, n, rfl⟩) hi hl hs hf
  | err c => exact False.elim f
theorem dw_out (i : Nat) {s : Sl} {x : Str} (hi : δ[i]? = some s) (ho : OutSl out s) (f : out.fine) (hN : X.N[i]? = some x := by rfl) (hv : Vis X.env.scope x := by first | exact Or.inl rfl | exact Or.inr (Or.inl rfl) | exact Or.inr (Or.inr rfl))
    (hd : (x == ("__debug__" : Str)) = false := by decide) (hcd : (x == ("__classdict__" : Str)) = false := by decide) : DW X C B δ (.Name x pos) (outD out) := by
  cases out with
  | ok d =>
    obtain rfl : s = .sh d := ho
    exact DE.w (de_var i hi hN hv hd hcd)
  | own o =>
    obtain rfl : s = .ow o := ho
    cases o with
    | lst l => exact DL.w (dl_own i hi hN hv hd hcd)
    | dic l => exact DM.w (dm_own i hi hN hv hd hcd)
    | seen l => exact False.elim f
    | ins x l => exact False.elim f
  | tow l =>
    obtain ⟨a, its, n, rfl⟩ := ho
    have := dw_nestT (B := B) (C := C) (pos := pos) i hi hN hv hd hcd
    rw [n.d] at this
    exact this
  | err c => exact False.elim f
/-! the same datum twice -/
def Cmp (d : D) : Prop := PdN 64 d ∨ ∃ t : Tb, d = .dic (tD t) ∧ (t.map (·.1)).Nodup
theorem dc_neC (hx : XOk X C B k) (ha : DW X C B δ a d) (hb : DW X C B δ b d) (h : Cmp d) : DC X C B δ .NotEq a b false := by
  rcases h with h | ⟨t, rfl, nd⟩
  · exact dc_neSame hx ha hb h
  · exact dc_neD hx ha hb nd
end
/-! #### the heap without what a slot owns -/
open Classical in
noncomputable def hideP (H : Hp) (S : Addr → Prop) : Hp := fun a => if S a then none else H a
section
variable {M : Md} {B B' : Bs} {R : Hp} {σ : St} {G H H' : Hp} {δ : DEnv} {S : Addr → Prop}
theorem hideP_in {a : Addr} (h : S a) : hideP H S a = none := by unfold hideP; rw [if_pos h]
theorem hideP_out {a : Addr} (h : ¬ S a) : hideP H S a = H a := by unfold hideP; rw [if_neg h]
theorem hideP_ex : Ex (hideP H S) H := fun a o e => by
  by_cases h : S a
  · rw [hideP_in h] at e
    cases e
  · rw [hideP_out h] at e
    exact e
theorem OwnAt.hid {p : Addr} {o : Ow} (h : OwnAt M G H p o) (n : ¬ S p) : OwnAt M G (hideP H S) p o := by
  cases o with
  | lst l => obtain ⟨xs, x1, x2⟩ := h; exact ⟨xs, by rw [hideP_out n]; exact x1, x2⟩
  | dic kvs => obtain ⟨xs, ep, x1, x2⟩ := h; exact ⟨xs, ep, by rw [hideP_out n]; exact x1, x2⟩
  | seen ks => obtain ⟨xs, x1, x2⟩ := h; exact ⟨xs, by rw [hideP_out n]; exact x1, x2⟩
  | ins x fs => obtain ⟨ex, dx, xs, x1, x2⟩ := h; exact ⟨ex, dx, xs, by rw [hideP_out n]; exact x1, x2⟩
theorem ItsAt.hid {H0 : Hp} : ∀ {vs : List V} {l : List Itm}, ItsAt M H0 G H vs l → (∀ p ∈ itOwn l, ¬ S p) → ItsAt M H0 G (hideP H S) vs l
  | [], [], _, _ => trivial
  | v :: vs, .st d :: l, h, n => ⟨h.1, ItsAt.hid h.2 n⟩
  | v :: vs, .ow q xs :: l, h, n => ⟨⟨h.1.1, h.1.2.1, h.1.2.2.1, h.1.2.2.2.hid (n q List.mem_cons_self)⟩, ItsAt.hid h.2 fun p hp => n p (List.mem_cons_of_mem _ hp)⟩
  | [], .st _ :: _, h, _ => False.elim h
  | [], .ow _ _ :: _, h, _ => False.elim h
  | _ :: _, [], h, _ => False.elim h
theorem ItsAt.reb {H0 H0' : Hp} : ∀ {vs : List V} {l : List Itm}, ItsAt M H0 G H vs l → (∀ p ∈ itOwn l, H0' p = none) → ItsAt M H0' G H vs l
  | [], [], _, _ => trivial
  | v :: vs, .st d :: l, h, n => ⟨h.1, ItsAt.reb h.2 n⟩
  | v :: vs, .ow q xs :: l, h, n => ⟨⟨h.1.1, n q List.mem_cons_self, h.1.2.2⟩, ItsAt.reb h.2 fun p hp => n p (List.mem_cons_of_mem _ hp)⟩
  | [], .st _ :: _, h, _ => False.elim h
  | [], .ow _ _ :: _, h, _ => False.elim h
  | _ :: _, [], h, _ => False.elim h
theorem SlOk.hid {x : Option (Option V)} {t : Sl} (h : SlOk M B x G H t) (n : ∀ p, t.owns x p → ¬ S p) : SlOk M B x G (hideP H S) t := by
  cases t with
  | un => trivial
  | sh d => exact h
  | old d => exact h
  | raw v => exact h
  | ow o =>
    obtain ⟨p, a, b, c, d⟩ := h
    exact ⟨p, a, b, c, d.hid (n p a)⟩
  | fix p u o =>
    obtain ⟨a, b, c, e, d⟩ := h
    exact ⟨a, b, c, by rw [hideP_out (n p rfl)]; exact e, d.hid (n p rfl)⟩
  | nest a t its =>
    obtain ⟨h1, h2, h5, vs, h3, h4⟩ := h
    refine ⟨h1, h2, h5, vs, h3.hid fun p hp => n p (.inr hp), ?_⟩
    split
    · rename_i q
      rw [if_pos q] at h4
      exact ⟨h4.1, h4.2.1, by rw [hideP_out (n a (.inl ⟨q, rfl⟩))]; exact h4.2.2⟩
    · rename_i q
      rw [if_neg q] at h4
      exact h4
theorem SlOk.reb {x : Option (Option V)} {t : Sl} {out : Out} (ho : OutSl out t) (h : SlOk M B x G H t) (n : ∀ p, t.owns x p → B'.H0 p = none) : SlOk M B' x G H t := by
  cases out with
  | ok d =>
    obtain rfl : t = .sh d := ho
    exact h
  | own o =>
    obtain rfl : t = .ow o := ho
    obtain ⟨p, a, b, c, d⟩ := h
    exact ⟨p, a, n p a, c, d⟩
  | tow l =>
    obtain ⟨a, its, m, rfl⟩ := ho
    obtain ⟨h1, h2, h5, vs, h3, h4⟩ := h
    refine ⟨h1, h2, h5, vs, h3.reb fun p hp => n p (.inr hp), ?_⟩
    rw [if_neg Bool.false_ne_true] at h4 ⊢
    exact h4
  | err c => exact False.elim ho
theorem Fit.hide (N : Fit M B R σ G H δ) {i : Nat} {s : Sl} (hi : δ[i]? = some s) : Fit M B R σ G (hideP H fun p => s.owns σ[i]? p) (δ.set i .un) := by
  refine ⟨N.bel, by rw [List.length_set, N.len], ⟨fun a o e => ?_, N.grow.gg, fun a o e => ?_, N.grow.nw⟩, fun j t e => ?_, fun j m a b p hjm h1 h2 h3 h4 => ?_⟩
  · rw [hideP_out fun z => ?_]
    · exact N.grow.hh a o e
    · have := ((N.slot i s hi).own z).1
      rw [this] at e
      cases e
  · rw [hideP_out fun z => ?_]
    · exact N.gh a o e
    · have := ((N.slot i s hi).own z).2.1
      rw [this] at e
      cases e
  · rcases set_get e with ⟨_, rfl, _⟩ | ⟨h1, h2⟩
    · trivial
    · exact (N.slot j t h2).hid fun p hp z => N.dist i j _ _ p h1 hi h2 z hp
  · rcases set_get h1 with ⟨_, rfl, _⟩ | ⟨n1, k1⟩
    · exact False.elim h3
    · rcases set_get h2 with ⟨_, rfl, _⟩ | ⟨n2, k2⟩
      · exact False.elim h4
      · exact N.dist j m a b p hjm k1 k2 h3 h4
end
/-! #### a def that changes what it is given -/
def spC (M : Md) (pre : Out → Prop) : Sp := fun vs H Q E => ∃ (s : Sl) (out : Out) (v : V) (G H0 : Hp), vs = [v] ∧ Ex G H0 ∧ Ex H0 H ∧ SlOk M ⟨G, H0, fun _ => E, fun _ _ => False⟩ (some (some v)) G H s ∧ OutSl out s ∧ pre out ∧ ∀ G' H', Grow G H0 G' H' → Q .non H'
structure FnC (P : Program) (w : World) (K : PySem.W.Frag) (mg : Str → Option Value) (base : Heap) (C : Addr) (k : Nat) (name : Str) (ps : List Str) (pre : Out → Prop) : Prop where
  ex : ∃ (f : Addr) (fd : FuncData), FnOk P w K mg base (L2.CX P w) k f fd ps (spC ⟨P, w, K, C⟩ pre) ∧ mg name = some (.ref f) ∧ PySem.W.keepIn K (.ref f) = true ∧ Binds K fd ps []
theorem fn_c {P : Program} {w : World} {K : PySem.W.Frag} {mg : Str → Option Value} {base : Heap} {C : Addr} {k : Nat} {name qual p1 : Str} {st : Stmt} {pre : Out → Prop} {f : Addr} {fd : FuncData} (F : Fun K name qual st f fd) (hm : mg name = some (.ref f)) (hb : Binds K fd [p1] []) (S : FnScope [p1] [p1] (defScope st))
    (body : ∀ (cdv : Value) (A : Around) (outer : List PySem.Env) (s : Shared) (H : Hp) (E : XK) (B : Bs) (s0 : Sl) (out : Out), OutSl out s0 → pre out → XOk (cxOf (L2.CX P w) P w K mg base [p1] qual (defScope st) f cdv A outer s H E) C B k →
      DB (cxOf (L2.CX P w) P w K mg base [p1] qual (defScope st) f cdv A outer s H E) C B { rt := fun _ => False, nx := fun _ => True } [s0] (defBody st)) : FnC P w K mg base C (k + 1) name [p1] pre := by
  refine ⟨f, fd, F.okX S (fun vs H Q E ⟨s, out, v, G, H0, h, _⟩ => by rw [h]; rfl) (fun cdv A outer s H vs Q E hr h => ?_), hm, F.kp, hb⟩
  obtain ⟨s0, out, v, G, H0, rfl, e1, e2, hs, ho, hp, q⟩ := h
  have hx : XOk (cxOf (L2.CX P w) P w K mg base [p1] qual (defScope st) f cdv A outer s H E) C ⟨G, H0, fun _ => E, fun _ _ => False⟩ k :=
    ⟨rfl, S.nd, hr, fun _ => takes_of rfl rfl rfl rfl, fun σ => passAt (W := fun cls d _ H => E cls d H) (takes_of rfl rfl rfl rfl) σ, fun _ => passes_of rfl, fun R δ σ G' H' H2 c hc N' e' => hc.elim⟩
  refine ⟨_, pss_wb, (body cdv A outer s H E _ s0 out ho hp hx).run G _ ⟨fun d v G' H' z => z.elim, fun o p G' H' z => z.elim, fun l b its G' H' z => z.elim, fun δ σ G' H' _ N' => q G' H' N'.all, fun _ _ _ _ z => z.elim, fun _ _ _ _ z => z.elim⟩ (start [p1] [v]) G H ?_⟩
  have es : start [p1] [v] = [some v] := rfl
  rw [es]
  refine ⟨⟨Ex.refl G, fun _ h _ => h⟩, rfl, ⟨e2, Ex.refl G, e1.trans e2, fun _ h _ => h⟩, fun i sl e => ?_, fun i j a b p hij h1 h2 => ?_⟩
  · cases i with
    | zero =>
      cases e
      exact hs
    | succ i => cases e
  · cases i with
    | zero =>
      cases j with
      | zero => exact absurd rfl hij
      | succ j => cases h2
    | succ i => cases h1
theorem ds_changed {X : Cx} {C : Addr} {B : Bs} {P : Post} {δ : DEnv} {k k' : Nat} {name p1 x : Str} {pre : Out → Prop} {out : Out} {s : Sl} {p p2 p3 pos : Pos} (F : FnC X.prog X.w X.K X.mg X.base C k' name [p1] pre) (hx : XOk X C B k) (i : Nat) (hi : δ[i]? = some s) (ho : OutSl out s) (hp : pre out) (h : P.nx (δ.set i .un)) (hN : X.N[i]? = some x := by rfl) (hv : Vis X.env.scope x := by first | exact Or.inl rfl | exact Or.inr (Or.inl rfl) | exact Or.inr (Or.inr rfl))
    (hd : (x == ("__debug__" : Str)) = false := by decide) (hcd : (x == ("__classdict__" : Str)) = false := by decide) (hk : k' ≤ k := by decide)
    (hg : Gl X name := by rfl) (hdb : (name == ("__debug__" : Str)) = false := by decide) (he : starEach [.Name x p2] X.env = (false, eval (.Name x p2) X.env) :: starEach [] X.env := by rfl) (hpl : (backTo p3 (starEach [] X.env)).any (·.1) = false := by rfl)
    (hs : swapsWith (.Call (.Name name p) [.Name x p2] [] p3) none pos.line X.env = pure false := by rfl) : DS X C B P δ (.Expr (.Call (.Name name p) [.Name x p2] [] p3) pos) := ⟨fun R D' pk σ G H N => by
  obtain ⟨f, fd, h1, h2, h3, h4⟩ := F.ex
  have sl := N.slot i s hi
  obtain ⟨v, hv'⟩ : ∃ v, σ[i]? = some (some v) := by
    cases out with
    | ok d =>
      obtain rfl : s = .sh d := ho
      exact ⟨_, sl.choose_spec.1⟩
    | own o =>
      obtain rfl : s = .ow o := ho
      exact ⟨_, sl.choose_spec.1⟩
    | tow l =>
      obtain ⟨a, its, m, rfl⟩ := ho
      exact ⟨_, sl.1⟩
    | err c => exact False.elim ho
  refine ws (ps_expr (pe_callS (E := B.E) h1 (hx.hr.mono hk) hg h2 h3 h4 (fun σ => hx.pa σ) (pa_cons (pe_var hN hv hd hcd) pa_nil he) hdb he hpl) hs) ⟨v, hv', ?_⟩
  have N' := N.hide hi
  refine ⟨s, out, v, G, _, rfl, N'.gh, hideP_ex, ?_, ho, hp, fun G' H' g => pk.nx _ _ G' H' h (N'.go g)⟩
  rw [← hv']
  exact SlOk.reb ho sl fun p z => hideP_in (S := fun p => s.owns σ[i]? p) z⟩
end Rv

namespace Rv
open PySem L2
/-! ### the text -/
def top (i : Nat) : Stmt := PySem.Challenge.pw_routevan_k14_asked_in_turn.main.body.getD i (.Pass ⟨0, 0, 0, 0⟩)
/-- where a def of the top stands -/
structure TopD (K : PySem.W.Frag) (mg : Str → Option Value) (x : Str) (st : Stmt) (ps : List Str) : Prop where
  ex : ∃ (f : Addr) (fd : FuncData), Fun K x x st f fd ∧ mg x = some (.ref f) ∧ Binds K fd ps []
structure Tx (P : Program) (w : World) (K : PySem.W.Frag) (mg : Str → Option Value) (C : Addr) (A : Ads) : Prop where
  bi : Bi mg
  day : DayF K C
  dcl : DayCls K C
  mgDay : mg "Day" = some (.ref C)
  eR : ExC P w K mg "BadRoad" A.road
  eO : ExC P w K mg "OffRoad" A.off
  eT : ExC P w K mg "BadTime" A.time
  eM : ExC P w K mg "TooMany" A.many
  eB : ExC P w K mg "BadOrder" A.order
  eS : ExC P w K mg "Missed" A.missed
  LONGEST : ∃ t, mg "LONGEST" = some (.int 1000000000 t)
  LATEST : ∃ t, mg "LATEST" = some (.int 1000000000000 t)
  MOST_STOPS : ∃ t, mg "MOST_STOPS" = some (.int 7 t)
section
variable {P : Program} {w : World} {K : PySem.W.Frag} {mg : Str → Option Value} {base : Heap} {C : Addr} {A : Ads}
/-! #### roads.py -/
abbrev s_way : Stmt := top 13
theorem sc_way : FnScope ["road", "one", "other", "up"] ["road", "one", "other"] (defScope s_way) := ⟨rfl, rfl, rfl, by decide +kernel, rfl, by decide +kernel, by decide +kernel⟩
theorem f_way (T_way : TopD K mg "way" s_way ["road", "one", "other"]) : FnD P w K mg base C 1 "way" ["road", "one", "other"] (fun a : Road × Int × Int => [a.1.d, .int a.2.1, .int a.2.2]) (fun a => 0 < a.1.len) (fun a => .ok (.int (wayM a.1 a.2.1 a.2.2))) := by
  obtain ⟨f, fd, F, hm, hb⟩ := T_way.ex
  refine fn_d F hm hb sc_way (by decide) fun cdv A outer s H E B a hp hx hB => ?_
  obtain ⟨⟨ring, len⟩, x, y⟩ := a
  refine db_ifr (DC.t (dc_eqS (de_ixT (de_var 0 rfl) de_int rfl) de_str)) (fun h => ?_) (fun h => ?_)
  · refine db_one (ds_ret (de_sub (de_var 2 rfl) (de_var 1 rfl)) ?_)
    cases ring
    · rfl
    · cases h
  · obtain rfl : ring = true := by
      cases ring
      · cases h
      · rfl
    refine db_set hx 3 (de_mod (de_sub (de_var 2 rfl) (de_var 1 rfl)) (de_ixT (de_var 0 rfl) de_int rfl) hp) ?_
    refine db_ifr (DC.t (dc_le (de_mul de_int (de_var 3 rfl) (.inl ⟨by decide, by decide⟩)) (de_ixT (de_var 0 rfl) de_int rfl))) (fun h2 => ?_) (fun h2 => ?_)
    · refine db_one (ds_ret (de_var 3 rfl) ?_)
      show Out.ok _ = Out.ok _
      simp only [wayM, if_true]
      rw [if_pos (of_decide_eq_true h2)]
    · refine db_one (ds_ret (de_sub (de_var 3 rfl) (de_ixT (de_var 0 rfl) de_int rfl)) ?_)
      show Out.ok _ = Out.ok _
      simp only [wayM, if_true]
      rw [if_neg (of_decide_eq_false h2)]
abbrev s_apart : Stmt := top 14
theorem sc_apart : FnScope ["road", "one", "other"] ["road", "one", "other"] (defScope s_apart) := ⟨rfl, rfl, rfl, by decide +kernel, rfl, by decide +kernel, by decide +kernel⟩
theorem f_apart (T_apart : TopD K mg "apart" s_apart ["road", "one", "other"]) (T : Tx P w K mg C A) (F_way : FnD P w K mg base C 1 "way" ["road", "one", "other"] (fun a : Road × Int × Int => [a.1.d, .int a.2.1, .int a.2.2]) (fun a => 0 < a.1.len) (fun a => .ok (.int (wayM a.1 a.2.1 a.2.2)))) :
    FnD P w K mg base C 2 "apart" ["road", "one", "other"] (fun a : Road × Int × Int => [a.1.d, .int a.2.1, .int a.2.2]) (fun a => 0 < a.1.len) (fun a => .ok (.int (apartM a.1 a.2.1 a.2.2))) := by
  obtain ⟨f, fd, F, hm, hb⟩ := T_apart.ex
  refine fn_d F hm hb sc_apart (by decide) fun cdv A outer s H E B a hp hx hB => ?_
  obtain ⟨r, x, y⟩ := a
  exact db_one (ds_ret (de_abs T.bi (de_call F_way hx (⟨r, x, y⟩) (da_cons (de_var 0 rfl) (da_cons (de_var 1 rfl) (da_cons (de_var 2 rfl) da_nil))) hp rfl)) rfl)
/-! #### what the law draws -/
abbrev s_cell_at : Stmt := top 44
theorem sc_cell_at : FnScope ["_law_script", "_law_k"] ["_law_script", "_law_k"] (defScope s_cell_at) := ⟨rfl, rfl, rfl, by decide +kernel, rfl, by decide +kernel, by decide +kernel⟩
theorem f_cell_at (T_cell_at : TopD K mg "_law_cell_at" s_cell_at ["_law_script", "_law_k"]) (T : Tx P w K mg C A) : FnD P w K mg base C 1 "_law_cell_at" ["_law_script", "_law_k"] (fun a : List Int × Int => [.scr (a.1.map .int), .int a.2]) (fun a => a.1.length ≤ 63) (fun a => .ok (.int (cellAt a.1 a.2))) := by
  obtain ⟨f, fd, F, hm, hb⟩ := T_cell_at.ex
  refine fn_d F hm hb sc_cell_at (by decide) fun cdv A outer s H E B a hp hx hB => ?_
  obtain ⟨ns, k⟩ := a
  dsimp only at hp ⊢
  have hp : ns.length ≤ 63 := hp
  have e : ((ns.map D.int).length : Int) = (ns.length : Int) := by rw [List.length_map]
  refine db_ifr (DC.t (dc_eqI (de_lenSc T.bi (de_var 0 rfl)) de_int)) (fun h => ?_) (fun h => ?_)
  · refine db_one (ds_ret (de_var 1 rfl) ?_)
    have h := of_decide_eq_true h
    show Out.ok _ = Out.ok _
    rw [cellAt, if_pos (by omega)]
  · have h := of_decide_eq_false h
    have h0 : 0 < ((ns.map D.int).length : Int) := by omega
    refine db_one (ds_ret (de_add (de_ixSc (de_var 0 rfl) (de_mod (de_var 1 rfl) (de_lenSc T.bi (de_var 0 rfl)) h0) (at_ints (Int.emod_nonneg _ (by omega)) (by rw [e]; exact Int.emod_lt_of_pos _ (by omega)))) (de_mul de_int (de_fdiv (de_var 1 rfl) (de_lenSc T.bi (de_var 0 rfl)) (⟨h0, by omega⟩)) (.inl ⟨by decide, by decide⟩))) ?_)
    show Out.ok _ = Out.ok _
    rw [cellAt, if_neg (by omega), e]
abbrev FCell (P : Program) (w : World) (K : PySem.W.Frag) (mg : Str → Option Value) (base : Heap) (C : Addr) : Prop := FnD P w K mg base C 1 "_law_cell_at" ["_law_script", "_law_k"] (fun a : List Int × Int => [.scr (a.1.map .int), .int a.2]) (fun a => a.1.length ≤ 63) (fun a => .ok (.int (cellAt a.1 a.2)))
abbrev s_wide : Stmt := top 45
theorem sc_wide : FnScope ["_law_cell", "_law_bound"] ["_law_cell", "_law_bound"] (defScope s_wide) := ⟨rfl, rfl, rfl, by decide +kernel, rfl, by decide +kernel, by decide +kernel⟩
abbrev s_road_by : Stmt := top 46
theorem sc_road_by : FnScope ["_law_cell", "_law_length"] ["_law_cell"] (defScope s_road_by) := ⟨rfl, rfl, rfl, by decide +kernel, rfl, by decide +kernel, by decide +kernel⟩
abbrev s_places : Stmt := top 47
theorem sc_places : FnScope ["_law_road"] ["_law_road"] (defScope s_places) := ⟨rfl, rfl, rfl, by decide +kernel, rfl, by decide +kernel, by decide +kernel⟩
abbrev s_place_by : Stmt := top 48
theorem sc_place_by : FnScope ["_law_road", "_law_cell", "_law_many_here"] ["_law_road", "_law_cell"] (defScope s_place_by) := ⟨rfl, rfl, rfl, by decide +kernel, rfl, by decide +kernel, by decide +kernel⟩
theorem f_wide (T_wide : TopD K mg "_law_wide" s_wide ["_law_cell", "_law_bound"]) : FnD P w K mg base C 1 "_law_wide" ["_law_cell", "_law_bound"] (fun a : Int × Int => [.int a.1, .int a.2]) (fun a => 0 < a.2) (fun a => .ok (.int (wide a.1 a.2))) := by
  obtain ⟨f, fd, F, hm, hb⟩ := T_wide.ex
  refine fn_d F hm hb sc_wide (by decide) fun cdv A outer s H E B a hp hx hB => ?_
  obtain ⟨c, b⟩ := a
  exact db_one (ds_ret (de_mod (de_mod (de_mul (de_var 0 rfl) de_int (.inr ⟨by decide, by decide⟩)) de_int) (de_var 1 rfl) hp) rfl)
abbrev FWide (P : Program) (w : World) (K : PySem.W.Frag) (mg : Str → Option Value) (base : Heap) (C : Addr) : Prop := FnD P w K mg base C 1 "_law_wide" ["_law_cell", "_law_bound"] (fun a : Int × Int => [.int a.1, .int a.2]) (fun a => 0 < a.2) (fun a => .ok (.int (wide a.1 a.2)))
theorem f_road_by (T_road_by : TopD K mg "_law_road_by" s_road_by ["_law_cell"]) (F_wide : FWide P w K mg base C) : FnD P w K mg base C 2 "_law_road_by" ["_law_cell"] (fun c : Int => [.int c]) (fun _ => True) (fun c => .ok (roadBy c).d) := by
  obtain ⟨f, fd, F, hm, hb⟩ := T_road_by.ex
  refine fn_d F hm hb sc_road_by (by decide) fun cdv A outer s H E B c hp hx hB => ?_
  refine db_set hx 1 (de_add de_int (de_mod (de_fdiv (de_var 0 rfl) de_int) de_int)) ?_
  refine db_ifI hx 1 (DC.t (dc_eqI (de_mod (de_fdiv (de_var 0 rfl) de_int) de_int) de_int)) rfl (fun _ => (de_add de_int (de_call F_wide hx ((c / 10, 1000000000)) (da_cons (de_fdiv (de_var 0 rfl) de_int) (da_cons (de_powc (z := 1000000000) de_int de_int ⟨by decide, by decide, by decide⟩ (by decide +kernel)) da_nil)) ((by show (0 : Int) < 1000000000; decide)) rfl))) ?_
  refine db_ifI hx 1 (DC.t (dc_eqI (de_mod (de_fdiv (de_var 0 rfl) de_int) de_int) de_int)) rfl (fun _ => (de_ixL (DO.l (do_lst (da_cons de_int (da_cons de_int (da_cons de_int (da_cons (de_powc (z := 1000000000) de_int de_int ⟨by decide, by decide, by decide⟩ (by decide +kernel)) da_nil)))))) (de_mod (de_fdiv (de_var 0 rfl) de_int) de_int) (at_ints (ns := [1, 2, 3, 1000000000]) (by omega) (by show _ < (4 : Int); omega)))) ?_
  exact db_one (ds_ret (de_tup (da_cons (de_ixL (DO.l (do_lst (da_cons de_str (da_cons de_str da_nil)))) (de_mod (de_var 0 rfl) de_int) road_word) (da_cons (de_var 1 rfl) da_nil))) rfl)
theorem f_places (T_places : TopD K mg "_law_places" s_places ["_law_road"]) : FnD P w K mg base C 1 "_law_places" ["_law_road"] (fun r : Road => [r.d]) (fun _ => True) (fun r => .ok (.int r.many)) := by
  obtain ⟨f, fd, F, hm, hb⟩ := T_places.ex
  refine fn_d F hm hb sc_places (by decide) fun cdv A outer s H E B r hp hx hB => ?_
  obtain ⟨ring, len⟩ := r
  refine db_ifr (DC.t (dc_eqS (de_ixT (de_var 0 rfl) de_int rfl) de_str)) (fun h => ?_) (fun h => ?_)
  · refine db_one (ds_ret (de_add (de_ixT (de_var 0 rfl) de_int rfl) de_int) ?_)
    cases ring
    · rfl
    · cases h
  · refine db_one (ds_ret (de_ixT (de_var 0 rfl) de_int rfl) ?_)
    cases ring
    · cases h
    · rfl
theorem f_place_by (T_place_by : TopD K mg "_law_place_by" s_place_by ["_law_road", "_law_cell"]) (F_wide : FWide P w K mg base C) (F_places : FnD P w K mg base C 1 "_law_places" ["_law_road"] (fun r : Road => [r.d]) (fun _ => True) (fun r => .ok (.int r.many))) :
    FnD P w K mg base C 2 "_law_place_by" ["_law_road", "_law_cell"] (fun a : Road × Int => [a.1.d, .int a.2]) (fun a => a.1.ok) (fun a => .ok (.int (placeBy a.1 a.2))) := by
  obtain ⟨f, fd, F, hm, hb⟩ := T_place_by.ex
  refine fn_d F hm hb sc_place_by (by decide) fun cdv A outer s H E B a hp hx hB => ?_
  obtain ⟨r, c⟩ := a
  have hp : r.ok := hp
  have hm := Road.many_pos hp
  refine db_set hx 2 (de_call F_places hx r (da_cons (de_var 0 rfl) da_nil) trivial rfl) ?_
  refine db_ifr (DC.t (dc_eqI (de_mod (de_var 1 rfl) de_int) de_int)) (fun h => ?_) (fun h => ?_)
  · refine db_one (ds_ret (de_ixL (DO.l (do_lst (da_cons de_int (da_cons (de_sub (de_var 2 rfl) de_int) (da_cons (de_fdiv (de_var 2 rfl) de_int) da_nil))))) (de_mod (de_fdiv (de_var 1 rfl) de_int) de_int) (at_ints (ns := [0, r.many - 1, r.many / 2]) (by omega) (by show _ < (3 : Int); omega))) ?_)
    show Out.ok _ = Out.ok _
    rw [placeBy, if_pos (of_decide_eq_true h)]
    rfl
  · refine db_one (ds_ret (de_call F_wide hx ((c / 7, r.many)) (da_cons (de_fdiv (de_var 1 rfl) de_int) (da_cons (de_var 2 rfl) da_nil)) (by show 0 < r.many; omega) rfl) ?_)
    show Out.ok _ = Out.ok _
    rw [placeBy, if_neg (of_decide_eq_false h)]
/-! #### the stops that a law draws -/
abbrev s_start_by : Stmt := top 49
theorem sc_start_by : FnScope ["_law_road", "_law_cell"] ["_law_road", "_law_cell"] (defScope s_start_by) := ⟨rfl, rfl, rfl, by decide +kernel, rfl, by decide +kernel, by decide +kernel⟩
abbrev s_stop_by : Stmt := top 50
theorem sc_stop_by : FnScope ["_law_road", "_law_start", "_law_script", "_law_k", "_law_place", "_law_cell", "_law_opens", "_law_closes", "_law_stay"] ["_law_road", "_law_start", "_law_script", "_law_k"] (defScope s_stop_by) := ⟨rfl, rfl, rfl, by decide +kernel, rfl, by decide +kernel, by decide +kernel⟩
theorem f_start_by (T_start_by : TopD K mg "_law_start_by" s_start_by ["_law_road", "_law_cell"]) (F_wide : FWide P w K mg base C) : FnD P w K mg base C 2 "_law_start_by" ["_law_road", "_law_cell"] (fun a : Road × Int => [a.1.d, .int a.2]) (fun a => a.1.ok) (fun a => .ok (.int (startBy a.1 a.2))) := by
  obtain ⟨f, fd, F, hm, hb⟩ := T_start_by.ex
  refine fn_d F hm hb sc_start_by (by decide) fun cdv A_ outer s H E B a hp hx hB => ?_
  obtain ⟨r, c⟩ := a
  have hp : r.ok := hp
  have h1 := hp.1
  dsimp only
  refine db_ifr (DC.t (dc_eqI (de_mod (de_var 1 rfl) de_int) de_int)) (fun h => ?_) (fun h => ?_)
  · refine db_one (ds_ret de_int ?_)
    show Out.ok _ = Out.ok _
    rw [startBy, if_pos (of_decide_eq_true h)]
  · refine db_ifr (DC.t (dc_eqI (de_mod (de_var 1 rfl) de_int) de_int)) (fun h2 => ?_) (fun h2 => ?_)
    · refine db_one (ds_ret (de_mod (de_fdiv (de_var 1 rfl) de_int) (de_add (de_mul de_int (de_ixT (de_var 0 rfl) de_int rfl) (.inl ⟨by decide, by decide⟩)) de_int) (by omega)) ?_)
      show Out.ok _ = Out.ok _
      rw [startBy, if_neg (of_decide_eq_false h), if_pos (of_decide_eq_true h2)]
    · refine db_one (ds_ret (de_call F_wide hx ((c / 3, 1000000000001)) (da_cons (de_fdiv (de_var 1 rfl) de_int) (da_cons (de_add (de_powc (z := 1000000000000) de_int de_int ⟨by decide, by decide, by decide⟩ (by decide +kernel)) de_int) da_nil)) (by show (0 : Int) < 1000000000001; decide) rfl) ?_)
      show Out.ok _ = Out.ok _
      rw [startBy, if_neg (of_decide_eq_false h), if_neg (of_decide_eq_false h2)]
abbrev FPlaceBy (P : Program) (w : World) (K : PySem.W.Frag) (mg : Str → Option Value) (base : Heap) (C : Addr) : Prop := FnD P w K mg base C 2 "_law_place_by" ["_law_road", "_law_cell"] (fun a : Road × Int => [a.1.d, .int a.2]) (fun a => a.1.ok) (fun a => .ok (.int (placeBy a.1 a.2)))
abbrev FStopBy (P : Program) (w : World) (K : PySem.W.Frag) (mg : Str → Option Value) (base : Heap) (C : Addr) : Prop := FnD P w K mg base C 3 "_law_stop_by" ["_law_road", "_law_start", "_law_script", "_law_k"] (fun a : Road × Int × List Int × Int => [a.1.d, .int a.2.1, .scr (a.2.2.1.map .int), .int a.2.2.2]) (fun a => a.1.ok ∧ a.2.2.1.length ≤ 63) (fun a => .ok (stopBy a.1 a.2.1 a.2.2.1 a.2.2.2).d)
theorem f_stop_by (T_stop_by : TopD K mg "_law_stop_by" s_stop_by ["_law_road", "_law_start", "_law_script", "_law_k"]) (T : Tx P w K mg C A) (F_cell_at : FCell P w K mg base C) (F_wide : FWide P w K mg base C) (F_place_by : FPlaceBy P w K mg base C) : FStopBy P w K mg base C := by
  obtain ⟨f, fd, F, hm, hb⟩ := T_stop_by.ex
  refine fn_d F hm hb sc_stop_by (by decide) fun cdv A_ outer s H E B a hp hx hB => ?_
  obtain ⟨r, s0, ns, k⟩ := a
  obtain ⟨hr, hl⟩ := hp
  dsimp only at hr hl ⊢
  have h1 := hr.1
  refine db_set hx 4 (de_call F_place_by hx ((r, cellAt ns k)) (da_cons (de_var 0 rfl) (da_cons (de_call F_cell_at hx ((ns, k)) (da_cons (de_var 2 rfl) (da_cons (de_var 3 rfl) da_nil)) hl rfl) da_nil)) hr rfl) ?_
  refine db_set hx 5 (de_call F_cell_at hx ((ns, k + 1)) (da_cons (de_var 2 rfl) (da_cons (de_add (de_var 3 rfl) de_int) da_nil)) hl rfl) ?_
  dsimp only
  generalize hc1 : cellAt ns (k + 1) = c1
  refine db_set hx 6 (de_add (de_var 1 rfl) (de_mod (de_fdiv (de_var 5 rfl) de_int) (de_add (de_mul de_int (de_ixT (de_var 0 rfl) de_int rfl) (.inl ⟨by decide, by decide⟩)) de_int) (by omega))) ?_
  refine db_ifI hx 6 (DC.t (dc_eqI (de_mod (de_var 5 rfl) de_int) de_int)) rfl (fun _ => de_int) ?_
  refine db_ifI hx 6 (DC.t (dc_eqI (de_mod (de_var 5 rfl) de_int) de_int)) rfl (fun _ => (de_max T.bi hx de_int (de_sub (de_var 1 rfl) (de_mod (de_fdiv (de_var 5 rfl) de_int) (de_add (de_ixT (de_var 0 rfl) de_int rfl) de_int) (by omega))))) ?_
  refine db_ifI hx 6 (DC.t (dc_eqI (de_mod (de_var 5 rfl) de_int) de_int)) rfl (fun _ => (de_add (de_var 1 rfl) (de_call F_wide hx ((c1 / 32, sel [1000000000, 1000000000000] (c1 / 16 % 2))) (da_cons (de_fdiv (de_var 5 rfl) de_int) (da_cons (de_ixL (DO.l (do_lst (da_cons (de_powc (z := 1000000000) de_int de_int ⟨by decide, by decide, by decide⟩ (by decide +kernel)) (da_cons (de_powc (z := 1000000000000) de_int de_int ⟨by decide, by decide, by decide⟩ (by decide +kernel)) da_nil)))) (de_mod (de_fdiv (de_var 5 rfl) de_int) de_int) (at_ints (ns := [1000000000, 1000000000000]) (by omega) (by show _ < (2 : Int); omega))) da_nil)) (sel2_pos _) rfl))) ?_
  refine db_set hx 6 (de_min T.bi hx (de_var 6 rfl) (de_powc (z := 1000000000000) de_int de_int ⟨by decide, by decide, by decide⟩ (by decide +kernel))) ?_
  refine db_set hx 5 (de_call F_cell_at hx ((ns, k + 2)) (da_cons (de_var 2 rfl) (da_cons (de_add (de_var 3 rfl) de_int) da_nil)) hl rfl) ?_
  dsimp only
  change DB _ _ _ _ [_, _, _, _, _, _, Sl.sh (.int (opensBy r s0 c1)), _, _] _
  generalize ho : opensBy r s0 c1 = o
  generalize hc2 : cellAt ns (k + 2) = c2
  refine db_set hx 7 (de_add (de_add (de_max T.bi hx (de_var 6 rfl) (de_var 1 rfl)) (de_mul (de_ixL (DO.l (do_lst (da_cons de_int (da_cons de_int (da_cons de_int (da_cons de_int da_nil)))))) (de_mod (de_var 5 rfl) de_int) (at_ints (ns := [0, 3, 9, 20]) (by omega) (by show _ < (4 : Int); omega))) (de_ixT (de_var 0 rfl) de_int rfl) ((.inl (by have := sel4 c2; exact ⟨Int.lt_of_lt_of_le (by decide) this.1, Int.lt_of_le_of_lt this.2 (by decide)⟩))))) (de_mod (de_fdiv (de_var 5 rfl) de_int) (de_add (de_ixT (de_var 0 rfl) de_int rfl) de_int) (by omega))) ?_
  refine db_ifI hx 7 (DC.t (dc_eqI (de_mod (de_var 5 rfl) de_int) de_int)) rfl (fun _ => (de_var 6 rfl)) ?_
  refine db_ifI hx 7 (DC.t (dc_eqI (de_mod (de_var 5 rfl) de_int) de_int)) rfl (fun _ => (de_ixL (DO.l (do_lst (da_cons (de_powc (z := 1000000000000) de_int de_int ⟨by decide, by decide, by decide⟩ (by decide +kernel)) (da_cons (de_add (de_max T.bi hx (de_var 6 rfl) (de_var 1 rfl)) (de_call F_wide hx ((c2 / 18, 1000000000000)) (da_cons (de_fdiv (de_var 5 rfl) de_int) (da_cons (de_powc (z := 1000000000000) de_int de_int ⟨by decide, by decide, by decide⟩ (by decide +kernel)) da_nil)) (by show (0 : Int) < 1000000000000; decide) rfl)) da_nil)))) (de_mod (de_fdiv (de_var 5 rfl) de_int) de_int) (at_ints (ns := [1000000000000, maxI o s0 + wide (c2 / 18) 1000000000000]) (by omega) (by show _ < (2 : Int); omega)))) ?_
  refine db_set hx 7 (de_min T.bi hx (de_var 7 rfl) (de_powc (z := 1000000000000) de_int de_int ⟨by decide, by decide, by decide⟩ (by decide +kernel))) ?_
  refine db_set hx 5 (de_call F_cell_at hx ((ns, k + 3)) (da_cons (de_var 2 rfl) (da_cons (de_add (de_var 3 rfl) de_int) da_nil)) hl rfl) ?_
  dsimp only
  generalize hc3 : cellAt ns (k + 3) = c3
  refine db_set hx 8 (de_mod (de_fdiv (de_var 5 rfl) de_int) (de_add (de_fdiv (de_ixT (de_var 0 rfl) de_int rfl) de_int) de_int) (by omega)) ?_
  refine db_ifI hx 8 (DC.t (dc_eqI (de_mod (de_var 5 rfl) de_int) de_int)) rfl (fun _ => de_int) ?_
  refine db_ifI hx 8 (DC.t (dc_eqI (de_mod (de_var 5 rfl) de_int) de_int)) rfl (fun _ => (de_call F_wide hx ((c3 / 41, 1000000000001)) (da_cons (de_fdiv (de_var 5 rfl) de_int) (da_cons (de_add (de_powc (z := 1000000000000) de_int de_int ⟨by decide, by decide, by decide⟩ (by decide +kernel)) de_int) da_nil)) (by show (0 : Int) < 1000000000001; decide) rfl)) ?_
  refine db_one (ds_ret (de_tup (da_cons (de_var 4 rfl) (da_cons (de_var 6 rfl) (da_cons (de_var 7 rfl) (da_cons (de_var 8 rfl) da_nil))))) ?_)
  show Out.ok _ = Out.ok _
  unfold stopBy
  rw [hc1, ho, hc2, hc3]
  rfl
/-! #### roads.py, days.py: the refusals -/
abbrev s_sure_road : Stmt := top 11
theorem sc_sure_road : FnScope ["road"] ["road"] (defScope s_sure_road) := ⟨rfl, rfl, rfl, by decide +kernel, rfl, by decide +kernel, by decide +kernel⟩
abbrev s_sure_place : Stmt := top 12
theorem sc_sure_place : FnScope ["road", "place", "last"] ["road", "place"] (defScope s_sure_place) := ⟨rfl, rfl, rfl, by decide +kernel, rfl, by decide +kernel, by decide +kernel⟩
abbrev s_sure_time : Stmt := top 18
theorem sc_sure_time : FnScope ["time"] ["time"] (defScope s_sure_time) := ⟨rfl, rfl, rfl, by decide +kernel, rfl, by decide +kernel, by decide +kernel⟩
abbrev s_sure_stop : Stmt := top 19
theorem sc_sure_stop : FnScope ["road", "stop", "time"] ["road", "stop"] (defScope s_sure_stop) := ⟨rfl, rfl, rfl, by decide +kernel, rfl, by decide +kernel, by decide +kernel⟩
theorem f_sure_road (T_sure_road : TopD K mg "sure_road" s_sure_road ["road"]) (T : Tx P w K mg C A) : FnD P w K mg base C 1 "sure_road" ["road"] (fun a : Str × Int => [.tup [.str a.1, .int a.2]]) (fun _ => True) (fun a => roadOut A a.1 a.2) := by
  obtain ⟨f, fd, F, hm, hb⟩ := T_sure_road.ex
  refine fn_d F hm hb sc_sure_road (by decide) fun cdv A_ outer s H E B a hp hx hB => ?_
  obtain ⟨wd, len⟩ := a
  dsimp only at hp hB ⊢
  refine db_ifr (DTW.t (tw_and (DC.t (dc_neS (de_ixT (de_var 0 rfl) de_int rfl) de_str)) (fun hc1 => (tw_and1 (DC.t (dc_neS (de_ixT (de_var 0 rfl) de_int rfl) de_str)))))) (fun h => ?_) (fun h => ?_)
  · refine db_one (ds_raise hx T.eR (hB _ _ ?_))
    simp only [Bool.and_eq_true, Bool.not_eq_true', decide_eq_false_iff_not] at h
    unfold roadOut
    rw [if_neg fun q => q.1.elim h.1 h.2]
  · have hw : wd = Str.ofString "line" ∨ wd = Str.ofString "ring" := by
      by_cases e1 : wd = Str.ofString "line"
      · exact .inl e1
      · by_cases e2 : wd = Str.ofString "ring"
        · exact .inr e2
        · simp [e1, e2] at h
    refine db_ifr (dt_not (dt_le_le de_int (de_ixT (de_var 0 rfl) de_int rfl) (de_globI T.LONGEST.choose_spec))) (fun h2 => ?_) (fun h2 => ?_)
    · refine db_one (ds_raise hx T.eR (hB _ _ ?_))
      unfold roadOut
      rw [if_neg]
      intro q
      simp [q.2.1, q.2.2] at h2
    · refine db_one (ds_ret (de_var 0 rfl) ?_)
      show roadOut _ _ _ = _
      unfold roadOut
      simp only [Bool.not_eq_false', Bool.and_eq_true, decide_eq_true_eq] at h2
      rw [if_pos ⟨hw, h2.1, h2.2⟩]
theorem f_sure_place (T_sure_place : TopD K mg "sure_place" s_sure_place ["road", "place"]) (T : Tx P w K mg C A) : FnD P w K mg base C 1 "sure_place" ["road", "place"] (fun a : Road × Int => [a.1.d, .int a.2]) (fun _ => True) (fun a => placeOut A a.1 a.2) := by
  obtain ⟨f, fd, F, hm, hb⟩ := T_sure_place.ex
  refine fn_d F hm hb sc_sure_place (by decide) fun cdv A_ outer s H E B a hp hx hB => ?_
  obtain ⟨⟨ring, len⟩, p⟩ := a
  dsimp only at hp hB ⊢
  refine db_set hx 2 (de_ixT (de_var 0 rfl) de_int rfl) ?_
  refine db_ifI hx 2 (DC.t (dc_eqS (de_ixT (de_var 0 rfl) de_int rfl) de_str)) rfl (fun _ => (de_sub (de_ixT (de_var 0 rfl) de_int rfl) de_int)) ?_
  rw [is_ring]
  refine db_ifr (dt_not (dt_le_le de_int (de_var 1 rfl) (de_var 2 rfl))) (fun h => ?_) (fun h => ?_)
  · refine db_one (ds_raise hx T.eO (hB _ _ ?_))
    unfold placeOut
    rw [if_neg]
    intro q
    unfold Road.has Road.many at q
    cases ring <;> simp at h q <;> omega
  · refine db_one (ds_ret (de_var 1 rfl) ?_)
    show placeOut _ _ _ = _
    unfold placeOut
    rw [if_pos]
    unfold Road.has Road.many
    cases ring <;> simp at h ⊢ <;> omega
theorem f_sure_time (T_sure_time : TopD K mg "sure_time" s_sure_time ["time"]) (T : Tx P w K mg C A) : FnD P w K mg base C 1 "sure_time" ["time"] (fun t : Int => [.int t]) (fun _ => True) (fun t => timeOut A t) := by
  obtain ⟨f, fd, F, hm, hb⟩ := T_sure_time.ex
  refine fn_d F hm hb sc_sure_time (by decide) fun cdv A_ outer s H E B t hp hx hB => ?_
  refine db_ifr (dt_not (dt_le_le de_int (de_var 0 rfl) (de_globI T.LATEST.choose_spec))) (fun h => ?_) (fun h => ?_)
  · refine db_one (ds_raise hx T.eT (hB _ _ ?_))
    unfold timeOut
    rw [if_neg]
    intro q
    simp [q.1, q.2] at h
  · refine db_one (ds_ret (de_var 0 rfl) ?_)
    show timeOut _ _ = _
    unfold timeOut
    simp only [Bool.not_eq_false', Bool.and_eq_true, decide_eq_true_eq] at h
    rw [if_pos (show timeOk t from h)]
theorem f_sure_stop (T_sure_stop : TopD K mg "sure_stop" s_sure_stop ["road", "stop"]) (T : Tx P w K mg C A) (F_sure_place : FnD P w K mg base C 1 "sure_place" ["road", "place"] (fun a : Road × Int => [a.1.d, .int a.2]) (fun _ => True) (fun a => placeOut A a.1 a.2))
    (F_sure_time : FnD P w K mg base C 1 "sure_time" ["time"] (fun t : Int => [.int t]) (fun _ => True) (fun t => timeOut A t)) :
    FnD P w K mg base C 2 "sure_stop" ["road", "stop"] (fun a : Road × Stop => [a.1.d, a.2.d]) (fun _ => True) (fun a => stopOut A a.1 a.2) := by
  obtain ⟨f, fd, F, hm, hb⟩ := T_sure_stop.ex
  refine fn_d F hm hb sc_sure_stop (by decide) fun cdv A_ outer s H E B a hp hx hB => ?_
  obtain ⟨r, ⟨p, o, c, st⟩⟩ := a
  dsimp only at hp hB ⊢
  by_cases h1 : r.has p
  · refine db_cons (ds_expr (DE.w (de_call F_sure_place hx ((r, p)) (da_cons (de_var 0 rfl) (da_cons (de_ixT (de_var 1 rfl) de_int rfl) da_nil)) trivial ((show placeOut A r p = .ok (.int p) by unfold placeOut; rw [if_pos h1])))) ?_)
    refine db_seq (fun δ' => (timeOk o ∧ timeOk c ∧ timeOk st) ∧ ∃ z, δ' = [.sh r.d, .sh (Stop.d ⟨p, o, c, st⟩), z]) (ds_for hx (fun n δ' => (∀ z ∈ [o, c, st].take n, timeOk z) ∧ ∃ z, δ' = [.sh r.d, .sh (Stop.d ⟨p, o, c, st⟩), z]) (di_tup (l := [.int o, .int c, .int st]) (DE.eq (de_slT (de_var 1 rfl) (dpo_some de_int) dpo_none) rfl)) (dg_name hx.nd 2) (fun _ _ => trivial) ⟨fun z hz => (by cases hz), _, rfl⟩ (fun n d δ' hd hJ => ?_) fun δ' hJ => ?_) fun δ' hR => ?_
    · obtain ⟨hJ, z, rfl⟩ := hJ
      obtain ⟨t, rfl, ht⟩ : ∃ t, d = .int t ∧ [o, c, st][n]? = some t := by
        match n, hd with
        | 0, hd => exact ⟨o, by cases hd; rfl, rfl⟩
        | 1, hd => exact ⟨c, by cases hd; rfl, rfl⟩
        | 2, hd => exact ⟨st, by cases hd; rfl, rfl⟩
        | n + 3, hd => cases hd
      by_cases h2 : timeOk t
      · refine db_one (ds_expr (DE.w (de_call F_sure_time hx t (da_cons (de_var 2 rfl) da_nil) trivial ((show timeOut A t = .ok (.int t) by unfold timeOut; rw [if_pos h2])))) ?_)
        refine ⟨fun z hz => ?_, _, rfl⟩
        rw [List.take_succ, ht] at hz
        rcases List.mem_append.mp hz with hz | hz
        · exact hJ z hz
        · cases hz with
          | head => exact h2
          | tail _ hz => cases hz
      · refine db_one (ds_exprX (dx_call F_sure_time hx t (dw_cons (DE.w (de_var 2 rfl)) dw_nil) trivial (show timeOut A t = .err A.time by unfold timeOut; rw [if_neg h2]) (hB _ _ ?_)))
        unfold stopOut
        rw [if_pos h1, if_neg]
        intro q
        have : t ∈ [o, c, st] := List.mem_of_getElem? ht
        simp only [List.mem_cons, List.not_mem_nil, or_false] at this
        rcases this with rfl | rfl | rfl
        · exact h2 q.1
        · exact h2 q.2.1
        · exact h2 q.2.2.1
    · obtain ⟨hJ, z, e⟩ := hJ
      have hJ : ∀ z ∈ [o, c, st], timeOk z := hJ
      exact ⟨⟨hJ o (by simp), hJ c (by simp), hJ st (by simp)⟩, z, e⟩
    · obtain ⟨hT, z, rfl⟩ := hR
      refine db_ifr (DC.t (dc_lt (de_ixT (de_var 1 rfl) de_int rfl) (de_ixT (de_var 1 rfl) de_int rfl))) (fun h2 => ?_) (fun h2 => ?_)
      · refine db_one (ds_raise hx T.eT (hB _ _ ?_))
        unfold stopOut
        rw [if_pos h1, if_neg]
        intro q
        have h3 : c < o := of_decide_eq_true h2
        have h4 : o ≤ c := q.2.2.2
        omega
      · refine db_one (ds_ret (de_var 1 rfl) ?_)
        show stopOut _ _ _ = _
        unfold stopOut
        have h3 : ¬ c < o := of_decide_eq_false h2
        rw [if_pos h1, if_pos ⟨hT.1, hT.2.1, hT.2.2, Int.not_lt.mp h3⟩]
  · refine db_cons (ds_exprX (dx_call F_sure_place hx (r, p) (dw_cons (DE.w (de_var 0 rfl)) (dw_cons (DE.w (de_ixT (de_var 1 rfl) de_int rfl)) dw_nil)) trivial (show placeOut A r p = .err A.off by unfold placeOut; rw [if_neg h1]) (hB _ _ ?_)))
    unfold stopOut
    rw [if_neg h1]
abbrev s_Day___init__ : Stmt := inClass (top 20) 0
theorem sc_Day___init__ : FnScope ["self", "road", "home", "start", "stops", "stop"] ["self", "road", "home", "start", "stops"] (defScope s_Day___init__) := ⟨rfl, rfl, rfl, by decide +kernel, rfl, by decide +kernel, by decide +kernel⟩
abbrev FRoad (P : Program) (w : World) (K : PySem.W.Frag) (mg : Str → Option Value) (base : Heap) (C : Addr) (A : Ads) : Prop := FnD P w K mg base C 1 "sure_road" ["road"] (fun a : Str × Int => [.tup [.str a.1, .int a.2]]) (fun _ => True) (fun a => roadOut A a.1 a.2)
abbrev FPlace (P : Program) (w : World) (K : PySem.W.Frag) (mg : Str → Option Value) (base : Heap) (C : Addr) (A : Ads) : Prop := FnD P w K mg base C 1 "sure_place" ["road", "place"] (fun a : Road × Int => [a.1.d, .int a.2]) (fun _ => True) (fun a => placeOut A a.1 a.2)
abbrev FTime (P : Program) (w : World) (K : PySem.W.Frag) (mg : Str → Option Value) (base : Heap) (C : Addr) (A : Ads) : Prop := FnD P w K mg base C 1 "sure_time" ["time"] (fun t : Int => [.int t]) (fun _ => True) (fun t => timeOut A t)
abbrev FStop (P : Program) (w : World) (K : PySem.W.Frag) (mg : Str → Option Value) (base : Heap) (C : Addr) (A : Ads) : Prop := FnD P w K mg base C 2 "sure_stop" ["road", "stop"] (fun a : Road × Stop => [a.1.d, a.2.d]) (fun _ => True) (fun a => stopOut A a.1 a.2)
abbrev dayEnc (y : DayR) : List D := [y.road.d, .int y.home, .int y.start, .lst (y.stops.map Stop.d)]
abbrev FDay (P : Program) (w : World) (K : PySem.W.Frag) (mg : Str → Option Value) (base : Heap) (C : Addr) : Prop := DayD P w K mg base C 3 dayEnc DayR.ok (fun y => .ok y.road.d y.home y.start (y.stops.map Stop.d))
theorem roadOut_ok {r : Road} (h : r.ok) : roadOut A (if r.ring then Str.ofString "ring" else Str.ofString "line") r.len = .ok r.d := by
  unfold roadOut
  rw [if_pos]
  · rfl
  · refine ⟨?_, h.1, h.2⟩
    cases r.ring
    · exact .inl rfl
    · exact .inr rfl
theorem lcD_same (l : List D) : lcD l (fun _ => true) (fun d => d) = l := by
  unfold lcD
  rw [List.filter_eq_self.mpr (fun _ _ => rfl), List.map_id']
theorem f_day {f : Addr} {fd : FuncData} (F : Fun K "__init__" "Day.__init__" s_Day___init__ f fd) (M : Mk K C f) (hb : Binds K fd ["self", "road", "home", "start", "stops"] []) (T : Tx P w K mg C A) (F_sure_road : FRoad P w K mg base C A) (F_sure_place : FPlace P w K mg base C A) (F_sure_time : FTime P w K mg base C A) (F_sure_stop : FStop P w K mg base C A) :
    FDay P w K mg base C := by
  refine day_d F M T.mgDay hb sc_Day___init__ (by decide) rfl fun cdv A_ outer s H E B x y hp hx hB => ?_
  refine db_cons (ds_fld 0 T.day.cl T.day.r rfl List.not_mem_nil (show 0 < 1000 by decide) (de_call F_sure_road hx ((if y.road.ring then Str.ofString "ring" else Str.ofString "line", y.road.len)) (da_cons (de_var 1 rfl) da_nil) trivial (roadOut_ok hp.road)) ?_)
  refine db_cons (ds_fld 0 T.day.cl T.day.h rfl (show ("home" : Str) ∉ (["road"] : List Str) by decide +kernel) (show 1 < 1000 by decide) (de_call F_sure_place hx ((y.road, y.home)) (da_cons (de_var 1 rfl) (da_cons (de_var 2 rfl) da_nil)) trivial ((show placeOut A y.road y.home = .ok (.int y.home) by unfold placeOut; rw [if_pos hp.home]))) ?_)
  refine db_cons (ds_fld 0 T.day.cl T.day.s rfl (show ("start" : Str) ∉ (["road", "home"] : List Str) by decide +kernel) (show 2 < 1000 by decide) (de_call F_sure_time hx y.start (da_cons (de_var 3 rfl) da_nil) trivial ((show timeOut A y.start = .ok (.int y.start) by unfold timeOut; rw [if_pos hp.start]))) ?_)
  refine db_ifr (DC.t (dc_gt (de_lenL T.bi (DW.l (dw_old 4 rfl) (tps_stops _))) (de_globI T.MOST_STOPS.choose_spec))) (fun h => ?_) (fun h => ?_)
  · have h1 := of_decide_eq_true h
    rw [List.length_map] at h1
    have := hp.few
    omega
  · refine db_one (ds_fld 0 T.day.cl T.day.l rfl (show ("stops" : Str) ∉ (["road", "home", "start"] : List Str) by decide +kernel) (show 3 < 1000 by decide) (DE.eq (DO.s (do_lc (x := "stop") hx 5 (l := y.stops.map Stop.d) (fun d => d) (di_old 4 rfl (tps_stops _)) (blkOk_by (own := [("stop", 5)]) (N := ["self", "road", "home", "start", "stops", "stop"]) (sc := defScope s_Day___init__) (by decide +kernel)) (fun _ _ _ _ _ => pg_name (i := 5) hx.nd rfl (Or.inl rfl)) df_nil (fun n d hd _ s' H' C0 cl fp hx' => by
        rw [List.getElem?_map] at hd
        obtain ⟨st, hst, rfl⟩ := Option.map_eq_some_iff.mp hd
        exact de_call F_sure_stop hx' (y.road, st) (da_cons (de_var 1 rfl) (da_cons (de_var 5 rfl) da_nil)) trivial (stopOut_ok (hp.stops st (List.mem_of_getElem? hst)))) (by rw [List.length_map]; exact small (by have := hp.few; omega)))) (congrArg D.lst (lcD_same _))) ?_)
    exact ⟨_, _, _, _, rfl, rfl⟩
theorem at_ord {order : List Int} {n : Nat} {d : D} (h : (order.map D.int)[n]? = some d) : ∃ z, d = .int z ∧ order[n]? = some z := by
  rw [List.getElem?_map] at h
  obtain ⟨z, hz, rfl⟩ := Option.map_eq_some_iff.mp h
  exact ⟨z, rfl, hz⟩
theorem take_snoc {α : Type} {l : List α} {n : Nat} {z : α} (h : l[n]? = some z) : l.take (n + 1) = l.take n ++ [z] := by
  rw [List.take_succ, h]
  rfl
/-! #### days.py: orders, timetables -/
theorem servedM_none {y : DayR} {pl t n : Int} (h : maxI (t + apartM y.road pl (y.at n).p) (y.at n).o > (y.at n).c) : servedM y pl t n = none := by
  unfold servedM
  exact if_pos h
theorem servedM_some {y : DayR} {pl t n : Int} (h : ¬ maxI (t + apartM y.road pl (y.at n).p) (y.at n).o > (y.at n).c) : servedM y pl t n = some (t + apartM y.road pl (y.at n).p, maxI (t + apartM y.road pl (y.at n).p) (y.at n).o, maxI (t + apartM y.road pl (y.at n).p) (y.at n).o + (y.at n).s) := by
  unfold servedM
  exact if_neg h
theorem drop_cons {α : Type} {l : List α} {n : Nat} {z : α} (h : l[n]? = some z) : l.drop n = z :: l.drop (n + 1) := by
  obtain ⟨h1, rfl⟩ := List.getElem?_eq_some_iff.mp h
  exact List.drop_eq_getElem_cons h1
theorem at_last {rows : List Row} (h : rows ≠ []) : atI (rows.map rowD) (-1) = some (rowD (rows.getLast h)) := by
  have e : rows.map rowD = rows.dropLast.map rowD ++ [rowD (rows.getLast h)] := by
    conv => lhs; rw [← List.dropLast_concat_getLast h]
    rw [List.map_append]
    rfl
  rw [e]
  exact atI_last _ _
theorem at_lastI {l : List Int} (h : l ≠ []) : atI (l.map D.int) (-1) = some (.int (l.getLast h)) := by
  have e : l.map D.int = l.dropLast.map D.int ++ [.int (l.getLast h)] := by
    conv => lhs; rw [← List.dropLast_concat_getLast h]
    rw [List.map_append]
    rfl
  rw [e]
  exact atI_last _ _
theorem getLastD_eq {l : List Int} (h : l ≠ []) : l.getLastD 0 = l.getLast h := by
  rw [List.getLastD_eq_getLast?, List.getLast?_eq_getLast h]
  rfl
theorem DayR.ok.at_ok {y : DayR} (hy : y.ok) {n : Int} (h0 : 0 ≤ n) (h1 : n < (y.stops.length : Int)) : (y.at n).ok y.road := by
  have hl2 : n.toNat < y.stops.length := by omega
  have e : y.at n = y.stops[n.toNat] := by
    unfold DayR.at
    rw [List.getD_eq_getElem?_getD, List.getElem?_eq_getElem hl2]
    rfl
  rw [e]
  exact hy.stops _ (List.getElem_mem hl2)
abbrev s_sure_order : Stmt := top 21
theorem sc_sure_order : FnScope ["day", "order", "seen", "number"] ["day", "order"] (defScope s_sure_order) := ⟨rfl, rfl, rfl, by decide +kernel, rfl, by decide +kernel, by decide +kernel⟩
abbrev s_served : Stmt := top 22
theorem sc_served : FnScope ["day", "place", "time", "number", "stop", "comes", "begins"] ["day", "place", "time", "number"] (defScope s_served) := ⟨rfl, rfl, rfl, by decide +kernel, rfl, by decide +kernel, by decide +kernel⟩
abbrev s_timetable : Stmt := top 23
theorem sc_timetable : FnScope ["day", "order", "found", "place", "time", "number", "times"] ["day", "order"] (defScope s_timetable) := ⟨rfl, rfl, rfl, by decide +kernel, rfl, by decide +kernel, by decide +kernel⟩
abbrev FApart (P : Program) (w : World) (K : PySem.W.Frag) (mg : Str → Option Value) (base : Heap) (C : Addr) : Prop := FnD P w K mg base C 2 "apart" ["road", "one", "other"] (fun a : Road × Int × Int => [a.1.d, .int a.2.1, .int a.2.2]) (fun a => 0 < a.1.len) (fun a => .ok (.int (apartM a.1 a.2.1 a.2.2)))
abbrev FOrder (P : Program) (w : World) (K : PySem.W.Frag) (mg : Str → Option Value) (base : Heap) (C : Addr) (A : Ads) : Prop := FnD P w K mg base C 1 "sure_order" ["day", "order"] (fun a : DayR × List Int => [a.1.d, .lst (a.2.map .int)]) (fun a => a.1.ok ∧ a.2.length ≤ 63) (fun a => orderOut A a.1 a.2)
theorem f_sure_order (T_sure_order : TopD K mg "sure_order" s_sure_order ["day", "order"]) (T : Tx P w K mg C A) : FOrder P w K mg base C A := by
  obtain ⟨f, fd, F, hm, hb⟩ := T_sure_order.ex
  refine fn_d F hm hb sc_sure_order (by decide) fun cdv A_ outer s H E B a hp hx hB => ?_
  obtain ⟨y, order⟩ := a
  obtain ⟨hy, hl⟩ := hp
  dsimp only at hy hl hB ⊢
  refine db_setO hx 2 do_seen ?_
  refine db_seq (fun δ' => goodO y.stops.length order ∧ ∃ z, δ' = [.sh y.d, .sh (.lst (order.map .int)), .ow (.seen order), z]) (ds_for hx (fun n δ' => goodO y.stops.length (order.take n) ∧ ∃ z, δ' = [.sh y.d, .sh (.lst (order.map .int)), .ow (.seen (order.take n)), z]) (di_list (de_var 1 rfl)) (dg_name hx.nd 3) (fun _ _ => trivial) ⟨⟨fun _ h => (by cases h), List.nodup_nil⟩, _, rfl⟩ (fun n d δ' hd hJ => ?_) fun δ' hJ => ?_) fun δ' hR => ?_
  · obtain ⟨hg, z, rfl⟩ := hJ
    obtain ⟨m, rfl, hm⟩ := at_ord hd
    have et := take_snoc hm
    refine db_ifr (DTW.t (tw_or (dt_not (dt_le_lt de_int (de_var 3 rfl) (de_lenL T.bi (DE.l (de_stops T.day (de_var 0 rfl)))))) (fun hc2 => (tw_or1 (DC.t (dc_inK hx 2 rfl (de_var 3 rfl))))))) (fun h => ?_) (fun h => ?_)
    · refine db_one (ds_raise hx T.eB (hB _ _ ?_))
      show orderOut A y order = _
      unfold orderOut
      rw [if_neg]
      intro q
      simp only [List.length_map, Bool.or_eq_true, Bool.not_eq_true', Bool.and_eq_false_iff, decide_eq_false_iff_not, decide_eq_true_eq] at h
      have hq := q.1 m (List.mem_of_getElem? hm)
      rcases h with (h | h) | h
      · exact h hq.1
      · exact h hq.2
      · have h2 : (order.take (n + 1)).Nodup := q.2.sublist (List.take_sublist _ _)
        rw [et] at h2
        exact (List.nodup_append.mp h2).2.2 m h m List.mem_cons_self rfl
    · simp only [List.length_map, Bool.or_eq_false_iff, Bool.not_eq_false', Bool.and_eq_true, decide_eq_false_iff_not, decide_eq_true_eq] at h
      have hlen : (order.take n).length < sizeLine := small (by rw [List.length_take]; omega)
      refine db_one (ds_putK hx 2 rfl (de_var 3 rfl) h.2 hlen de_bl ⟨?_, _, by rw [et]; rfl⟩)
      rw [et]
      refine ⟨fun z hz => ?_, List.nodup_append.mpr ⟨hg.2, List.nodup_cons.mpr ⟨List.not_mem_nil, List.nodup_nil⟩, fun a ha b hb e => ?_⟩⟩
      · rcases List.mem_append.mp hz with hz | hz
        · exact hg.1 z hz
        · cases List.mem_singleton.mp hz
          exact h.1
      · cases List.mem_singleton.mp hb
        exact h.2 (e ▸ ha)
  · rw [List.length_map, List.take_length] at hJ
    exact hJ
  · obtain ⟨hg, z, rfl⟩ := hR
    refine db_one (ds_ret (de_var 1 rfl) ?_)
    show orderOut A y order = _
    unfold orderOut
    rw [if_pos hg]
abbrev FServed (P : Program) (w : World) (K : PySem.W.Frag) (mg : Str → Option Value) (base : Heap) (C : Addr) : Prop := FnD P w K mg base C 3 "served" ["day", "place", "time", "number"] (fun a : DayR × Int × Int × Int => [a.1.d, .int a.2.1, .int a.2.2.1, .int a.2.2.2]) (fun a => a.1.ok ∧ 0 ≤ a.2.2.2 ∧ a.2.2.2 < (a.1.stops.length : Int)) (fun a => .ok (servedD (servedM a.1 a.2.1 a.2.2.1 a.2.2.2)))
theorem f_served (T_served : TopD K mg "served" s_served ["day", "place", "time", "number"]) (T : Tx P w K mg C A) (F_apart : FApart P w K mg base C) : FServed P w K mg base C := by
  obtain ⟨f, fd, F, hm, hb⟩ := T_served.ex
  refine fn_d F hm hb sc_served (by decide) fun cdv A_ outer s H E B a hp hx hB => ?_
  obtain ⟨y, pl, t, n⟩ := a
  obtain ⟨hy, h0, h1⟩ := hp
  dsimp only at hy h0 h1 hB ⊢
  refine db_set hx 4 (de_ixL (DE.l (de_stops T.day (de_var 0 rfl))) (de_var 3 rfl) (at_stops h0 h1)) ?_
  refine db_set hx 5 (de_add (de_var 2 rfl) (de_call F_apart hx ((y.road, pl, (y.at n).p)) (da_cons (de_road T.day (de_var 0 rfl)) (da_cons (de_var 1 rfl) (da_cons (de_ixT (de_var 4 rfl) de_int rfl) da_nil))) hy.len rfl)) ?_
  refine db_set hx 6 (de_max T.bi hx (de_var 5 rfl) (de_ixT (de_var 4 rfl) de_int rfl)) ?_
  refine db_ifr (DC.t (dc_gt (de_var 6 rfl) (de_ixT (de_var 4 rfl) de_int rfl))) (fun h => ?_) (fun h => ?_)
  · refine db_one (ds_ret de_non ?_)
    show Out.ok _ = Out.ok _
    rw [servedM_none (of_decide_eq_true h)]
    rfl
  · refine db_one (ds_ret (de_tup (da_cons (de_var 5 rfl) (da_cons (de_var 6 rfl) (da_cons (de_add (de_var 6 rfl) (de_ixT (de_var 4 rfl) de_int rfl)) da_nil)))) ?_)
    show Out.ok _ = Out.ok _
    rw [servedM_some (of_decide_eq_false h)]
    rfl
abbrev FTable (P : Program) (w : World) (K : PySem.W.Frag) (mg : Str → Option Value) (base : Heap) (C : Addr) (A : Ads) : Prop := FnD P w K mg base C 4 "timetable" ["day", "order"] (fun a : DayR × List Int => [a.1.d, .lst (a.2.map .int)]) (fun a => a.1.ok ∧ a.2.length ≤ 63) (fun a => tableOut A a.1 a.2)
theorem f_timetable (T_timetable : TopD K mg "timetable" s_timetable ["day", "order"]) (T : Tx P w K mg C A) (F_sure_order : FOrder P w K mg base C A) (F_served : FServed P w K mg base C) : FTable P w K mg base C A := by
  obtain ⟨f, fd, F, hm, hb⟩ := T_timetable.ex
  refine fn_d F hm hb sc_timetable (by decide) fun cdv A_ outer s H E B a hp hx hB => ?_
  obtain ⟨y, order⟩ := a
  obtain ⟨hy, hl⟩ := hp
  dsimp only at hy hl hB ⊢
  by_cases hg : goodO y.stops.length order
  · refine db_cons (ds_expr (DE.w (de_call F_sure_order hx ((y, order)) (da_cons (de_var 0 rfl) (da_cons (de_var 1 rfl) da_nil)) (⟨hy, hl⟩) ((show orderOut A y order = .ok (.lst (order.map .int)) by unfold orderOut; rw [if_pos hg])))) ?_)
    refine db_setO hx 2 (do_lst da_nil) ?_
    refine db_set hx 3 (de_home T.day (de_var 0 rfl)) ?_
    refine db_set hx 4 (de_start T.day (de_var 0 rfl)) ?_
    refine db_seq (fun δ' => ∃ rows pl t z1 z2, δ' = [.sh y.d, .sh (.lst (order.map .int)), .ow (.lst (rows.map rowD)), .sh (.int pl), .sh (.int t), z1, z2] ∧ runM y y.home y.start order = some rows) (ds_for hx (fun n δ' => ∃ rows pl t z1 z2, δ' = [.sh y.d, .sh (.lst (order.map .int)), .ow (.lst (rows.map rowD)), .sh (.int pl), .sh (.int t), z1, z2] ∧ rows.length = n ∧ runM y y.home y.start order = (runM y pl t (order.drop n)).map (rows ++ ·)) (di_list (de_var 1 rfl)) (dg_name hx.nd 5) (fun _ _ => trivial) ⟨[], _, _, _, _, rfl, rfl, by simp⟩ (fun n d δ' hd hJ => ?_) fun δ' hJ => ?_) fun δ' hR => ?_
    · obtain ⟨rows, pl, t, z1, z2, rfl, hlen, hrun⟩ := hJ
      obtain ⟨m, rfl, hm⟩ := at_ord hd
      have hin := hg.1 m (List.mem_of_getElem? hm)
      have hn : n < order.length := (List.getElem?_eq_some_iff.mp hm).1
      rw [drop_cons hm] at hrun
      refine db_set hx 6 (de_call F_served hx ((y, pl, t, m)) (da_cons (de_var 0 rfl) (da_cons (de_var 3 rfl) (da_cons (de_var 4 rfl) (da_cons (de_var 5 rfl) da_nil)))) (⟨hy, hin⟩) rfl) ?_
      dsimp only
      rw [runM] at hrun
      cases hs : servedM y pl t m with
      | none =>
        rw [hs] at hrun
        refine db_ifr (DC.t (dc_isN (DE.w (de_var 6 rfl)))) (fun _ => ?_) (fun h => (by cases h))
        refine db_one (ds_raise hx T.eS (hB _ _ ?_))
        show tableOut A y order = _
        unfold tableOut
        rw [if_pos hg, hrun]
        rfl
      | some x =>
        rw [hs] at hrun
        refine db_ifr (DC.t (dc_isN (DE.w (de_var 6 rfl)))) (fun h => (by cases h)) (fun _ => ?_)
        have hz : (rows.map rowD).length < sizeLine := small (by rw [List.length_map]; omega)
        refine db_cons (ds_append 2 rfl (de_var 6 rfl) hz ?_)
        refine db_set hx 3 (de_ixT (de_ixL (DE.l (de_stops T.day (de_var 0 rfl))) (de_var 5 rfl) (at_stops hin.1 hin.2)) de_int rfl) ?_
        refine db_one (ds_set hx 4 (de_ixT (de_var 6 rfl) de_int rfl) ?_)
        refine ⟨rows ++ [x], _, _, _, _, by rw [List.map_append]; rfl, by rw [List.length_append, hlen]; rfl, ?_⟩
        rw [hrun]
        simp [Option.map_map, Function.comp_def]
    · obtain ⟨rows, pl, t, z1, z2, rfl, hlen, hrun⟩ := hJ
      refine ⟨rows, _, _, _, _, rfl, ?_⟩
      rw [hrun, List.length_map, List.drop_length]
      simp [runM]
    · obtain ⟨rows, pl, t, z1, z2, rfl, hrun⟩ := hR
      refine db_one (ds_retV 2 rfl ?_)
      show tableOut A y order = _
      unfold tableOut
      rw [if_pos hg, hrun]
  · refine db_cons (ds_exprX (dx_call F_sure_order hx (y, order) (dw_cons (DE.w (de_var 0 rfl)) (dw_cons (DE.w (de_var 1 rfl)) dw_nil)) ⟨hy, hl⟩ (show orderOut A y order = .err A.order by unfold orderOut; rw [if_neg hg]) (hB _ _ ?_)))
    show tableOut A y order = _
    unfold tableOut
    rw [if_neg hg]
abbrev s_ends : Stmt := top 24
theorem sc_ends : FnScope ["day", "order", "rows"] ["day", "order"] (defScope s_ends) := ⟨rfl, rfl, rfl, by decide +kernel, rfl, by decide +kernel, by decide +kernel⟩
abbrev FEnds (P : Program) (w : World) (K : PySem.W.Frag) (mg : Str → Option Value) (base : Heap) (C : Addr) (A : Ads) : Prop := FnD P w K mg base C 5 "ends" ["day", "order"] (fun a : DayR × List Int => [a.1.d, .lst (a.2.map .int)]) (fun a => a.1.ok ∧ a.2.length ≤ 63) (fun a => endOut A a.1 a.2)
theorem f_ends (T_ends : TopD K mg "ends" s_ends ["day", "order"]) (T : Tx P w K mg C A) (F_timetable : FTable P w K mg base C A) (F_apart : FApart P w K mg base C) : FEnds P w K mg base C A := by
  obtain ⟨f, fd, F, hm, hb⟩ := T_ends.ex
  refine fn_d F hm hb sc_ends (by decide) fun cdv A_ outer s H E B a hp hx hB => ?_
  obtain ⟨y, order⟩ := a
  have hyl := hp
  obtain ⟨hy, hl⟩ := hp
  dsimp only at hy hl hB hyl ⊢
  by_cases hg : goodO y.stops.length order
  · cases hr : runM y y.home y.start order with
    | none =>
      have e : tableOut A y order = .err A.missed := by
        unfold tableOut
        rw [if_pos hg, hr]
      refine db_cons (ds_setX hx (dx_call F_timetable hx (y, order) (dw_cons (DE.w (de_var 0 rfl)) (dw_cons (DE.w (de_var 1 rfl)) dw_nil)) hyl e (hB _ _ ?_)) (i := 2) rfl)
      show endOut A y order = _
      unfold endOut
      rw [if_pos hg, hr]
    | some rows =>
      have e : tableOut A y order = .own (.lst (rows.map rowD)) := by
        unfold tableOut
        rw [if_pos hg, hr]
      refine db_set hx 2 (DO.s (do_call F_timetable hx ((y, order)) (da_cons (de_var 0 rfl) (da_cons (de_var 1 rfl) da_nil)) hyl e)) ?_
      have hlen := runM_len hr
      refine db_ifr (DC.t (dc_eqI (de_lenL T.bi (DE.l (de_var 2 rfl))) de_int)) (fun h => ?_) (fun h => ?_)
      · have h := of_decide_eq_true h
        rw [List.length_map] at h
        refine db_one (ds_ret (de_start T.day (de_var 0 rfl)) ?_)
        show endOut A y order = _
        unfold endOut
        rw [if_pos hg, hr]
        obtain rfl : rows = [] := List.length_eq_zero_iff.mp (by omega)
        rfl
      · have h := of_decide_eq_false h
        rw [List.length_map] at h
        have hne : rows ≠ [] := fun q => h (by rw [q]; rfl)
        have hno : order ≠ [] := fun q => h (by rw [hlen, q]; rfl)
        have hin := hg.1 _ (List.getLast_mem hno)
        refine db_one (ds_ret (de_add (de_ixT (de_ixL (DE.l (de_var 2 rfl)) (de_neg de_int) (at_last hne)) de_int rfl) (de_call F_apart hx ((y.road, (y.at (order.getLast hno)).p, y.home)) (da_cons (de_road T.day (de_var 0 rfl)) (da_cons (de_ixT (de_ixL (DE.l (de_stops T.day (de_var 0 rfl))) (de_ixL (DE.l (de_var 1 rfl)) (de_neg de_int) (at_lastI hno)) (at_stops hin.1 hin.2)) de_int rfl) (da_cons (de_home T.day (de_var 0 rfl)) da_nil))) hy.len rfl)) ?_)
        show endOut A y order = _
        unfold endOut
        rw [if_pos hg, hr]
        show Out.ok _ = Out.ok _
        unfold endM
        rw [List.getLast?_eq_getLast hne, getLastD_eq hno]
  · have e : tableOut A y order = .err A.order := by
      unfold tableOut
      rw [if_neg hg]
    refine db_cons (ds_setX hx (dx_call F_timetable hx (y, order) (dw_cons (DE.w (de_var 0 rfl)) (dw_cons (DE.w (de_var 1 rfl)) dw_nil)) hyl e (hB _ _ ?_)) (i := 2) rfl)
    show endOut A y order = _
    unfold endOut
    rw [if_neg hg]
/-! #### tables.py -/
abbrev s_first_ones : Stmt := top 26
theorem sc_first_ones : FnScope ["day", "begun", "left", "place", "time", "found", "number", "times"] ["day", "begun", "left"] (defScope s_first_ones) := ⟨rfl, rfl, rfl, by decide +kernel, rfl, by decide +kernel, by decide +kernel⟩
abbrev s_further_ones : Stmt := top 27
theorem sc_further_ones : FnScope ["day", "layer", "left", "found", "key", "done", "number", "times", "one", "more", "value"] ["day", "layer", "left"] (defScope s_further_ones) := ⟨rfl, rfl, rfl, by decide +kernel, rfl, by decide +kernel, by decide +kernel⟩
abbrev s_table : Stmt := top 28
theorem sc_table : FnScope ["day", "begun", "left", "found", "layer", "key", "number"] ["day", "begun"] (defScope s_table) := ⟨rfl, rfl, rfl, by decide +kernel, rfl, by decide +kernel, by decide +kernel⟩
theorem leave_none {y : DayR} {pl t n : Int} (h : servedM y pl t n = none) : leaveM y pl t n = none := by
  unfold leaveM
  rw [h]
  rfl
theorem leave_some {y : DayR} {pl t n : Int} {x : Row} (h : servedM y pl t n = some x) : leaveM y pl t n = some x.2.2 := by
  unfold leaveM
  rw [h]
  rfl
structure LeftOk (m : Nat) (left : List Int) : Prop where
  few : left.length ≤ 7
  rg : ∀ n ∈ left, 0 ≤ n ∧ n < (m : Int)
theorem foldl_take {α β : Type} {f : β → α → β} {l : List α} {n : Nat} {a : α} {b : β} (h : l[n]? = some a) : (l.take (n + 1)).foldl f b = f ((l.take n).foldl f b) a := by
  rw [take_snoc h, List.foldl_append]
  rfl
def firstOut (y : DayR) (begun left : List Int) : Out := match behindM y y.home y.start begun with
  | none => .ok .non
  | some z => .own (.dic (tD (firstM y z.1 z.2 left)))
abbrev FFirst (P : Program) (w : World) (K : PySem.W.Frag) (mg : Str → Option Value) (base : Heap) (C : Addr) : Prop := FnD P w K mg base C 5 "first_ones" ["day", "begun", "left"] (fun a : DayR × List Int × List Int => [a.1.d, .lst (a.2.1.map .int), .lst (a.2.2.map .int)]) (fun a => a.1.ok ∧ goodO a.1.stops.length a.2.1 ∧ a.2.1.length ≤ 63 ∧ LeftOk a.1.stops.length a.2.2 ∧ behindM a.1 a.1.home a.1.start a.2.1 ≠ none) (fun a => firstOut a.1 a.2.1 a.2.2)
theorem f_first_ones (T_first_ones : TopD K mg "first_ones" s_first_ones ["day", "begun", "left"]) (T : Tx P w K mg C A) (F_timetable : FTable P w K mg base C A) (F_served : FServed P w K mg base C) : FFirst P w K mg base C := by
  obtain ⟨f, fd, F, hm, hb⟩ := T_first_ones.ex
  refine fn_d F hm hb sc_first_ones (by decide) fun cdv A_ outer s H E B a hp hx hB => ?_
  obtain ⟨y, begun, left⟩ := a
  obtain ⟨hy, hg, hl, hL, hbe⟩ := hp
  dsimp only at hy hg hl hL hbe hB ⊢
  obtain ⟨⟨pl, t⟩, hbe⟩ := Option.ne_none_iff_exists'.mp hbe
  refine db_set hx 3 (de_home T.day (de_var 0 rfl)) ?_
  refine db_set hx 4 (de_start T.day (de_var 0 rfl)) ?_
  refine db_if (fun δ' => δ' = [.sh y.d, .sh (.lst (begun.map .int)), .sh (.lst (left.map .int)), .sh (.int pl), .sh (.int t), .un, .un, .un]) (DC.t (dc_gt (de_lenL T.bi (DE.l (de_var 1 rfl))) de_int)) (fun h => ?_) (fun h => db_nil ?_) fun δ' hδ => ?_
  · have h := of_decide_eq_true h
    rw [List.length_map] at h
    have hno : begun ≠ [] := fun q => by
      rw [q] at h
      cases h
    have hin := hg.1 _ (List.getLast_mem hno)
    cases hr : runM y y.home y.start begun with
    | none =>
      rw [(run_behind y begun _ _).mp hr] at hbe
      cases hbe
    | some rows =>
      have hrl := runM_len hr
      have hne : rows ≠ [] := fun q => by
        rw [← hrl, q] at h
        cases h
      have e := run_behind_last y begun _ _ rows hno hr
      rw [hbe] at e
      cases e
      refine db_set hx 3 (d := .int (y.at (begun.getLastD 0)).p) (DE.eq (de_ixT (de_ixL (DE.l (de_stops T.day (de_var 0 rfl))) (de_ixL (DE.l (de_var 1 rfl)) (de_neg de_int) (at_lastI hno)) (at_stops hin.1 hin.2)) de_int rfl) (by rw [getLastD_eq hno])) ?_
      refine db_one (ds_set hx 4 (d := .int (rows.getLastD (0, 0, 0)).2.2) (DE.eq (de_ixT (de_ixL (DO.l (do_call F_timetable hx ((y, begun)) (da_cons (de_var 0 rfl) (da_cons (de_var 1 rfl) da_nil)) (⟨hy, hl⟩) ((show tableOut A y begun = .own (.lst (rows.map rowD)) by unfold tableOut; rw [if_pos hg, hr])))) (de_neg de_int) (at_last hne)) de_int rfl) ?_) rfl)
      rw [List.getLastD_eq_getLast?, List.getLast?_eq_getLast hne]
      rfl
  · have h := of_decide_eq_false h
    rw [List.length_map] at h
    obtain rfl : begun = [] := List.length_eq_zero_iff.mp (by omega)
    cases hbe
    rfl
  · subst hδ
    refine db_setO hx 5 do_newD ?_
    refine db_seq (fun δ' => ∃ z1 z2, δ' = [.sh y.d, .sh (.lst (begun.map .int)), .sh (.lst (left.map .int)), .sh (.int pl), .sh (.int t), .ow (.dic (tD (firstM y pl t left))), z1, z2])
      (ds_for hx (fun n δ' => ∃ z1 z2, δ' = [.sh y.d, .sh (.lst (begun.map .int)), .sh (.lst (left.map .int)), .sh (.int pl), .sh (.int t), .ow (.dic (tD ((left.take n).foldl (firstStep y pl t) []))), z1, z2]) (di_list (de_var 2 rfl)) (dg_name hx.nd 6) (fun _ _ => trivial) ⟨_, _, rfl⟩ (fun n d δ' hd hJ => ?_) fun δ' hJ => ?_) fun δ' hR => ?_
    · obtain ⟨z1, z2, rfl⟩ := hJ
      obtain ⟨m, rfl, hm⟩ := at_ord hd
      have hin := hL.rg m (List.mem_of_getElem? hm)
      have hf : ((left.take n).foldl (firstStep y pl t) []).length < sizeLine := by
        have h1 := fold_len (firstStep y pl t) 1 (firstStep_len y pl t) (left.take n) []
        have h2 := hL.few
        rw [List.length_take, List.length_nil] at h1
        exact small (by omega)
      refine db_set hx 7 (de_call F_served hx ((y, pl, t, m)) (da_cons (de_var 0 rfl) (da_cons (de_var 3 rfl) (da_cons (de_var 4 rfl) (da_cons (de_var 6 rfl) da_nil)))) (⟨hy, hin⟩) rfl) ?_
      dsimp only
      cases hs : servedM y pl t m with
      | none =>
        refine db_ifr (DC.t (dc_notN (DE.w (de_var 7 rfl)))) (fun h => (by cases h)) (fun _ => db_nil ⟨.sh (.int m), .sh .non, ?_⟩)
        rw [foldl_take hm, firstStep, leave_none hs]
        rfl
      | some x =>
        refine db_one (ds_if (DC.t (dc_notN (DE.w (de_var 7 rfl)))) (fun _ => ?_) (fun h => (by cases h)))
        refine db_one (ds_putD hx 5 (q := ([m], m)) (v := (x.2.2, none)) rfl (de_tup (da_cons (de_tup (da_cons (de_var 6 rfl) da_nil)) (da_cons (de_var 6 rfl) da_nil))) (de_tup (da_cons (de_ixT (de_var 7 rfl) de_int rfl) (da_cons de_non da_nil))) hf ⟨.sh (.int m), .sh (rowD x), ?_⟩)
        rw [foldl_take hm, firstStep, leave_some hs]
        rfl
    · obtain ⟨z1, z2, rfl⟩ := hJ
      rw [List.length_map, List.take_length]
      exact ⟨_, _, rfl⟩
    · obtain ⟨z1, z2, rfl⟩ := hR
      refine db_one (ds_retV 5 rfl ?_)
      show firstOut y begun left = _
      unfold firstOut
      rw [hbe]
def ValSome (t : Tb) : Prop := ∀ p ∈ t, ∃ b, p.2.2 = some b
theorem ValSome.put {t : Tb} {k : Ky} {z b : Int} (h : ValSome t) : ValSome (putT t k (z, some b)) := by
  intro p hp
  unfold putT at hp
  split at hp
  · obtain ⟨q, hq, rfl⟩ := List.mem_map.mp hp
    split
    · exact ⟨b, rfl⟩
    · exact h q hq
  · rcases List.mem_append.mp hp with hp | hp
    · exact h p hp
    · cases List.mem_singleton.mp hp
      exact ⟨b, rfl⟩
theorem ValSome.step {t : Tb} {c : Cand} (h : ValSome t) : ValSome (stepM t c) := by
  unfold stepM
  split
  · exact h.put
  · exact h
theorem ValSome.fur {y : DayR} {k : Ky} {v : Vl} {t : Tb} {n : Int} (h : ValSome t) : ValSome (furStep1 y k v t n) := by
  unfold furStep1
  split
  · exact h
  · exact h.step
theorem some_getD {α : Type} {o : Option α} (h : (!o.isSome) = false) (d : α) : o = some (o.getD d) := by
  cases o with
  | none => cases h
  | some a => rfl
theorem vD_some {t : Tb} {k : Ky} (hv : ValSome t) (h : (!(getT t k).isSome) = false) : vD ((getT t k).getD (0, none)) = .tup ([((getT t k).getD (0, none)).1, ((getT t k).getD (0, none)).2.getD 0].map .int) := by
  have e := some_getD h (0, none)
  obtain ⟨b, hb⟩ := hv _ (getT_mem e)
  unfold vD
  rw [hb]
  rfl
theorem at_keys {layer : Tb} {n : Nat} {d : D} (h : (tKeys layer)[n]? = some d) : ∃ k, d = kD k ∧ (layer.map (·.1))[n]? = some k := by
  unfold tKeys at h
  rw [List.getElem?_map] at h
  obtain ⟨p, hp, rfl⟩ := Option.map_eq_some_iff.mp h
  exact ⟨p.1, rfl, by rw [List.getElem?_map, hp]; rfl⟩
abbrev FFurther (P : Program) (w : World) (K : PySem.W.Frag) (mg : Str → Option Value) (base : Heap) (C : Addr) : Prop := FnD P w K mg base C 4 "further_ones" ["day", "layer", "left"] (fun a : DayR × Tb × List Int => [a.1.d, .dic (tD a.2.1), .lst (a.2.2.map .int)]) (fun a => a.1.ok ∧ LeftOk a.1.stops.length a.2.2 ∧ (∃ j, j ≤ 60 ∧ LayOk a.2.2 j a.2.1) ∧ a.2.1.length ≤ 823543) (fun a => .own (.dic (tD (furtherM a.1 a.2.2 a.2.1))))
theorem f_further_ones (T_further_ones : TopD K mg "further_ones" s_further_ones ["day", "layer", "left"]) (T : Tx P w K mg C A) (F_served : FServed P w K mg base C) : FFurther P w K mg base C := by
  obtain ⟨f, fd, F, hm, hb⟩ := T_further_ones.ex
  refine fn_d F hm hb sc_further_ones (by decide) fun cdv A_ outer s H E B a hp hx hB => ?_
  obtain ⟨y, layer, left⟩ := a
  obtain ⟨hy, hL, ⟨j, hj, hK⟩, hfew⟩ := hp
  dsimp only at hy hL hK hfew ⊢
  have h7 := hL.few
  refine db_setO hx 3 do_newD ?_
  refine db_seq (fun δ' => ∃ z1 z2 z3 z4 z5 z6, δ' = [.sh y.d, .sh (.dic (tD layer)), .sh (.lst (left.map .int)), .ow (.dic (tD (furtherM y left layer))), z1, z2, z3, z4, .un, z5, z6])
    (ds_for hx (fun n δ' => ValSome (((layer.map (·.1)).take n).foldl (furStep y left layer) []) ∧ ∃ z1 z2 z3 z4 z5 z6, δ' = [.sh y.d, .sh (.dic (tD layer)), .sh (.lst (left.map .int)), .ow (.dic (tD (((layer.map (·.1)).take n).foldl (furStep y left layer) []))), z1, z2, z3, z4, .un, z5, z6]) (di_dic (de_var 1 rfl)) (dg_name hx.nd 4) (fun _ _ => trivial) ⟨fun _ h => (by cases h), _, _, _, _, _, _, rfl⟩ (fun n d δ' hd hJ => ?_) fun δ' hJ => ?_) fun δ' hR => ?_
  · obtain ⟨hv, z1, z2, z3, z4, z5, z6, rfl⟩ := hJ
    obtain ⟨k, rfl, hk⟩ := at_keys hd
    have hn : n < layer.length := by
      have := (List.getElem?_eq_some_iff.mp hk).1
      rw [List.length_map] at this
      exact this
    have hz : (((layer.map (·.1)).take n).foldl (furStep y left layer) []).length ≤ 823542 * 7 := by
      have h1 := fold_len (furStep y left layer) left.length (furStep_len y left layer) ((layer.map (·.1)).take n) []
      rw [List.length_take, List.length_nil, List.length_map, Nat.zero_add] at h1
      exact Nat.le_trans h1 (Nat.mul_le_mul (by omega) h7)
    have hkm := List.mem_of_getElem? hk
    obtain ⟨p, hp, ek⟩ := List.mem_map.mp hkm
    have hgt : getT layer k = some p.2 := getT_of_mem hK.nd (by rw [← ek]; exact hp)
    have ok := hK.keys p hp
    rw [ek] at ok
    have hin2 := hL.rg k.2 (ok.sub _ ok.mem)
    have hk1 := ok.len
    rw [foldl_take hk] 
    generalize hT : ((layer.map (·.1)).take n).foldl (furStep y left layer) [] = tb at hv hz ⊢
    refine db_set hx 5 (de_ixT (de_var 4 rfl) de_int rfl) ?_
    have eo : lcD (left.map .int) (onB fun n => !decide (n ∈ k.1)) (onI .int) = (outOf left k).map .int := lcD_intsB left _ _
    refine db_one (ds_for hx (fun n2 δ' => ValSome (((outOf left k).take n2).foldl (furStep1 y k p.2) tb) ∧ ∃ z3 z4 z5 z6, δ' = [.sh y.d, .sh (.dic (tD layer)), .sh (.lst (left.map .int)), .ow (.dic (tD (((outOf left k).take n2).foldl (furStep1 y k p.2) tb))), .sh (kD k), .sh (.tup (k.1.map .int)), z3, z4, .un, z5, z6])
      (di_list (DE.eq (DO.s (do_lc (x := "one") hx 8 (l := left.map .int) (b := onB fun n => !decide (n ∈ k.1)) (onI .int) (di_list (de_var 2 rfl)) (blkOk_by (own := [("one", 8)]) (N := ["day", "layer", "left", "found", "key", "done", "number", "times", "one", "more", "value"]) (sc := defScope s_further_ones) (by decide +kernel)) (fun _ _ _ _ _ => pg_name (i := 8) hx.nd rfl (Or.inl rfl)) (df_one hx fun n d hd s' H' C0 cl fp hx => by
        obtain ⟨z, rfl, _⟩ := at_ord hd
        exact (DC.t (dc_notinT (de_var 8 rfl) (de_var 5 rfl)))) (fun n d hd _ s' H' C0 cl fp hx => by
        obtain ⟨z, rfl, _⟩ := at_ord hd
        exact (de_var 8 rfl)) (by rw [List.length_map]; exact small (by omega)))) (congrArg D.lst eo))) (dg_name hx.nd 6) (fun _ _ => trivial) ⟨hv, _, _, _, _, rfl⟩ (fun n2 d2 δ' hd2 hJ => ?_) fun δ' hJ => ?_)
    · obtain ⟨hv, z3, z4, z5, z6, rfl⟩ := hJ
      obtain ⟨m, rfl, hm⟩ := at_ord hd2
      obtain ⟨hml, hmk⟩ := mem_out.mp (List.mem_of_getElem? hm)
      have hin := hL.rg m hml
      have hz2 : (((outOf left k).take n2).foldl (furStep1 y k p.2) tb).length < sizeLine := by
        have h1 := fold_len (furStep1 y k p.2) 1 (furStep1_len y k p.2) ((outOf left k).take n2) tb
        have h2 := outOf_len left k
        rw [List.length_take] at h1
        rw [sizeLine_eq]
        omega
      rw [foldl_take hm]
      generalize ((outOf left k).take n2).foldl (furStep1 y k p.2) tb = tb2 at hv hz2 ⊢
      refine db_set hx 7 (de_call F_served hx ((y, (y.at k.2).p, p.2.1, m)) (da_cons (de_var 0 rfl) (da_cons (de_ixT (de_ixL (DE.l (de_stops T.day (de_var 0 rfl))) (de_ixT (de_var 4 rfl) de_int rfl) (at_stops hin2.1 hin2.2)) de_int rfl) (da_cons (de_ixT (de_ixD hx (DE.m (de_var 1 rfl)) (de_var 4 rfl) hgt) de_int rfl) (da_cons (de_var 6 rfl) da_nil)))) (⟨hy, hin⟩) rfl) ?_
      dsimp only
      cases hs : servedM y (y.at k.2).p p.2.1 m with
      | none =>
        refine db_one (ds_if (DC.t (dc_notN (DE.w (de_var 7 rfl)))) (fun h => (by cases h)) (fun _ => db_nil ?_))
        rw [furStep1, leave_none hs]
        exact ⟨hv, _, _, _, _, rfl⟩
      | some x =>
        have hfs : furStep1 y k p.2 tb2 m = stepM tb2 ((srt (k.1 ++ [m]), m), x.2.2, k.2) := by
          rw [furStep1, leave_some hs]
        rw [hfs]
        have hv2 : ValSome (stepM tb2 ((srt (k.1 ++ [m]), m), x.2.2, k.2)) := hv.step
        refine db_one (ds_if (DC.t (dc_notN (DE.w (de_var 7 rfl)))) (fun _ => ?_) (fun h => (by cases h)))
        refine db_set hx 9 (d := kD (srt (k.1 ++ [m]), m)) (de_tup (da_cons (de_tupleL T.bi (DO.l (do_sortT (ns := ((k.1 ++ [m]))) T.bi (DE.eq (de_catT (de_var 5 rfl) (de_tup (da_cons (de_var 6 rfl) da_nil)) ((small (by rw [List.length_map]; simp only [List.length_cons, List.length_nil]; omega)))) ((by rw [List.map_append]; rfl))) ((by rw [List.length_append, List.length_singleton]; omega))))) (da_cons (de_var 6 rfl) da_nil))) ?_
        refine db_set hx 10 (de_tup (da_cons (de_ixT (de_var 7 rfl) de_int rfl) (da_cons (de_ixT (de_var 4 rfl) de_int rfl) da_nil))) ?_
        refine db_one (ds_if (DTW.t (tw_or (DC.t (dc_notinD hx (de_var 9 rfl) (dm_own 3 rfl))) (fun hc3 => (tw_or1 (DC.t (dc_ltT hx (ns := ([x.2.2, k.2])) (ms := ([((getT tb2 (srt (k.1 ++ [m]), m)).getD (0, none)).1, ((getT tb2 (srt (k.1 ++ [m]), m)).getD (0, none)).2.getD 0])) (de_var 10 rfl) (DE.eq (de_ixD hx (dm_own 3 rfl) (de_var 9 rfl) ((some_getD ‹(!(getT _ _).isSome) = false› (0, none)))) ((vD_some hv ‹(!(getT _ _).isSome) = false›))))))))) (fun h => ?_) (fun h => db_nil ?_))
        · refine db_one (ds_putD hx 3 (q := (srt (k.1 ++ [m]), m)) (v := (x.2.2, some k.2)) rfl (de_var 9 rfl) (de_var 10 rfl) hz2 ⟨hv2, .sh (.int m), .sh (rowD x), .sh (kD (srt (k.1 ++ [m]), m)), .sh (vD (x.2.2, some k.2)), ?_⟩)
          rw [show stepM tb2 ((srt (k.1 ++ [m]), m), x.2.2, k.2) = putT tb2 (srt (k.1 ++ [m]), m) (x.2.2, some k.2) from if_pos h]
          rfl
        · refine ⟨hv2, .sh (.int m), .sh (rowD x), .sh (kD (srt (k.1 ++ [m]), m)), .sh (vD (x.2.2, some k.2)), ?_⟩
          rw [show stepM tb2 ((srt (k.1 ++ [m]), m), x.2.2, k.2) = tb2 from if_neg (fun q => Bool.false_ne_true (h.symm.trans q))]
          rfl
    · obtain ⟨hv, z3, z4, z5, z6, rfl⟩ := hJ
      have e : ((outOf left k).take ((outOf left k).map D.int).length).foldl (furStep1 y k p.2) tb = furStep y left layer tb k := by
        rw [List.length_map, List.take_length, furStep, hgt]
        rfl
      rw [e] at hv
      rw [e]
      exact ⟨hv, _, _, _, _, _, _, rfl⟩
  · obtain ⟨hv, z1, z2, z3, z4, z5, z6, rfl⟩ := hJ
    unfold tKeys
    rw [List.length_map, ← List.length_map (f := (·.1)), List.take_length]
    exact ⟨_, _, _, _, _, _, rfl⟩
  · obtain ⟨z1, z2, z3, z4, z5, z6, rfl⟩ := hR
    exact db_one (ds_retV 3 rfl rfl)
/-- Missed, to be caught; BadOrder is none of it -/
structure Ms (K : PySem.W.Frag) (mg : Str → Option Value) (A : Ads) : Prop where
  cS : OwnC K mg "Missed" A.missed
  sS : PySem.W.subIn K (.ref A.missed) (.ref A.missed) = some true
  bS : PySem.W.subIn K (.ref A.order) (.ref A.missed) = some false
def tableOutD (A : Ads) (y : DayR) (begun : List Int) : Out := if goodO y.stops.length begun then .own (.dic (tD (tableM y begun))) else .err A.order
theorem left_ok {y : DayR} (hy : y.ok) (begun : List Int) : LeftOk y.stops.length (leftM y.stops.length begun) :=
  ⟨Nat.le_trans left_len hy.few, fun n hn => (mem_left.mp hn).1⟩
abbrev FTab (P : Program) (w : World) (K : PySem.W.Frag) (mg : Str → Option Value) (base : Heap) (C : Addr) (A : Ads) : Prop := FnD P w K mg base C 6 "table" ["day", "begun"] (fun a : DayR × List Int => [a.1.d, .lst (a.2.map .int)]) (fun a => a.1.ok ∧ a.2.length ≤ 63) (fun a => tableOutD A a.1 a.2)
theorem f_table (T_table : TopD K mg "table" s_table ["day", "begun"]) (T : Tx P w K mg C A) (Q : Ms K mg A) (F_timetable : FTable P w K mg base C A) (F_first_ones : FFirst P w K mg base C) (F_further_ones : FFurther P w K mg base C) : FTab P w K mg base C A := by
  obtain ⟨f, fd, F, hm, hb⟩ := T_table.ex
  refine fn_d F hm hb sc_table (by decide) fun cdv A_ outer s H E B a hp hx hB => ?_
  obtain ⟨y, begun⟩ := a
  have hyl := hp
  obtain ⟨hy, hl⟩ := hp
  dsimp only at hy hl hyl hB ⊢
  by_cases hg : goodO y.stops.length begun
  · cases hr : runM y y.home y.start begun with
    | none =>
      have hbn := (run_behind y begun _ _).mp hr
      have e : tableOut A y begun = .err A.missed := by
        unfold tableOut
        rw [if_pos hg, hr]
      have e2 : tableOutD A y begun = .own (.dic (tD [])) := by
        unfold tableOutD tableM
        rw [if_pos hg, hbn]
      refine db_cons (ds_try hx (.cons Q.cS.g .nil) (fun c => c = A.missed) (fun c hc => ?_) fun pn xe B' hx hB' => ?_)
      · subst hc
        exact ⟨true, exm_c Q.cS Q.sS, fun _ a oe pn _ _ => db_one (ds_retO do_newD e2), fun q => nomatch q⟩
      · exact db_one (ds_exprX (dx_call F_timetable hx (y, begun) (dw_cons (DE.w (de_var 0 rfl)) (dw_cons (DE.w (de_var 1 rfl)) dw_nil)) hyl e (hB' _ rfl)))
    | some rows =>
      have e : tableOut A y begun = .own (.lst (rows.map rowD)) := by
        unfold tableOut
        rw [if_pos hg, hr]
      have hne : behindM y y.home y.start begun ≠ none := fun q => by
        rw [(run_behind y begun _ _).mpr q] at hr
        cases hr
      have hxo := hx
      refine db_cons (ds_try hx (.cons Q.cS.g .nil) (fun _ => False) (fun _ z => z.elim) fun pn xe B' hx _ => db_one (ds_expr (DE.w (DO.s (do_call F_timetable hx ((y, begun)) (da_cons (de_var 0 rfl) (da_cons (de_var 1 rfl) da_nil)) hyl e))) ?_))
      have hx := hxo
      have h7 := hy.few
      have em : ((y.stops.map Stop.d).length : Int) = (y.stops.length : Int) := by rw [List.length_map]
      have ell : lcD (rng 0 (y.stops.length : Int).toNat) (onB fun n => !decide (n ∈ begun)) (onI .int) = (leftM y.stops.length begun).map .int := by
        rw [rng_upTo]
        exact lcD_intsB _ _ _
      refine db_cons (ds_setLc (x := "number") hx 6 2 (l := rng 0 (y.stops.length : Int).toNat) (b := onB fun n => !decide (n ∈ begun)) (onI .int) (di_r1 (m := (y.stops.length : Int)) T.bi (DE.eq (de_lenL T.bi (DE.l (de_stops T.day (de_var 0 rfl)))) (by rw [em])) ⟨by omega, by omega⟩) (blkOk_by (own := [("number", 6)]) (N := ["day", "begun", "left", "found", "layer", "key", "number"]) (sc := defScope s_table) (by decide +kernel)) (fun _ _ _ _ _ => pg_name (i := 6) hx.nd rfl (Or.inl rfl)) (df_one hx fun n d hd s' H' C0 cl fp hx => by
        rw [rng_upTo] at hd
        obtain ⟨z, rfl, _⟩ := at_ord hd
        exact (DC.t (dc_notinL (de_var 6 rfl) (DE.l (de_var 1 rfl))))) (fun n d hd _ s' H' C0 cl fp hx => by
        rw [rng_upTo] at hd
        obtain ⟨z, rfl, _⟩ := at_ord hd
        exact (de_var 6 rfl)) (by rw [rng_upTo, List.length_map, upTo_len]; exact small (by omega)) ?_)
      rw [ell]
      refine db_pub 2 rfl ?_
      have hL := left_ok hy begun
      obtain ⟨⟨pl, t⟩, hbe⟩ := Option.ne_none_iff_exists'.mp hne
      have et : tableM y begun = tabM y pl t (leftM y.stops.length begun) 8 := by
        unfold tableM
        rw [hbe]
      have ef : firstOut y begun (leftM y.stops.length begun) = .own (.dic (tD (layerM y pl t (leftM y.stops.length begun) 0))) := by
        unfold firstOut
        rw [hbe]
        rfl
      show DB _ _ _ _ [.sh y.d, .sh (.lst (begun.map .int)), .sh (.lst ((leftM y.stops.length begun).map .int)), .un, .un, .un, .un] _
      generalize leftM y.stops.length begun = left at hL et ef ⊢
      have hl7 := hL.few
      refine db_setO hx 3 do_newD ?_
      refine db_set hx 4 (DO.m (do_call F_first_ones hx ((y, begun, left)) (da_cons (de_var 0 rfl) (da_cons (de_var 1 rfl) (da_cons (de_var 2 rfl) da_nil))) (⟨hy, hg, hl, hL, hne⟩) ef)) ?_
      refine db_seq (fun δ' => ∃ z1 z2 z3, δ' = [.sh y.d, .sh (.lst (begun.map .int)), .sh (.lst (left.map .int)), .ow (.dic (tD (tableM y begun))), z1, z2, z3])
        (ds_while hx (fun m δ' => ∃ j z1 z2, j ≤ 7 ∧ m = 7 - j ∧ δ' = [.sh y.d, .sh (.lst (begun.map .int)), .sh (.lst (left.map .int)), .ow (.dic (tD (tabM y pl t left j))), .sh (.dic (tD (layerM y pl t left j))), z1, z2]) ⟨7, 0, _, _, by decide, rfl, rfl⟩ fun m δ' hJ => ?_) fun δ' hR => ?_
      · obtain ⟨j, z1, z2, hj, rfl, rfl⟩ := hJ
        refine ⟨decide (((layerM y pl t left j).length : Int) > 0), (DC.t (dc_gt (de_lenD T.bi (DE.m (de_var 4 rfl))) de_int)), fun h => ?_, fun h => ?_⟩
        · have h := of_decide_eq_true h
          have hj2 : j < left.length := by
            rcases Nat.lt_or_ge j left.length with q | q
            · exact q
            · rw [layer_nil q] at h
              cases h
          have hok := layer_ok (y := y) (pl := pl) (t := t) (left := left) j
          have hfew := layer_few (y := y) (pl := pl) (t := t) hl7 j
          have htl := tab_len (y := y) (pl := pl) (t := t) hl7 j
          have hnd := tab_nodup (y := y) (pl := pl) (t := t) (left := left) (j + 1)
          refine db_seq (fun δ' => ∃ z1 z2, δ' = [.sh y.d, .sh (.lst (begun.map .int)), .sh (.lst (left.map .int)), .ow (.dic (tD (tabM y pl t left (j + 1)))), .sh (.dic (tD (layerM y pl t left j))), z1, z2])
            (ds_for hx (fun n δ' => ∃ z1 z2, δ' = [.sh y.d, .sh (.lst (begun.map .int)), .sh (.lst (left.map .int)), .ow (.dic (tD (tabM y pl t left j ++ (layerM y pl t left j).take n))), .sh (.dic (tD (layerM y pl t left j))), z1, z2]) (di_dic (de_var 4 rfl)) (dg_name hx.nd 5) (fun _ _ => trivial) ⟨_, _, by rw [List.take_zero, List.append_nil]⟩ (fun n d δ' hd hJ => ?_) fun δ' hJ => ?_) fun δ' hR => ?_
          · obtain ⟨z1, z2, rfl⟩ := hJ
            obtain ⟨k, rfl, hk⟩ := at_keys hd
            rw [List.getElem?_map] at hk
            obtain ⟨p, hp, rfl⟩ := Option.map_eq_some_iff.mp hk
            have hpm := List.mem_of_getElem? hp
            have hgt : getT (layerM y pl t left j) p.1 = some p.2 := getT_of_mem hok.nd hpm
            have hnew : getT (tabM y pl t left j ++ (layerM y pl t left j).take n) p.1 = none := by
              refine getT_none.mpr fun hq => ?_
              have e3 : tabM y pl t left (j + 1) = (tabM y pl t left j ++ (layerM y pl t left j).take n) ++ (layerM y pl t left j).drop n := by
                show tabM y pl t left j ++ layerM y pl t left j = _
                rw [List.append_assoc, List.take_append_drop]
              rw [e3, List.map_append, drop_cons hp] at hnd
              exact (List.nodup_append.mp hnd).2.2 p.1 hq p.1 List.mem_cons_self rfl
            have hz : (tabM y pl t left j ++ (layerM y pl t left j).take n).length < sizeLine := by
              rw [List.length_append, List.length_take, sizeLine_eq]
              omega
            refine db_one (ds_putD hx 3 (q := p.1) (v := p.2) rfl (de_var 5 rfl) (de_ixD hx (DE.m (de_var 4 rfl)) (de_var 5 rfl) hgt) hz ⟨.sh (kD p.1), z2, ?_⟩)
            rw [putT_new hnew, take_snoc hp, List.append_assoc]
            rfl
          · obtain ⟨z1, z2, rfl⟩ := hJ
            unfold tKeys
            rw [List.length_map, List.take_length]
            exact ⟨_, _, rfl⟩
          · obtain ⟨z1, z2, rfl⟩ := hR
            refine db_one (ds_set hx 4 (DO.m (do_call F_further_ones hx ((y, layerM y pl t left j, left)) (da_cons (de_var 0 rfl) (da_cons (de_var 4 rfl) (da_cons (de_var 2 rfl) da_nil))) (⟨hy, hL, ⟨j + 1, by omega, hok⟩, hfew⟩) rfl)) ?_)
            exact ⟨7 - (j + 1), by omega, j + 1, _, _, by omega, rfl, rfl⟩
        · have h := of_decide_eq_false h
          have hn : layerM y pl t left j = [] := List.length_eq_zero_iff.mp (by omega)
          rw [et, tab_stop hn 8 (by omega)]
          exact ⟨_, _, _, rfl⟩
      · obtain ⟨z1, z2, z3, rfl⟩ := hR
        refine db_one (ds_retV 3 rfl ?_)
        show tableOutD A y begun = _
        unfold tableOutD
        rw [if_pos hg]
  · have e : tableOut A y begun = .err A.order := by
      unfold tableOut
      rw [if_neg hg]
    have e2 : tableOutD A y begun = .err A.order := by
      unfold tableOutD
      rw [if_neg hg]
    refine db_cons (ds_try hx (.cons Q.cS.g .nil) (fun c => c = A.order) (fun c hc => ?_) fun pn xe B' hx hB' => ?_)
    · subst hc
      exact ⟨false, exm_c Q.cS Q.bS, (fun q => nomatch q), fun _ => hB _ _ e2⟩
    · exact db_one (ds_exprX (dx_call F_timetable hx (y, begun) (dw_cons (DE.w (de_var 0 rfl)) (dw_cons (DE.w (de_var 1 rfl)) dw_nil)) hyl e (hB' _ rfl)))
structure TabOk (left : List Int) (t : Tb) : Prop where
  nd : (t.map (·.1)).Nodup
  keys : ∀ p ∈ t, ∃ j, KeyOk left j p.1
abbrev s_stops_by : Stmt := top 51
theorem sc_stops_by : FnScope ["_law_road", "_law_start", "_law_script", "_law_many_here", "_law_k"] ["_law_road", "_law_start", "_law_script", "_law_many_here"] (defScope s_stops_by) := ⟨rfl, rfl, rfl, by decide +kernel, rfl, by decide +kernel, by decide +kernel⟩
abbrev FStopsBy (P : Program) (w : World) (K : PySem.W.Frag) (mg : Str → Option Value) (base : Heap) (C : Addr) : Prop := FnD P w K mg base C 4 "_law_stops_by" ["_law_road", "_law_start", "_law_script", "_law_many_here"] (fun a : Road × Int × List Int × Int => [a.1.d, .int a.2.1, .scr (a.2.2.1.map .int), .int a.2.2.2]) (fun a => a.1.ok ∧ a.2.2.1.length ≤ 63 ∧ 0 ≤ a.2.2.2 ∧ a.2.2.2 ≤ 63) (fun a => .own (.lst ((stopsBy a.1 a.2.1 a.2.2.1 a.2.2.2).map Stop.d)))
theorem f_stops_by (T_stops_by : TopD K mg "_law_stops_by" s_stops_by ["_law_road", "_law_start", "_law_script", "_law_many_here"]) (T : Tx P w K mg C A) (F_stop_by : FStopBy P w K mg base C) : FStopsBy P w K mg base C := by
  obtain ⟨f, fd, F, hm, hb⟩ := T_stops_by.ex
  refine fn_d F hm hb sc_stops_by (by decide) fun cdv A_ outer s H E B a hp hx hB => ?_
  obtain ⟨r, s0, ns, m⟩ := a
  obtain ⟨hr, hl, h0, hm0⟩ := hp
  dsimp only at hr hl h0 hm0 ⊢
  have e0 : rng 0 m.toNat = (upTo m).map .int := rng_upTo m
  have ell : (lcD (rng 0 m.toNat) (fun _ => true) (onI fun k => (stopBy r s0 ns (4 + 4 * k)).d)) = (stopsBy r s0 ns m).map Stop.d := by
    rw [e0, lcD_ints, stopsBy, List.map_map]
    rfl
  refine db_one (ds_retO (do_lc (x := "_law_k") hx 4 (l := rng 0 m.toNat) (onI fun k => (stopBy r s0 ns (4 + 4 * k)).d) (di_r1 T.bi (de_var 3 rfl) ⟨by omega, by omega⟩) (blkOk_by (own := [("_law_k", 4)]) (N := ["_law_road", "_law_start", "_law_script", "_law_many_here", "_law_k"]) (sc := defScope s_stops_by) (by decide +kernel)) (fun _ _ _ _ _ => pg_name (i := 4) hx.nd rfl (Or.inl rfl)) df_nil (fun n d hd _ s' H' C0 cl fp hx => by
        rw [e0] at hd
        obtain ⟨z, rfl, _⟩ := at_ord hd
        exact (de_call F_stop_by hx ((r, s0, ns, 4 + 4 * z)) (da_cons (de_var 0 rfl) (da_cons (de_var 1 rfl) (da_cons (de_var 2 rfl) (da_cons (de_add de_int (de_mul de_int (de_var 4 rfl) (.inl ⟨by decide, by decide⟩))) da_nil)))) (⟨hr, hl⟩) rfl)) (by rw [e0, List.length_map, upTo_len]; exact small (by omega))) (by rw [ell]; rfl))
abbrev s_least : Stmt := top 29
theorem sc_least : FnScope ["day", "begun", "many", "found", "homes", "key"] ["day", "begun"] (defScope s_least) := ⟨rfl, rfl, rfl, by decide +kernel, rfl, by decide +kernel, by decide +kernel⟩
def homesM (y : DayR) (t : Tb) (many : Int) : List Int := (t.filter fun p => decide ((p.1.1.length : Int) = many)).map fun p => p.2.1 + apartM y.road (y.at p.1.2).p y.home
theorem homes_snoc (y : DayR) (t : Tb) (p : Ky × Vl) (many : Int) : homesM y (t ++ [p]) many = homesM y t many ++ if decide ((p.1.1.length : Int) = many) = true then [p.2.1 + apartM y.road (y.at p.1.2).p y.home] else [] := by
  unfold homesM
  rw [List.filter_append, List.map_append, List.filter_cons]
  split <;> rfl
def leastB (y : DayR) (begun : List Int) : Option Int :=
  if (y.stops.length : Int) - (begun.length : Int) = 0 then (match runM y y.home y.start begun with
    | none => none
    | some rows => some (endM y begun rows))
  else leastM (homesM y (tableM y begun) ((y.stops.length : Int) - (begun.length : Int)))
def leastOut (A : Ads) (y : DayR) (begun : List Int) : Out := if goodO y.stops.length begun then .ok (oD (leastB y begun)) else .err A.order
theorem table_tab {y : DayR} (hy : y.ok) (begun : List Int) : TabOk (leftM y.stops.length begun) (tableM y begun) ∧ (tableM y begun).length ≤ 6588344 := by
  unfold tableM
  cases behindM y y.home y.start begun with
  | none => exact ⟨⟨List.nodup_nil, fun _ h => (by cases h)⟩, Nat.zero_le _⟩
  | some z => exact ⟨⟨tab_nodup 8, fun p hp => by
      obtain ⟨i, _, h⟩ := tab_keys hp
      exact ⟨i + 1, (layer_ok i).keys p h⟩⟩, tab_len (left_ok hy begun).few 8⟩
abbrev FLeast (P : Program) (w : World) (K : PySem.W.Frag) (mg : Str → Option Value) (base : Heap) (C : Addr) (A : Ads) : Prop := FnD P w K mg base C 7 "least" ["day", "begun"] (fun a : DayR × List Int => [a.1.d, .lst (a.2.map .int)]) (fun a => a.1.ok ∧ a.2.length ≤ 63) (fun a => leastOut A a.1 a.2)
theorem f_least (T_least : TopD K mg "least" s_least ["day", "begun"]) (T : Tx P w K mg C A) (Q : Ms K mg A) (F_ends : FEnds P w K mg base C A) (F_table : FTab P w K mg base C A) (F_apart : FApart P w K mg base C) : FLeast P w K mg base C A := by
  obtain ⟨f, fd, F, hm, hb⟩ := T_least.ex
  refine fn_d F hm hb sc_least (by decide) fun cdv A_ outer s H E B a hp hx hB => ?_
  obtain ⟨y, begun⟩ := a
  have hyl := hp
  obtain ⟨hy, hl⟩ := hp
  dsimp only at hy hl hyl hB ⊢
  refine db_set hx 2 (d := .int ((y.stops.length : Int) - (begun.length : Int))) (DE.eq (de_sub (de_lenL T.bi (DE.l (de_stops T.day (de_var 0 rfl)))) (de_lenL T.bi (DE.l (de_var 1 rfl)))) (by rw [List.length_map, List.length_map])) ?_
  by_cases hg : goodO y.stops.length begun
  · have eo : leastOut A y begun = .ok (oD (leastB y begun)) := by
      unfold leastOut
      rw [if_pos hg]
    refine db_ifr (DC.t (dc_eqI (de_var 2 rfl) de_int)) (fun h => ?_) (fun h => ?_)
    · have h := of_decide_eq_true h
      cases hr : runM y y.home y.start begun with
      | none =>
        have e : endOut A y begun = .err A.missed := by
          unfold endOut
          rw [if_pos hg, hr]
        refine db_one (ds_try hx (.cons Q.cS.g .nil) (fun c => c = A.missed) (fun c hc => ?_) fun pn xe B' hx hB' => ?_)
        · subst hc
          refine ⟨true, exm_c Q.cS Q.sS, fun _ a oe pn _ _ => db_one (ds_ret de_non ?_), fun q => nomatch q⟩
          show leastOut A y begun = _
          rw [eo, leastB, if_pos h, hr]
          rfl
        · exact db_one (ds_retX (dx_call F_ends hx (y, begun) (dw_cons (DE.w (de_var 0 rfl)) (dw_cons (DE.w (de_var 1 rfl)) dw_nil)) hyl e (hB' _ rfl)))
      | some rows =>
        have e : endOut A y begun = .ok (.int (endM y begun rows)) := by
          unfold endOut
          rw [if_pos hg, hr]
        refine db_one (ds_try hx (.cons Q.cS.g .nil) (fun _ => False) (fun _ z => z.elim) fun pn xe B' hx _ => db_one (ds_ret (de_call F_ends hx ((y, begun)) (da_cons (de_var 0 rfl) (da_cons (de_var 1 rfl) da_nil)) hyl e) ?_))
        show leastOut A y begun = _
        rw [eo, leastB, if_pos h, hr]
        rfl
    · have h := of_decide_eq_false h
      have e : tableOutD A y begun = .own (.dic (tD (tableM y begun))) := by
        unfold tableOutD
        rw [if_pos hg]
      obtain ⟨ok, hlen⟩ := table_tab hy begun
      refine db_set hx 3 (DO.m (do_call F_table hx ((y, begun)) (da_cons (de_var 0 rfl) (da_cons (de_var 1 rfl) da_nil)) hyl e)) ?_
      refine db_setO hx 4 (do_lst da_nil) ?_
      refine db_seq (fun δ' => ∃ z, δ' = [.sh y.d, .sh (.lst (begun.map .int)), .sh (.int ((y.stops.length : Int) - (begun.length : Int))), .sh (.dic (tD (tableM y begun))), .ow (.lst ((homesM y (tableM y begun) ((y.stops.length : Int) - (begun.length : Int))).map .int)), z])
        (ds_for hx (fun n δ' => ∃ z, δ' = [.sh y.d, .sh (.lst (begun.map .int)), .sh (.int ((y.stops.length : Int) - (begun.length : Int))), .sh (.dic (tD (tableM y begun))), .ow (.lst ((homesM y ((tableM y begun).take n) ((y.stops.length : Int) - (begun.length : Int))).map .int)), z]) (di_dic (de_var 3 rfl)) (dg_name hx.nd 5) (fun _ _ => trivial) ⟨_, rfl⟩ (fun n d δ' hd hJ => ?_) fun δ' hJ => ?_) fun δ' hR => ?_
      · obtain ⟨z, rfl⟩ := hJ
        obtain ⟨k, rfl, hk⟩ := at_keys hd
        rw [List.getElem?_map] at hk
        obtain ⟨p, hp, rfl⟩ := Option.map_eq_some_iff.mp hk
        have hpm := List.mem_of_getElem? hp
        have hgt : getT (tableM y begun) p.1 = some p.2 := getT_of_mem ok.nd hpm
        obtain ⟨j, kok⟩ := ok.keys p hpm
        have hin := (left_ok hy begun).rg p.1.2 (kok.sub _ kok.mem)
        have hz : ((homesM y ((tableM y begun).take n) ((y.stops.length : Int) - (begun.length : Int))).map D.int).length < sizeLine := by
          have h1 := List.length_filter_le (fun q : Ky × Vl => decide ((q.1.1.length : Int) = (y.stops.length : Int) - (begun.length : Int))) ((tableM y begun).take n)
          rw [List.length_take] at h1
          unfold homesM
          rw [List.length_map, List.length_map, sizeLine_eq]
          omega
        have es := homes_snoc y ((tableM y begun).take n) p ((y.stops.length : Int) - (begun.length : Int))
        rw [← take_snoc hp] at es
        rw [es]
        refine db_one (ds_if (DT.eq (b' := decide ((p.1.1.length : Int) = (y.stops.length : Int) - (begun.length : Int))) (DC.t (dc_eqI (de_lenT T.bi (de_ixT (de_var 5 rfl) de_int rfl)) (de_var 2 rfl))) (by rw [List.length_map])) (fun h => ?_) (fun h => db_nil ?_))
        · refine db_one (ds_append 4 rfl (de_add (de_ixT (de_ixD hx (DE.m (de_var 3 rfl)) (de_var 5 rfl) hgt) de_int rfl) (de_call F_apart hx ((y.road, (y.at p.1.2).p, y.home)) (da_cons (de_road T.day (de_var 0 rfl)) (da_cons (de_ixT (de_ixL (DE.l (de_stops T.day (de_var 0 rfl))) (de_ixT (de_var 5 rfl) de_int rfl) (at_stops hin.1 hin.2)) de_int rfl) (da_cons (de_home T.day (de_var 0 rfl)) da_nil))) hy.len rfl)) hz ⟨.sh (kD p.1), ?_⟩)
          rw [if_pos h, List.map_append]
          rfl
        · refine ⟨.sh (kD p.1), ?_⟩
          rw [if_neg (by rw [h]; exact Bool.false_ne_true), List.append_nil]
          rfl
      · obtain ⟨z, rfl⟩ := hJ
        unfold tKeys
        rw [List.length_map, List.take_length]
        exact ⟨_, rfl⟩
      · obtain ⟨z, rfl⟩ := hR
        refine db_one (ds_ret (de_minD (ns := homesM y (tableM y begun) ((y.stops.length : Int) - (begun.length : Int))) T.bi hx (dl_own 4 rfl)) ?_)
        show leastOut A y begun = _
        rw [eo, leastB, if_neg h]
  · have eo : leastOut A y begun = .err A.order := by
      unfold leastOut
      rw [if_neg hg]
    refine db_ifr (DC.t (dc_eqI (de_var 2 rfl) de_int)) (fun h => ?_) (fun h => ?_)
    · have e : endOut A y begun = .err A.order := by
        unfold endOut
        rw [if_neg hg]
      refine db_one (ds_try hx (.cons Q.cS.g .nil) (fun c => c = A.order) (fun c hc => ?_) fun pn xe B' hx hB' => ?_)
      · subst hc
        exact ⟨false, exm_c Q.cS Q.bS, (fun q => nomatch q), fun _ => hB _ _ eo⟩
      · exact db_one (ds_retX (dx_call F_ends hx (y, begun) (dw_cons (DE.w (de_var 0 rfl)) (dw_cons (DE.w (de_var 1 rfl)) dw_nil)) hyl e (hB' _ rfl)))
    · have e : tableOutD A y begun = .err A.order := by
        unfold tableOutD
        rw [if_neg hg]
      exact db_cons (ds_setX hx (dx_call F_table hx (y, begun) (dw_cons (DE.w (de_var 0 rfl)) (dw_cons (DE.w (de_var 1 rfl)) dw_nil)) hyl e (hB _ _ eo)) (i := 3) rfl)
theorem filt_len {α : Type} (p : α → Bool) : ∀ l : List α, l.length = (l.filter p).length + (l.filter fun a => !p a).length
  | [] => rfl
  | a :: l => by
    have := filt_len p l
    rw [List.filter_cons, List.filter_cons, List.length_cons]
    cases p a <;> simp <;> omega
theorem left_count {m : Nat} {begun : List Int} (hg : goodO m begun) : ((leftM m begun).length : Int) = (m : Int) - (begun.length : Int) := by
  have h1 : ((upTo (m : Int)).filter fun n => decide (n ∈ begun)).Perm begun := by
    refine (List.perm_ext_iff_of_nodup ((upTo_nodup _).filter _) hg.2).mpr fun x => ?_
    rw [List.mem_filter, decide_eq_true_eq]
    refine ⟨fun h => h.2, fun h => ⟨?_, h⟩⟩
    have := hg.1 x h
    unfold upTo
    exact List.mem_map.mpr ⟨x.toNat, List.mem_range.mpr (by omega), by omega⟩
  have h2 := filt_len (fun n => decide (n ∈ begun)) (upTo (m : Int))
  rw [upTo_len, h1.length_eq] at h2
  have h3 : (leftM m begun).length = ((upTo (m : Int)).filter fun n => !decide (n ∈ begun)).length := rfl
  omega
def dueM (y : DayR) (begun : List Int) : Option Int := match behindM y y.home y.start begun with
  | none => none
  | some z => if begun.length = y.stops.length then some (z.2 + apartM y.road z.1 y.home) else leastM (homesM y (tableM y begun) ((leftM y.stops.length begun).length : Int))
theorem apart_self {r : Road} {a : Int} (hr : r.ok) (ha : r.has a) : apartM r a a = 0 := by
  have := hr.1
  rw [apartM_eq ha ha, Int.max_self, Int.min_self, Int.sub_self]
  split <;> omega
theorem due_least {y : DayR} (hy : y.ok) {begun : List Int} (hg : goodO y.stops.length begun) : dueM y begun = leastB y begun := by
  have hc := left_count hg
  unfold dueM leastB
  rw [← hc]
  cases hr : runM y y.home y.start begun with
  | none =>
    have hb := (run_behind y begun _ _).mp hr
    have ht : tableM y begun = [] := by
      unfold tableM
      rw [hb]
    rw [hb, ht]
    dsimp only
    by_cases h0 : ((leftM y.stops.length begun).length : Int) = 0
    · rw [if_pos h0]
    · rw [if_neg h0]
      rfl
  | some rows =>
    cases hb : behindM y y.home y.start begun with
    | none =>
      rw [(run_behind y begun _ _).mpr hb] at hr
      cases hr
    | some z =>
      dsimp only
      by_cases h : begun.length = y.stops.length
      · rw [if_pos h, if_pos (by omega)]
        by_cases hn : begun = []
        · subst hn
          cases hb
          cases hr
          show some _ = some y.start
          rw [apart_self hy.road hy.home, Int.add_zero]
        · have e := run_behind_last y begun _ _ rows hn hr
          rw [hb] at e
          cases e
          have hne : rows ≠ [] := fun q => hn (List.length_eq_zero_iff.mp (by rw [← runM_len hr, q]; rfl))
          show some _ = some (endM y begun rows)
          unfold endM
          rw [List.getLast?_eq_getLast hne, show rows.getLastD (0, 0, 0) = rows.getLast hne from by rw [List.getLastD_eq_getLast?, List.getLast?_eq_getLast hne]; rfl]
      · rw [if_neg h, if_neg (by omega)]
theorem tab_ok {y : DayR} {pl t : Int} {left : List Int} (j : Nat) : TabOk left (tabM y pl t left j) :=
  ⟨tab_nodup j, fun p hp => by
    obtain ⟨i, _, h⟩ := tab_keys hp
    exact ⟨i + 1, (layer_ok i).keys p h⟩⟩
theorem left_nodup (m : Nat) (begun : List Int) : (leftM m begun).Nodup := (upTo_nodup (m : Int)).filter _
/-! #### least, of all tours -/
def tourEnd (y : DayR) (o : List Int) : Option Int := (behindM y y.home y.start o).map fun z => z.2 + apartM y.road z.1 y.home
/-- a tour of all stops that begins so -/
structure Tour (y : DayR) (begun o : List Int) : Prop where
  pre : begun <+: o
  good : goodO y.stops.length o
  len : o.length = y.stops.length
theorem mem_homes {y : DayR} {t : Tb} {many e : Int} : e ∈ homesM y t many ↔ ∃ p ∈ t, (p.1.1.length : Int) = many ∧ p.2.1 + apartM y.road (y.at p.1.2).p y.home = e := by
  unfold homesM
  rw [List.mem_map]
  constructor
  · rintro ⟨p, hp, rfl⟩
    obtain ⟨h1, h2⟩ := List.mem_filter.mp hp
    exact ⟨p, h1, of_decide_eq_true h2, rfl⟩
  · rintro ⟨p, h1, h2, rfl⟩
    exact ⟨p, List.mem_filter.mpr ⟨h1, decide_eq_true h2⟩, rfl⟩
theorem tour_rest {y : DayR} {begun o : List Int} (h : Tour y begun o) : ∃ r, o = begun ++ r ∧ r.Nodup ∧ (∀ x ∈ r, x ∈ leftM y.stops.length begun) ∧ begun.length + r.length = y.stops.length := by
  obtain ⟨⟨r, rfl⟩, hg, hl⟩ := h
  have nd := List.nodup_append.mp hg.2
  refine ⟨r, rfl, nd.2.1, fun x hx => mem_left.mpr ⟨hg.1 x (List.mem_append_right _ hx), fun q => nd.2.2 x q x hx rfl⟩, by rw [← hl, List.length_append]⟩
/-- a tour's end is no less than the least -/
theorem least_le {y : DayR} (hy : y.ok) {begun o : List Int} (hg : goodO y.stops.length begun) (h : Tour y begun o) {e : Int} (he : tourEnd y o = some e) : ∃ m, leastB y begun = some m ∧ m ≤ e := by
  obtain ⟨r, rfl, nd, hs, hl⟩ := tour_rest h
  rw [← due_least hy hg]
  unfold tourEnd at he
  obtain ⟨z, hz, rfl⟩ := Option.map_eq_some_iff.mp he
  rw [behind_append] at hz
  unfold dueM
  cases hb : behindM y y.home y.start begun with
  | none =>
    rw [hb] at hz
    cases hz
  | some u =>
    rw [hb] at hz
    dsimp only
    by_cases h0 : begun.length = y.stops.length
    · obtain rfl : r = [] := List.length_eq_zero_iff.mp (by omega)
      cases hz
      rw [if_pos h0]
      exact ⟨_, rfl, Int.le_refl _⟩
    · rw [if_neg h0]
      have hne : r ≠ [] := fun q => by
        rw [q, List.length_nil] at hl
        omega
      obtain ⟨r', n, rfl⟩ : ∃ r' m, r = r' ++ [m] := ⟨_, _, (List.dropLast_concat_getLast hne).symm⟩
      change behindM y u.1 u.2 (r' ++ [n]) = some z at hz
      have hL := left_ok hy begun
      obtain ⟨v, hv, hle⟩ := layer_lower (left_nodup y.stops.length begun) r' n nd hs hz
      have hz1 : z.1 = (y.at n).p := by
        rw [behind_append] at hz
        cases hq : behindM y u.1 u.2 r' with
        | none =>
          rw [hq] at hz
          cases hz
        | some q =>
          rw [hq] at hz
          change behindM y q.1 q.2 [n] = some z at hz
          rw [behindM] at hz
          cases hw : leaveM y q.1 q.2 n with
          | none =>
            rw [hw] at hz
            cases hz
          | some a =>
            rw [hw] at hz
            cases hz
            rfl
      have hc := left_count hg
      rw [List.length_append, List.length_singleton] at hl
      have h7 := hy.few
      have et : tableM y begun = tabM y u.1 u.2 (leftM y.stops.length begun) 8 := by
        unfold tableM
        rw [hb]
      have hmem : v.1 + apartM y.road (y.at n).p y.home ∈ homesM y (tableM y begun) ((leftM y.stops.length begun).length : Int) := by
        rw [et]
        refine mem_homes.mpr ⟨((srt (r' ++ [n]), n), v), getT_mem (tab_get (by omega) hv), ?_, rfl⟩
        show ((srt (r' ++ [n])).length : Int) = _
        rw [(srt_perm _).length_eq, List.length_append, List.length_singleton]
        omega
      cases hm : leastM (homesM y (tableM y begun) ((leftM y.stops.length begun).length : Int)) with
      | none =>
        rw [least_none.mp hm] at hmem
        cases hmem
      | some m =>
        refine ⟨m, rfl, ?_⟩
        have := (least_some.mp hm).2 _ hmem
        rw [hz1]
        omega
/-- the least is a tour's end -/
theorem least_tour {y : DayR} (hy : y.ok) {begun : List Int} (hg : goodO y.stops.length begun) {m : Int} (h : leastB y begun = some m) : ∃ o, Tour y begun o ∧ tourEnd y o = some m := by
  rw [← due_least hy hg] at h
  unfold dueM at h
  cases hb : behindM y y.home y.start begun with
  | none =>
    rw [hb] at h
    cases h
  | some u =>
    rw [hb] at h
    dsimp only at h
    by_cases h0 : begun.length = y.stops.length
    · rw [if_pos h0] at h
      cases h
      refine ⟨begun, ⟨List.prefix_refl _, hg, h0⟩, ?_⟩
      unfold tourEnd
      rw [hb]
      rfl
    · rw [if_neg h0] at h
      obtain ⟨hm, _⟩ := least_some.mp h
      obtain ⟨p, hp, hlen, rfl⟩ := mem_homes.mp hm
      have et : tableM y begun = tabM y u.1 u.2 (leftM y.stops.length begun) 8 := by
        unfold tableM
        rw [hb]
      rw [et] at hp
      obtain ⟨i, _, hi⟩ := tab_keys hp
      have hok := layer_ok (y := y) (pl := u.1) (t := u.2) (left := leftM y.stops.length begun) i
      have kok := hok.keys p hi
      obtain ⟨r, pr, _, hr⟩ := layer_attained (left_nodup y.stops.length begun) i (getT_of_mem hok.nd hi)
      have hc := left_count hg
      have hrl := pr.length_eq
      refine ⟨begun ++ r, ⟨List.prefix_append _ _, ⟨fun x hx => ?_, List.nodup_append.mpr ⟨hg.2, pr.nodup_iff.mpr (kok.inc.imp fun h => Int.ne_of_lt h), fun a ha b hb e => ?_⟩⟩, ?_⟩, ?_⟩
      · rcases List.mem_append.mp hx with hx | hx
        · exact hg.1 x hx
        · exact (mem_left.mp (kok.sub x (pr.mem_iff.mp hx))).1
      · exact (mem_left.mp (kok.sub b (pr.mem_iff.mp hb))).2 (e ▸ ha)
      · rw [List.length_append]
        omega
      · unfold tourEnd
        rw [behind_append, hb]
        show (behindM y u.1 u.2 r).map _ = _
        rw [hr]
        rfl
abbrev s_next_stop : Stmt := top 38
theorem sc_next_stop : FnScope ["day", "order", "end", "number"] ["day", "order", "end"] (defScope s_next_stop) := ⟨rfl, rfl, rfl, by decide +kernel, rfl, by decide +kernel, by decide +kernel⟩
abbrev s_best : Stmt := top 39
theorem sc_best : FnScope ["day", "end", "order"] ["day"] (defScope s_best) := ⟨rfl, rfl, rfl, by decide +kernel, rfl, by decide +kernel, by decide +kernel⟩
/-- n goes on to a tour that ends at e -/
def goesOn (y : DayR) (order : List Int) (e n : Int) : Bool := !decide (n ∈ order) && decide (leastB y (order ++ [n]) = some e)
def nextM (y : DayR) (order : List Int) (e : Int) : Option Int := (upTo (y.stops.length : Int)).find? (goesOn y order e)
def bestM (y : DayR) (e : Int) : Nat → List Int
  | 0 => []
  | k + 1 => bestM y e k ++ [(nextM y (bestM y e k) e).getD 0]
/-- behind a longer order the least is no less -/
theorem least_snoc {y : DayR} (hy : y.ok) {order : List Int} {n e m : Int} (hg : goodO y.stops.length order) (hg2 : goodO y.stops.length (order ++ [n])) (h1 : leastB y order = some e) (h2 : leastB y (order ++ [n]) = some m) : e ≤ m := by
  obtain ⟨o, ho, he⟩ := least_tour hy hg2 h2
  obtain ⟨e', h3, h4⟩ := least_le hy hg ⟨(List.prefix_append _ _).trans ho.pre, ho.good, ho.len⟩ he
  rw [h1] at h3
  cases h3
  exact h4
theorem next_some {y : DayR} (hy : y.ok) {order : List Int} {e : Int} (hg : goodO y.stops.length order) (h : leastB y order = some e) (hl : order.length < y.stops.length) : ∃ n, nextM y order e = some n ∧ (0 ≤ n ∧ n < (y.stops.length : Int)) ∧ n ∉ order ∧ leastB y (order ++ [n]) = some e := by
  obtain ⟨o, ho, he⟩ := least_tour hy hg h
  obtain ⟨r, rfl, nd, hs, hrl⟩ := tour_rest ho
  cases r with
  | nil =>
    rw [List.length_nil] at hrl
    omega
  | cons n r =>
    have hn := mem_left.mp (hs n List.mem_cons_self)
    have hg2 := good_snoc hg hn.1 hn.2
    have ht : Tour y (order ++ [n]) (order ++ n :: r) := ⟨⟨r, by rw [List.append_assoc]; rfl⟩, ho.good, ho.len⟩
    obtain ⟨m, h1, h2⟩ := least_le hy hg2 ht he
    have h3 := least_snoc hy hg hg2 h h1
    obtain rfl : m = e := by omega
    cases hq : nextM y order m with
    | none =>
      have := List.find?_eq_none.mp hq n (mem_upTo.mpr hn.1)
      exact absurd (show goesOn y order m n = true by unfold goesOn; rw [h1, decide_eq_false hn.2]; simp) this
    | some k =>
      have hk := List.find?_some hq
      have hm := List.mem_of_find?_eq_some hq
      unfold goesOn at hk
      rw [Bool.and_eq_true] at hk
      exact ⟨k, rfl, mem_upTo.mp hm, by simpa using hk.1, of_decide_eq_true hk.2⟩
theorem best_ok {y : DayR} (hy : y.ok) {e : Int} (h : leastB y [] = some e) : ∀ k, k ≤ y.stops.length → goodO y.stops.length (bestM y e k) ∧ (bestM y e k).length = k ∧ leastB y (bestM y e k) = some e
  | 0, _ => ⟨⟨fun _ h => (by cases h), List.nodup_nil⟩, rfl, h⟩
  | k + 1, hk => by
    obtain ⟨h1, h2, h3⟩ := best_ok hy h k (by omega)
    obtain ⟨n, e1, e2, e3, e4⟩ := next_some hy h1 h3 (by omega)
    unfold bestM
    rw [e1]
    exact ⟨good_snoc h1 e2 e3, by rw [List.length_append, h2]; rfl, e4⟩
theorem best_take {y : DayR} {e : Int} : ∀ (n k : Nat), k ≤ n → (bestM y e n).take k = bestM y e k ∨ (bestM y e k).length ≠ k
  | 0, k, h => by
    obtain rfl := Nat.le_zero.mp h
    exact .inl rfl
  | n + 1, k, h => by
    by_cases hk : (bestM y e k).length = k
    · left
      by_cases e1 : k = n + 1
      · subst e1
        rw [List.take_of_length_le (by omega)]
      · rcases best_take n k (by omega) with q | q
        · have hl : k ≤ (bestM y e n).length := by
            have := congrArg List.length q
            rw [List.length_take, hk] at this
            omega
          rw [bestM, List.take_append_of_le_length hl, q]
        · exact absurd hk q
    · exact .inr hk
/-- where the best tour turns elsewhere, it is no longer the best -/
theorem best_at {y : DayR} (hy : y.ok) {e : Int} (hl : leastB y [] = some e) {n : Nat} (hn : n < y.stops.length) : (bestM y e y.stops.length).take n = bestM y e n ∧ ∃ q, (bestM y e y.stops.length)[n]? = some q ∧ (0 ≤ q ∧ q < (y.stops.length : Int)) ∧
    ∀ x, 0 ≤ x → x < q → x ∉ bestM y e n → goodO y.stops.length (bestM y e n ++ [x]) ∧ ∀ m', leastB y (bestM y e n ++ [x]) = some m' → e < m' := by
  obtain ⟨b1, b2, b3⟩ := best_ok hy hl n (by omega)
  obtain ⟨q, q1, q2, q3, q4⟩ := next_some hy b1 b3 (by omega)
  have htk : (bestM y e y.stops.length).take n = bestM y e n := (best_take y.stops.length n (by omega)).resolve_right (fun z => z b2)
  have htk2 : (bestM y e y.stops.length).take (n + 1) = bestM y e (n + 1) := (best_take y.stops.length (n + 1) (by omega)).resolve_right (fun z => z (best_ok hy hl (n + 1) (by omega)).2.1)
  refine ⟨htk, q, ?_, q2, fun x h0 hx hno => ?_⟩
  · have h1 : ((bestM y e y.stops.length).take (n + 1))[n]? = some q := by
      rw [htk2, bestM, q1, List.getElem?_append_right (by omega), b2, Nat.sub_self]
      rfl
    rw [List.getElem?_take] at h1
    simpa using h1
  · have hg := good_snoc b1 ⟨h0, by omega⟩ hno
    refine ⟨hg, fun m' hm' => ?_⟩
    have h1 := least_snoc hy b1 hg b3 hm'
    have h2 := find_first q1 h0 hx
    unfold goesOn at h2
    rw [decide_eq_false hno, hm'] at h2
    have h3 : m' ≠ e := fun z => by
      subst z
      simp at h2
    omega
def bestOut (y : DayR) : Out := match leastB y [] with
  | none => .ok .non
  | some e => .own (.lst ((bestM y e y.stops.length).map .int))
abbrev FNext (P : Program) (w : World) (K : PySem.W.Frag) (mg : Str → Option Value) (base : Heap) (C : Addr) : Prop := FnD P w K mg base C 8 "next_stop" ["day", "order", "end"] (fun a : DayR × List Int × Int => [a.1.d, .lst (a.2.1.map .int), .int a.2.2]) (fun a => a.1.ok ∧ goodO a.1.stops.length a.2.1) (fun a => .ok (oD (nextM a.1 a.2.1 a.2.2)))
theorem f_next_stop (T_next_stop : TopD K mg "next_stop" s_next_stop ["day", "order", "end"]) (T : Tx P w K mg C A) (F_least : FLeast P w K mg base C A) : FNext P w K mg base C := by
  obtain ⟨f, fd, F, hm, hb⟩ := T_next_stop.ex
  refine fn_d F hm hb sc_next_stop (by decide) fun cdv A_ outer s H E B a hp hx hB => ?_
  obtain ⟨y, order, e⟩ := a
  obtain ⟨hy, hg⟩ := hp
  dsimp only at hy hg ⊢
  have h7 := hy.few
  have hl := goodO_len hg
  have em : ((y.stops.map Stop.d).length : Int) = (y.stops.length : Int) := by rw [List.length_map]
  refine db_seq (fun δ' => nextM y order e = none) (ds_for hx (fun n δ' => (∀ x ∈ (upTo (y.stops.length : Int)).take n, goesOn y order e x = false) ∧ ∃ z, δ' = [.sh y.d, .sh (.lst (order.map .int)), .sh (.int e), z]) (di_r1 (m := (y.stops.length : Int)) T.bi (DE.eq (de_lenL T.bi (DE.l (de_stops T.day (de_var 0 rfl)))) (by rw [em])) ⟨by omega, by omega⟩) (dg_name hx.nd 3) (fun _ _ => trivial) ⟨fun _ h => (by cases h), _, rfl⟩ (fun n d δ' hd hJ => ?_) fun δ' hJ => ?_) fun δ' hR => ?_
  · obtain ⟨h0, z, rfl⟩ := hJ
    rw [rng_upTo] at hd
    obtain ⟨m, rfl, hm⟩ := at_ord hd
    have hin := mem_upTo.mp (List.mem_of_getElem? hm)
    by_cases hmo : m ∈ order
    · have hf : goesOn y order e m = false := by
        unfold goesOn
        rw [decide_eq_true hmo]
        rfl
      refine db_ifr (DT.eq (b' := false) (DTW.t (tw_and (m := false) (DC.t (dc_notinL (de_var 3 rfl) (DE.l (de_var 1 rfl)))) (fun h => absurd hmo (by simpa using h)))) (by rw [decide_eq_true hmo]; rfl)) (fun q => (by cases q)) (fun _ => db_nil ⟨fun x hx2 => ?_, _, rfl⟩)
      rw [take_snoc hm] at hx2
      rcases List.mem_append.mp hx2 with hx2 | hx2
      · exact h0 x hx2
      · cases List.mem_singleton.mp hx2
        exact hf
    · have hg2 := good_snoc hg hin hmo
      have hl2 := goodO_len hg2
      have e1 : leastOut A y (order ++ [m]) = .ok (oD (leastB y (order ++ [m]))) := by
        unfold leastOut
        rw [if_pos hg2]
      have hstep : goesOn y order e m = false → ∀ x ∈ (upTo (y.stops.length : Int)).take (n + 1), goesOn y order e x = false := fun hf x hx2 => by
        rw [take_snoc hm] at hx2
        rcases List.mem_append.mp hx2 with hx2 | hx2
        · exact h0 x hx2
        · cases List.mem_singleton.mp hx2
          exact hf
      cases hv : leastB y (order ++ [m]) with
      | none =>
        rw [hv] at e1
        have hf : goesOn y order e m = false := by
          unfold goesOn
          rw [hv]
          simp
        refine db_ifr (DT.eq (b' := false) (DTW.t (tw_and (DC.t (dc_notinL (de_var 3 rfl) (DE.l (de_var 1 rfl)))) (fun _ => tw_and1 (DC.t (dc_eqP hx (x := .none) (y := .int e) (DE.w (de_call F_least hx (y, order ++ [m]) (da_cons (de_var 0 rfl) (da_cons (DE.eq (DO.s (do_cat (DE.l (de_var 1 rfl)) (DO.l (do_lst (da_cons (de_var 3 rfl) da_nil))) ((small (by rw [List.length_map]; simp only [List.length_cons, List.length_nil]; omega))))) (by rw [List.map_append]; rfl)) da_nil)) ⟨hy, by show (order ++ [m]).length ≤ 63; omega⟩ e1)) (DE.w (de_var 2 rfl)) rfl rfl (by decide) (by unfold SeqAt.shaped; simp [PyData.canLay0, PyData.depth])))))) (by simp [PyData.eqv])) (fun q => (by cases q)) (fun _ => db_nil ⟨hstep hf, _, rfl⟩)
      | some v =>
        rw [hv] at e1
        refine db_ifr (DT.eq (b' := goesOn y order e m) (DTW.t (tw_and (DC.t (dc_notinL (de_var 3 rfl) (DE.l (de_var 1 rfl)))) (fun _ => tw_and1 (DC.t (dc_eqI (de_call F_least hx (y, order ++ [m]) (da_cons (de_var 0 rfl) (da_cons (DE.eq (DO.s (do_cat (DE.l (de_var 1 rfl)) (DO.l (do_lst (da_cons (de_var 3 rfl) da_nil))) ((small (by rw [List.length_map]; simp only [List.length_cons, List.length_nil]; omega))))) (by rw [List.map_append]; rfl)) da_nil)) ⟨hy, by show (order ++ [m]).length ≤ 63; omega⟩ e1) (de_var 2 rfl)))))) (by unfold goesOn; rw [hv]; simp)) (fun q => ?_) (fun q => db_nil ⟨hstep q, _, rfl⟩)
        refine db_one (ds_ret (de_var 3 rfl) ?_)
        show Out.ok _ = Out.ok _
        rw [nextM, find_take hm h0 q]
        rfl
  · obtain ⟨h0, _⟩ := hJ
    rw [rng_upTo, List.length_map, List.take_length] at h0
    exact List.find?_eq_none.mpr fun x hx => by rw [h0 x hx]; exact Bool.false_ne_true
  · refine db_one (ds_ret de_non ?_)
    show Out.ok _ = Out.ok _
    rw [hR]
    rfl
abbrev FBest (P : Program) (w : World) (K : PySem.W.Frag) (mg : Str → Option Value) (base : Heap) (C : Addr) : Prop := FnD P w K mg base C 9 "best" ["day"] (fun y : DayR => [y.d]) (fun y => y.ok) (fun y => bestOut y)
theorem f_best (T_best : TopD K mg "best" s_best ["day"]) (T : Tx P w K mg C A) (F_least : FLeast P w K mg base C A) (F_next_stop : FNext P w K mg base C) : FBest P w K mg base C := by
  obtain ⟨f, fd, F, hm, hb⟩ := T_best.ex
  refine fn_d F hm hb sc_best (by decide) fun cdv A_ outer s H E B y hy hx hB => ?_
  have hg0 : goodO y.stops.length [] := ⟨fun _ h => (by cases h), List.nodup_nil⟩
  have h7 := hy.few
  have e0 : leastOut A y [] = .ok (oD (leastB y [])) := by
    unfold leastOut
    rw [if_pos hg0]
  cases hl : leastB y [] with
  | none =>
    rw [hl] at e0
    refine db_set hx 1 (de_call F_least hx ((y, [])) (da_cons (de_var 0 rfl) (da_cons (DO.s (do_lst da_nil)) da_nil)) (⟨hy, Nat.zero_le _⟩) e0) ?_
    refine db_ifr (DC.t (dc_isN (DE.w (de_var 1 rfl)))) (fun _ => ?_) (fun q => (by cases q))
    refine db_one (ds_ret de_non ?_)
    show bestOut y = _
    rw [bestOut, hl]
  | some e =>
    rw [hl] at e0
    refine db_set hx 1 (de_call F_least hx ((y, [])) (da_cons (de_var 0 rfl) (da_cons (DO.s (do_lst da_nil)) da_nil)) (⟨hy, Nat.zero_le _⟩) e0) ?_
    refine db_ifr (DC.t (dc_isN (DE.w (de_var 1 rfl)))) (fun q => (by cases q)) (fun _ => ?_)
    refine db_setO hx 2 (do_lst da_nil) ?_
    refine db_seq (fun δ' => δ' = [.sh y.d, .sh (.int e), .ow (.lst ((bestM y e y.stops.length).map .int))])
      (ds_while hx (fun m δ' => ∃ k, k ≤ y.stops.length ∧ m = y.stops.length - k ∧ δ' = [.sh y.d, .sh (.int e), .ow (.lst ((bestM y e k).map .int))]) ⟨y.stops.length, 0, Nat.zero_le _, rfl, rfl⟩ fun m δ' hJ => ?_) fun δ' hR => ?_
    · obtain ⟨k, hk, rfl, rfl⟩ := hJ
      obtain ⟨h1, h2, h3⟩ := best_ok hy hl k hk
      refine ⟨decide ((k : Int) < (y.stops.length : Int)), DT.eq (DC.t (dc_lt (de_lenL T.bi (dl_own 2 rfl)) (de_lenL T.bi (DE.l (de_stops T.day (de_var 0 rfl)))))) (by rw [List.length_map, List.length_map, h2]), fun h => ?_, fun h => ?_⟩
      · have h := of_decide_eq_true h
        obtain ⟨n, q1, q2, q3, q4⟩ := next_some hy h1 h3 (by omega)
        refine db_one (ds_append 2 rfl (de_callW F_next_stop hx ((y, bestM y e k, e)) (dw_cons (DE.w (de_var 0 rfl)) (dw_cons (DL.w (dl_own 2 rfl)) (dw_cons (DE.w (de_var 1 rfl)) dw_nil))) (⟨hy, h1⟩) ((show Out.ok (oD (nextM y (bestM y e k) e)) = .ok (.int n) by rw [q1]; rfl))) (small (by rw [List.length_map]; omega)) ⟨y.stops.length - (k + 1), by omega, k + 1, by omega, rfl, ?_⟩)
        rw [bestM, q1, List.map_append]
        rfl
      · have h := of_decide_eq_false h
        obtain rfl : k = y.stops.length := by omega
        rfl
    · subst hR
      refine db_one (ds_retV 2 rfl ?_)
      show bestOut y = _
      rw [bestOut, hl]
abbrev s_part_of : Stmt := top 40
theorem sc_part_of : FnScope ["day", "numbers", "number"] ["day", "numbers"] (defScope s_part_of) := ⟨rfl, rfl, rfl, by decide +kernel, rfl, by decide +kernel, by decide +kernel⟩
abbrev s_clash : Stmt := top 41
theorem sc_clash : FnScope ["day", "kept", "number", "others", "one"] ["day"] (defScope s_clash) := ⟨rfl, rfl, rfl, by decide +kernel, rfl, by decide +kernel, by decide +kernel⟩
/-! #### clashes -/
def clashStep (y : DayR) (kept : List Int) (n : Int) : List Int := if leastB (partM y (kept.filter fun x => !decide (x = n))) [] = none then kept.filter fun x => !decide (x = n) else kept
/-- those kept when n numbers are done, from the greatest down -/
def keptM (y : DayR) : Nat → List Int
  | 0 => upTo (y.stops.length : Int)
  | n + 1 => clashStep y (keptM y n) ((y.stops.length : Int) - 1 - n)
def clashM (y : DayR) : List Int := keptM y y.stops.length
def clashD (y : DayR) : D := match leastB y [] with
  | some _ => .non
  | none => .tup ((clashM y).map .int)
theorem good_filter {m : Nat} (p : Int → Bool) : goodO m ((upTo (m : Int)).filter p) := ⟨fun n hn => mem_upTo.mp (List.mem_filter.mp hn).1, (upTo_nodup _).filter _⟩
theorem kept_filter (y : DayR) : ∀ n, ∃ p, keptM y n = (upTo (y.stops.length : Int)).filter p
  | 0 => ⟨fun _ => true, (List.filter_eq_self.mpr fun _ _ => rfl).symm⟩
  | n + 1 => by
    obtain ⟨p, hp⟩ := kept_filter y n
    unfold keptM clashStep
    split
    · rw [hp, List.filter_filter]
      exact ⟨_, rfl⟩
    · exact ⟨p, hp⟩
theorem kept_good (y : DayR) (n : Nat) : goodO y.stops.length (keptM y n) := by
  obtain ⟨p, hp⟩ := kept_filter y n
  rw [hp]
  exact good_filter p
theorem others_good {y : DayR} {l : List Int} (h : goodO y.stops.length l) (n : Int) : goodO y.stops.length (l.filter fun x => !decide (x = n)) := ⟨fun x hx => h.1 x (List.mem_filter.mp hx).1, h.2.filter _⟩
theorem kept_none {y : DayR} (h : leastB y [] = none) : ∀ n, leastB (partM y (keptM y n)) [] = none
  | 0 => by
    unfold keptM
    rw [part_all]
    exact h
  | n + 1 => by
    unfold keptM clashStep
    split
    · rename_i q
      exact q
    · exact kept_none h n
/-- what is told of k when its turn comes stays -/
theorem kept_step {y : DayR} {n : Nat} {x : Int} : x ∈ keptM y (n + 1) → x ∈ keptM y n := by
  intro h
  unfold keptM clashStep at h
  split at h
  · exact (List.mem_filter.mp h).1
  · exact h
theorem kept_stay {y : DayR} {n : Nat} {x : Int} (hx : x ≠ (y.stops.length : Int) - 1 - n) : x ∈ keptM y (n + 1) ↔ x ∈ keptM y n := by
  refine ⟨kept_step, fun h => ?_⟩
  unfold keptM clashStep
  split
  · exact List.mem_filter.mpr ⟨h, by simp [hx]⟩
  · exact h
theorem kept_less {y : DayR} {x : Int} (h0 : 0 ≤ x) : ∀ n : Nat, x < (y.stops.length : Int) - n → x ∈ keptM y n
  | 0, h => mem_upTo.mpr ⟨h0, by omega⟩
  | n + 1, h => (kept_stay (by omega)).mpr (kept_less h0 n (by omega))
theorem kept_more {y : DayR} {n : Nat} {x : Int} (h : (y.stops.length : Int) - n ≤ x) : ∀ d : Nat, x ∈ keptM y (n + d) ↔ x ∈ keptM y n
  | 0 => Iff.rfl
  | d + 1 => (kept_stay (n := n + d) (by omega)).trans (kept_more h d)
theorem kept_at {y : DayR} {n : Nat} (hn : n ≤ y.stops.length) {x : Int} (h : (y.stops.length : Int) - n ≤ x) : x ∈ clashM y ↔ x ∈ keptM y n := by
  have := kept_more h (y.stops.length - n)
  rwa [show n + (y.stops.length - n) = y.stops.length by omega] at this
/-- the others when the number k is looked at -/
def othersM (y : DayR) (k : Int) : List Int := (upTo (y.stops.length : Int)).filter fun x => decide (x < k) || (decide (x > k) && decide (x ∈ clashM y))
theorem others_eq {y : DayR} {n : Nat} (hn : n < y.stops.length) : (keptM y n).filter (fun x => !decide (x = (y.stops.length : Int) - 1 - n)) = othersM y ((y.stops.length : Int) - 1 - n) := by
  obtain ⟨p, hp⟩ := kept_filter y n
  unfold othersM
  rw [hp, List.filter_filter]
  refine List.filter_congr fun x hx => ?_
  have hx2 := mem_upTo.mp hx
  have hm : x ∈ keptM y n ↔ p x = true := by
    rw [hp, List.mem_filter]
    exact ⟨fun h => h.2, fun h => ⟨hx, h⟩⟩
  by_cases e : x = (y.stops.length : Int) - 1 - n
  · subst e
    simp
  · by_cases h : x < (y.stops.length : Int) - 1 - n
    · have h1 := hm.mp (kept_less hx2.1 n (by omega))
      simp [h, h1, e]
    · have h2 : x > (y.stops.length : Int) - 1 - n := by omega
      have h3 := kept_at (y := y) (n := n) (by omega) (x := x) (by omega)
      by_cases h4 : x ∈ clashM y
      · have h5 := hm.mp (h3.mp h4)
        simp [h, h2, h4, h5, e]
      · have h5 : p x = false := by
          cases q : p x with
          | false => rfl
          | true => exact absurd (h3.mpr (hm.mpr q)) h4
        simp [h, h2, h4, h5, e]
theorem clash_mem {y : DayR} {k : Int} (h0 : 0 ≤ k) (h1 : k < (y.stops.length : Int)) : k ∈ clashM y ↔ leastB (partM y (othersM y k)) [] ≠ none := by
  obtain ⟨n, hn, rfl⟩ : ∃ n : Nat, n < y.stops.length ∧ k = (y.stops.length : Int) - 1 - n := ⟨((y.stops.length : Int) - 1 - k).toNat, by omega, by omega⟩
  have h3 := kept_at (y := y) (n := n + 1) (by omega) (x := (y.stops.length : Int) - 1 - n) (by omega)
  have h4 := kept_less (y := y) h0 n (by omega)
  rw [h3]
  unfold keptM clashStep
  rw [others_eq hn]
  split
  · rename_i q
    refine ⟨fun h => ?_, fun h => absurd q h⟩
    unfold othersM at h
    have := (List.mem_filter.mp h).2
    simp at this
  · rename_i q
    exact ⟨fun _ => q, fun _ => h4⟩
theorem least_nil_none {y : DayR} (h : leastB y [] = none) : y.stops.length ≠ 0 := fun q => by
  unfold leastB at h
  rw [q, if_pos (by simp)] at h
  cases h
abbrev FPart (P : Program) (w : World) (K : PySem.W.Frag) (mg : Str → Option Value) (base : Heap) (C : Addr) : Prop := FnD P w K mg base C 5 "part_of" ["day", "numbers"] (fun a : DayR × List Int => [a.1.d, .lst (a.2.map .int)]) (fun a => a.1.ok ∧ goodO a.1.stops.length a.2) (fun a => .ok (partM a.1 a.2).d)
theorem f_part_of (T_part_of : TopD K mg "part_of" s_part_of ["day", "numbers"]) (T : Tx P w K mg C A) (F_day : FDay P w K mg base C) : FPart P w K mg base C := by
  obtain ⟨f, fd, F, hm, hb⟩ := T_part_of.ex
  refine fn_d F hm hb sc_part_of (by decide) fun cdv A_ outer s H E B a hp hx hB => ?_
  obtain ⟨y, l⟩ := a
  obtain ⟨hy, hg⟩ := hp
  dsimp only at hy hg ⊢
  have hl := goodO_len hg
  have h7 := hy.few
  have hp := part_ok hy hg
  have ell : lcD (l.map .int) (fun _ => true) (onI fun n => (y.at n).d) = (partM y l).stops.map Stop.d := by
    rw [lcD_ints]
    show _ = (l.map y.at).map Stop.d
    rw [List.map_map]
    rfl
  exact db_one (ds_ret (de_day F_day hx (partM y l) (da_cons (de_road T.day (de_var 0 rfl)) (da_cons (de_home T.day (de_var 0 rfl)) (da_cons (de_start T.day (de_var 0 rfl)) (da_cons (DE.eq (DO.s (do_lc (x := "number") hx 2 (l := l.map .int) (onI fun n => (y.at n).d) (di_list (de_var 1 rfl)) (blkOk_by (own := [("number", 2)]) (N := ["day", "numbers", "number"]) (sc := defScope s_part_of) (by decide +kernel)) (fun _ _ _ _ _ => pg_name (i := 2) hx.nd rfl (Or.inl rfl)) df_nil (fun n d hd _ s' H' C0 cl fp hx' => by
    obtain ⟨z, rfl, hz⟩ := at_ord hd
    have hin := hg.1 z (List.mem_of_getElem? hz)
    exact (de_ixL (DE.l (de_stops T.day (de_var 0 rfl))) (de_var 2 rfl) (at_stops hin.1 hin.2))) (by rw [List.length_map]; exact small (by omega)))) (congrArg D.lst ell)) da_nil)))) hp rfl) rfl)
abbrev FClash (P : Program) (w : World) (K : PySem.W.Frag) (mg : Str → Option Value) (base : Heap) (C : Addr) : Prop := FnD P w K mg base C 9 "clash" ["day"] (fun y : DayR => [y.d]) (fun y => y.ok) (fun y => .ok (clashD y))
theorem f_clash (T_clash : TopD K mg "clash" s_clash ["day"]) (T : Tx P w K mg C A) (F_least : FLeast P w K mg base C A) (F_part_of : FPart P w K mg base C) : FClash P w K mg base C := by
  obtain ⟨f, fd, F, hm, hb⟩ := T_clash.ex
  refine fn_d F hm hb sc_clash (by decide) fun cdv A_ outer s H E B y hy hx hB => ?_
  have hg0 : ∀ m, goodO m [] := fun m => ⟨fun _ h => (by cases h), List.nodup_nil⟩
  have h7 := hy.few
  have em : ((y.stops.map Stop.d).length : Int) = (y.stops.length : Int) := by rw [List.length_map]
  have e0 : leastOut A y [] = .ok (oD (leastB y [])) := by
    unfold leastOut
    rw [if_pos (hg0 _)]
  cases hl : leastB y [] with
  | some e =>
    rw [hl] at e0
    refine db_ifr (DC.t (dc_notN (DE.w (de_call F_least hx ((y, [])) (da_cons (de_var 0 rfl) (da_cons (DO.s (do_lst da_nil)) da_nil)) (⟨hy, Nat.zero_le _⟩) e0)))) (fun _ => db_one (ds_ret de_non ?_)) (fun q => (by cases q))
    show Out.ok (clashD y) = _
    rw [clashD, hl]
  | none =>
    rw [hl] at e0
    refine db_ifr (DC.t (dc_notN (DE.w (de_call F_least hx ((y, [])) (da_cons (de_var 0 rfl) (da_cons (DO.s (do_lst da_nil)) da_nil)) (⟨hy, Nat.zero_le _⟩) e0)))) (fun q => (by cases q)) (fun _ => ?_)
    refine db_set hx 1 (DO.s (do_listR1 T.bi hx (DE.eq (de_lenL T.bi (DE.l (de_stops T.day (de_var 0 rfl)))) (by rw [em])) ⟨by omega, by omega⟩)) ?_
    refine db_seq (fun δ' => ∃ z1 z2, δ' = [.sh y.d, .sh (.lst ((clashM y).map .int)), z1, z2, .un])
      (ds_for hx (fun n δ' => n ≤ y.stops.length ∧ ∃ z1 z2, δ' = [.sh y.d, .sh (.lst ((keptM y n).map .int)), z1, z2, .un]) (di_revR1 (m := (y.stops.length : Int)) T.bi (DE.eq (de_lenL T.bi (DE.l (de_stops T.day (de_var 0 rfl)))) (by rw [em])) ⟨by omega, by omega⟩) (dg_name hx.nd 2) (fun _ _ => trivial) ⟨Nat.zero_le _, _, _, by rw [rng_upTo]; rfl⟩ (fun n d δ' hd hJ => ?_) fun δ' hJ => ?_) fun δ' hR => ?_
    · obtain ⟨_, z1, z2, rfl⟩ := hJ
      have hlt := (List.getElem?_eq_some_iff.mp hd).1
      rw [rngC_len] at hlt
      have hlt2 : n < y.stops.length := by omega
      rw [rngC_get hlt] at hd
      obtain rfl := Option.some.inj hd
      rw [show (y.stops.length : Int) - 1 + (n : Int) * -1 = (y.stops.length : Int) - 1 - n by omega]
      have hgk := kept_good y n
      have hkl := goodO_len hgk
      have hgo := others_good hgk ((y.stops.length : Int) - 1 - n)
      have hpo := part_ok hy hgo
      have ell : lcD ((keptM y n).map .int) (onB fun x => !decide (x = (y.stops.length : Int) - 1 - n)) (onI .int) = ((keptM y n).filter fun x => !decide (x = (y.stops.length : Int) - 1 - n)).map .int := lcD_intsB _ _ _
      have est : keptM y (n + 1) = clashStep y (keptM y n) ((y.stops.length : Int) - 1 - n) := rfl
      refine db_cons (ds_setLc (x := "one") hx 4 3 (l := (keptM y n).map .int) (b := onB fun x => !decide (x = (y.stops.length : Int) - 1 - n)) (onI .int) (di_list (de_var 1 rfl)) (blkOk_by (own := [("one", 4)]) (N := ["day", "kept", "number", "others", "one"]) (sc := defScope s_clash) (by decide +kernel)) (fun _ _ _ _ _ => pg_name (i := 4) hx.nd rfl (Or.inl rfl)) (df_one hx fun n d hd s' H' C0 cl fp hx => by
        obtain ⟨z, rfl, _⟩ := at_ord hd
        exact (DC.t (dc_neI (de_var 4 rfl) (de_var 2 rfl)))) (fun n d hd _ s' H' C0 cl fp hx => by
        obtain ⟨z, rfl, _⟩ := at_ord hd
        exact (de_var 4 rfl)) (by rw [List.length_map]; exact small (by omega)) ?_)
      rw [ell]
      refine db_pub 3 rfl ?_
      have e1 : leastOut A (partM y ((keptM y n).filter fun x => !decide (x = (y.stops.length : Int) - 1 - n))) [] = .ok (oD (leastB (partM y ((keptM y n).filter fun x => !decide (x = (y.stops.length : Int) - 1 - n))) [])) := by
        unfold leastOut
        rw [if_pos (hg0 _)]
      cases hl2 : leastB (partM y ((keptM y n).filter fun x => !decide (x = (y.stops.length : Int) - 1 - n))) [] with
      | none =>
        rw [hl2] at e1
        refine db_one (ds_if (DC.t (dc_isN (DE.w (de_call F_least hx ((partM y ((keptM y n).filter fun x => !decide (x = (y.stops.length : Int) - 1 - n)), [])) (da_cons (de_call F_part_of hx ((y, (keptM y n).filter fun x => !decide (x = (y.stops.length : Int) - 1 - n))) (da_cons (de_var 0 rfl) (da_cons (de_var 3 rfl) da_nil)) (⟨hy, hgo⟩) rfl) (da_cons (DO.s (do_lst da_nil)) da_nil)) (⟨hpo, Nat.zero_le _⟩) e1)))) (fun _ => ?_) (fun q => (by cases q)))
        refine db_one (ds_set hx 1 (de_var 3 rfl) ⟨by omega, .sh (.int ((y.stops.length : Int) - 1 - n)), .sh (.lst (((keptM y n).filter fun x => !decide (x = (y.stops.length : Int) - 1 - n)).map .int)), ?_⟩)
        rw [est, clashStep, if_pos hl2]
        rfl
      | some v =>
        rw [hl2] at e1
        refine db_one (ds_if (DC.t (dc_isN (DE.w (de_call F_least hx ((partM y ((keptM y n).filter fun x => !decide (x = (y.stops.length : Int) - 1 - n)), [])) (da_cons (de_call F_part_of hx ((y, (keptM y n).filter fun x => !decide (x = (y.stops.length : Int) - 1 - n))) (da_cons (de_var 0 rfl) (da_cons (de_var 3 rfl) da_nil)) (⟨hy, hgo⟩) rfl) (da_cons (DO.s (do_lst da_nil)) da_nil)) (⟨hpo, Nat.zero_le _⟩) e1)))) (fun q => (by cases q)) (fun _ => db_nil ⟨by omega, .sh (.int ((y.stops.length : Int) - 1 - n)), .sh (.lst (((keptM y n).filter fun x => !decide (x = (y.stops.length : Int) - 1 - n)).map .int)), ?_⟩))
        rw [est, clashStep, if_neg (by rw [hl2]; exact fun q => nomatch q)]
        rfl
    · obtain ⟨_, z1, z2, rfl⟩ := hJ
      rw [rngC_len, Int.toNat_natCast]
      exact ⟨_, _, rfl⟩
    · obtain ⟨z1, z2, rfl⟩ := hR
      refine db_one (ds_ret (de_tupleL T.bi (DE.l (de_var 1 rfl))) ?_)
      show Out.ok (clashD y) = _
      rw [clashD, hl]
abbrev s_told : Stmt := top 42
theorem sc_told : FnScope ["day", "order"] ["day"] (defScope s_told) := ⟨rfl, rfl, rfl, by decide +kernel, rfl, by decide +kernel, by decide +kernel⟩
/-! #### the answer, its list a new one -/
def toldOut (y : DayR) : Out := match leastB y [] with
  | none => .ok (.tup [.str "clash", clashD y])
  | some e => .tow [.st (.str "tour"), .ow ((bestM y e y.stops.length).map .int), .st (.int e)]
theorem best_end {y : DayR} (hy : y.ok) {e : Int} (hl : leastB y [] = some e) : endOut A y (bestM y e y.stops.length) = .ok (.int e) := by
  obtain ⟨b1, b2, b3⟩ := best_ok hy hl y.stops.length (Nat.le_refl _)
  unfold leastB at b3
  rw [b2, if_pos (by omega)] at b3
  unfold endOut
  rw [if_pos b1]
  cases hr : runM y y.home y.start (bestM y e y.stops.length) with
  | none =>
    rw [hr] at b3
    cases b3
  | some rows =>
    rw [hr] at b3
    dsimp only at b3 ⊢
    rw [Option.some.inj b3]
abbrev FTold (P : Program) (w : World) (K : PySem.W.Frag) (mg : Str → Option Value) (base : Heap) (C : Addr) : Prop := FnD P w K mg base C 10 "told" ["day"] (fun y : DayR => [y.d]) (fun y => y.ok) (fun y => toldOut y)
theorem f_told (T_told : TopD K mg "told" s_told ["day"]) (T : Tx P w K mg C A) (F_best : FBest P w K mg base C) (F_clash : FClash P w K mg base C) (F_ends : FEnds P w K mg base C A) : FTold P w K mg base C := by
  obtain ⟨f, fd, F, hm, hb⟩ := T_told.ex
  refine fn_d F hm hb sc_told (by decide) fun cdv A_ outer s H E B y hp hx hB => ?_
  have hy : y.ok := hp
  have h7 := hy.few
  cases hl : leastB y [] with
  | none =>
    have eb : bestOut y = .ok .non := by rw [bestOut, hl]
    refine db_set hx 1 (de_call F_best hx y (da_cons (de_var 0 rfl) da_nil) hy eb) ?_
    refine db_ifr (DC.t (dc_isN (DE.w (de_var 1 rfl)))) (fun _ => ?_) (fun q => (by cases q))
    refine db_one (ds_ret (de_tup (da_cons de_str (da_cons (de_call F_clash hx y (da_cons (de_var 0 rfl) da_nil) hy rfl) da_nil))) ?_)
    show toldOut y = _
    rw [toldOut, hl]
  | some e =>
    have eb : bestOut y = .own (.lst ((bestM y e y.stops.length).map .int)) := by rw [bestOut, hl]
    obtain ⟨b1, b2, b3⟩ := best_ok hy hl y.stops.length (Nat.le_refl _)
    have ee := best_end (A := A) hy hl
    refine db_setO hx 1 (do_call F_best hx y (da_cons (de_var 0 rfl) da_nil) hy eb) ?_
    refine db_ifr (DC.t (dc_isN (DL.w (dl_own 1 rfl)))) (fun q => (by cases q)) (fun _ => ?_)
    refine db_one (ds_retTow 1 rfl de_str (de_callW F_ends hx ((y, bestM y e y.stops.length)) (dw_cons (DE.w (de_var 0 rfl)) (dw_cons (DL.w (dl_own 1 rfl)) dw_nil)) (⟨hy, (by show (bestM y e y.stops.length).length ≤ 63; omega)⟩) ee) ?_)
    show toldOut y = _
    rw [toldOut, hl]
theorem PdN.clash (l : List Int) : PdN 3 (.tup [.str "clash", .tup (l.map .int)]) := .tup fun d hd => by
  simp only [List.mem_cons, List.not_mem_nil, or_false] at hd
  rcases hd with rfl | rfl
  · exact PdN.mono (.str (by decide +kernel)) (by decide)
  · exact .intsT l
theorem PdN.tourA (l : List Int) (e : Int) : PdN 3 (.tup [.str "tour", .lst (l.map .int), .int e]) := .at3 (PdN.mono (.str (by decide +kernel)) (by decide)) (.ints l) (PdN.mono (.int e) (by decide))
/-! #### notes.py: days written and read -/
structure TxN (P : Program) (w : World) (K : PySem.W.Frag) (mg : Str → Option Value) (A : Ads) : Prop where
  eN : ExC P w K mg "NoDay" A.noday
  FIGURES : ∃ t, mg "FIGURES" = some (.str (Str.ofString "0123456789") t)
  MOST_FIGURES : ∃ t, mg "MOST_FIGURES" = some (.int 15 t)
abbrev s_number_of : Stmt := top 34
theorem sc_number_of : FnScope ["word", "sign"] ["word"] (defScope s_number_of) := ⟨rfl, rfl, rfl, by decide +kernel, rfl, by decide +kernel, by decide +kernel⟩
abbrev s_numbers_in : Stmt := top 35
theorem sc_numbers_in : FnScope ["row", "names", "words", "found", "k"] ["row", "names"] (defScope s_numbers_in) := ⟨rfl, rfl, rfl, by decide +kernel, rfl, by decide +kernel, by decide +kernel⟩
abbrev s_read : Stmt := top 36
theorem sc_read : FnScope ["text", "rows", "word", "length", "begin", "stops", "row"] ["text"] (defScope s_read) := ⟨rfl, rfl, rfl, by decide +kernel, rfl, by decide +kernel, by decide +kernel⟩
abbrev s_written : Stmt := top 33
theorem sc_written : FnScope ["day", "rows", "stop", "times"] ["day"] (defScope s_written) := ⟨rfl, rfl, rfl, by decide +kernel, rfl, by decide +kernel, by decide +kernel⟩
theorem at_word (r : Road) : atI [D.str (if r.ring then "ring" else "line"), D.int r.len] 0 = some (ts r.word) := by
  have := r.d_word
  unfold Road.d at this
  injection this with this
  rw [this]
  rfl
abbrev FWritten (P : Program) (w : World) (K : PySem.W.Frag) (mg : Str → Option Value) (base : Heap) (C : Addr) : Prop := FnD P w K mg base C 2 "written" ["day"] (fun y : DayR => [y.d]) (fun y => y.small ∧ y.stops.length ≤ 1000) (fun y => .ok (ts (dayText y)))
theorem f_written (T_written : TopD K mg "written" s_written ["day"]) (T : Tx P w K mg C A) : FnD P w K mg base C 2 "written" ["day"] (fun y : DayR => [y.d]) (fun y => y.small ∧ y.stops.length ≤ 1000) (fun y => .ok (ts (dayText y))) := by
  obtain ⟨f, fd, F, hm, hb⟩ := T_written.ex
  refine fn_d F hm hb sc_written (by decide) fun cdv A_ outer s H E B y hp hx hB => ?_
  obtain ⟨hs, hl⟩ := hp
  have w4 : y.road.word.length ≤ 4 := by unfold Road.word; cases y.road.ring <;> decide
  have f1 := figs_len hs.road.2
  have f2 := figs_len hs.home.2
  have f3 := figs_len hs.start.2
  refine db_setO hx 1 (o := .lst [ts (J1 (row1 y))]) (do_lst (da_cons (DE.eq (de_catX (de_catX (de_ixT (de_road T.day (de_var 0 rfl)) de_int ((at_word _))) de_lit (by refine big1 ?_; simp; omega)) (de_strI T.bi (de_ixT (de_road T.day (de_var 0 rfl)) de_int rfl) hs.road.1 (((by have := hs.road.2; omega)))) (by refine big1 ?_; simp; omega)) (congrArg ts (row1_eq y))) da_nil)) ?_
  refine db_cons (ds_append 1 rfl (d := ts (J1 (row2 y))) (DE.eq (de_catX (de_catX (de_catX de_lit (de_strI T.bi (de_home T.day (de_var 0 rfl)) hs.home.1 (((by have := hs.home.2; omega)))) (by refine big1 ?_; simp; omega)) de_lit (by refine big1 ?_; simp; omega)) (de_strI T.bi (de_start T.day (de_var 0 rfl)) hs.start.1 (((by have := hs.start.2; omega)))) (by refine big1 ?_; simp; omega)) (congrArg ts (row2_eq y))) (small (Nat.le_of_ble_eq_true rfl)) ?_)
  refine db_seq (fun δ' => ∃ a b, δ' = [.sh y.d, .ow (.lst ((dayRows y).map ts)), a, b]) (ds_for hx (fun n δ' => ∃ a b, δ' = [.sh y.d, .ow (.lst ((J1 (row1 y) :: J1 (row2 y) :: (y.stops.take n).map fun s => J1 (rowS s)).map ts)), a, b]) (di_list (de_stops T.day (de_var 0 rfl))) (dg_name hx.nd 2) (fun _ _ => trivial) ⟨_, _, rfl⟩ (fun n d δ' hd hJ => ?_) fun δ' hJ => ?_) fun δ' hR => ?_
  · obtain ⟨a, b, rfl⟩ := hJ
    rw [List.getElem?_map] at hd
    obtain ⟨st, hst, rfl⟩ := Option.map_eq_some_iff.mp hd
    obtain ⟨q1, q2, q3, q4⟩ := hs.stops st (List.mem_of_getElem? hst)
    have g1 := figs_len q1.2
    have g2 := figs_len q2.2
    have g3 := figs_len q3.2
    have g4 := figs_len q4.2
    have hn : n < y.stops.length := (List.getElem?_eq_some_iff.mp hst).1
    refine db_set hx 3 (d := ts (wd " from " ++ figs st.o ++ wd " to " ++ figs st.c ++ wd " for " ++ figs st.s)) (de_catX (de_catX (de_catX (de_catX (de_catX de_lit (de_strI T.bi (de_ixT (de_var 2 rfl) de_int rfl) q2.1 (((by omega)))) (by refine big1 ?_; simp; omega)) de_lit (by refine big1 ?_; simp; omega)) (de_strI T.bi (de_ixT (de_var 2 rfl) de_int rfl) q3.1 (((by omega)))) (by refine big1 ?_; simp; omega)) de_lit (by refine big1 ?_; simp; omega)) (de_strI T.bi (de_ixT (de_var 2 rfl) de_int rfl) q4.1 (((by omega)))) (by refine big1 ?_; simp; omega)) ?_
    refine db_one (ds_append 1 rfl (d := ts (J1 (rowS st))) (DE.eq (de_catX (de_catX de_lit (de_strI T.bi (de_ixT (de_var 2 rfl) de_int rfl) q1.1 (((by omega)))) (by refine big1 ?_; simp; omega)) (de_var 3 rfl) (by refine big1 ?_; simp; omega)) (congrArg ts (rowS_eq st))) (big1 (by simp; omega)) ⟨.sh st.d, .sh (ts (wd " from " ++ figs st.o ++ wd " to " ++ figs st.c ++ wd " for " ++ figs st.s)), ?_⟩)
    rw [take_snoc hst]
    simp
  · obtain ⟨a, b, rfl⟩ := hJ
    refine ⟨a, b, ?_⟩
    rw [List.length_map, List.take_length]
    rfl
  · obtain ⟨a, b, rfl⟩ := hR
    obtain ⟨b1, b2, b3⟩ := text_big hs hl
    exact db_one (ds_ret (d := ts (dayText y)) (DE.eq (de_catX (x := TL.joinL [10] (dayRows y)) (de_join de_lit (dl_own 1 rfl) b1) de_lit (big1 b2)) (congrArg ts (join_flat (by simp [dayRows])))) rfl)
theorem num_any {l : List Nat} {n : Nat} {c : Nat} (hc : l[n]? = some c) (h : dig c = false) : numOf l = none := by
  unfold numOf numOk
  have : l.all dig = false := by
    cases e : l.all dig with
    | false => rfl
    | true =>
      have := List.all_eq_true.mp e c (List.mem_of_getElem? hc)
      rw [h] at this
      cases this
  rw [this]
  rfl
theorem numOf_eq {l : List Nat} (h : l.all dig = true) (b : Bool) (hb : (decide (l = wd "") || (decide ((15 : Int) < (l.length : Int)) || (decide ([l.headD 0] = wd "0") && decide ((1 : Int) < (l.length : Int))))) = b) : numOk l = !b := by
  subst hb
  unfold numOk
  rw [h]
  have e1 : decide ((15 : Int) < (l.length : Int)) = decide (15 < l.length) := by
    by_cases q : 15 < l.length
    · rw [decide_eq_true q, decide_eq_true (by omega)]
    · rw [decide_eq_false q, decide_eq_false (by omega)]
  have e2 : decide ((1 : Int) < (l.length : Int)) = decide (1 < l.length) := by
    by_cases q : 1 < l.length
    · rw [decide_eq_true q, decide_eq_true (by omega)]
    · rw [decide_eq_false q, decide_eq_false (by omega)]
  have e3 : decide ([l.headD 0] = wd "0") = decide (l.head? = some 48) := by
    cases l with
    | nil => decide
    | cons a l =>
      show decide ([a] = [48]) = decide (some a = some 48)
      by_cases q : a = 48
      · subst q; rfl
      · rw [decide_eq_false (fun z => q (by simpa using z)), decide_eq_false (fun z => q (by simpa using z))]
  rw [e1, e2, e3]
  show (true && !(decide (l = []) || decide (15 < l.length) || (decide (l.head? = some 48) && decide (1 < l.length)))) = _
  rw [Bool.true_and, Bool.or_assoc]
  rfl
def numOut (A : Ads) (l : List Nat) : Out := match numOf l with
  | none => .err A.noday
  | some n => .ok (.int n)
abbrev FNum (P : Program) (w : World) (K : PySem.W.Frag) (mg : Str → Option Value) (base : Heap) (C : Addr) (A : Ads) : Prop := FnD P w K mg base C 1 "number_of" ["word"] (fun l : List Nat => [ts l]) (fun l => l.length + 2 ≤ sizeLine) (numOut A)
theorem f_number_of (T_number_of : TopD K mg "number_of" s_number_of ["word"]) (T : Tx P w K mg C A) (TN : TxN P w K mg A) : FNum P w K mg base C A := by
  obtain ⟨f, fd, F, hm, hb⟩ := T_number_of.ex
  refine fn_d F hm hb sc_number_of (by decide) fun cdv A_ outer s H E B l hp hx hB => ?_
  have hz : l.length ≤ sizeLine := by omega
  refine db_seq (fun δ' => l.all dig = true ∧ ∃ a, δ' = [.sh (ts l), a]) (ds_for hx (fun n δ' => (l.take n).all dig = true ∧ ∃ a, δ' = [.sh (ts l), a]) (di_str (de_var 0 rfl)) (dg_name hx.nd 1) (fun _ _ => trivial) ⟨rfl, _, rfl⟩ (fun n d δ' hd hJ => ?_) fun δ' hJ => ?_) fun δ' hR => ?_
  · obtain ⟨hj, a, rfl⟩ := hJ
    rw [List.getElem?_map] at hd
    obtain ⟨c, hc, rfl⟩ := Option.map_eq_some_iff.mp hd
    refine db_ifr (DC.t (dc_notinSign (de_var 1 rfl) (de_globX TN.FIGURES.choose_spec))) (fun h => ?_) (fun h => ?_)
    · rw [dig_in] at h
      refine db_one (ds_raise hx TN.eN (hB _ _ ?_))
      show numOut A l = .err A.noday
      unfold numOut
      rw [num_any hc (by simpa using h)]
    · rw [dig_in] at h
      refine db_nil ⟨?_, _, rfl⟩
      rw [take_snoc hc, List.all_append, hj]
      simpa using h
  · obtain ⟨hj, a, rfl⟩ := hJ
    rw [List.length_map, List.take_length] at hj
    exact ⟨hj, a, rfl⟩
  · obtain ⟨hj, a, rfl⟩ := hR
    refine db_ifr (DTW.t (tw_or (DC.t (dc_eqX (de_var 0 rfl) de_lit)) (fun hc4 => (tw_or (DC.t (dc_gt (de_lenX T.bi (de_var 0 rfl) hz) (de_globI TN.MOST_FIGURES.choose_spec))) (fun hc5 => (tw_or1 (DTW.t (tw_and (DC.t (dc_eqX (de_ixX (de_var 0 rfl) de_int hz (((at_head (by assumption))))) de_lit)) (fun hc6 => (tw_and1 (DC.t (dc_gt (de_lenX T.bi (de_var 0 rfl) hz) de_int)))))))))))) (fun h => ?_) (fun h => ?_)
    · refine db_one (ds_raise hx TN.eN (hB _ _ ?_))
      show numOut A l = .err A.noday
      unfold numOut numOf
      rw [numOf_eq hj _ h]
      rfl
    · have hk := numOf_eq hj _ h
      have h1 : decide (l = wd "") = false := by
        cases e : decide (l = wd "") with
        | false => rfl
        | true => rw [e] at h; cases h
      have h2 : ¬ (15 : Int) < (l.length : Int) := fun q => by
        rw [h1, decide_eq_true q] at h
        cases h
      refine db_one (ds_ret (de_intS T.bi (de_var 0 rfl) hj ((fun z => of_decide_eq_false h1 z)) ((by omega))) ?_)
      show numOut A l = .ok _
      unfold numOut numOf
      rw [hk]
      rfl
def numsOut (A : Ads) (a : List Nat × List (List Nat)) : Out := match numsIn a.1 a.2 with
  | none => .err A.noday
  | some xs => .own (.lst (xs.map .int))
abbrev FNums (P : Program) (w : World) (K : PySem.W.Frag) (mg : Str → Option Value) (base : Heap) (C : Addr) (A : Ads) : Prop := FnD P w K mg base C 2 "numbers_in" ["row", "names"] (fun a : List Nat × List (List Nat) => [ts a.1, .lst (a.2.map ts)]) (fun a => a.1.length + 2 ≤ sizeLine ∧ a.2.length ≤ 1000) (numsOut A)
theorem f_numbers_in (T_numbers_in : TopD K mg "numbers_in" s_numbers_in ["row", "names"]) (T : Tx P w K mg C A) (TN : TxN P w K mg A) (F_number_of : FNum P w K mg base C A) : FNums P w K mg base C A := by
  obtain ⟨f, fd, F, hm, hb⟩ := T_numbers_in.ex
  refine fn_d F hm hb sc_numbers_in (by decide) fun cdv A_ outer s H E B a hp hx hB => ?_
  obtain ⟨l, ns⟩ := a
  dsimp only at hp ⊢
  obtain ⟨hz, hn⟩ := hp
  have hz : l.length + 2 ≤ sizeLine := hz
  have hn : ns.length ≤ 1000 := hn
  refine db_setO hx 2 (o := .lst ((TL.spl [32] 0 [] l).map ts)) (do_split (de_var 0 rfl) de_lit hz) ?_
  refine db_pub 2 rfl ?_
  have wl : ∀ p ∈ TL.spl [32] 0 [] l, p.length ≤ l.length := fun p hp => by
    have := spl_le [32] l [] 0 p hp
    simpa using this
  have en : numsIn l ns = if (TL.spl [32] 0 [] l).length = 2 * ns.length then numsTo (TL.spl [32] 0 [] l) ns ns.length else none := rfl
  generalize TL.spl [32] 0 [] l = ws at wl en ⊢
  refine db_ifr (DC.t (dc_neI (de_lenL T.bi (DE.l (de_var 2 rfl))) (de_mul de_int (de_lenL T.bi (DE.l (de_var 1 rfl))) (.inl ⟨by decide, by decide⟩)))) (fun h => ?_) (fun h => ?_)
  · refine db_one (ds_raise hx TN.eN (hB _ _ ?_))
    rw [List.length_map, List.length_map] at h
    show numsOut A (l, ns) = .err A.noday
    unfold numsOut
    rw [en, if_neg (fun q => of_decide_eq_false (Bool.not_eq_true' _ |>.mp h) (by omega))]
  · rw [List.length_map, List.length_map] at h
    have hl : ws.length = 2 * ns.length := by
      have := of_decide_eq_true (Bool.not_eq_false' _ |>.mp h)
      omega
    rw [if_pos hl] at en
    refine db_setO hx 3 (do_lst da_nil) ?_
    refine db_seq (fun δ' => ∃ xs a, numsTo ws ns ns.length = some xs ∧ δ' = [.sh (ts l), .sh (.lst (ns.map ts)), .sh (.lst (ws.map ts)), .ow (.lst (xs.map .int)), a]) (ds_for hx (fun n δ' => ∃ xs a, numsTo ws ns n = some xs ∧ δ' = [.sh (ts l), .sh (.lst (ns.map ts)), .sh (.lst (ws.map ts)), .ow (.lst (xs.map .int)), a]) (di_r1 T.bi (de_lenL T.bi (DE.l (de_var 1 rfl))) (by rw [List.length_map]; omega)) (dg_name hx.nd 4) (fun _ _ => trivial) ⟨[], _, rfl, rfl⟩ (fun n d δ' hd hJ => ?_) fun δ' hJ => ?_) fun δ' hR => ?_
    · obtain ⟨xs, a, hj, rfl⟩ := hJ
      have hn2 : n < ns.length := by
        have := (List.getElem?_eq_some_iff.mp hd).1
        rw [rng_len, List.length_map] at this
        omega
      have ed : d = .int (n : Int) := by
        rw [rng_get (by rw [List.length_map]; omega)] at hd
        have := Option.some.inj hd
        rw [← this]
        simp
      subst ed
      have e1 : (2 * (n : Int)).toNat = 2 * n := by omega
      have e2 : (2 * (n : Int) + 1).toNat = 2 * n + 1 := by omega
      have e3 : ((n : Int)).toNat = n := by omega
      have step : numsTo ws ns (n + 1) = if ws.getD (2 * n) [] = ns.getD n [] then (match numOf (ws.getD (2 * n + 1) []) with
        | none => none
        | some i => some (xs ++ [i])) else none := by
        show (match numsTo ws ns n with
          | none => none
          | some xs => if ws.getD (2 * n) [] = ns.getD n [] then (match numOf (ws.getD (2 * n + 1) []) with
            | none => none
            | some i => some (xs ++ [i])) else none) = _
        rw [hj]
      refine db_ifr (DC.t (dc_neX (de_ixL (DE.l (de_var 2 rfl)) (de_mul de_int (de_var 4 rfl) (.inl ⟨by decide, by decide⟩)) (((at_X (by omega) (by omega))))) (de_ixL (DE.l (de_var 1 rfl)) (de_var 4 rfl) (((at_X (by omega) (by omega))))))) (fun h2 => ?_) (fun h2 => ?_)
      · rw [e1, e3] at h2
        refine db_one (ds_raise hx TN.eN (hB _ _ ?_))
        show numsOut A (l, ns) = .err A.noday
        unfold numsOut
        rw [en, numsTo_none hn2 (by rw [step, if_neg (by simpa using h2)])]
      · rw [e1, e3] at h2
        rw [if_pos (by simpa using h2)] at step
        have vl : (ws.getD (2 * n + 1) []).length ≤ l.length := getD_le wl
        cases hv : numOf (ws.getD (2 * n + 1) []) with
        | none =>
          rw [hv] at step
          refine db_one (ds_appendX 3 rfl (dx_call F_number_of hx (ws.getD (2 * n + 1) []) (DA.w (da_cons (de_ixL (DE.l (de_var 2 rfl)) (de_add (de_mul de_int (de_var 4 rfl) (.inl ⟨by decide, by decide⟩)) de_int) (((at_X (by omega) (by omega)).trans (by rw [e2])))) da_nil)) (by omega) (show numOut A _ = .err A.noday by unfold numOut; rw [hv]) (hB _ _ ?_)))
          show numsOut A (l, ns) = .err A.noday
          unfold numsOut
          rw [en, numsTo_none hn2 step]
        | some i =>
          rw [hv] at step
          have xl := numsTo_len hj
          refine db_one (ds_append 3 rfl (d := .int i) (de_call F_number_of hx (ws.getD (2 * n + 1) []) (da_cons (de_ixL (DE.l (de_var 2 rfl)) (de_add (de_mul de_int (de_var 4 rfl) (.inl ⟨by decide, by decide⟩)) de_int) (((at_X (by omega) (by omega)).trans (by rw [e2])))) da_nil) ((by omega)) ((show numOut A _ = .ok (.int i) by unfold numOut; rw [hv]))) (big1 (by rw [List.length_map]; omega)) ⟨xs ++ [i], .sh (.int (n : Int)), step, ?_⟩)
          rw [List.map_append]
          rfl
    · obtain ⟨xs, a, hj, rfl⟩ := hJ
      rw [rng_len, List.length_map] at hj
      exact ⟨xs, a, (by simpa using hj), rfl⟩
    · obtain ⟨xs, a, hj, rfl⟩ := hR
      refine db_one (ds_retV 3 rfl ?_)
      show numsOut A (l, ns) = .own _
      unfold numsOut
      rw [en, hj]
def readOut (A : Ads) (t : List Nat) : Out := match readM t with
  | none => .err A.noday
  | some y => .ok y.d
abbrev FRead (P : Program) (w : World) (K : PySem.W.Frag) (mg : Str → Option Value) (base : Heap) (C : Addr) (A : Ads) : Prop := FnD P w K mg base C 5 "read" ["text"] (fun t : List Nat => [ts t]) (fun t => t.length + 2 ≤ 10000000 ∧ ∀ y, readM t = some y → y.ok) (readOut A)
theorem ten7 {n : Nat} (h : n ≤ 10000000) : n ≤ sizeLine := Nat.le_trans h (by decide +kernel)
theorem at_lastX3 {l : List (List Nat)} (h : decide (((l.map ts).length : Int) < 3) = false) : atI (l.map ts) (-1) = some (ts (l.getLastD [])) := at_lastX fun z => by
  subst z
  exact absurd h (by decide)
theorem two_items {xs : List Int} {n : Nat} (h : xs.length = n) {i : Int} (h0 : 0 ≤ i) (h1 : i < (n : Int)) : atI (xs.map D.int) i = some (.int (xs.getD i.toNat 0)) := at_ints h0 (by omega)
theorem cut_le (l : List (List Nat)) (i j : Option Int) : (cutD l i j).length ≤ l.length := by
  unfold cutD
  rw [List.length_take, List.length_drop]
  omega
theorem spl_count (S : List Nat) : ∀ (l acc : List Nat) (k : Nat), (TL.spl S k acc l).length ≤ l.length + 1
  | [], acc, k => by
    rw [TL.spl_nil]
    simp
  | c :: r, acc, 0 => by
    show (if TL.pre S (c :: r) = true then acc :: TL.spl S (S.length - 1) [] r else TL.spl S 0 (acc ++ [c]) r).length ≤ _
    split
    · have := spl_count S r [] (S.length - 1)
      simp
      omega
    · have := spl_count S r (acc ++ [c]) 0
      simp
      omega
  | c :: r, acc, k + 1 => by
    show (TL.spl S k acc r).length ≤ _
    have := spl_count S r acc k
    simp
    omega
theorem f_read (T_read : TopD K mg "read" s_read ["text"]) (T : Tx P w K mg C A) (TN : TxN P w K mg A) (F_numbers_in : FNums P w K mg base C A) (F_day : FDay P w K mg base C) : FRead P w K mg base C A := by
  obtain ⟨f, fd, F, hm, hb⟩ := T_read.ex
  refine fn_d F hm hb sc_read (by decide) fun cdv A_ outer s H E B t hp hx hB => ?_
  obtain ⟨hz, hok⟩ := hp
  have hzs : t.length + 2 ≤ sizeLine := ten7 hz
  refine db_setO hx 1 (o := .lst ((TL.spl [10] 0 [] t).map ts)) (do_split (de_var 0 rfl) de_lit hzs) ?_
  refine db_pub 1 rfl ?_
  have wl : ∀ p ∈ TL.spl [10] 0 [] t, p.length ≤ t.length := fun p hp => by
    have := spl_le [10] t [] 0 p hp
    simpa using this
  have wc := spl_count [10] t [] 0
  have er : readM t = (let rows := TL.spl [10] 0 [] t
    if rows.length < 3 ∨ rows.getLastD [] ≠ [] then none else
    let word := (rows.getD 0 []).take 4
    if word ≠ wd "line" ∧ word ≠ wd "ring" then none else
    match numsIn (rows.getD 0 []) [word] with
    | none => none
    | some a => match numsIn (rows.getD 1 []) [wd "home", wd "at"] with
      | none => none
      | some b => match stopsTo (cutD rows (some 2) (some (-1))) (cutD rows (some 2) (some (-1))).length with
        | none => none
        | some l => some ⟨⟨decide (word = wd "ring"), a.getD 0 0⟩, b.getD 0 0, b.getD 1 0, l⟩) := rfl
  generalize TL.spl [10] 0 [] t = rows at wl wc er ⊢
  dsimp only at er
  refine db_ifr (DTW.t (tw_or (DC.t (dc_lt (de_lenL T.bi (DE.l (de_var 1 rfl))) de_int)) (fun hc7 => (tw_or1 (DC.t (dc_neX (de_ixL (DE.l (de_var 1 rfl)) (de_neg de_int) ((at_lastX3 (by assumption)))) de_lit)))))) (fun h => ?_) (fun h => ?_)
  · refine db_one (ds_raise hx TN.eN (hB _ _ ?_))
    show readOut A t = .err A.noday
    unfold readOut
    rw [er, if_pos]
    rw [List.length_map, Bool.or_eq_true] at h
    rcases h with h | h
    · exact .inl (by have := of_decide_eq_true h; omega)
    · exact .inr (fun z => of_decide_eq_false (Bool.not_eq_true' _ |>.mp h) z)
  · rw [List.length_map, Bool.or_eq_false_iff] at h
    have h3 : 3 ≤ rows.length := by
      have := of_decide_eq_false h.1
      omega
    rw [if_neg (by
      rintro (q | q)
      · omega
      · exact q (of_decide_eq_true (Bool.not_eq_false' _ |>.mp h.2)))] at er
    clear h
    have w0 : (rows.getD 0 []).length ≤ t.length := getD_le wl
    have w1 : (rows.getD 1 []).length ≤ t.length := getD_le wl
    refine db_set hx 2 (d := ts ((rows.getD 0 []).take 4)) (de_toX (de_ixL (DE.l (de_var 1 rfl)) de_int ((at_X (by decide) (by omega)))) (dpo_some de_int) ((ten7 (Nat.le_trans w0 (by omega)))) (by decide)) ?_
    have w2 : ((rows.getD 0 []).take 4).length ≤ 4 := List.length_take_le _ _
    generalize (rows.getD 0 []).take 4 = word at er w2 ⊢
    refine db_ifr (DTW.t (tw_and (DC.t (dc_neX (de_var 2 rfl) de_lit)) (fun hc8 => (tw_and1 (DC.t (dc_neX (de_var 2 rfl) de_lit)))))) (fun h => ?_) (fun h => ?_)
    · refine db_one (ds_raise hx TN.eN (hB _ _ ?_))
      show readOut A t = .err A.noday
      unfold readOut
      rw [er, if_pos]
      simpa using h
    · have hw : word = wd "line" ∨ word = wd "ring" := by
        by_cases e1 : word = wd "line"
        · exact .inl e1
        · by_cases e2 : word = wd "ring"
          · exact .inr e2
          · rw [decide_eq_false e1, decide_eq_false e2] at h
            cases h
      rw [if_neg (by rintro ⟨q1, q2⟩; rcases hw with q | q; exact q1 q; exact q2 q)] at er
      clear h
      cases e1 : numsIn (rows.getD 0 []) [word] with
      | none =>
        rw [e1] at er
        refine db_cons (ds_setX hx (dx_ixT (dx_call F_numbers_in hx (rows.getD 0 [], [word]) (DA.w (da_cons (de_ixL (DE.l (de_var 1 rfl)) de_int (at_X (by decide) (by omega))) (da_cons (DO.s (do_lst (da_cons (de_var 2 rfl) da_nil))) da_nil))) ⟨ten7 (by show (rows.getD 0 []).length + 2 ≤ _; omega), by show 1 ≤ 1000; decide⟩ (show numsOut A _ = .err A.noday by unfold numsOut; dsimp only; rw [e1]) (hB _ _ ?_))) (i := 3) rfl)
        show readOut A t = .err A.noday
        unfold readOut
        rw [er]
      | some a =>
      rw [e1] at er
      have la : a.length = 1 := numsIn_len e1
      refine db_set hx 3 (d := .int (a.getD 0 0)) (de_ixL (DO.l (do_call F_numbers_in hx ((rows.getD 0 [], [word])) (da_cons (de_ixL (DE.l (de_var 1 rfl)) de_int (at_X (by decide) (by omega))) (da_cons (DO.s (do_lst (da_cons (de_var 2 rfl) da_nil))) da_nil)) (⟨ten7 (by show (rows.getD 0 []).length + 2 ≤ _; omega), by show 1 ≤ 1000; decide⟩) ((show numsOut A _ = .own (.lst (a.map .int)) by unfold numsOut; dsimp only; rw [e1])))) de_int (two_items la (by decide) (by decide))) ?_
      cases e2 : numsIn (rows.getD 1 []) [wd "home", wd "at"] with
      | none =>
        rw [e2] at er
        refine db_cons (ds_setX hx (dx_call F_numbers_in hx (rows.getD 1 [], [wd "home", wd "at"]) (DA.w (da_cons (de_ixL (DE.l (de_var 1 rfl)) de_int (at_X (by decide) (by omega))) (da_cons (DO.s (do_lst (da_cons de_lit (da_cons de_lit da_nil)))) da_nil))) ⟨ten7 (by show (rows.getD 1 []).length + 2 ≤ _; omega), by show 2 ≤ 1000; decide⟩ (show numsOut A _ = .err A.noday by unfold numsOut; dsimp only; rw [e2]) (hB _ _ ?_)) (i := 4) rfl)
        show readOut A t = .err A.noday
        unfold readOut
        rw [er]
      | some b =>
      rw [e2] at er
      have lb : b.length = 2 := numsIn_len e2
      refine db_setO hx 4 (o := .lst (b.map .int)) (do_call F_numbers_in hx ((rows.getD 1 [], [wd "home", wd "at"])) (da_cons (de_ixL (DE.l (de_var 1 rfl)) de_int (at_X (by decide) (by omega))) (da_cons (DO.s (do_lst (da_cons de_lit (da_cons de_lit da_nil)))) da_nil)) (⟨ten7 (by show (rows.getD 1 []).length + 2 ≤ _; omega), by show 2 ≤ 1000; decide⟩) ((show numsOut A _ = .own (.lst (b.map .int)) by unfold numsOut; dsimp only; rw [e2]))) ?_
      refine db_pub 4 rfl ?_
      refine db_setO hx 5 (do_lst da_nil) ?_
      have cl : (cutD rows (some 2) (some (-1))).length ≤ rows.length := cut_le _ _ _
      have cm : ∀ p ∈ cutD rows (some 2) (some (-1)), p.length ≤ t.length := fun p hp => wl p (List.mem_of_mem_drop (List.mem_of_mem_take hp))
      have ec : cutD (rows.map ts) (some 2) (some (-1)) = (cutD rows (some 2) (some (-1))).map ts := cutD_map _ _ _ _
      dsimp only at er
      generalize a.getD 0 0 = a0 at er ⊢
      generalize cutD rows (some 2) (some (-1)) = cs at er cl cm ec ⊢
      refine db_seq (fun δ' => ∃ l a, stopsTo cs cs.length = some l ∧ δ' = [.sh (ts t), .sh (.lst (rows.map ts)), .sh (ts word), .sh (.int (a0)), .sh (.lst (b.map .int)), .ow (.lst (l.map Stop.d)), a]) (ds_for hx (fun n δ' => ∃ l a, stopsTo cs n = some l ∧ δ' = [.sh (ts t), .sh (.lst (rows.map ts)), .sh (ts word), .sh (.int (a0)), .sh (.lst (b.map .int)), .ow (.lst (l.map Stop.d)), a]) (di_list (DE.eq (DO.s (do_slL (DE.l (de_var 1 rfl)) (dpo_some de_int) (dpo_some (de_neg de_int)))) (congrArg D.lst ec))) (dg_name hx.nd 6) (fun _ _ => trivial) ⟨[], _, rfl, rfl⟩ (fun n d δ' hd hJ => ?_) fun δ' hJ => ?_) fun δ' hR => ?_
      · obtain ⟨l, z, hj, rfl⟩ := hJ
        rw [List.getElem?_map] at hd
        obtain ⟨r, hr, rfl⟩ := Option.map_eq_some_iff.mp hd
        have hn : n < cs.length := (List.getElem?_eq_some_iff.mp hr).1
        have er2 : cs.getD n [] = r := by rw [List.getD_eq_getElem?_getD, hr]; rfl
        have step : stopsTo cs (n + 1) = (match numsIn r stopNames with
          | none => none
          | some xs => some (l ++ [toStop xs])) := by
          show (match stopsTo cs n with
            | none => none
            | some l => match numsIn (cs.getD n []) stopNames with
              | none => none
              | some xs => some (l ++ [toStop xs])) = _
          rw [hj, er2]
        have rl : r.length ≤ t.length := cm r (List.mem_of_getElem? hr)
        cases e3 : numsIn r stopNames with
        | none =>
          rw [e3] at step
          refine db_one (ds_appendX 5 rfl (dx_tuple T.bi (dx_call F_numbers_in hx (r, stopNames) (DA.w (da_cons (de_var 6 rfl) (da_cons (DO.s (do_lst (da_cons de_lit (da_cons de_lit (da_cons de_lit (da_cons de_lit da_nil)))))) da_nil))) ⟨ten7 (by show r.length + 2 ≤ _; omega), by show 4 ≤ 1000; decide⟩ (show numsOut A _ = .err A.noday by unfold numsOut; dsimp only; rw [e3]) (hB _ _ ?_))))
          show readOut A t = .err A.noday
          unfold readOut
          rw [stopsTo_none hn step] at er
          rw [er]
        | some xs =>
          rw [e3] at step
          have lx : xs.length = 4 := numsIn_len e3
          have ll := stopsTo_len hj
          refine db_one (ds_append 5 rfl (d := (toStop xs).d) (DE.eq (de_tupleL T.bi (DO.l (do_call F_numbers_in hx ((r, stopNames)) (da_cons (de_var 6 rfl) (da_cons (DO.s (do_lst (da_cons de_lit (da_cons de_lit (da_cons de_lit (da_cons de_lit da_nil)))))) da_nil)) (⟨ten7 (by show r.length + 2 ≤ _; omega), by show 4 ≤ 1000; decide⟩) ((show numsOut A _ = .own (.lst (xs.map .int)) by unfold numsOut; dsimp only; rw [e3]))))) (toStop_d lx)) (ten7 (by rw [List.length_map]; omega)) ⟨l ++ [toStop xs], .sh (ts r), step, ?_⟩)
          rw [List.map_append]
          rfl
      · obtain ⟨l, z, hj, rfl⟩ := hJ
        rw [List.length_map] at hj
        exact ⟨l, z, hj, rfl⟩
      · obtain ⟨l, z, hj, rfl⟩ := hR
        rw [hj] at er
        have hy := hok _ er
        have eo : readOut A t = .ok (DayR.d ⟨⟨decide (word = wd "ring"), a0⟩, b.getD 0 0, b.getD 1 0, l⟩) := by
          unfold readOut
          rw [er]
        have ew : D.tup [ts word, .int a0] = Road.d ⟨decide (word = wd "ring"), a0⟩ := by
          rw [Road.d_word]
          unfold Road.word
          rcases hw with rfl | rfl
          · rw [show decide (wd "line" = wd "ring") = false by decide]
            rfl
          · rw [show decide (wd "ring" = wd "ring") = true by decide]
            rfl
        refine db_pub 5 rfl (db_one (ds_ret (de_day F_day hx ((⟨⟨decide (word = wd "ring"), a0⟩, b.getD 0 0, b.getD 1 0, l⟩ : DayR)) (da_cons (DE.eq (de_tup (da_cons (de_var 2 rfl) (da_cons (de_var 3 rfl) da_nil))) ew) (da_cons (de_ixL (DE.l (de_var 4 rfl)) de_int (two_items lb (by decide) (by decide))) (da_cons (de_ixL (DE.l (de_var 4 rfl)) de_int (two_items lb (by decide) (by decide))) (da_cons (de_var 5 rfl) da_nil)))) hy rfl) ?_))
        exact eo
/-! #### law k14 -/
abbrev s_many : Stmt := top 52
theorem sc_many : FnScope ["_law_cell"] ["_law_cell"] (defScope s_many) := ⟨rfl, rfl, rfl, by decide +kernel, rfl, by decide +kernel, by decide +kernel⟩
abbrev s_order : Stmt := top 53
theorem sc_order : FnScope ["_law_script", "_law_many_here", "_law_k", "_law_order_here", "_law_left", "_law_j", "_law_at"] ["_law_script", "_law_many_here", "_law_k"] (defScope s_order) := ⟨rfl, rfl, rfl, by decide +kernel, rfl, by decide +kernel, by decide +kernel⟩
def manyBy14 (c : Int) : Int := if c / 6 % 9 = 4 then 5 + c / 54 % 2 else c % 6
theorem manyBy14_ok (c : Int) : 0 ≤ manyBy14 c ∧ manyBy14 c ≤ 6 := by
  unfold manyBy14
  split <;> omega
abbrev FMany (P : Program) (w : World) (K : PySem.W.Frag) (mg : Str → Option Value) (base : Heap) (C : Addr) : Prop := FnD P w K mg base C 1 "_law_many" ["_law_cell"] (fun c : Int => [.int c]) (fun _ => True) (fun c => .ok (.int (manyBy14 c)))
theorem f_many (T_many : TopD K mg "_law_many" s_many ["_law_cell"]) (T : Tx P w K mg C A) : FMany P w K mg base C := by
  obtain ⟨f, fd, F, hm, hb⟩ := T_many.ex
  refine fn_d F hm hb sc_many (by decide) fun cdv A_ outer s H E B c hp hx hB => ?_
  refine db_ifr (DC.t (dc_eqI (de_mod (de_fdiv (de_var 0 rfl) de_int) de_int) de_int)) (fun h => ?_) (fun h => ?_)
  · refine db_one (ds_ret (de_add de_int (de_mod (de_fdiv (de_var 0 rfl) de_int) de_int)) ?_)
    show Out.ok _ = Out.ok _
    rw [manyBy14, if_pos (of_decide_eq_true h)]
  · refine db_one (ds_ret (de_mod (de_var 0 rfl) de_int) ?_)
    show Out.ok _ = Out.ok _
    rw [manyBy14, if_neg (of_decide_eq_false h)]
/-- numbers drawn, and those left -/
def drawnO (c m : Int) : Nat → List Int × List Int
  | 0 => ([], upTo m)
  | n + 1 => ((drawnO c m n).1 ++ [(drawnO c m n).2.getD (c / 7 % ((n : Int) + 3) % ((drawnO c m n).2.length : Int)).toNat 0], cutD (drawnO c m n).2 none (some (c / 7 % ((n : Int) + 3) % ((drawnO c m n).2.length : Int))) ++ cutD (drawnO c m n).2 (some (c / 7 % ((n : Int) + 3) % ((drawnO c m n).2.length : Int) + 1)) none)
theorem drawnO_len {c m : Int} : ∀ {n : Nat}, n ≤ m.toNat → (drawnO c m n).1.length = n ∧ (drawnO c m n).2.length = m.toNat - n
  | 0, _ => ⟨rfl, upTo_len m⟩
  | n + 1, h => by
    obtain ⟨h1, h2⟩ := drawnO_len (c := c) (m := m) (n := n) (by omega)
    have a := Int.emod_nonneg (c / 7 % ((n : Int) + 3)) (b := ((drawnO c m n).2.length : Int)) (by omega)
    have b := Int.emod_lt_of_pos (c / 7 % ((n : Int) + 3)) (b := ((drawnO c m n).2.length : Int)) (by omega)
    unfold drawnO
    refine ⟨by rw [List.length_append, h1]; rfl, ?_⟩
    rw [List.length_append, cutD_to _ a, cutD_from _ (by omega), List.length_take, List.length_drop]
    omega
def orderO (c m : Int) : List Int := (drawnO c m (c % (m + 1)).toNat).1
theorem orderO_len {c m : Int} (h : 0 ≤ m) : (orderO c m).length ≤ m.toNat := by
  have a := Int.emod_nonneg c (b := m + 1) (by omega)
  have b := Int.emod_lt_of_pos c (b := m + 1) (by omega)
  unfold orderO
  rw [(drawnO_len (by omega)).1]
  omega
abbrev FOrderO (P : Program) (w : World) (K : PySem.W.Frag) (mg : Str → Option Value) (base : Heap) (C : Addr) : Prop := FnD P w K mg base C 2 "_law_order" ["_law_script", "_law_many_here", "_law_k"] (fun a : List Int × Int × Int => [.scr (a.1.map .int), .int a.2.1, .int a.2.2]) (fun a => a.1.length ≤ 63 ∧ 0 ≤ a.2.1 ∧ a.2.1 ≤ 60) (fun a => .own (.lst ((orderO (cellAt a.1 a.2.2) a.2.1).map .int)))
theorem f_order (T_order : TopD K mg "_law_order" s_order ["_law_script", "_law_many_here", "_law_k"]) (T : Tx P w K mg C A) (F_cell_at : FCell P w K mg base C) : FOrderO P w K mg base C := by
  obtain ⟨f, fd, F, hm, hb⟩ := T_order.ex
  refine fn_d F hm hb sc_order (by decide) fun cdv A_ outer s H E B a hp hx hB => ?_
  obtain ⟨ns, m, k⟩ := a
  obtain ⟨hl, h0, h60⟩ := hp
  dsimp only at hl h0 h60 ⊢
  generalize hc : cellAt ns k = c
  have a32 := Int.emod_nonneg c (b := m + 1) (by omega)
  have b32 := Int.emod_lt_of_pos c (b := m + 1) (by omega)
  have e0 : rng 0 m.toNat = (upTo m).map .int := rng_upTo m
  refine db_setO hx 3 (do_lst da_nil) ?_
  refine db_setO hx 4 (do_listR1 T.bi hx (de_var 1 rfl) ⟨h0, by omega⟩) ?_
  rw [e0]
  refine db_seq (fun δ' => ∃ z1 z2 z3, δ' = [.sh (.scr (ns.map .int)), .sh (.int m), .sh (.int k), .ow (.lst ((orderO c m).map .int)), z1, z2, z3]) (ds_for hx (fun n δ' => ∃ z2 z3, δ' = [.sh (.scr (ns.map .int)), .sh (.int m), .sh (.int k), .ow (.lst ((drawnO c m n).1.map .int)), .ow (.lst ((drawnO c m n).2.map .int)), z2, z3]) (di_r1 (m := c % (m + 1)) T.bi (DE.eq (de_mod (de_call F_cell_at hx ((ns, k)) (da_cons (de_var 0 rfl) (da_cons (de_var 2 rfl) da_nil)) hl rfl) (de_add (de_var 1 rfl) de_int) (by omega)) (by rw [hc])) ⟨by omega, by omega⟩) (dg_name hx.nd 5) (fun _ _ => trivial) ⟨_, _, rfl⟩ (fun n d δ' hd hJ => ?_) fun δ' hJ => ?_) fun δ' hR => ?_
  · obtain ⟨z2, z3, rfl⟩ := hJ
    rw [rng_upTo] at hd
    obtain ⟨z, rfl, hz⟩ := at_ord hd
    obtain ⟨rfl, hlt⟩ := upTo_get hz
    obtain ⟨l1, l2⟩ := drawnO_len (c := c) (m := m) (n := n) (by omega)
    have a := Int.emod_nonneg (c / 7 % ((n : Int) + 3)) (b := ((drawnO c m n).2.length : Int)) (by omega)
    have b := Int.emod_lt_of_pos (c / 7 % ((n : Int) + 3)) (b := ((drawnO c m n).2.length : Int)) (by omega)
    refine db_set hx 6 (d := .int (c / 7 % ((n : Int) + 3) % ((drawnO c m n).2.length : Int))) (DE.eq (de_mod (de_mod (de_fdiv (de_call F_cell_at hx ((ns, k)) (da_cons (de_var 0 rfl) (da_cons (de_var 2 rfl) da_nil)) hl rfl) de_int) (de_add (de_var 5 rfl) de_int) ((by omega))) (de_lenL T.bi (dl_own 4 rfl)) (by rw [List.length_map]; omega)) (by rw [List.length_map, hc])) ?_
    refine db_cons (ds_append 3 rfl (de_ixL (dl_own 4 rfl) (de_var 6 rfl) (at_ints a b)) (small (by rw [List.length_map]; omega)) ?_)
    refine db_one (ds_setO hx 4 (do_cat (DO.l (do_slL (dl_own 4 rfl) dpo_none (dpo_some (de_var 6 rfl)))) (DO.l (do_slL (dl_own 4 rfl) (dpo_some (de_add (de_var 6 rfl) de_int)) dpo_none)) ((small (by have := cutD_len ((drawnO c m n).2.map D.int) none (some (c / 7 % ((n : Int) + 3) % ((drawnO c m n).2.length : Int))); have := cutD_len ((drawnO c m n).2.map D.int) (some (c / 7 % ((n : Int) + 3) % ((drawnO c m n).2.length : Int) + 1)) none; rw [List.length_map] at *; omega)))) ⟨.sh (.int (n : Int)), .sh (.int (c / 7 % ((n : Int) + 3) % ((drawnO c m n).2.length : Int))), ?_⟩)
    rw [cutD_map, cutD_map, ← List.map_append]
    rw [show drawnO c m (n + 1) = ((drawnO c m n).1 ++ [(drawnO c m n).2.getD (c / 7 % ((n : Int) + 3) % ((drawnO c m n).2.length : Int)).toNat 0], cutD (drawnO c m n).2 none (some (c / 7 % ((n : Int) + 3) % ((drawnO c m n).2.length : Int))) ++ cutD (drawnO c m n).2 (some (c / 7 % ((n : Int) + 3) % ((drawnO c m n).2.length : Int) + 1)) none) from rfl]
    dsimp only
    rw [List.map_append, List.map_append]
    rfl
  · obtain ⟨z2, z3, rfl⟩ := hJ
    rw [rng_upTo, List.length_map, upTo_len]
    exact ⟨_, _, _, rfl⟩
  · obtain ⟨z1, z2, z3, rfl⟩ := hR
    exact db_one (ds_retV 3 rfl rfl)
/-! driven, answer -/
structure Bo (K : PySem.W.Frag) (mg : Str → Option Value) (A : Ads) : Prop where
  cB : OwnC K mg "BadOrder" A.order
  bB : PySem.W.subIn K (.ref A.order) (.ref A.order) = some true
abbrev s_driven : Stmt := top 54
theorem sc_driven : FnScope ["_law_day", "_law_order_here", "_law_kind"] ["_law_day", "_law_order_here", "_law_kind"] (defScope s_driven) := ⟨rfl, rfl, rfl, by decide +kernel, rfl, by decide +kernel, by decide +kernel⟩
abbrev s_answer : Stmt := top 55
theorem sc_answer : FnScope ["_law_day", "_law_order_here", "_law_kind"] ["_law_day", "_law_order_here", "_law_kind"] (defScope s_answer) := ⟨rfl, rfl, rfl, by decide +kernel, rfl, by decide +kernel, by decide +kernel⟩
def missD : D := .tup [.str "missed"]
def ordD : D := .tup [.str "order"]
def drivenO (y : DayR) (o : List Int) (k : Int) : Out :=
  if goodO y.stops.length o then
    if k = 0 then (match runM y y.home y.start o with
      | none => .ok missD
      | some rows => .own (.lst (rows.map rowD)))
    else if k = 1 then (match runM y y.home y.start o with
      | none => .ok missD
      | some rows => .ok (.int (endM y o rows)))
    else if k = 2 then .own (.dic (tD (tableM y o)))
    else .ok (oD (leastB y o))
  else .ok ordD
abbrev FDriven (P : Program) (w : World) (K : PySem.W.Frag) (mg : Str → Option Value) (base : Heap) (C : Addr) : Prop := FnD P w K mg base C 8 "_law_driven" ["_law_day", "_law_order_here", "_law_kind"] (fun a : DayR × List Int × Int => [a.1.d, .lst (a.2.1.map .int), .int a.2.2]) (fun a => a.1.ok ∧ a.2.1.length ≤ 63) (fun a => drivenO a.1 a.2.1 a.2.2)
theorem f_driven (T_driven : TopD K mg "_law_driven" s_driven ["_law_day", "_law_order_here", "_law_kind"]) (T : Tx P w K mg C A) (Q : Ms K mg A) (Q2 : Bo K mg A) (F_timetable : FTable P w K mg base C A) (F_ends : FEnds P w K mg base C A) (F_table : FTab P w K mg base C A) (F_least : FLeast P w K mg base C A) : FDriven P w K mg base C := by
  obtain ⟨f, fd, F, hm, hb⟩ := T_driven.ex
  refine fn_d F hm hb sc_driven (by decide) fun cdv A_ outer s H E B a hp hx hB => ?_
  obtain ⟨y, o, k⟩ := a
  have hp : y.ok ∧ o.length ≤ 63 := hp
  dsimp only
  by_cases hg : goodO y.stops.length o
  · have eT : tableOut A y o = (match runM y y.home y.start o with
        | none => .err A.missed
        | some rows => .own (.lst (rows.map rowD))) := by unfold tableOut; exact if_pos hg
    have eE : endOut A y o = (match runM y y.home y.start o with
        | none => .err A.missed
        | some rows => .ok (.int (endM y o rows))) := by unfold endOut; exact if_pos hg
    have eD : tableOutD A y o = .own (.dic (tD (tableM y o))) := by unfold tableOutD; rw [if_pos hg]
    have eL : leastOut A y o = .ok (oD (leastB y o)) := by unfold leastOut; rw [if_pos hg]
    have er : drivenO y o k = if k = 0 then (match runM y y.home y.start o with
        | none => .ok missD
        | some rows => .own (.lst (rows.map rowD)))
      else if k = 1 then (match runM y y.home y.start o with
        | none => .ok missD
        | some rows => .ok (.int (endM y o rows)))
      else if k = 2 then .own (.dic (tD (tableM y o)))
      else .ok (oD (leastB y o)) := by unfold drivenO; exact if_pos hg
    refine db_one (ds_try hx (.cons Q.cS.g (.cons Q2.cB.g .nil)) (fun c => c = A.missed ∧ drivenO y o k = .ok missD) (fun c hc => ?_) fun pn xe B' hx hB' => ?_)
    · obtain ⟨rfl, e⟩ := hc
      exact ⟨true, exm_c Q.cS Q.sS, fun _ _ oe pn _ _ => db_one (ds_ret (de_tup (da_cons de_str da_nil)) e), fun q => nomatch q⟩
    · refine db_ifr (DC.t (dc_eqI (de_var 2 rfl) de_int)) (fun h => ?_) (fun h => ?_)
      · rw [if_pos (of_decide_eq_true h)] at er
        cases e : runM y y.home y.start o with
        | none =>
          rw [e] at eT er
          exact db_one (ds_retX (dx_call F_timetable hx (y, o) (dw_cons (DE.w (de_var 0 rfl)) (dw_cons (DE.w (de_var 1 rfl)) dw_nil)) hp eT (hB' _ ⟨rfl, er⟩)))
        | some rows =>
          rw [e] at eT er
          exact db_one (ds_retO (do_call F_timetable hx ((y, o)) (da_cons (de_var 0 rfl) (da_cons (de_var 1 rfl) da_nil)) hp eT) er)
      · rw [if_neg (of_decide_eq_false h)] at er
        refine db_ifr (DC.t (dc_eqI (de_var 2 rfl) de_int)) (fun h => ?_) (fun h => ?_)
        · rw [if_pos (of_decide_eq_true h)] at er
          cases e : runM y y.home y.start o with
          | none =>
            rw [e] at eE er
            exact db_one (ds_retX (dx_call F_ends hx (y, o) (dw_cons (DE.w (de_var 0 rfl)) (dw_cons (DE.w (de_var 1 rfl)) dw_nil)) hp eE (hB' _ ⟨rfl, er⟩)))
          | some rows =>
            rw [e] at eE er
            exact db_one (ds_ret (de_call F_ends hx ((y, o)) (da_cons (de_var 0 rfl) (da_cons (de_var 1 rfl) da_nil)) hp eE) er)
        · rw [if_neg (of_decide_eq_false h)] at er
          refine db_ifr (DC.t (dc_eqI (de_var 2 rfl) de_int)) (fun h => ?_) (fun h => ?_)
          · rw [if_pos (of_decide_eq_true h)] at er
            exact db_one (ds_retO (do_call F_table hx (y, o) (da_cons (de_var 0 rfl) (da_cons (de_var 1 rfl) da_nil)) hp eD) er)
          · rw [if_neg (of_decide_eq_false h)] at er
            exact db_one (ds_ret (de_call F_least hx ((y, o)) (da_cons (de_var 0 rfl) (da_cons (de_var 1 rfl) da_nil)) hp eL) er)
  · have er : drivenO y o k = .ok ordD := by unfold drivenO; rw [if_neg hg]
    have eT : tableOut A y o = .err A.order := by unfold tableOut; rw [if_neg hg]
    have eE : endOut A y o = .err A.order := by unfold endOut; rw [if_neg hg]
    have eD : tableOutD A y o = .err A.order := by unfold tableOutD; rw [if_neg hg]
    have eL : leastOut A y o = .err A.order := by unfold leastOut; rw [if_neg hg]
    refine db_one (ds_try hx (.cons Q.cS.g (.cons Q2.cB.g .nil)) (fun c => c = A.order) (fun c hc => ?_) fun pn xe B' hx hB' => ?_)
    · subst hc
      exact ⟨false, exm_c Q.cS Q.bS, (fun q => nomatch q), fun _ => ⟨true, exm_c Q2.cB Q2.bB, fun _ _ oe pn _ _ => db_one (ds_ret (de_tup (da_cons de_str da_nil)) er), fun q => nomatch q⟩⟩
    · refine db_ifr (DC.t (dc_eqI (de_var 2 rfl) de_int)) (fun _ => ?_) (fun _ => ?_)
      · exact db_one (ds_retX (dx_call F_timetable hx (y, o) (dw_cons (DE.w (de_var 0 rfl)) (dw_cons (DE.w (de_var 1 rfl)) dw_nil)) hp eT (hB' _ rfl)))
      · refine db_ifr (DC.t (dc_eqI (de_var 2 rfl) de_int)) (fun _ => ?_) (fun _ => ?_)
        · exact db_one (ds_retX (dx_call F_ends hx (y, o) (dw_cons (DE.w (de_var 0 rfl)) (dw_cons (DE.w (de_var 1 rfl)) dw_nil)) hp eE (hB' _ rfl)))
        · refine db_ifr (DC.t (dc_eqI (de_var 2 rfl) de_int)) (fun _ => ?_) (fun _ => ?_)
          · exact db_one (ds_retX (dx_call F_table hx (y, o) (dw_cons (DE.w (de_var 0 rfl)) (dw_cons (DE.w (de_var 1 rfl)) dw_nil)) hp eD (hB' _ rfl)))
          · exact db_one (ds_retX (dx_call F_least hx (y, o) (dw_cons (DE.w (de_var 0 rfl)) (dw_cons (DE.w (de_var 1 rfl)) dw_nil)) hp eL (hB' _ rfl)))
theorem drivenO_two (y : DayR) (o : List Int) (k : Int) : (∃ d, drivenO y o k = .ok d) ∨ ∃ u, drivenO y o k = .own u := by
  unfold drivenO
  split
  · split
    · cases runM y y.home y.start o with
      | none => exact .inl ⟨_, rfl⟩
      | some rows => exact .inr ⟨_, rfl⟩
    · split
      · cases runM y y.home y.start o with
        | none => exact .inl ⟨_, rfl⟩
        | some rows => exact .inl ⟨_, rfl⟩
      · split
        · exact .inr ⟨_, rfl⟩
        · exact .inl ⟨_, rfl⟩
  · exact .inl ⟨_, rfl⟩
def answerO (y : DayR) (o : List Int) (k : Int) : Out := if k < 4 then drivenO y o k else if k = 4 then bestOut y else if k = 5 then .ok (clashD y) else toldOut y
abbrev FAnswer (P : Program) (w : World) (K : PySem.W.Frag) (mg : Str → Option Value) (base : Heap) (C : Addr) : Prop := FnD P w K mg base C 11 "_law_answer" ["_law_day", "_law_order_here", "_law_kind"] (fun a : DayR × List Int × Int => [a.1.d, .lst (a.2.1.map .int), .int a.2.2]) (fun a => a.1.ok ∧ a.2.1.length ≤ 63) (fun a => answerO a.1 a.2.1 a.2.2)
theorem f_answer (T_answer : TopD K mg "_law_answer" s_answer ["_law_day", "_law_order_here", "_law_kind"]) (T : Tx P w K mg C A) (F_driven : FDriven P w K mg base C) (F_best : FBest P w K mg base C) (F_clash : FClash P w K mg base C) (F_told : FTold P w K mg base C) : FAnswer P w K mg base C := by
  obtain ⟨f, fd, F, hm, hb⟩ := T_answer.ex
  refine fn_d F hm hb sc_answer (by decide) fun cdv A_ outer s H E B a hp hx hB => ?_
  obtain ⟨y, o, k⟩ := a
  have hp : y.ok ∧ o.length ≤ 63 := hp
  dsimp only
  have er : answerO y o k = if k < 4 then drivenO y o k else if k = 4 then bestOut y else if k = 5 then .ok (clashD y) else toldOut y := rfl
  refine db_ifr (DC.t (dc_lt (de_var 2 rfl) de_int)) (fun h => ?_) (fun h => ?_)
  · rw [if_pos (of_decide_eq_true h)] at er
    rcases drivenO_two y o k with ⟨d, e⟩ | ⟨u, e⟩
    · exact db_one (ds_ret (de_call F_driven hx ((y, o, k)) (da_cons (de_var 0 rfl) (da_cons (de_var 1 rfl) (da_cons (de_var 2 rfl) da_nil))) hp e) (er.trans e))
    · exact db_one (ds_retO (do_call F_driven hx (y, o, k) (da_cons (de_var 0 rfl) (da_cons (de_var 1 rfl) (da_cons (de_var 2 rfl) da_nil))) hp e) (er.trans e))
  · rw [if_neg (of_decide_eq_false h)] at er
    refine db_ifr (DC.t (dc_eqI (de_var 2 rfl) de_int)) (fun h => ?_) (fun h => ?_)
    · rw [if_pos (of_decide_eq_true h)] at er
      cases hl : leastB y [] with
      | none =>
        have e : bestOut y = .ok .non := by rw [bestOut, hl]
        exact db_one (ds_ret (de_call F_best hx y (da_cons (de_var 0 rfl) da_nil) hp.1 e) (er.trans e))
      | some z =>
        have e : bestOut y = .own (.lst ((bestM y z y.stops.length).map .int)) := by rw [bestOut, hl]
        exact db_one (ds_retO (do_call F_best hx y (da_cons (de_var 0 rfl) da_nil) hp.1 e) (er.trans e))
    · rw [if_neg (of_decide_eq_false h)] at er
      refine db_ifr (DC.t (dc_eqI (de_var 2 rfl) de_int)) (fun h => ?_) (fun h => ?_)
      · rw [if_pos (of_decide_eq_true h)] at er
        exact db_one (ds_ret (de_call F_clash hx y (da_cons (de_var 0 rfl) da_nil) hp.1 rfl) er)
      · rw [if_neg (of_decide_eq_false h)] at er
        cases e : toldOut y with
        | ok d => exact db_one (ds_ret (de_call F_told hx y (da_cons (de_var 0 rfl) da_nil) hp.1 e) (er.trans e))
        | own u => exact db_one (ds_retO (do_call F_told hx y (da_cons (de_var 0 rfl) da_nil) hp.1 e) (er.trans e))
        | tow l => exact db_one (ds_retNs (dn_call F_told hx y (da_cons (de_var 0 rfl) da_nil) hp.1 e) (er.trans e))
        | err c => exact db_one (ds_retX (dx_call F_told hx y (dw_cons (DE.w (de_var 0 rfl)) dw_nil) hp.1 e (hB _ _ (er.trans e))))
abbrev s_far : Stmt := top 57
theorem sc_far : FnScope ["_law_road", "_law_one", "_law_other", "_law_straight"] ["_law_road", "_law_one", "_law_other"] (defScope s_far) := ⟨rfl, rfl, rfl, by decide +kernel, rfl, by decide +kernel, by decide +kernel⟩
def farR (r : Road) (a b : Int) : Int := if r.ring = true then minI (absI (a - b)) (r.len - absI (a - b)) else absI (a - b)
abbrev FFar (P : Program) (w : World) (K : PySem.W.Frag) (mg : Str → Option Value) (base : Heap) (C : Addr) : Prop := FnD P w K mg base C 1 "_law_far" ["_law_road", "_law_one", "_law_other"] (fun a : Road × Int × Int => [a.1.d, .int a.2.1, .int a.2.2]) (fun _ => True) (fun a => .ok (.int (farR a.1 a.2.1 a.2.2)))
theorem f_far (T_far : TopD K mg "_law_far" s_far ["_law_road", "_law_one", "_law_other"]) (T : Tx P w K mg C A) : FFar P w K mg base C := by
  obtain ⟨f, fd, F, hm, hb⟩ := T_far.ex
  refine fn_d F hm hb sc_far (by decide) fun cdv A_ outer s H E B a hp hx hB => ?_
  obtain ⟨r, a, b⟩ := a
  dsimp only
  refine db_set hx 3 (d := .int (absI (a - b))) (de_abs T.bi (de_sub (de_var 1 rfl) (de_var 2 rfl))) ?_
  refine db_one (ds_ret (d := .int (farR r a b)) (de_ife (DT.eq (DC.t (dc_eqS (de_ixT (de_var 0 rfl) de_int rfl) de_str)) (is_ring r.ring)) (fun h => DE.eq (de_min T.bi hx (de_var 3 rfl) (de_sub (de_ixT (de_var 0 rfl) de_int rfl) (de_var 3 rfl))) (by unfold farR; rw [if_pos h])) (fun h => DE.eq (de_var 3 rfl) (by unfold farR; rw [if_neg (by rw [h]; exact Bool.false_ne_true)]))) rfl)
abbrev s_due_times : Stmt := top 58
theorem sc_due_times : FnScope ["_law_road", "_law_home", "_law_start", "_law_stops", "_law_order_here", "_law_here", "_law_now", "_law_found", "_law_one", "_law_comes", "_law_place", "_law_opens", "_law_closes", "_law_stay"] ["_law_road", "_law_home", "_law_start", "_law_stops", "_law_order_here"] (defScope s_due_times) := ⟨rfl, rfl, rfl, by decide +kernel, rfl, by decide +kernel, by decide +kernel⟩
abbrev s_times_right : Stmt := top 59
theorem sc_times_right : FnScope ["_law_road", "_law_home", "_law_start", "_law_pairs", "_law_day", "_law_some", "_law_many_here", "_law_orders", "_law_order_here"] ["_law_road", "_law_home", "_law_start", "_law_pairs"] (defScope s_times_right) := ⟨rfl, rfl, rfl, by decide +kernel, rfl, by decide +kernel, by decide +kernel⟩
abbrev s_changed : Stmt := top 56
theorem sc_changed : FnScope ["_law_found"] ["_law_found"] (defScope s_changed) := ⟨rfl, rfl, rfl, by decide +kernel, rfl, by decide +kernel, by decide +kernel⟩
/-! #### driving here -/
theorem far_apart {r : Road} {a b : Int} (ha : r.has a) (hb : r.has b) : farR r a b = apartM r a b := by
  rw [apartM_eq ha hb]
  unfold farR
  simp only [minI_def]
  unfold absI
  cases r with
  | mk ring len =>
    cases ring with
    | false =>
      simp only [Bool.false_eq_true, if_false, false_and]
      split <;> omega
    | true =>
      simp only [if_true, true_and]
      repeat' split
      all_goals omega
abbrev FDue (P : Program) (w : World) (K : PySem.W.Frag) (mg : Str → Option Value) (base : Heap) (C : Addr) : Prop := FnD P w K mg base C 2 "_law_due_times" ["_law_road", "_law_home", "_law_start", "_law_stops", "_law_order_here"] (fun a : DayR × List Int => [a.1.road.d, .int a.1.home, .int a.1.start, .lst (a.1.stops.map Stop.d), .lst (a.2.map .int)]) (fun a => a.1.ok ∧ (∀ n ∈ a.2, 0 ≤ n) ∧ a.2.length ≤ 63) (fun a => drivenO a.1 a.2 0)
theorem f_due_times (T_due_times : TopD K mg "_law_due_times" s_due_times ["_law_road", "_law_home", "_law_start", "_law_stops", "_law_order_here"]) (T : Tx P w K mg C A) (F_far : FFar P w K mg base C) : FDue P w K mg base C := by
  obtain ⟨f, fd, F, hm, hb⟩ := T_due_times.ex
  refine fn_d F hm hb sc_due_times (by decide) fun cdv A_ outer s H E B a hp hx hB => ?_
  obtain ⟨y, o⟩ := a
  obtain ⟨hy, h0, hl⟩ := hp
  dsimp only at hy h0 hl ⊢
  have ell : lcD (o.map .int) (onB fun x => decide (((y.stops.map Stop.d).length : Int) ≤ x)) (onI .int) = (o.filter fun x => decide (((y.stops.map Stop.d).length : Int) ≤ x)).map .int := lcD_intsB _ _ _
  refine db_ifr (DT.eq (b' := !decide (goodO y.stops.length o)) (DTW.t (tw_or (DC.t (dc_neNil hx (DE.w (DE.eq (DO.s (do_lc (x := "_law_one") hx 8 (l := o.map .int) (b := onB fun x => decide (((y.stops.map Stop.d).length : Int) ≤ x)) (onI .int) (di_list (de_var 4 rfl)) (blkOk_by (own := [("_law_one", 8)]) (N := ["_law_road", "_law_home", "_law_start", "_law_stops", "_law_order_here", "_law_here", "_law_now", "_law_found", "_law_one", "_law_comes", "_law_place", "_law_opens", "_law_closes", "_law_stay"]) (sc := defScope s_due_times) (by decide +kernel)) (fun _ _ _ _ _ => pg_name (i := 8) hx.nd rfl (Or.inl rfl)) (df_one hx fun n d hd s' H' C0 cl fp hx => by
        obtain ⟨z, rfl, _⟩ := at_ord hd
        exact (DC.t (dc_ge (de_var 8 rfl) (de_lenL T.bi (DE.l (de_var 3 rfl)))))) (fun n d hd _ s' H' C0 cl fp hx => by
        obtain ⟨z, rfl, _⟩ := at_ord hd
        exact (de_var 8 rfl)) (by rw [List.length_map]; exact small (by omega)))) (congrArg D.lst ell))) (DE.w (DO.s (do_lst da_nil))))) (fun _ => tw_or1 (DC.t (dc_lt (de_lenSet T.bi hx (de_var 4 rfl) (by omega)) (de_lenL T.bi (DE.l (de_var 4 rfl)))))))) ?_) (fun h => ?_) (fun h => ?_)
  · rw [Bool.eq_iff_iff, Bool.or_eq_true, Bool.not_eq_true', Bool.not_eq_true', decide_eq_false_iff_not, decide_eq_false_iff_not, decide_eq_true_eq, List.length_map, List.length_map, List.filter_eq_nil_iff]
    have ho := oss_lt o
    constructor
    · rintro (h | h) ⟨g1, g2⟩
      · refine h fun n hn q => ?_
        have := (g1 n hn).2
        have := of_decide_eq_true q
        omega
      · exact ho.mp (by omega) g2
    · intro h
      by_cases g2 : o.Nodup
      · left
        intro q
        refine h ⟨fun n hn => ⟨h0 n hn, ?_⟩, g2⟩
        have := q n hn
        rw [decide_eq_true_eq] at this
        omega
      · right
        have := ho.mpr g2
        omega
  · rw [Bool.not_eq_true', decide_eq_false_iff_not] at h
    refine db_one (ds_ret (de_tup (da_cons de_str da_nil)) ?_)
    show drivenO y o 0 = .ok ordD
    unfold drivenO
    rw [if_neg h]
  · have hg : goodO y.stops.length o := by
      rw [Bool.not_eq_false'] at h
      exact of_decide_eq_true h
    have er : drivenO y o 0 = match runM y y.home y.start o with
        | none => .ok missD
        | some rows => .own (.lst (rows.map rowD)) := by
      unfold drivenO
      rw [if_pos hg, if_pos rfl]
      all_goals (cases runM y y.home y.start o <;> rfl)
    refine db_set hx 5 (de_var 1 rfl) ?_
    refine db_set hx 6 (de_var 2 rfl) ?_
    refine db_setO hx 7 (do_lst da_nil) ?_
    refine db_seq (fun δ' => ∃ rows z5 z6 z8 z9 z10 z11 z12 z13, δ' = [.sh y.road.d, .sh (.int y.home), .sh (.int y.start), .sh (.lst (y.stops.map Stop.d)), .sh (.lst (o.map .int)), z5, z6, .ow (.lst (rows.map rowD)), z8, z9, z10, z11, z12, z13] ∧ runM y y.home y.start o = some rows)
      (ds_for hx (fun n δ' => ∃ rows pl t z8 z9 z10 z11 z12 z13, δ' = [.sh y.road.d, .sh (.int y.home), .sh (.int y.start), .sh (.lst (y.stops.map Stop.d)), .sh (.lst (o.map .int)), .sh (.int pl), .sh (.int t), .ow (.lst (rows.map rowD)), z8, z9, z10, z11, z12, z13] ∧ rows.length = n ∧ y.road.has pl ∧ runM y y.home y.start o = (runM y pl t (o.drop n)).map (rows ++ ·))
        (di_list (de_var 4 rfl)) (dg_name hx.nd 8) (fun _ _ => trivial) ⟨[], y.home, y.start, _, _, _, _, _, _, rfl, rfl, hy.home, ?_⟩ (fun n d δ' hd hJ => ?_) fun δ' hJ => ?_) fun δ' hR => ?_
    · rw [List.drop_zero]
      simp
    · obtain ⟨rows, pl, t, z8, z9, z10, z11, z12, z13, rfl, hlen, hpl, hrun⟩ := hJ
      obtain ⟨z, rfl, hz⟩ := at_ord hd
      have hin := hg.1 z (List.mem_of_getElem? hz)
      have hst := hy.at_ok hin.1 hin.2
      have hlt : n < o.length := (List.getElem?_eq_some_iff.mp hz).1
      rw [drop_cons hz] at hrun
      refine db_cons (ds_asg (dg_4 hx 10 11 12 13) (de_ixL (DE.l (de_var 3 rfl)) (de_var 8 rfl) (at_stops hin.1 hin.2)) ⟨_, _, _, _, rfl⟩ ?_)
      refine db_set hx 9 (d := .int (t + apartM y.road pl (y.at z).p)) (DE.eq (de_add (de_var 6 rfl) (de_call F_far hx ((y.road, pl, (y.at z).p)) (da_cons (de_var 0 rfl) (da_cons (de_var 5 rfl) (da_cons (de_var 10 rfl) da_nil))) trivial rfl)) (by rw [far_apart hpl hst.hp])) ?_
      refine db_ifr (DC.t (dc_gt (de_max T.bi hx (de_var 9 rfl) (de_var 11 rfl)) (de_var 12 rfl))) (fun h => ?_) (fun h => ?_)
      · refine db_one (ds_ret (de_tup (da_cons de_str da_nil)) ?_)
        show drivenO y o 0 = .ok missD
        rw [er, hrun, show runM y pl t (z :: o.drop (n + 1)) = none from by unfold runM; rw [servedM_none (of_decide_eq_true h)]]
        rfl
      · have hs := servedM_some (y := y) (pl := pl) (t := t) (n := z) (of_decide_eq_false h)
        refine db_set hx 6 (de_add (de_max T.bi hx (de_var 9 rfl) (de_var 11 rfl)) (de_var 13 rfl)) ?_
        refine db_set hx 5 (de_var 10 rfl) ?_
        refine db_one (ds_append 7 rfl (de_tup (da_cons (de_var 9 rfl) (da_cons (de_max T.bi hx (de_var 9 rfl) (de_var 11 rfl)) (da_cons (de_var 6 rfl) da_nil)))) (by rw [List.length_map, sizeLine_eq]; omega) ⟨rows ++ [(t + apartM y.road pl (y.at z).p, maxI (t + apartM y.road pl (y.at z).p) (y.at z).o, maxI (t + apartM y.road pl (y.at z).p) (y.at z).o + (y.at z).s)], (y.at z).p, maxI (t + apartM y.road pl (y.at z).p) (y.at z).o + (y.at z).s, _, _, _, _, _, _, by rw [List.map_append]; rfl, by rw [List.length_append, hlen]; rfl, hst.hp, ?_⟩)
        rw [hrun]
        conv => lhs; unfold runM
        rw [hs]
        simp [Option.map_map, Function.comp_def]
    · obtain ⟨rows, pl, t, z8, z9, z10, z11, z12, z13, rfl, hlen, hpl, hrun⟩ := hJ
      refine ⟨rows, _, _, _, _, _, _, _, _, rfl, ?_⟩
      rw [hrun, List.length_map, List.drop_length]
      simp [runM]
    · obtain ⟨rows, z5, z6, z8, z9, z10, z11, z12, z13, rfl, hrun⟩ := hR
      refine db_one (ds_retV 7 rfl ?_)
      show drivenO y o 0 = _
      rw [er, hrun]
/-! #### what the answers are made of -/
theorem oD_tp (o : Option Int) : (oD o).tp = true := by cases o <;> rfl
theorem oD_cmp (o : Option Int) : Cmp (oD o) := by
  cases o with
  | none => exact .inl (PdN.non.mono (by decide))
  | some i => exact .inl ((PdN.int i).mono (by decide))
def chgOk : Out → Prop
  | .ok d => d.tp = true
  | .own (.lst _) => True
  | .own (.dic kvs) => ∃ t : Tb, kvs = tD t
  | .own _ => False
  | .tow l => ∃ d0 xs d2, l = [.st d0, .ow xs, .st d2] ∧ xs.length < 1000
  | .err _ => False
structure OutGood (out : Out) : Prop where
  fine : out.fine
  cmp : Cmp (outD out)
  chg : chgOk out
theorem good_ok {d : D} (h : d.tp = true) (c : Cmp d) : OutGood (.ok d) := ⟨h, c, h⟩
theorem good_ints (l : List Int) : OutGood (.own (.lst (l.map .int))) := ⟨tps_ints l, .inl ((PdN.ints l).mono (by decide)), True.intro⟩
theorem tup_tp {l : List Int} : (D.tup (l.map .int)).tp = true := tps_ints l
theorem strD_pd {s : Str} (h : PyData.strOk s = true) : Cmp (.tup [.str s]) := .inl (PdN.mono (PdN.tup (n := 1) fun d hd => by
  simp only [List.mem_cons, List.not_mem_nil, or_false] at hd
  subst hd
  exact .str h) (by decide))
theorem driven_good {y : DayR} (hy : y.ok) (o : List Int) (k : Int) : OutGood (drivenO y o k) := by
  unfold drivenO
  split
  · split
    · cases runM y y.home y.start o with
      | none => exact good_ok rfl (strD_pd (by decide +kernel))
      | some rows => exact ⟨tps_rows rows, .inl ((PdN.rows rows).mono (by decide)), True.intro⟩
    · split
      · cases runM y y.home y.start o with
        | none => exact good_ok rfl (strD_pd (by decide +kernel))
        | some rows => exact good_ok rfl (.inl ((PdN.int _).mono (by decide)))
      · split
        · exact ⟨tD_tp _, .inr ⟨_, rfl, (table_tab hy o).1.nd⟩, _, rfl⟩
        · exact good_ok (oD_tp _) (oD_cmp _)
  · exact good_ok rfl (strD_pd (by decide +kernel))
theorem answer_good {y : DayR} (hy : y.ok) (o : List Int) (k : Int) : OutGood (answerO y o k) := by
  unfold answerO
  split
  · exact driven_good hy o k
  · split
    · unfold bestOut
      cases leastB y [] with
      | none => exact good_ok rfl (.inl (PdN.non.mono (by decide)))
      | some e => exact good_ints _
    · split
      · unfold clashD
        cases leastB y [] with
        | some e => exact good_ok rfl (.inl (PdN.non.mono (by decide)))
        | none => exact good_ok tup_tp (.inl ((PdN.intsT _).mono (by decide)))
      · unfold toldOut
        cases hl : leastB y [] with
        | none =>
          have ec : clashD y = .tup ((clashM y).map .int) := by rw [clashD, hl]
          dsimp only
          rw [ec]
          exact good_ok (by simp [D.tp, tps, tps_ints]) (.inl ((PdN.clash _).mono (by decide)))
        | some e =>
          refine ⟨fun x hx => ?_, .inl ((PdN.tourA _ e).mono (by decide)), _, _, _, rfl, ?_⟩
          · simp only [List.mem_cons, List.not_mem_nil, or_false] at hx
            rcases hx with rfl | rfl | rfl
            · rfl
            · exact tps_ints _
            · rfl
          · obtain ⟨b1, b2, b3⟩ := best_ok hy hl y.stops.length (Nat.le_refl _)
            have := hy.few
            rw [List.length_map]
            omega
/-! #### changed -/
theorem DTW.eq {X : Cx} {B : Bs} {δ : DEnv} {e : Expr} {b b' : Bool} (h : DTW X C B δ e b) (q : b = b') : DTW X C B δ e b' := q ▸ h
theorem tp_isDay {d : D} (h : d.tp = true) : d.isDay = false := by cases d <;> first | rfl | cases h
theorem tp_list {d : D} (h : d.tp = true) : d.is "list" = false := by cases d <;> first | rfl | cases h
theorem tp_dict {d : D} (h : d.tp = true) : d.is "dict" = false := by cases d <;> first | rfl | cases h
theorem f_changed (T_changed : TopD K mg "_law_changed" s_changed ["_law_found"]) (T : Tx P w K mg C A) : FnC P w K mg base C 1 "_law_changed" ["_law_found"] chgOk := by
  obtain ⟨f, fd, F, hm, hb⟩ := T_changed.ex
  refine fn_c F hm hb sc_changed fun cdv A_ outer s H E B s0 out ho hp hx => ?_
  cases out with
  | ok d =>
    obtain rfl : s0 = .sh d := ho
    have hp : d.tp = true := hp
    have hday := tp_isDay hp
    refine db_cons (ds_if (b := false) (DT.eq (DTW.t (tw_or (DE.t (de_is (n := "list") T.bi (DE.w (de_var 0 rfl)) T.bi.list (by decide +kernel) (by decide) hday)) (fun hc9 => (tw_or1 (DE.t (de_is (n := "dict") T.bi (DE.w (de_var 0 rfl)) T.bi.dict (by decide +kernel) (by decide) hday)))))) (by rw [tp_list hp, tp_dict hp]; rfl)) (fun q => by cases q) (fun _ => db_nil ?_))
    refine db_one (ds_if (b := false) ?_ (fun q => by cases q) (fun _ => db_nil trivial))
    cases d with
    | tup l =>
      have hl : tps l = true := hp
      refine DT.eq (DTW.t (tw_and (m := false) (DE.t (de_is (n := "tuple") T.bi (DE.w (de_var 0 rfl)) T.bi.tuple (by decide +kernel) (by decide) hday)) (fun _ => ?_))) (by rw [Bool.and_false])
      by_cases h1 : 1 < l.length
      · have e1 : l[1]? = some l[1] := List.getElem?_eq_getElem h1
        have t1 := tps_all.mp hl _ (List.mem_of_getElem? e1)
        exact DTW.eq (tw_and (DC.t (dc_gt (de_lenT T.bi (de_var 0 rfl)) de_int)) (fun _ => tw_and1 (DE.t (de_is (n := "list") T.bi (DE.w (de_ixT (d := l[1]) (de_var 0 rfl) de_int (atI_get (by decide) (by omega) e1))) T.bi.list (by decide +kernel) (by decide) (tp_isDay t1))))) (by rw [tp_list t1, Bool.and_false])
      · exact DTW.eq (tw_and (m := true) (DC.t (dc_gt (de_lenT T.bi (de_var 0 rfl)) de_int)) (fun q => absurd (of_decide_eq_true q) (by omega))) (by rw [decide_eq_false (by omega)]; rfl)
    | non => exact DT.eq (DTW.t (tw_and (m := true) (DE.t (de_is (n := "tuple") T.bi (DE.w (de_var 0 rfl)) T.bi.tuple (by decide +kernel) (by decide) hday)) (fun z => nomatch (show (false : Bool) = true from z)))) (by rfl)
    | bl b => exact DT.eq (DTW.t (tw_and (m := true) (DE.t (de_is (n := "tuple") T.bi (DE.w (de_var 0 rfl)) T.bi.tuple (by decide +kernel) (by decide) hday)) (fun z => nomatch (show (false : Bool) = true from z)))) (by rfl)
    | int i => exact DT.eq (DTW.t (tw_and (m := true) (DE.t (de_is (n := "tuple") T.bi (DE.w (de_var 0 rfl)) T.bi.tuple (by decide +kernel) (by decide) hday)) (fun z => nomatch (show (false : Bool) = true from z)))) (by rfl)
    | str t => exact DT.eq (DTW.t (tw_and (m := true) (DE.t (de_is (n := "tuple") T.bi (DE.w (de_var 0 rfl)) T.bi.tuple (by decide +kernel) (by decide) hday)) (fun z => nomatch (show (false : Bool) = true from z)))) (by rfl)
    | lst l => cases hp
    | scr l => cases hp
    | day r i j l => cases hp
    | dic l => cases hp
  | own o =>
    obtain rfl : s0 = .ow o := ho
    cases o with
    | lst l =>
      refine db_seq (fun δ' => δ' = [.ow (.lst [])]) (ds_if (b := true) (DT.eq (DTW.t (tw_or (m := true) (DE.t (de_is (n := "list") T.bi (DL.w (dl_own 0 rfl)) T.bi.list (by decide +kernel) (by decide) rfl)) (fun q => nomatch (show (true : Bool) = false from q)))) (by rfl)) (fun _ => db_one (ds_clear 0 rfl rfl)) (fun q => by cases q)) fun δ' hδ => ?_
      subst hδ
      exact db_one (ds_if (b := false) (DT.eq (DTW.t (tw_and (m := true) (DE.t (de_is (n := "tuple") T.bi (DL.w (dl_own 0 rfl)) T.bi.tuple (by decide +kernel) (by decide) rfl)) (fun q => absurd q (by decide +kernel)))) (by decide +kernel)) (fun q => by cases q) (fun _ => db_nil trivial))
    | dic l =>
      obtain ⟨t, rfl⟩ : ∃ t : Tb, l = tD t := hp
      refine db_seq (fun δ' => δ' = [.ow (.dic (tD []))]) (ds_if (b := true) (DT.eq (DTW.t (tw_or (DE.t (de_is (n := "list") T.bi (DM.w (dm_own 0 rfl)) T.bi.list (by decide +kernel) (by decide) rfl)) (fun q => tw_or1 (DE.t (de_is (n := "dict") T.bi (DM.w (dm_own 0 rfl)) T.bi.dict (by decide +kernel) (by decide) rfl))))) (by rfl)) (fun _ => db_one (ds_clearD 0 rfl rfl)) (fun q => by cases q)) fun δ' hδ => ?_
      subst hδ
      exact db_one (ds_if (b := false) (DT.eq (DTW.t (tw_and (m := true) (DE.t (de_is (n := "tuple") T.bi (DM.w (dm_own 0 rfl)) T.bi.tuple (by decide +kernel) (by decide) rfl)) (fun q => absurd q (by decide +kernel)))) (by decide +kernel)) (fun q => by cases q) (fun _ => db_nil trivial))
    | seen l => exact False.elim hp
    | ins x l => exact False.elim hp
  | tow l =>
    obtain ⟨d0, xs, d2, rfl, hxs⟩ := hp
    obtain ⟨a, its, hn, rfl⟩ := ho
    cases hn with
    | st hn =>
      cases hn with
      | ow hn =>
        rename_i q m
        cases hn with
        | st hn =>
          cases hn
          refine db_cons (ds_if (b := false) (DT.eq (DTW.t (tw_or (DE.t (de_is (n := "list") T.bi (dw_nestT 0 rfl) T.bi.list (by decide +kernel) (by decide) rfl)) (fun q => tw_or1 (DE.t (de_is (n := "dict") T.bi (dw_nestT 0 rfl) T.bi.dict (by decide +kernel) (by decide) rfl))))) (by rfl)) (fun q => by cases q) (fun _ => db_nil ?_))
          refine db_one (ds_if (b := true) (DT.eq (DTW.t (tw_and (DE.t (de_is (n := "tuple") T.bi (dw_nestT 0 rfl) T.bi.tuple (by decide +kernel) (by decide) rfl)) (fun _ => tw_and (DC.t (dc_gt (dw_lenT T.bi (dw_nestT 0 rfl)) de_int)) (fun _ => tw_and1 (DE.t (de_is (n := "list") T.bi (dw_ixT (d := .lst xs) (dw_nestT 0 rfl) de_int rfl) T.bi.list (by decide +kernel) (by decide) rfl)))))) (by rfl)) (fun _ => db_one (ds_appendAt 0 rfl (by decide) rfl de_int (by rw [sizeLine_eq]; omega) trivial)) (fun q => by cases q))
  | err c => exact False.elim hp
/-! #### times_right -/
def pairD (y : DayR) : D := .tup [y.d, .lst (y.stops.map Stop.d)]
def LD (o : List Int) : D := .lst (o.map .int)
/-- the orders that are asked at the end -/
def ordsT (m : Int) : List D := [.lst (rng 0 m.toNat), .lst (rng 1 (m - 1).toNat), .lst (rng 0 m.toNat).reverse, .lst [.int 0, .int 0]] ++ (List.replicate (if decide (0 < m) = true then (1 : Int) else 0).toNat [D.lst [.int (m - 1)]]).flatten
theorem ordsT_ok {m : Int} (h : m ≤ 7) (d : D) (hd : d ∈ ordsT m) : ∃ o : List Int, d = LD o ∧ (∀ n ∈ o, 0 ≤ n) ∧ o.length ≤ 63 := by
  have key : ∀ (lo : Int) (k : Nat), 0 ≤ lo → k ≤ 7 → ∃ o : List Int, D.lst (rng lo k) = LD o ∧ (∀ n ∈ o, 0 ≤ n) ∧ o.length ≤ 63 := fun lo k h0 hk => by
    refine ⟨(List.range k).map fun i : Nat => lo + (i : Int), ?_, fun n hn => ?_, ?_⟩
    · unfold LD rng
      rw [List.map_map]
      rfl
    · obtain ⟨i, _, rfl⟩ := List.mem_map.mp hn
      omega
    · rw [List.length_map, List.length_range]
      omega
  unfold ordsT at hd
  rcases List.mem_append.mp hd with hd | hd
  · simp only [List.mem_cons, List.not_mem_nil, or_false] at hd
    rcases hd with rfl | rfl | rfl | rfl
    · exact key 0 _ (by decide) (by omega)
    · exact key 1 _ (by decide) (by omega)
    · obtain ⟨o, e, h1, h2⟩ := key 0 m.toNat (by decide) (by omega)
      refine ⟨o.reverse, ?_, fun n hn => h1 n (List.mem_reverse.mp hn), by rw [List.length_reverse]; exact h2⟩
      unfold LD at e ⊢
      injection e with e
      rw [e, List.map_reverse]
    · exact ⟨[0, 0], rfl, fun n hn => by
        simp only [List.mem_cons, List.not_mem_nil, or_false, or_self] at hn
        omega, by decide⟩
  · by_cases h0 : 0 < m
    · rw [decide_eq_true h0] at hd
      have : d = D.lst [.int (m - 1)] := by simpa using hd
      exact ⟨[m - 1], this, fun n hn => by
        rw [List.mem_singleton] at hn
        omega, by show 1 ≤ 63; decide⟩
    · rw [decide_eq_false h0] at hd
      simp at hd
abbrev FTimesR (P : Program) (w : World) (K : PySem.W.Frag) (mg : Str → Option Value) (base : Heap) (C : Addr) : Prop := FnD P w K mg base C 9 "_law_times_right" ["_law_road", "_law_home", "_law_start", "_law_pairs"] (fun a : Road × Int × Int × List DayR => [a.1.d, .int a.2.1, .int a.2.2.1, .lst (a.2.2.2.map pairD)]) (fun a => ∀ y ∈ a.2.2.2, y.ok ∧ y.road = a.1 ∧ y.home = a.2.1 ∧ y.start = a.2.2.1) (fun _ => .ok (.bl true))
theorem f_times_right (T_times_right : TopD K mg "_law_times_right" s_times_right ["_law_road", "_law_home", "_law_start", "_law_pairs"]) (T : Tx P w K mg C A) (F_driven : FDriven P w K mg base C) (F_due_times : FDue P w K mg base C) : FTimesR P w K mg base C := by
  obtain ⟨f, fd, F, hm, hb⟩ := T_times_right.ex
  refine fn_d F hm hb sc_times_right (by decide) fun cdv A_ outer s H E B a hp hx hB => ?_
  obtain ⟨r, h0, t0, ys⟩ := a
  dsimp only at hp ⊢
  refine db_seq (fun δ' => ∃ z4 z5 z6 z7 z8, δ' = [.sh r.d, .sh (.int h0), .sh (.int t0), .sh (.lst (ys.map pairD)), z4, z5, z6, z7, z8])
    (ds_for hx (fun n δ' => ∃ z4 z5 z6 z7 z8, δ' = [.sh r.d, .sh (.int h0), .sh (.int t0), .sh (.lst (ys.map pairD)), z4, z5, z6, z7, z8]) (di_list (de_var 3 rfl)) (dg_2 hx 4 5) (fun d hd => by
      obtain ⟨y, _, rfl⟩ := List.mem_map.mp hd
      exact ⟨_, _, rfl⟩) ⟨_, _, _, _, _, rfl⟩ (fun n d δ' hd hJ => ?_) fun δ' hJ => hJ) fun δ' hR => ?_
  · obtain ⟨z4, z5, z6, z7, z8, rfl⟩ := hJ
    obtain ⟨y, hy, rfl⟩ := List.mem_map.mp (List.mem_of_getElem? hd)
    obtain ⟨ho, rfl, rfl, rfl⟩ := hp y hy
    have h7 := ho.few
    show DB _ C B _ [.sh y.road.d, .sh (.int y.home), .sh (.int y.start), .sh (.lst (ys.map pairD)), .sh y.d, .sh (.lst (y.stops.map Stop.d)), z6, z7, z8] _
    refine db_set hx 6 (d := .int (y.stops.length : Int)) (DE.eq (de_lenL T.bi (DE.l (de_var 5 rfl))) (by rw [List.length_map])) ?_
    refine db_set hx 7 (DO.s (do_lst (da_cons (DO.s (do_listR1 T.bi hx (de_var 6 rfl) ⟨by omega, by omega⟩)) (da_cons (DO.s (do_listR2 T.bi hx de_int (de_var 6 rfl) ⟨by decide, by decide, by omega, by omega⟩)) (da_cons (DO.s (do_rev (DO.l (do_listR1 T.bi hx (de_var 6 rfl) ⟨by omega, by omega⟩)))) (da_cons (DO.s (do_lst (da_cons de_int (da_cons de_int da_nil)))) da_nil)))))) ?_
    refine db_one (ds_for hx (fun n δ' => ∃ z8, δ' = [.sh y.road.d, .sh (.int y.home), .sh (.int y.start), .sh (.lst (ys.map pairD)), .sh y.d, .sh (.lst (y.stops.map Stop.d)), .sh (.int (y.stops.length : Int)), .sh (.lst [.lst (rng 0 (y.stops.length : Int).toNat), .lst (rng 1 ((y.stops.length : Int) - 1).toNat), .lst (rng 0 (y.stops.length : Int).toNat).reverse, .lst [.int 0, .int 0]]), z8])
      (di_list (l := ordsT (y.stops.length : Int)) (DO.s (do_cat (DE.l (de_var 7 rfl)) (DO.l (do_rep (DO.l (do_lst (da_cons (DO.s (do_lst (da_cons (de_sub (de_var 6 rfl) de_int) da_nil))) da_nil))) (de_intB T.bi (DC.v (dc_gt (de_var 6 rfl) de_int))) (by split <;> decide) (by split <;> decide) (small (by split <;> exact Nat.le_of_ble_eq_true rfl)))) (small (by split <;> exact Nat.le_of_ble_eq_true rfl))))) (dg_name hx.nd 8) (fun _ _ => trivial) ⟨_, rfl⟩ (fun n2 d2 δ' hd2 hJ => ?_) fun δ' hJ => ?_)
    · obtain ⟨z8, rfl⟩ := hJ
      obtain ⟨o, rfl, o1, o2⟩ := ordsT_ok (by omega) d2 (List.mem_of_getElem? hd2)
      have g := driven_good ho o 0
      exact db_ifr (DC.t (dc_neC hx (DE.w (DR.s (dr_call F_driven hx (y, o, 0) (da_cons (de_var 4 rfl) (da_cons (de_var 8 rfl) (da_cons de_int da_nil))) ⟨ho, o2⟩ g.fine) g.fine)) (DE.w (DR.s (dr_call F_due_times hx (y, o) (da_cons (de_var 0 rfl) (da_cons (de_var 1 rfl) (da_cons (de_var 2 rfl) (da_cons (de_var 5 rfl) (da_cons (de_var 8 rfl) da_nil))))) ⟨ho, o1, o2⟩ g.fine) g.fine)) g.cmp)) (fun q => (by cases q)) (fun _ => db_nil ⟨_, rfl⟩)
    · obtain ⟨z8, rfl⟩ := hJ
      exact ⟨_, _, _, _, _, rfl⟩
  · obtain ⟨z4, z5, z6, z7, z8, rfl⟩ := hR
    exact db_one (ds_ret de_bl rfl)
abbrev s_law : Stmt := top 60
theorem sc_law : FnScope ["_law_script", "_law_road", "_law_home", "_law_start", "_law_stops", "_law_others", "_law_handed", "_law_days", "_law_held", "_law_one_list", "_law_k", "_law_pairs", "_law_cell", "_law_order_here", "_law_anew", "_law_due", "_law_found", "_law_one", "_law_other"] ["_law_script"] (defScope s_law) := ⟨rfl, rfl, rfl, by decide +kernel, rfl, by decide +kernel, by decide +kernel⟩
/-! #### the law -/
theorem at_back {y : DayR} {z : Int} (h0 : 0 ≤ z) (h : z < (y.stops.length : Int)) : atI (y.stops.map Stop.d) (-1 - z) = some (y.at ((y.stops.length : Int) - 1 - z)).d := by
  have := at_stops (y := y) (n := (y.stops.length : Int) - 1 - z) (by omega) (by omega)
  rw [← this]
  unfold atI
  have e : L2.ixN (y.stops.map Stop.d).length (-1 - z) = L2.ixN (y.stops.map Stop.d).length ((y.stops.length : Int) - 1 - z) := by
    unfold L2.ixN
    rw [List.length_map, if_neg (by omega), if_pos (by omega), if_pos (by omega), if_pos (by omega)]
    congr 2
    omega
  rw [e]
theorem sel2 {α : Type} (a b : α) (i : Int) (h : i = 0 ∨ i = 1) : atI [a, b] i = some (if i = 0 then a else b) := by
  rcases h with rfl | rfl <;> rfl
def pr2 (d : D) : D := .tup [d, d]
theorem f_law (T_law : TopD K mg "law" s_law ["_law_script"]) (T : Tx P w K mg C A) (F_cell_at : FCell P w K mg base C)
    (F_road_by : FnD P w K mg base C 2 "_law_road_by" ["_law_cell"] (fun c : Int => [.int c]) (fun _ => True) (fun c => .ok (roadBy c).d))
    (F_place_by : FPlaceBy P w K mg base C) (F_start_by : FnD P w K mg base C 2 "_law_start_by" ["_law_road", "_law_cell"] (fun a : Road × Int => [a.1.d, .int a.2]) (fun a => a.1.ok) (fun a => .ok (.int (startBy a.1 a.2))))
    (F_stops_by : FStopsBy P w K mg base C) (F_many : FMany P w K mg base C) (F_day : FDay P w K mg base C) (F_written : FWritten P w K mg base C) (F_read : FRead P w K mg base C A) (F_order : FOrderO P w K mg base C) (F_answer : FAnswer P w K mg base C)
    (F_changed : FnC P w K mg base C 1 "_law_changed" ["_law_found"] chgOk) (F_times_right : FTimesR P w K mg base C) :
    FnD P w K mg base C 12 "law" ["_law_script"] (fun ns : List Int => [.scr (ns.map .int)]) (fun ns => ns.length ≤ 63) (fun _ => .ok (.bl true)) := by
  obtain ⟨f, fd, F, hm, hb⟩ := T_law.ex
  refine fn_d F hm hb sc_law (by decide) fun cdv A_ outer s H E B ns hp hx hB => ?_
  have hp : ns.length ≤ 63 := hp
  have h0 := manyBy14_ok (cellAt ns 3)
  obtain ⟨y, hy, h6, e⟩ : ∃ y : DayR, y.ok ∧ y.stops.length ≤ 6 ∧ y = ⟨roadBy (cellAt ns 0), placeBy (roadBy (cellAt ns 0)) (cellAt ns 1), startBy (roadBy (cellAt ns 0)) (cellAt ns 2), stopsBy (roadBy (cellAt ns 0)) (startBy (roadBy (cellAt ns 0)) (cellAt ns 2)) ns (manyBy14 (cellAt ns 3))⟩ := by
    refine ⟨_, ⟨roadBy_ok _, placeBy_ok (roadBy_ok _) _, startBy_ok (roadBy_ok _) _, ?_, fun s hs => ?_⟩, ?_, rfl⟩
    · show (stopsBy _ _ _ _).length ≤ 7
      rw [stopsBy_len]
      omega
    · obtain ⟨k, _, rfl⟩ := List.mem_map.mp hs
      exact stopBy_ok (roadBy_ok _) (startBy_ok (roadBy_ok _) _) _ _
    · show (stopsBy _ _ _ _).length ≤ 6
      rw [stopsBy_len]
      omega
  refine db_set hx 1 (de_call F_road_by hx (cellAt ns 0) (da_cons (de_call F_cell_at hx ((ns, 0)) (da_cons (de_var 0 rfl) (da_cons de_int da_nil)) hp rfl) da_nil) trivial rfl) ?_
  refine db_set hx 2 (de_call F_place_by hx ((roadBy (cellAt ns 0), cellAt ns 1)) (da_cons (de_var 1 rfl) (da_cons (de_call F_cell_at hx ((ns, 1)) (da_cons (de_var 0 rfl) (da_cons de_int da_nil)) hp rfl) da_nil)) (roadBy_ok _) rfl) ?_
  refine db_set hx 3 (de_call F_start_by hx ((roadBy (cellAt ns 0), cellAt ns 2)) (da_cons (de_var 1 rfl) (da_cons (de_call F_cell_at hx ((ns, 2)) (da_cons (de_var 0 rfl) (da_cons de_int da_nil)) hp rfl) da_nil)) (roadBy_ok _) rfl) ?_
  refine db_set hx 4 (DO.s (do_call F_stops_by hx ((roadBy (cellAt ns 0), startBy (roadBy (cellAt ns 0)) (cellAt ns 2), ns, manyBy14 (cellAt ns 3))) (da_cons (de_var 1 rfl) (da_cons (de_var 3 rfl) (da_cons (de_var 0 rfl) (da_cons (de_call F_many hx (cellAt ns 3) (da_cons (de_call F_cell_at hx ((ns, 3)) (da_cons (de_var 0 rfl) (da_cons de_int da_nil)) hp rfl) da_nil) trivial rfl) da_nil)))) (⟨roadBy_ok _, hp, h0.1, by show manyBy14 (cellAt ns 3) ≤ 63; omega⟩) rfl)) ?_
  have e1 : roadBy (cellAt ns 0) = y.road := by rw [e]
  have e2 : placeBy (roadBy (cellAt ns 0)) (cellAt ns 1) = y.home := by rw [e]
  have e3 : startBy (roadBy (cellAt ns 0)) (cellAt ns 2) = y.start := by rw [e]
  have e4 : stopsBy (roadBy (cellAt ns 0)) (startBy (roadBy (cellAt ns 0)) (cellAt ns 2)) ns (manyBy14 (cellAt ns 3)) = y.stops := by rw [e]
  dsimp only
  rw [e4, e3, e2, e1]
  clear e e1 e2 e3 e4 h0
  have em : ((y.stops.map Stop.d).length : Int) = (y.stops.length : Int) := by rw [List.length_map]
  obtain ⟨y1, hy1, r1, r2, r3, r4, ey⟩ : ∃ y1 : DayR, y1.ok ∧ y1.road = y.road ∧ y1.home = y.home ∧ y1.start = y.start ∧ y1.stops.length ≤ 6 ∧ y1.stops = (upTo (y.stops.length : Int)).map fun k => y.at ((y.stops.length : Int) - 1 - k) := by
    refine ⟨⟨y.road, y.home, y.start, (upTo (y.stops.length : Int)).map fun k => y.at ((y.stops.length : Int) - 1 - k)⟩, ⟨hy.road, hy.home, hy.start, ?_, fun s hs => ?_⟩, rfl, rfl, rfl, ?_, rfl⟩
    · show (List.map _ _).length ≤ 7
      rw [List.length_map, upTo_len]
      omega
    · obtain ⟨k, hk, rfl⟩ := List.mem_map.mp hs
      have := mem_upTo.mp hk
      exact hy.at_ok (by omega) (by omega)
    · show (List.map _ _).length ≤ 6
      rw [List.length_map, upTo_len]
      omega
  have e0 : rng 0 (y.stops.length : Int).toNat = (upTo (y.stops.length : Int)).map .int := rng_upTo _
  have ell : lcD (rng 0 (y.stops.length : Int).toNat) (fun _ => true) (onI fun k => (y.at ((y.stops.length : Int) - 1 - k)).d) = y1.stops.map Stop.d := by
    rw [e0, lcD_ints, ey, List.map_map]
    rfl
  refine db_cons (ds_setLc (x := "_law_k") hx 10 5 (l := rng 0 (y.stops.length : Int).toNat) (onI fun k => (y.at ((y.stops.length : Int) - 1 - k)).d) (di_r1 T.bi (DE.eq (de_lenL T.bi (DE.l (de_var 4 rfl))) (congrArg D.int em)) ⟨by omega, by omega⟩) (blkOk_by (own := [("_law_k", 10)]) (N := ["_law_script", "_law_road", "_law_home", "_law_start", "_law_stops", "_law_others", "_law_handed", "_law_days", "_law_held", "_law_one_list", "_law_k", "_law_pairs", "_law_cell", "_law_order_here", "_law_anew", "_law_due", "_law_found", "_law_one", "_law_other"]) (sc := defScope s_law) (by decide +kernel)) (fun _ _ _ _ _ => pg_name (i := 10) hx.nd rfl (Or.inl rfl)) df_nil (fun n d hd _ s' H' C0 cl fp hx => by
    rw [e0] at hd
    obtain ⟨z, rfl, hz⟩ := at_ord hd
    have := mem_upTo.mp (List.mem_of_getElem? hz)
    exact (de_ixL (DE.l (de_var 4 rfl)) (de_sub (de_neg de_int) (de_var 10 rfl)) (at_back this.1 this.2))) (by rw [e0, List.length_map, upTo_len]; exact small (by omega)) ?_)
  rw [ell]
  refine db_pub 5 rfl ?_
  refine db_cons (ds_setLL hx 6 (do_listL T.bi (DE.l (de_var 4 rfl))) (do_listL T.bi (DE.l (de_var 5 rfl))) (fun c q r => ?_))
  refine db_setO hx 7 (do_lst (da_cons (de_dayL F_day hx y (dal_cons (de_var 1 rfl) (dal_cons (de_var 2 rfl) (dal_cons (de_var 3 rfl) (dal_one (dw_ixL (dw_nestL 6 rfl) de_int rfl))))) hy rfl) (da_cons (de_dayL F_day hx y1 (dal_cons (DE.eq (de_var 1 rfl) (by rw [r1])) (dal_cons (DE.eq (de_var 2 rfl) (by rw [r2])) (dal_cons (DE.eq (de_var 3 rfl) (by rw [r3])) (dal_one (dw_ixL (dw_nestL 6 rfl) de_int rfl))))) hy1 rfl) da_nil))) ?_
  show DB _ C B _ [.sh (.scr (ns.map .int)), .sh y.road.d, .sh (.int y.home), .sh (.int y.start), .sh (.lst (y.stops.map Stop.d)), .sh (.lst (y1.stops.map Stop.d)), .nest c true [.ow q (y.stops.map Stop.d), .ow r (y1.stops.map Stop.d)], .ow (.lst [y.d, y1.d]), .un, .un, .un, .un, .un, .un, .un, .un, .un, .un, .un] _
  refine db_if (fun δ' => δ' = [.sh (.scr (ns.map .int)), .sh y.road.d, .sh (.int y.home), .sh (.int y.start), .sh (.lst (y.stops.map Stop.d)), .sh (.lst (y1.stops.map Stop.d)), .nest c true [.ow q (y.stops.map Stop.d), .ow r (y1.stops.map Stop.d)], .ow (.lst [y.d, y1.d]), .un, .un, .un, .un, .un, .un, .un, .un, .un, .un, .un]) (DC.t (dc_eqI (de_mod (de_call F_cell_at hx ((ns, 43)) (da_cons (de_var 0 rfl) (da_cons de_int da_nil)) hp rfl) de_int) de_int)) (fun _ => ?_) (fun _ => db_nil rfl) fun δ' hδ => ?_
  · obtain ⟨yi, j, hyi, h7, a1, a2, a3⟩ : ∃ (yi : DayR) (j : Nat), yi.ok ∧ yi.stops.length ≤ 6 ∧ atI [y.d, y1.d] (cellAt ns 43 / 2 % 2) = some yi.d ∧ L2.ixN [y.d, y1.d].length (cellAt ns 43 / 2 % 2) = some j ∧ [y.d, y1.d].set j yi.d = [y.d, y1.d] := by
      have : cellAt ns 43 / 2 % 2 = 0 ∨ cellAt ns 43 / 2 % 2 = 1 := by omega
      rcases this with e | e <;> rw [e]
      · exact ⟨y, 0, hy, h6, rfl, rfl, rfl⟩
      · exact ⟨y1, 1, hy1, r4, rfl, rfl, rfl⟩
    have hs := hyi.small
    obtain ⟨b1, b2, b3⟩ := text_big hs (by omega)
    refine db_one (ds_putL 7 rfl (de_mod (de_fdiv (de_call F_cell_at hx ((ns, 43)) (da_cons (de_var 0 rfl) (da_cons de_int da_nil)) hp rfl) de_int) de_int) a2 (de_call F_read hx (dayText yi) (da_cons (de_call F_written hx yi (da_cons (de_ixL (dl_own 7 rfl) (de_mod (de_fdiv (de_call F_cell_at hx ((ns, 43)) (da_cons (de_var 0 rfl) (da_cons de_int da_nil)) hp rfl) de_int) de_int) a1) da_nil) (⟨hs, by omega⟩) rfl) da_nil) (⟨(by omega), fun y' h' => (by rw [read_back hs] at h'; cases h'; exact hyi)⟩) ((show readOut A (dayText yi) = .ok yi.d by unfold readOut; rw [read_back hs]))) ?_)
    rw [a3]
    rfl
  subst hδ
  refine db_cons (ds_clearAt 6 rfl (by decide) rfl ?_)
  refine db_cons (ds_appendAt 6 rfl (by decide) rfl (de_tup (da_cons de_int (da_cons de_int (da_cons de_int (da_cons de_int da_nil))))) (by rw [List.length_map, sizeLine_eq]; omega) ?_)
  refine db_pub 7 rfl ?_
  refine db_setO hx 8 (do_lst da_nil) ?_
  refine db_setO hx 9 (do_lst da_nil) ?_
  show DB _ C B _ [.sh (.scr (ns.map .int)), .sh y.road.d, .sh (.int y.home), .sh (.int y.start), .sh (.lst (y.stops.map Stop.d)), .sh (.lst (y1.stops.map Stop.d)), .nest c true [.ow q [], .ow r (y1.stops.map Stop.d ++ [.tup [.int 0, .int 0, .int 0, .int 0]])], .sh (.lst [y.d, y1.d]), .ow (.lst []), .ow (.lst []), .un, .un, .un, .un, .un, .un, .un, .un, .un] _
  generalize hhd : Sl.nest c true _ = hand
  refine db_seq (fun δ' => ∃ (ds : List D) (z9 z10 z12 z13 z14 z15 z16 : Sl), δ' = [.sh (.scr (ns.map .int)), .sh y.road.d, .sh (.int y.home), .sh (.int y.start), .sh (.lst (y.stops.map Stop.d)), .sh (.lst (y1.stops.map Stop.d)), hand, .sh (.lst [y.d, y1.d]), .ow (.lst (ds.map pr2)), z9, z10, .un, z12, z13, z14, z15, z16, .un, .un] ∧ ∀ d ∈ ds, Cmp d)
    (ds_for hx (fun n δ' => ∃ (ds : List D) (ol : List Int) (z10 z12 z13 z14 z15 z16 : Sl), δ' = [.sh (.scr (ns.map .int)), .sh y.road.d, .sh (.int y.home), .sh (.int y.start), .sh (.lst (y.stops.map Stop.d)), .sh (.lst (y1.stops.map Stop.d)), hand, .sh (.lst [y.d, y1.d]), .ow (.lst (ds.map pr2)), .ow (.lst (ol.map .int)), z10, .un, z12, z13, z14, z15, z16, .un, .un] ∧ (∀ d ∈ ds, Cmp d) ∧ ds.length ≤ n)
      (di_r1 (m := 2 + cellAt ns 28 % 6) T.bi (de_add de_int (de_mod (de_call F_cell_at hx ((ns, 28)) (da_cons (de_var 0 rfl) (da_cons de_int da_nil)) hp rfl) de_int)) ⟨by omega, by omega⟩) (dg_name hx.nd 10) (fun _ _ => trivial) ⟨[], [], _, _, _, _, _, _, rfl, (fun _ h => (by cases h)), Nat.le_refl _⟩ (fun n d δ' hd hJ => ?_) fun δ' hJ => ?_) fun δ' hR => ?_
  · obtain ⟨ds, ol, z10, z12, z13, z14, z15, z16, rfl, hds, hdl⟩ := hJ
    rw [rng_upTo] at hd
    obtain ⟨z, rfl, hz⟩ := at_ord hd
    obtain ⟨rfl, hlt⟩ := upTo_get hz
    have hn10 : n ≤ 10 := by omega
    refine db_set hx 12 (de_call F_cell_at hx ((ns, 29 + 2 * (n : Int))) (da_cons (de_var 0 rfl) (da_cons (de_add de_int (de_mul de_int (de_var 10 rfl) (.inl ⟨by decide, by decide⟩))) da_nil)) hp rfl) ?_
    dsimp only
    generalize cellAt ns (29 + 2 * (n : Int)) = cl
    refine db_set hx 13 (DO.s (do_call F_order hx ((ns, ((y.stops.map Stop.d).length : Int), 30 + 2 * (n : Int))) (da_cons (de_var 0 rfl) (da_cons (de_lenL T.bi (DE.l (de_var 4 rfl))) (da_cons (de_add de_int (de_mul de_int (de_var 10 rfl) (.inl ⟨by decide, by decide⟩))) da_nil))) (⟨hp, (by show 0 ≤ ((y.stops.map Stop.d).length : Int); omega), (by show ((y.stops.map Stop.d).length : Int) ≤ 60; rw [List.length_map]; omega)⟩) rfl)) ?_
    dsimp only
    have hol : (orderO (cellAt ns (30 + 2 * (n : Int))) ((y.stops.map Stop.d).length : Int)).length ≤ 6 := by
      have := orderO_len (c := cellAt ns (30 + 2 * (n : Int))) (m := ((y.stops.map Stop.d).length : Int)) (by omega)
      omega
    generalize orderO (cellAt ns (30 + 2 * (n : Int))) ((y.stops.map Stop.d).length : Int) = o at hol ⊢
    refine db_if (fun δ' => ∃ o' : List Int, δ' = [.sh (.scr (ns.map .int)), .sh y.road.d, .sh (.int y.home), .sh (.int y.start), .sh (.lst (y.stops.map Stop.d)), .sh (.lst (y1.stops.map Stop.d)), hand, .sh (.lst [y.d, y1.d]), .ow (.lst (ds.map pr2)), .ow (.lst (ol.map .int)), .sh (.int (n : Int)), .un, .sh (.int cl), .sh (.lst (o'.map .int)), z14, z15, z16, .un, .un] ∧ o'.length ≤ 10) (DC.t (dc_eqI (de_mod (de_fdiv (de_var 12 rfl) de_int) de_int) de_int)) (fun _ => ?_) (fun _ => db_nil ⟨o, rfl, by omega⟩) fun δ' hδ => ?_
    · cases o with
      | nil => exact db_one (ds_set hx 13 (DO.s (do_cat (DE.l (de_var 13 rfl)) (DO.l (do_lst (da_cons (de_ife (d := .int ((y.stops.map Stop.d).length : Int)) (DC.t (dc_gt (de_lenL T.bi (DE.l (de_var 13 rfl))) de_int)) (fun q => absurd q (by decide)) (fun _ => (de_lenL T.bi (DE.l (de_var 4 rfl))))) da_nil))) (small (Nat.le_of_ble_eq_true rfl)))) ⟨[((y.stops.map Stop.d).length : Int)], rfl, Nat.le_of_ble_eq_true rfl⟩)
      | cons a o =>
        rw [List.length_cons] at hol
        exact db_one (ds_set hx 13 (DO.s (do_cat (DE.l (de_var 13 rfl)) (DO.l (do_lst (da_cons (de_ife (d := .int a) (DC.t (dc_gt (de_lenL T.bi (DE.l (de_var 13 rfl))) de_int)) (fun _ => (de_ixL (DE.l (de_var 13 rfl)) de_int (atI_get (by decide) (by rw [List.length_map, List.length_cons]; omega) rfl))) (fun q => absurd (of_decide_eq_false q) (by rw [List.length_map, List.length_cons]; omega))) da_nil))) (small (by rw [List.length_map, List.length_cons]; show _ + 1 ≤ _; omega)))) ⟨a :: o ++ [a], by rw [List.map_append]; rfl, by rw [List.length_append, List.length_cons]; show _ + 1 ≤ _; omega⟩)
    obtain ⟨o', rfl, hol'⟩ := hδ
    clear hol o
    obtain ⟨ya, hya, q1, q2, q3, a1, a2⟩ : ∃ ya : DayR, ya.ok ∧ ya.road = y.road ∧ ya.home = y.home ∧ ya.start = y.start ∧ atI [D.lst (y.stops.map Stop.d), .lst (y1.stops.map Stop.d)] (cl % 2) = some (.lst (ya.stops.map Stop.d)) ∧ atI [y.d, y1.d] (cl % 2) = some ya.d := by
      have : cl % 2 = 0 ∨ cl % 2 = 1 := by omega
      rcases this with e | e <;> rw [e]
      · exact ⟨y, hy, rfl, rfl, rfl, rfl, rfl⟩
      · exact ⟨y1, hy1, r1, r2, r3, rfl, rfl⟩
    have ha := answer_good hya o' (cl / 2 % 7)
    have a3 : atI [D.lst ([] ++ o'.map .int), .lst (o'.map .int)] (cellAt ns 45 % 2) = some (.lst (o'.map .int)) := by
      have : cellAt ns 45 % 2 = 0 ∨ cellAt ns 45 % 2 = 1 := by omega
      rcases this with e | e <;> rw [e] <;> rfl
    refine db_set hx 14 (d := ya.d) (de_day F_day hx ya (da_cons (DE.eq (de_var 1 rfl) ((by rw [q1]))) (da_cons (DE.eq (de_var 2 rfl) ((by rw [q2]))) (da_cons (DE.eq (de_var 3 rfl) ((by rw [q3]))) (da_cons (DO.s (do_listL T.bi (DE.l (de_ixL (DO.l (do_lst (da_cons (de_var 4 rfl) (da_cons (de_var 5 rfl) da_nil)))) (de_mod (de_var 12 rfl) de_int) a1)))) da_nil)))) hya rfl) ?_
    refine db_set hx 15 (DR.s (dr_call F_answer hx (ya, o', cl / 2 % 7) (da_cons (de_var 14 rfl) (da_cons (DO.s (do_listL T.bi (DE.l (de_var 13 rfl)))) (da_cons (de_mod (de_fdiv (de_var 12 rfl) de_int) de_int) da_nil))) ⟨hya, (by show o'.length ≤ 63; omega)⟩ ha.fine) ha.fine) ?_
    refine db_cons (ds_clear 9 rfl ?_)
    refine db_cons (ds_extend 9 rfl (DE.l (de_var 13 rfl)) (small (by rw [List.length_map]; show 0 + _ ≤ _; omega)) ?_)
    dsimp only
    by_cases h44 : cellAt ns 44 % 2 = 0
    · refine db_set hx 16 (DR.s (dr_callW F_answer hx (ya, o', cl / 2 % 7) (dw_cons (DE.w (de_ixL (DE.l (de_var 7 rfl)) (de_mod (de_var 12 rfl) de_int) a2)) (dw_cons (dw_ixL (dw_lst (dw_cons (DL.w (dl_own 9 rfl)) (dw_cons (DE.w (DO.s (do_listL T.bi (DE.l (de_var 13 rfl))))) dw_nil))) (de_mod (de_call F_cell_at hx ((ns, 45)) (da_cons (de_var 0 rfl) (da_cons de_int da_nil)) hp rfl) de_int) a3) (dw_cons (DE.w (de_mod (de_fdiv (de_var 12 rfl) de_int) de_int)) dw_nil))) ⟨hya, (by show o'.length ≤ 63; omega)⟩ ha.fine) ha.fine) ?_
      refine db_ifr (DC.t (dc_neC hx (DE.w (de_var 16 rfl)) (DE.w (de_var 15 rfl)) ha.cmp)) (fun q => (by cases q)) (fun _ => ?_)
      refine db_one (ds_if (DC.t (dc_eqI (de_mod (de_call F_cell_at hx ((ns, 44)) (da_cons (de_var 0 rfl) (da_cons de_int da_nil)) hp rfl) de_int) de_int)) (fun _ => ?_) (fun q => absurd h44 (of_decide_eq_false q)))
      refine db_one (ds_append 8 rfl (de_tup (da_cons (de_var 16 rfl) (da_cons (de_var 15 rfl) da_nil))) (by rw [List.length_map, sizeLine_eq]; omega) ⟨ds ++ [outD (answerO ya o' (cl / 2 % 7))], o', _, _, _, _, _, _, by rw [List.map_append]; rfl, fun d hd => ?_, by rw [List.length_append]; show _ + 1 ≤ _; omega⟩)
      rcases List.mem_append.mp hd with hd | hd
      · exact hds d hd
      · rw [List.mem_singleton] at hd
        subst hd
        exact ha.cmp
    · refine db_cons (ds_setR hx 16 (dr_callW F_answer hx (ya, o', cl / 2 % 7) (dw_cons (DE.w (de_ixL (DE.l (de_var 7 rfl)) (de_mod (de_var 12 rfl) de_int) a2)) (dw_cons (dw_ixL (dw_lst (dw_cons (DL.w (dl_own 9 rfl)) (dw_cons (DE.w (DO.s (do_listL T.bi (DE.l (de_var 13 rfl))))) dw_nil))) (de_mod (de_call F_cell_at hx ((ns, 45)) (da_cons (de_var 0 rfl) (da_cons de_int da_nil)) hp rfl) de_int) a3) (dw_cons (DE.w (de_mod (de_fdiv (de_var 12 rfl) de_int) de_int)) dw_nil))) ⟨hya, (by show o'.length ≤ 63; omega)⟩ ha.fine) ha.fine (fun sl hsl => ?_))
      refine db_ifr (DC.t (dc_neC hx (dw_out 16 rfl hsl ha.fine) (DE.w (de_var 15 rfl)) ha.cmp)) (fun q => (by cases q)) (fun _ => ?_)
      refine db_one (ds_if (DC.t (dc_eqI (de_mod (de_call F_cell_at hx ((ns, 44)) (da_cons (de_var 0 rfl) (da_cons de_int da_nil)) hp rfl) de_int) de_int)) (fun q => absurd (of_decide_eq_true q) h44) (fun _ => ?_))
      exact db_one (ds_changed F_changed hx 16 rfl hsl ha.chg ⟨ds, o', _, _, _, _, _, _, rfl, hds, by omega⟩)
  · obtain ⟨ds, ol, z10, z12, z13, z14, z15, z16, rfl, hds, _⟩ := hJ
    exact ⟨ds, _, _, _, _, _, _, _, rfl, hds⟩
  · obtain ⟨ds, z9, z10, z12, z13, z14, z15, z16, rfl, hds⟩ := hR
    refine db_pub 8 rfl ?_
    refine db_seq (fun δ' => ∃ (z17 z18 : Sl), δ' = [.sh (.scr (ns.map .int)), .sh y.road.d, .sh (.int y.home), .sh (.int y.start), .sh (.lst (y.stops.map Stop.d)), .sh (.lst (y1.stops.map Stop.d)), hand, .sh (.lst [y.d, y1.d]), .sh (.lst (ds.map pr2)), z9, z10, .un, z12, z13, z14, z15, z16, z17, z18])
      (ds_for hx (fun n δ' => ∃ (z17 z18 : Sl), δ' = [.sh (.scr (ns.map .int)), .sh y.road.d, .sh (.int y.home), .sh (.int y.start), .sh (.lst (y.stops.map Stop.d)), .sh (.lst (y1.stops.map Stop.d)), hand, .sh (.lst [y.d, y1.d]), .sh (.lst (ds.map pr2)), z9, z10, .un, z12, z13, z14, z15, z16, z17, z18]) (di_list (de_var 8 rfl)) (dg_2 hx 17 18) (fun d hd => by
        obtain ⟨x, _, rfl⟩ := List.mem_map.mp hd
        exact ⟨_, _, rfl⟩) ⟨_, _, rfl⟩ (fun n d δ' hd hJ => ?_) fun δ' hJ => hJ) fun δ' hR => ?_
    · obtain ⟨z17, z18, rfl⟩ := hJ
      obtain ⟨x, hxd, rfl⟩ := List.mem_map.mp (List.mem_of_getElem? hd)
      show DB _ C B _ [.sh (.scr (ns.map .int)), .sh y.road.d, .sh (.int y.home), .sh (.int y.start), .sh (.lst (y.stops.map Stop.d)), .sh (.lst (y1.stops.map Stop.d)), hand, .sh (.lst [y.d, y1.d]), .sh (.lst (ds.map pr2)), z9, z10, .un, z12, z13, z14, z15, z16, .sh x, .sh x] _
      exact db_ifr (DC.t (dc_neC hx (DE.w (de_var 17 rfl)) (DE.w (de_var 18 rfl)) (hds x hxd))) (fun q => (by cases q)) (fun _ => db_nil ⟨_, _, rfl⟩)
    · obtain ⟨z17, z18, rfl⟩ := hR
      refine db_set hx 11 (d := .lst ([y, y1].map pairD)) (DO.s (do_lst (da_cons (de_tup (da_cons (de_ixL (DE.l (de_var 7 rfl)) de_int rfl) (da_cons (de_var 4 rfl) da_nil))) (da_cons (de_tup (da_cons (de_ixL (DE.l (de_var 7 rfl)) de_int rfl) (da_cons (de_var 5 rfl) da_nil))) da_nil)))) ?_
      refine db_one (ds_ret (de_and (de_call F_times_right hx ((y.road, y.home, y.start, [y, y1])) (da_cons (de_var 1 rfl) (da_cons (de_var 2 rfl) (da_cons (de_var 3 rfl) (da_cons (de_var 11 rfl) da_nil)))) ((fun z hz => ?_)) rfl) (fun hc10 => (de_and (DC.v (dc_eqSame hx (DE.w (de_stops T.day (de_ixL (DE.l (de_var 7 rfl)) de_int rfl))) (DE.w (de_var 4 rfl)) (PdN.stops y.stops))) (fun hc11 => (de_one (DC.v (dc_eqSame hx (DE.w (de_stops T.day (de_ixL (DE.l (de_var 7 rfl)) de_int rfl))) (DE.w (de_var 5 rfl)) (PdN.stops y1.stops)))))))) rfl)
      simp only [List.mem_cons, List.not_mem_nil, or_false] at hz
      rcases hz with rfl | rfl
      · exact ⟨hy, rfl, rfl, rfl⟩
      · exact ⟨hy1, r1, r2, r3⟩
/-! ### the end -/
theorem topd {h : Heap} {x : Str} {st : Stmt} {ps : List Str} {f : Addr} {od an : Option Addr} {sl : Array (Option Value)} {oc kV dc pm cd ct : Value} (X : K.In h) (G : h.Ns mainGlobals mg)
    (a : PySem.W.nsIn K mainGlobals x = some (some (.ref f))) (l : K.lookup f = some ⟨oc, od, .func (PySem.W.fnOf x x (defArgs st) (defBody st) (defScope st) .none kV dc pm an cd ct), sl⟩) (c : PySem.W.codeIn K cd x = true) (k : PySem.W.keepIn K (.ref f) = true)
    (hb : ∀ (kV doc pm : Value) (an : Option Addr) (cdv ct : Value) (us : List Value), us.length = ps.length → bindArgs (PySem.W.fnOf x x (defArgs st) (defBody st) (defScope st) .none kV doc pm an cdv ct) ⟨us, []⟩ = pure (ps.zip us)) : TopD K mg x st ps :=
  ⟨f, _, fun_mk l c k, PySem.W.mg_of X G a, (fun_mk l c k).binds hb⟩
theorem mg_int {h : Heap} {x : Str} {i : Int} {t : Tok} (X : K.In h) (G : h.Ns mainGlobals mg) (e : PySem.W.nsIn K mainGlobals x = some (some (.int i t))) : ∃ t, mg x = some (.int i t) := ⟨t, PySem.W.mg_of X G e⟩
theorem mg_str {h : Heap} {x : Str} {i : Str} {t : Tok} (X : K.In h) (G : h.Ns mainGlobals mg) (e : PySem.W.nsIn K mainGlobals x = some (some (.str i t))) : ∃ t, mg x = some (.str i t) := ⟨t, PySem.W.mg_of X G e⟩
/-- where the method of a class stands -/
structure MetD (K : PySem.W.Frag) (x qual : Str) (st : Stmt) (ps : List Str) (C : Addr) : Prop where
  ex : ∃ (f : Addr) (fd : FuncData), Fun K x qual st f fd ∧ Mk K C f ∧ Binds K fd ps []
theorem metd {h : Heap} {x qual : Str} {st : Stmt} {ps : List Str} {C f : Addr} {od an : Option Addr} {sl : Array (Option Value)} {oc kV dc pm cd ct : Value} (X : K.In h)
    (i : PySem.W.findIn K (.ref C) "__init__" = some (some (.ref f))) (l : K.lookup f = some ⟨oc, od, .func (PySem.W.fnOf x qual (defArgs st) (defBody st) (defScope st) .none kV dc pm an cd ct), sl⟩) (c : PySem.W.codeIn K cd qual = true) (k : PySem.W.keepIn K (.ref f) = true)
    (m : PySem.W.makesIn K C = true) (n : PySem.W.isFn K (.ref f) = true) (p : PySem.W.keepIn K (.ref C) = true)
    (hb : ∀ (kV doc pm : Value) (an : Option Addr) (cdv ct : Value) (us : List Value), us.length = ps.length → bindArgs (PySem.W.fnOf x qual (defArgs st) (defBody st) (defScope st) .none kV doc pm an cdv ct) ⟨us, []⟩ = pure (ps.zip us)) : MetD K x qual st ps C :=
  ⟨f, _, fun_mk l c k, ⟨m, i, n, p⟩, (fun_mk l c k).binds hb⟩
/-- the law's promise -/
def spLaw (K : PySem.W.Frag) : Sp := fun vs H Q _ => ∃ (a : Addr) (ns : List Int), vs = [.ref a] ∧ SqL K H a (ns.map V.int) ∧ ns.length ≤ 63 ∧ ∀ H', Q (.bl true) H'
theorem law_end {k : Nat} (F : FnD P w K mg base C k "law" ["_law_script"] (fun ns : List Int => [.scr (ns.map .int)]) (fun ns => ns.length ≤ 63) (fun _ => .ok (.bl true))) {fa : Addr} (hfa : mg "law" = some (.ref fa)) {fd : FuncData} (L : Fun K "law" "law" s_law fa fd) :
    FnOk P w K mg base (L2.CX P w) k fa fd ["_law_script"] (spLaw K) := by
  obtain ⟨f, fd', h1, h2, h3, h4, oc, od, sl, lk⟩ := F.ex
  rw [hfa] at h2
  cases h2
  obtain ⟨oc', od', kV, doc, pm, an, cdv, ct, osl, e, lk', hcd⟩ := L.ex
  rw [lk] at lk'
  cases lk'
  exact h1.imp fun vs H Q E ⟨a, ns, e, hs, hl, q⟩ => by
    subst e
    exact ⟨ns, H, Ex.refl H, .cons (.scr hs (Reps.of_ints ns)) .nil, rfl, hl, fun v G' H' _ r => by
      obtain rfl := r.b
      exact q H'⟩
theorem law_binds {f : Addr} {fd : FuncData} (F : Fun K "law" "law" s_law f fd) (s : Shared) (v : Value) : BindsTo s fd ⟨[v], []⟩ [("_law_script", v)] := by
  obtain ⟨oc, od, kV, doc, pm, an, cdv, ct, osl, rfl, lk, hcd⟩ := F.ex
  exact .of_eq rfl
theorem walk {l : PySem.W.OpenLaw} {q : Program} {loose : List Str} {XP : (Str → Option Value) → Heap → Prop} {YP : World → Heap → Prop} {d : DefRec} {K : Params → PySem.W.Frag} (hn : l.most = some 63) (hdf : d.params.defaults = [])
    (hY : ∀ (w : World) (h : Heap), YP w h → (K w.params).In h)
    (F : ∀ (w : World) (mg : Str → Option Value) (fa : Addr) (h : Heap), (K w.params).In h → h.Ns mainGlobals mg → mg d.name = some (.ref fa) →
      ∃ fd : FuncData, (∀ (s : Shared) (u : Value), BindsTo s fd ⟨[u], []⟩ [("_law_script", u)]) ∧ ∀ base : Heap, (K w.params).In base → base.Ns mainGlobals mg → FnOk l.prog w (K w.params) mg base (L2.CX l.prog w) 12 fa fd ["_law_script"] (spLaw (K w.params))) :
    PySem.W.WalkO q loose XP YP l.row.toRowW d [] (fun f vs => PySem.call f vs) :=
  L2.walk_of (n := 63) (k := 12) (x := "_law_script") (CX := fun w => L2.CX l.prog w) (sp := fun w => spLaw (K w.params)) hn (by decide) hdf ⟨rfl, by decide, by decide⟩ hY F (fun _ _ a ns hl _ hS => ⟨a, ns, rfl, hS, hl, fun _ => rfl⟩) fun _ _ _ _ _ z => by
    obtain ⟨_, _, _, _, _, _, _, _, _, _, _, _, z⟩ := z
    exact z
theorem all_mk {l : PySem.W.OpenLaw} {h : Heap} {fa C a1 a2 a3 a4 a5 a6 a7 : Addr} (X : K.In h) (G : h.Ns mainGlobals mg) (hfa : mg "law" = some (.ref fa))
    (T_sure_road : TopD K mg "sure_road" s_sure_road ["road"]) (T_sure_place : TopD K mg "sure_place" s_sure_place ["road", "place"]) (T_way : TopD K mg "way" s_way ["road", "one", "other"]) (T_apart : TopD K mg "apart" s_apart ["road", "one", "other"]) (T_sure_time : TopD K mg "sure_time" s_sure_time ["time"]) (T_sure_stop : TopD K mg "sure_stop" s_sure_stop ["road", "stop"]) (T_sure_order : TopD K mg "sure_order" s_sure_order ["day", "order"]) (T_served : TopD K mg "served" s_served ["day", "place", "time", "number"]) (T_timetable : TopD K mg "timetable" s_timetable ["day", "order"]) (T_ends : TopD K mg "ends" s_ends ["day", "order"]) (T_first_ones : TopD K mg "first_ones" s_first_ones ["day", "begun", "left"]) (T_further_ones : TopD K mg "further_ones" s_further_ones ["day", "layer", "left"]) (T_table : TopD K mg "table" s_table ["day", "begun"]) (T_least : TopD K mg "least" s_least ["day", "begun"]) (T_written : TopD K mg "written" s_written ["day"]) (T_number_of : TopD K mg "number_of" s_number_of ["word"]) (T_numbers_in : TopD K mg "numbers_in" s_numbers_in ["row", "names"]) (T_read : TopD K mg "read" s_read ["text"]) (T_next_stop : TopD K mg "next_stop" s_next_stop ["day", "order", "end"]) (T_best : TopD K mg "best" s_best ["day"]) (T_part_of : TopD K mg "part_of" s_part_of ["day", "numbers"]) (T_clash : TopD K mg "clash" s_clash ["day"]) (T_told : TopD K mg "told" s_told ["day"]) (T_cell_at : TopD K mg "_law_cell_at" s_cell_at ["_law_script", "_law_k"]) (T_wide : TopD K mg "_law_wide" s_wide ["_law_cell", "_law_bound"]) (T_road_by : TopD K mg "_law_road_by" s_road_by ["_law_cell"]) (T_places : TopD K mg "_law_places" s_places ["_law_road"]) (T_place_by : TopD K mg "_law_place_by" s_place_by ["_law_road", "_law_cell"]) (T_start_by : TopD K mg "_law_start_by" s_start_by ["_law_road", "_law_cell"]) (T_stop_by : TopD K mg "_law_stop_by" s_stop_by ["_law_road", "_law_start", "_law_script", "_law_k"]) (T_stops_by : TopD K mg "_law_stops_by" s_stops_by ["_law_road", "_law_start", "_law_script", "_law_many_here"]) (T_many : TopD K mg "_law_many" s_many ["_law_cell"]) (T_order : TopD K mg "_law_order" s_order ["_law_script", "_law_many_here", "_law_k"]) (T_driven : TopD K mg "_law_driven" s_driven ["_law_day", "_law_order_here", "_law_kind"]) (T_answer : TopD K mg "_law_answer" s_answer ["_law_day", "_law_order_here", "_law_kind"]) (T_changed : TopD K mg "_law_changed" s_changed ["_law_found"]) (T_far : TopD K mg "_law_far" s_far ["_law_road", "_law_one", "_law_other"]) (T_due_times : TopD K mg "_law_due_times" s_due_times ["_law_road", "_law_home", "_law_start", "_law_stops", "_law_order_here"]) (T_times_right : TopD K mg "_law_times_right" s_times_right ["_law_road", "_law_home", "_law_start", "_law_pairs"]) (T_law : TopD K mg "law" s_law ["_law_script"]) (bi : Bi mg) (mgDay : mg "Day" = some (.ref C)) (M : MetD K "__init__" "Day.__init__" s_Day___init__ ["self", "road", "home", "start", "stops"] C) (day : DayF K C) (dcl : DayCls K C)
    (xs : ExC l.prog w K mg "BadRoad" a1 ∧ ExC l.prog w K mg "OffRoad" a2 ∧ ExC l.prog w K mg "BadTime" a3 ∧ ExC l.prog w K mg "TooMany" a4 ∧ ExC l.prog w K mg "BadOrder" a5 ∧ ExC l.prog w K mg "Missed" a6 ∧ ExC l.prog w K mg "NoDay" a7)
    (gs : (∃ t, mg "LONGEST" = some (.int 1000000000 t)) ∧ (∃ t, mg "LATEST" = some (.int 1000000000000 t)) ∧ (∃ t, mg "MOST_STOPS" = some (.int 7 t)) ∧ (∃ t, mg "FIGURES" = some (.str (Str.ofString "0123456789") t)) ∧ (∃ t, mg "MOST_FIGURES" = some (.int 15 t))) (Q : Ms K mg ⟨a1, a2, a3, a4, a5, a6, a7⟩) (Q2 : Bo K mg ⟨a1, a2, a3, a4, a5, a6, a7⟩) :
    ∃ fd : FuncData, (∀ (s : Shared) (v : Value), BindsTo s fd ⟨[v], []⟩ [("_law_script", v)]) ∧ ∀ base : Heap, K.In base → base.Ns mainGlobals mg → FnOk l.prog w K mg base (L2.CX l.prog w) 12 fa fd ["_law_script"] (spLaw K) := by
  let A : Ads := ⟨a1, a2, a3, a4, a5, a6, a7⟩
  obtain ⟨x1, x2, x3, x4, x5, x6, x7⟩ := xs
  obtain ⟨g1, g2, g3, g4, g5⟩ := gs
  have T : Tx l.prog w K mg C A := ⟨bi, day, dcl, mgDay, x1, x2, x3, x4, x5, x6, g1, g2, g3⟩
  have TN : TxN l.prog w K mg A := ⟨x7, g4, g5⟩
  obtain ⟨f, fd, F, hm, hb⟩ := id T_law.ex
  rw [hfa] at hm
  cases hm
  refine ⟨fd, law_binds F, fun base _ _ => ?_⟩
  obtain ⟨f2, fd2, F2, M2, hb2⟩ := M.ex
  have F_way : FnD l.prog w K mg base C 1 _ _ _ _ _ := f_way T_way
  have F_apart : FApart l.prog w K mg base C := f_apart T_apart T F_way
  have F_sure_road : FRoad l.prog w K mg base C A := f_sure_road T_sure_road T
  have F_sure_place : FPlace l.prog w K mg base C A := f_sure_place T_sure_place T
  have F_sure_time : FTime l.prog w K mg base C A := f_sure_time T_sure_time T
  have F_sure_stop : FStop l.prog w K mg base C A := f_sure_stop T_sure_stop T F_sure_place F_sure_time
  have F_day : FDay l.prog w K mg base C := f_day F2 M2 hb2 T F_sure_road F_sure_place F_sure_time F_sure_stop
  have F_sure_order : FOrder l.prog w K mg base C A := f_sure_order T_sure_order T
  have F_served : FServed l.prog w K mg base C := f_served T_served T F_apart
  have F_timetable : FTable l.prog w K mg base C A := f_timetable T_timetable T F_sure_order F_served
  have F_ends : FEnds l.prog w K mg base C A := f_ends T_ends T F_timetable F_apart
  have F_first_ones : FFirst l.prog w K mg base C := f_first_ones T_first_ones T F_timetable F_served
  have F_further_ones : FFurther l.prog w K mg base C := f_further_ones T_further_ones T F_served
  have F_table : FTab l.prog w K mg base C A := f_table T_table T Q F_timetable F_first_ones F_further_ones
  have F_least : FLeast l.prog w K mg base C A := f_least T_least T Q F_ends F_table F_apart
  have F_next_stop : FNext l.prog w K mg base C := f_next_stop T_next_stop T F_least
  have F_best : FBest l.prog w K mg base C := f_best T_best T F_least F_next_stop
  have F_part_of : FPart l.prog w K mg base C := f_part_of T_part_of T F_day
  have F_clash : FClash l.prog w K mg base C := f_clash T_clash T F_least F_part_of
  have F_told : FTold l.prog w K mg base C := f_told T_told T F_best F_clash F_ends
  have F_cell_at : FCell l.prog w K mg base C := f_cell_at T_cell_at T
  have F_wide : FWide l.prog w K mg base C := f_wide T_wide
  have F_road_by : FnD l.prog w K mg base C 2 _ _ _ _ _ := f_road_by T_road_by F_wide
  have F_places : FnD l.prog w K mg base C 1 _ _ _ _ _ := f_places T_places
  have F_place_by : FPlaceBy l.prog w K mg base C := f_place_by T_place_by F_wide F_places
  have F_start_by : FnD l.prog w K mg base C 2 _ _ _ _ _ := f_start_by T_start_by F_wide
  have F_stop_by : FStopBy l.prog w K mg base C := f_stop_by T_stop_by T F_cell_at F_wide F_place_by
  have F_stops_by : FStopsBy l.prog w K mg base C := f_stops_by T_stops_by T F_stop_by
  have F_many : FMany l.prog w K mg base C := f_many T_many T
  have F_written : FWritten l.prog w K mg base C := f_written T_written T
  have F_number_of : FNum l.prog w K mg base C A := f_number_of T_number_of T TN
  have F_numbers_in : FNums l.prog w K mg base C A := f_numbers_in T_numbers_in T TN F_number_of
  have F_read : FRead l.prog w K mg base C A := f_read T_read T TN F_numbers_in F_day
  have F_order : FOrderO l.prog w K mg base C := f_order T_order T F_cell_at
  have F_driven : FDriven l.prog w K mg base C := f_driven T_driven T Q Q2 F_timetable F_ends F_table F_least
  have F_answer : FAnswer l.prog w K mg base C := f_answer T_answer T F_driven F_best F_clash F_told
  have F_changed : FnC l.prog w K mg base C 1 "_law_changed" ["_law_found"] chgOk := f_changed T_changed T
  have F_far : FFar l.prog w K mg base C := f_far T_far T
  have F_due_times : FDue l.prog w K mg base C := f_due_times T_due_times T F_far
  have F_times_right : FTimesR l.prog w K mg base C := f_times_right T_times_right T F_driven F_due_times
  exact law_end (f_law T_law T F_cell_at F_road_by F_place_by F_start_by F_stops_by F_many F_day F_written F_read F_order F_answer F_changed F_times_right) hfa F
end
end Rv
open PySem PySem.W PyProof.Rows
set_option maxRecDepth 100000 in
set_option maxHeartbeats 0 in
theorem PySem.Challenge.cw_routevan_k14_asked_in_turn_holds : PySem.Challenge.rw_routevan_k14_asked_in_turn.Holds := by
  w_on; o_law; k_head; (case hw => w_witness2)
  k_fill
  refine Rv.walk (l := PySem.Challenge.rw_routevan_k14_asked_in_turn) rfl rfl (fun w h Y => PySem.W.kIn_of Y) ?F
  case F =>
    intro w mg fa h KX G hmg
    refine' Rv.all_mk KX G hmg (Rv.topd (st := Rv.s_sure_road) KX G ?a_sure_road ?l_sure_road ?c_sure_road ?k_sure_road (fun _ _ _ _ _ _ us hl => match us, hl with | [_], _ => rfl)) (Rv.topd (st := Rv.s_sure_place) KX G ?a_sure_place ?l_sure_place ?c_sure_place ?k_sure_place (fun _ _ _ _ _ _ us hl => match us, hl with | [_, _], _ => rfl)) (Rv.topd (st := Rv.s_way) KX G ?a_way ?l_way ?c_way ?k_way (fun _ _ _ _ _ _ us hl => match us, hl with | [_, _, _], _ => rfl)) (Rv.topd (st := Rv.s_apart) KX G ?a_apart ?l_apart ?c_apart ?k_apart (fun _ _ _ _ _ _ us hl => match us, hl with | [_, _, _], _ => rfl)) (Rv.topd (st := Rv.s_sure_time) KX G ?a_sure_time ?l_sure_time ?c_sure_time ?k_sure_time (fun _ _ _ _ _ _ us hl => match us, hl with | [_], _ => rfl)) (Rv.topd (st := Rv.s_sure_stop) KX G ?a_sure_stop ?l_sure_stop ?c_sure_stop ?k_sure_stop (fun _ _ _ _ _ _ us hl => match us, hl with | [_, _], _ => rfl)) (Rv.topd (st := Rv.s_sure_order) KX G ?a_sure_order ?l_sure_order ?c_sure_order ?k_sure_order (fun _ _ _ _ _ _ us hl => match us, hl with | [_, _], _ => rfl)) (Rv.topd (st := Rv.s_served) KX G ?a_served ?l_served ?c_served ?k_served (fun _ _ _ _ _ _ us hl => match us, hl with | [_, _, _, _], _ => rfl)) (Rv.topd (st := Rv.s_timetable) KX G ?a_timetable ?l_timetable ?c_timetable ?k_timetable (fun _ _ _ _ _ _ us hl => match us, hl with | [_, _], _ => rfl)) (Rv.topd (st := Rv.s_ends) KX G ?a_ends ?l_ends ?c_ends ?k_ends (fun _ _ _ _ _ _ us hl => match us, hl with | [_, _], _ => rfl)) (Rv.topd (st := Rv.s_first_ones) KX G ?a_first_ones ?l_first_ones ?c_first_ones ?k_first_ones (fun _ _ _ _ _ _ us hl => match us, hl with | [_, _, _], _ => rfl)) (Rv.topd (st := Rv.s_further_ones) KX G ?a_further_ones ?l_further_ones ?c_further_ones ?k_further_ones (fun _ _ _ _ _ _ us hl => match us, hl with | [_, _, _], _ => rfl)) (Rv.topd (st := Rv.s_table) KX G ?a_table ?l_table ?c_table ?k_table (fun _ _ _ _ _ _ us hl => match us, hl with | [_, _], _ => rfl)) (Rv.topd (st := Rv.s_least) KX G ?a_least ?l_least ?c_least ?k_least (fun _ _ _ _ _ _ us hl => match us, hl with | [_, _], _ => rfl)) (Rv.topd (st := Rv.s_written) KX G ?a_written ?l_written ?c_written ?k_written (fun _ _ _ _ _ _ us hl => match us, hl with | [_], _ => rfl)) (Rv.topd (st := Rv.s_number_of) KX G ?a_number_of ?l_number_of ?c_number_of ?k_number_of (fun _ _ _ _ _ _ us hl => match us, hl with | [_], _ => rfl)) (Rv.topd (st := Rv.s_numbers_in) KX G ?a_numbers_in ?l_numbers_in ?c_numbers_in ?k_numbers_in (fun _ _ _ _ _ _ us hl => match us, hl with | [_, _], _ => rfl)) (Rv.topd (st := Rv.s_read) KX G ?a_read ?l_read ?c_read ?k_read (fun _ _ _ _ _ _ us hl => match us, hl with | [_], _ => rfl)) (Rv.topd (st := Rv.s_next_stop) KX G ?a_next_stop ?l_next_stop ?c_next_stop ?k_next_stop (fun _ _ _ _ _ _ us hl => match us, hl with | [_, _, _], _ => rfl)) (Rv.topd (st := Rv.s_best) KX G ?a_best ?l_best ?c_best ?k_best (fun _ _ _ _ _ _ us hl => match us, hl with | [_], _ => rfl)) (Rv.topd (st := Rv.s_part_of) KX G ?a_part_of ?l_part_of ?c_part_of ?k_part_of (fun _ _ _ _ _ _ us hl => match us, hl with | [_, _], _ => rfl)) (Rv.topd (st := Rv.s_clash) KX G ?a_clash ?l_clash ?c_clash ?k_clash (fun _ _ _ _ _ _ us hl => match us, hl with | [_], _ => rfl)) (Rv.topd (st := Rv.s_told) KX G ?a_told ?l_told ?c_told ?k_told (fun _ _ _ _ _ _ us hl => match us, hl with | [_], _ => rfl)) (Rv.topd (st := Rv.s_cell_at) KX G ?a_cell_at ?l_cell_at ?c_cell_at ?k_cell_at (fun _ _ _ _ _ _ us hl => match us, hl with | [_, _], _ => rfl)) (Rv.topd (st := Rv.s_wide) KX G ?a_wide ?l_wide ?c_wide ?k_wide (fun _ _ _ _ _ _ us hl => match us, hl with | [_, _], _ => rfl)) (Rv.topd (st := Rv.s_road_by) KX G ?a_road_by ?l_road_by ?c_road_by ?k_road_by (fun _ _ _ _ _ _ us hl => match us, hl with | [_], _ => rfl)) (Rv.topd (st := Rv.s_places) KX G ?a_places ?l_places ?c_places ?k_places (fun _ _ _ _ _ _ us hl => match us, hl with | [_], _ => rfl)) (Rv.topd (st := Rv.s_place_by) KX G ?a_place_by ?l_place_by ?c_place_by ?k_place_by (fun _ _ _ _ _ _ us hl => match us, hl with | [_, _], _ => rfl)) (Rv.topd (st := Rv.s_start_by) KX G ?a_start_by ?l_start_by ?c_start_by ?k_start_by (fun _ _ _ _ _ _ us hl => match us, hl with | [_, _], _ => rfl)) (Rv.topd (st := Rv.s_stop_by) KX G ?a_stop_by ?l_stop_by ?c_stop_by ?k_stop_by (fun _ _ _ _ _ _ us hl => match us, hl with | [_, _, _, _], _ => rfl)) (Rv.topd (st := Rv.s_stops_by) KX G ?a_stops_by ?l_stops_by ?c_stops_by ?k_stops_by (fun _ _ _ _ _ _ us hl => match us, hl with | [_, _, _, _], _ => rfl)) (Rv.topd (st := Rv.s_many) KX G ?a_many ?l_many ?c_many ?k_many (fun _ _ _ _ _ _ us hl => match us, hl with | [_], _ => rfl)) (Rv.topd (st := Rv.s_order) KX G ?a_order ?l_order ?c_order ?k_order (fun _ _ _ _ _ _ us hl => match us, hl with | [_, _, _], _ => rfl)) (Rv.topd (st := Rv.s_driven) KX G ?a_driven ?l_driven ?c_driven ?k_driven (fun _ _ _ _ _ _ us hl => match us, hl with | [_, _, _], _ => rfl)) (Rv.topd (st := Rv.s_answer) KX G ?a_answer ?l_answer ?c_answer ?k_answer (fun _ _ _ _ _ _ us hl => match us, hl with | [_, _, _], _ => rfl)) (Rv.topd (st := Rv.s_changed) KX G ?a_changed ?l_changed ?c_changed ?k_changed (fun _ _ _ _ _ _ us hl => match us, hl with | [_], _ => rfl)) (Rv.topd (st := Rv.s_far) KX G ?a_far ?l_far ?c_far ?k_far (fun _ _ _ _ _ _ us hl => match us, hl with | [_, _, _], _ => rfl)) (Rv.topd (st := Rv.s_due_times) KX G ?a_due_times ?l_due_times ?c_due_times ?k_due_times (fun _ _ _ _ _ _ us hl => match us, hl with | [_, _, _, _, _], _ => rfl)) (Rv.topd (st := Rv.s_times_right) KX G ?a_times_right ?l_times_right ?c_times_right ?k_times_right (fun _ _ _ _ _ _ us hl => match us, hl with | [_, _, _, _], _ => rfl)) (Rv.topd (st := Rv.s_law) KX G ?a_law ?l_law ?c_law ?k_law (fun _ _ _ _ _ _ us hl => match us, hl with | [_], _ => rfl)) ⟨PySem.W.mg_none_of KX G ?z_len, PySem.W.mg_none_of KX G ?z_abs, PySem.W.mg_none_of KX G ?z_max, PySem.W.mg_none_of KX G ?z_min, PySem.W.mg_none_of KX G ?z_range, PySem.W.mg_none_of KX G ?z_isinstance, PySem.W.mg_none_of KX G ?z_int, PySem.W.mg_none_of KX G ?z_bool, PySem.W.mg_none_of KX G ?z_str, PySem.W.mg_none_of KX G ?z_list, PySem.W.mg_none_of KX G ?z_tuple, PySem.W.mg_none_of KX G ?z_dict, PySem.W.mg_none_of KX G ?z_sorted, PySem.W.mg_none_of KX G ?z_set, PySem.W.mg_none_of KX G ?z_reversed⟩ (PySem.W.mg_of KX G ?g_day) (Rv.metd (st := Rv.s_Day___init__) KX ?d_init ?d_look ?d_code ?d_keep ?d_makes ?d_fn ?d_kp (fun _ _ _ _ _ _ us hl => match us, hl with | [_, _, _, _, _], _ => rfl)) ⟨⟨?y1, ?y2, ?y3, ?y4⟩, ?na_1, ?na_2, ?na_3, ?na_4⟩ ⟨⟨?w1, ?w2, ?w3, ?w4⟩, ?w5, ?w6, ?w7, ?w8⟩ ⟨⟨PySem.W.mg_of KX G ?g_BadRoad, ?x_BadRoad, ?k_BadRoad, ?b_BadRoad, ?t_BadRoad⟩, ⟨PySem.W.mg_of KX G ?g_OffRoad, ?x_OffRoad, ?k_OffRoad, ?b_OffRoad, ?t_OffRoad⟩, ⟨PySem.W.mg_of KX G ?g_BadTime, ?x_BadTime, ?k_BadTime, ?b_BadTime, ?t_BadTime⟩, ⟨PySem.W.mg_of KX G ?g_TooMany, ?x_TooMany, ?k_TooMany, ?b_TooMany, ?t_TooMany⟩, ⟨PySem.W.mg_of KX G ?g_BadOrder, ?x_BadOrder, ?k_BadOrder, ?b_BadOrder, ?t_BadOrder⟩, ⟨PySem.W.mg_of KX G ?g_Missed, ?x_Missed, ?k_Missed, ?b_Missed, ?t_Missed⟩, ⟨PySem.W.mg_of KX G ?g_NoDay, ?x_NoDay, ?k_NoDay, ?b_NoDay, ?t_NoDay⟩⟩ ⟨Rv.mg_int KX G ?i1, Rv.mg_int KX G ?i2, Rv.mg_int KX G ?i3, Rv.mg_str KX G ?i4, Rv.mg_int KX G ?i5⟩ ⟨⟨PySem.W.mg_of KX G ?o_Missed, ?p_Missed, ?q_Missed, ?r_Missed⟩, ?s1, ?s2⟩ ⟨⟨PySem.W.mg_of KX G ?o_BadOrder, ?p_BadOrder, ?q_BadOrder, ?r_BadOrder⟩, ?s3⟩
    (case a_sure_road => k_is); (case l_sure_road => k_is); (case c_sure_road => k_is); (case k_sure_road => k_is)
    (case a_sure_place => k_is); (case l_sure_place => k_is); (case c_sure_place => k_is); (case k_sure_place => k_is)
    (case a_way => k_is); (case l_way => k_is); (case c_way => k_is); (case k_way => k_is)
    (case a_apart => k_is); (case l_apart => k_is); (case c_apart => k_is); (case k_apart => k_is)
    (case a_sure_time => k_is); (case l_sure_time => k_is); (case c_sure_time => k_is); (case k_sure_time => k_is)
    (case a_sure_stop => k_is); (case l_sure_stop => k_is); (case c_sure_stop => k_is); (case k_sure_stop => k_is)
    (case a_sure_order => k_is); (case l_sure_order => k_is); (case c_sure_order => k_is); (case k_sure_order => k_is)
    (case a_served => k_is); (case l_served => k_is); (case c_served => k_is); (case k_served => k_is)
    (case a_timetable => k_is); (case l_timetable => k_is); (case c_timetable => k_is); (case k_timetable => k_is)
    (case a_ends => k_is); (case l_ends => k_is); (case c_ends => k_is); (case k_ends => k_is)
    (case a_first_ones => k_is); (case l_first_ones => k_is); (case c_first_ones => k_is); (case k_first_ones => k_is)
    (case a_further_ones => k_is); (case l_further_ones => k_is); (case c_further_ones => k_is); (case k_further_ones => k_is)
    (case a_table => k_is); (case l_table => k_is); (case c_table => k_is); (case k_table => k_is)
    (case a_least => k_is); (case l_least => k_is); (case c_least => k_is); (case k_least => k_is)
    (case a_written => k_is); (case l_written => k_is); (case c_written => k_is); (case k_written => k_is)
    (case a_number_of => k_is); (case l_number_of => k_is); (case c_number_of => k_is); (case k_number_of => k_is)
    (case a_numbers_in => k_is); (case l_numbers_in => k_is); (case c_numbers_in => k_is); (case k_numbers_in => k_is)
    (case a_read => k_is); (case l_read => k_is); (case c_read => k_is); (case k_read => k_is)
    (case a_next_stop => k_is); (case l_next_stop => k_is); (case c_next_stop => k_is); (case k_next_stop => k_is)
    (case a_best => k_is); (case l_best => k_is); (case c_best => k_is); (case k_best => k_is)
    (case a_part_of => k_is); (case l_part_of => k_is); (case c_part_of => k_is); (case k_part_of => k_is)
    (case a_clash => k_is); (case l_clash => k_is); (case c_clash => k_is); (case k_clash => k_is)
    (case a_told => k_is); (case l_told => k_is); (case c_told => k_is); (case k_told => k_is)
    (case a_cell_at => k_is); (case l_cell_at => k_is); (case c_cell_at => k_is); (case k_cell_at => k_is)
    (case a_wide => k_is); (case l_wide => k_is); (case c_wide => k_is); (case k_wide => k_is)
    (case a_road_by => k_is); (case l_road_by => k_is); (case c_road_by => k_is); (case k_road_by => k_is)
    (case a_places => k_is); (case l_places => k_is); (case c_places => k_is); (case k_places => k_is)
    (case a_place_by => k_is); (case l_place_by => k_is); (case c_place_by => k_is); (case k_place_by => k_is)
    (case a_start_by => k_is); (case l_start_by => k_is); (case c_start_by => k_is); (case k_start_by => k_is)
    (case a_stop_by => k_is); (case l_stop_by => k_is); (case c_stop_by => k_is); (case k_stop_by => k_is)
    (case a_stops_by => k_is); (case l_stops_by => k_is); (case c_stops_by => k_is); (case k_stops_by => k_is)
    (case a_many => k_is); (case l_many => k_is); (case c_many => k_is); (case k_many => k_is)
    (case a_order => k_is); (case l_order => k_is); (case c_order => k_is); (case k_order => k_is)
    (case a_driven => k_is); (case l_driven => k_is); (case c_driven => k_is); (case k_driven => k_is)
    (case a_answer => k_is); (case l_answer => k_is); (case c_answer => k_is); (case k_answer => k_is)
    (case a_changed => k_is); (case l_changed => k_is); (case c_changed => k_is); (case k_changed => k_is)
    (case a_far => k_is); (case l_far => k_is); (case c_far => k_is); (case k_far => k_is)
    (case a_due_times => k_is); (case l_due_times => k_is); (case c_due_times => k_is); (case k_due_times => k_is)
    (case a_times_right => k_is); (case l_times_right => k_is); (case c_times_right => k_is); (case k_times_right => k_is)
    (case a_law => k_is); (case l_law => k_is); (case c_law => k_is); (case k_law => k_is)
    (case z_len => k_is); (case z_abs => k_is); (case z_max => k_is); (case z_min => k_is)
    (case z_range => k_is); (case z_isinstance => k_is); (case z_int => k_is); (case z_bool => k_is)
    (case z_str => k_is); (case z_list => k_is); (case z_tuple => k_is); (case z_dict => k_is)
    (case z_sorted => k_is); (case z_set => k_is); (case z_reversed => k_is); (case g_day => k_is)
    (case d_init => k_is); (case d_look => k_is); (case d_code => k_is); (case d_keep => k_is)
    (case d_makes => k_is); (case d_fn => k_is); (case d_kp => k_is); (case y1 => k_is)
    (case y2 => k_is); (case y3 => k_is); (case y4 => k_is); (case na_1 => (unfold L2.NoAttr; k_is))
    (case na_2 => (unfold L2.NoAttr; k_is)); (case na_3 => (unfold L2.NoAttr; k_is)); (case na_4 => (unfold L2.NoAttr; k_is)); (case w1 => k_is)
    (case w2 => k_is); (case w3 => k_is); (case w4 => k_is); (case w5 => k_is)
    (case w6 => k_is); (case w7 => k_is); (case w8 => k_is); (case g_BadRoad => k_is)
    (case x_BadRoad => k_exc); (case k_BadRoad => k_is); (case b_BadRoad => k_is); (case t_BadRoad => k_is)
    (case g_OffRoad => k_is); (case x_OffRoad => k_exc); (case k_OffRoad => k_is); (case b_OffRoad => k_is)
    (case t_OffRoad => k_is); (case g_BadTime => k_is); (case x_BadTime => k_exc); (case k_BadTime => k_is)
    (case b_BadTime => k_is); (case t_BadTime => k_is); (case g_TooMany => k_is); (case x_TooMany => k_exc)
    (case k_TooMany => k_is); (case b_TooMany => k_is); (case t_TooMany => k_is); (case g_BadOrder => k_is)
    (case x_BadOrder => k_exc); (case k_BadOrder => k_is); (case b_BadOrder => k_is); (case t_BadOrder => k_is)
    (case g_Missed => k_is); (case x_Missed => k_exc); (case k_Missed => k_is); (case b_Missed => k_is)
    (case t_Missed => k_is); (case g_NoDay => k_is); (case x_NoDay => k_exc); (case k_NoDay => k_is)
    (case b_NoDay => k_is); (case t_NoDay => k_is); (case i1 => k_is); (case i2 => k_is)
    (case i3 => k_is); (case i4 => k_is); (case i5 => k_is); (case o_Missed => k_is)
    (case p_Missed => k_is); (case q_Missed => k_is); (case r_Missed => k_is); (case s1 => k_is)
    (case s2 => k_is); (case o_BadOrder => k_is); (case p_BadOrder => k_is); (case q_BadOrder => k_is)
    (case r_BadOrder => k_is); (case s3 => k_is)
